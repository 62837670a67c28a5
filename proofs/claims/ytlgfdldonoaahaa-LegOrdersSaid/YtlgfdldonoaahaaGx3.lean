/- Shows what functions of the program come to, each as a plain function: written by a program of the author's for this claim. -/
import Derived.Test.YtlgfdldonoaahaaGx2
namespace Go.Proofs.Ytlgfdldonoaahaa
open Go Go.Pm
set_option linter.unusedVariables false
set_option linter.unusedSimpArgs false
noncomputable def accrue_Run.b0 (x0 : Int) (x1 : List api_Reset) (x3 : Int) (v22 : Int) (v23 : Int) (v24 : Int) : Option ((Int × Int × Int) ⊕ ((accrue_Meter × Int) ⊕ (Int × Int))) :=
  if (decide (v22 < x3)) = true then
    (accrue_Rate.f x1 v22).bind fun t42 =>
    (accrue_Meter_Day.f (⟨v23, v24⟩ : accrue_Meter) x0 t42.1).bind fun t44 =>
    if (t44.2 != 0) = true then
      some (.inr (.inl ((⟨0, 0⟩ : accrue_Meter), t44.2)))
    else
      some (.inl ((IntKind.wrap .i64 (v22 + 1)), t44.1.Units, t44.1.Rest))
  else
    some (.inr (.inr (v23, v24)))
noncomputable def accrue_Run.r0 (x0 : Int) (x1 : List api_Reset) (x3 : Int) (s : Int × Int × Int) : Option ((Int × Int × Int) ⊕ ((accrue_Meter × Int) ⊕ (Int × Int))) := accrue_Run.b0 x0 x1 x3 s.1 s.2.1 s.2.2
noncomputable def accrue_Run.f (x0 : Int) (x1 : List api_Reset) (x2 : Int) (x3 : Int) : Option (accrue_Meter × Int) :=
  (accrue_Check.f x1).bind fun t1 =>
  if (t1 != 0) = true then
    some ((⟨0, 0⟩ : accrue_Meter), t1)
  else
    (calendar_Good.f x2).bind fun t4 =>
    (if (!t4) = false then calendar_Good.f x3 else some default).bind fun t6 =>
    if (((((!t4) || (!t6)) || (decide (x2 > x3))) || (decide ((IntKind.wrap .i64 (x3 - x2)) > 3660))) = false → (0 : Int) ≤ 0 ∧ 0 < (List.length x1 : Int)) then
    if (((((!t4) || (!t6)) || (decide (x2 > x3))) || (decide ((IntKind.wrap .i64 (x3 - x2)) > 3660))) || (decide (x2 < ((nth x1 0).Day)))) = true then
      some ((⟨0, 0⟩ : accrue_Meter), 10)
    else
      if ((decide (x0 < 0)) || (decide (x0 > 1125899906842624))) = true then
        some ((⟨0, 0⟩ : accrue_Meter), 1)
      else
        (loop (accrue_Run.r0 x0 x1 x3) (x2, 0, 0)).bind fun o38 =>
        match o38 with
        | .inl r47 => some r47
        | .inr w37 =>
          some ((⟨w37.1, w37.2⟩ : accrue_Meter), 0)
    else none
set_option maxRecDepth 100000 in
set_option maxHeartbeats 4000000 in
theorem accrue_Run.ok {x0 : Int} {x1 : List api_Reset} {x2 : Int} {x3 : Int} {r : accrue_Meter × Int} (h : accrue_Run.f x0 x1 x2 x3 = some r) : Pm.Spec prog 80 [.imm (.val (.int .i64 x0)), .imm (.row 2 (List.map api_Reset.enc x1)), .imm (.val (.int .i64 x2)), .imm (.val (.int .i64 x3))] (.tup [.agg [.imm (.val (.int .i64 r.1.Units)), .imm (.val (.int .i64 r.1.Rest))], .imm (.val (.int .i64 r.2))]) [none, none, none, none] := by
 unfold accrue_Run.f at h; refine Pm.Spec.of_body Try.func80 rfl (by kernel_rfl) (Nat.le_of_ble_eq_true rfl) (Nat.le_of_ble_eq_true rfl) ?_; refine W.ghost (σ' := (mkSt [(0, some (.i x0)), (1, some (.imm (.row 2 (List.map api_Reset.enc x1)))), (2, some (.i x2)), (3, some (.i x3))] [] 1000)) (Gives.entry (.c rfl (.c rfl (.c rfl (.c rfl .n)))) .n) ?_; refine W.seq ?_; refine W.pk ?_; refine .t rfl rfl (O.alloc z109 rfl) ?_; refine .a rfl rfl rfl rfl ?_; refine .nil ?_; (iterate 2 refine W.seq ?_); obtain ⟨t1, b2, h⟩ := bnd1 h; refine W.pk ?_; refine .m rfl rfl rfl rfl ?_; refine .call (.i t1) [] 0 (accrue_Check.ok b2) rfl rfl rfl ca62 rfl rfl (cC (.imm _) .nil) rfl rfl rfl rfl rfl ?_; refine .a rfl rfl rfl rfl ?_; refine .nil ?_; refine W.seq ?_; refine W.pk ?_; refine .m rfl rfl rfl rfl ?_; refine .v rfl rfl (OpL.binI rfl rfl rfl rfl) ?_; refine .nil ?_; refine W.cond rfl (fun q3 => ?_) (fun q3 => ?_)
 ·have h := ifT q3 h; refine W.seq ?_; refine W.pk ?_; refine .v rfl rfl (O.build (out := [.i 0, .i 0]) bl109 rfl rfl rfl rfl (by kernel_rfl)) ?_; refine .m rfl rfl rfl rfl ?_; refine .s rfl rfl (O.st ty109 rfl rfl rfl rfl rfl rfl rfl rfl rfl rfl (all' := [.i 0, .i 0]) rfl) ?_; refine .a rfl rfl rfl rfl ?_; refine .nil ?_; refine W.ret ?_; cases h; exact leaves (.inr rfl) rfl (.tup _ _ _ _ (cC (.agg _ _ _ _ (cC (.imm _) (cC (.imm _) .nil))) (cC (.imm _) .nil))) (cN (cN (cN (cN .nil)))) rfl rfl
 ·have h := ifF q3 h; refine W.skip ?_; refine W.seq ?_; refine W.block ?_; refine W.seq ?_; obtain ⟨t4, b5, h⟩ := bnd1 h; obtain ⟨t6, b7, h⟩ := bnd1 h; obtain ⟨c8, h⟩ := chk h; refine W.fork (mkSt [(0, some (.i x0)), (1, some (.imm (.row 2 (List.map api_Reset.enc x1)))), (2, some (.i x2)), (3, some (.i x3)), (8, some (.ptr 1000 0)), (22, some (.b (((((!t4) || (!t6)) || (decide (x2 > x3))) || (decide ((IntKind.wrap .i64 (x3 - x2)) > 3660))) || (decide (x2 < ((nth x1 0).Day))))))] [(1000, some (.box [.i 0, .i 0]))] 1001) ?_ ?_
  ·refine W.cond rfl (fun q13 => ?_) (fun q13 => ?_)
   ·have h := ifT q13 h; refine W.seq ?_; refine W.pk ?_; refine .v rfl rfl (O.build (out := [.i 0, .i 0]) bl109 rfl rfl rfl rfl (by kernel_rfl)) ?_; refine .s rfl rfl (O.st ty109 rfl rfl rfl rfl rfl rfl rfl rfl rfl rfl (all' := [.i 0, .i 0]) rfl) ?_; refine .a rfl rfl rfl rfl ?_; refine .nil ?_; refine W.ret ?_; cases h; exact leaves (.inr rfl) rfl (.tup _ _ _ _ (cC (.agg _ _ _ _ (cC (.imm _) (cC (.imm _) .nil))) (cC (.imm _) .nil))) (cN (cN (cN (cN .nil)))) rfl rfl
   ·have h := ifF q13 h; refine W.seq ?_; refine W.fork (mkSt [(0, some (.i x0)), (1, some (.imm (.row 2 (List.map api_Reset.enc x1)))), (2, some (.i x2)), (3, some (.i x3)), (8, some (.ptr 1000 0)), (51, some (.b ((decide (x0 < 0)) || (decide (x0 > 1125899906842624)))))] [(1000, some (.box [.i 0, .i 0]))] 1001) ?_ ?_
    ·refine W.cond rfl (fun q15 => ?_) (fun q15 => ?_)
     ·have h := ifT q15 h; refine W.seq ?_; refine W.pk ?_; refine .v rfl rfl (O.build (out := [.i 0, .i 0]) bl109 rfl rfl rfl rfl (by kernel_rfl)) ?_; refine .s rfl rfl (O.st ty109 rfl rfl rfl rfl rfl rfl rfl rfl rfl rfl (all' := [.i 0, .i 0]) rfl) ?_; refine .a rfl rfl rfl rfl ?_; refine .nil ?_; refine W.ret ?_; cases h; exact leaves (.inr rfl) rfl (.tup _ _ _ _ (cC (.agg _ _ _ _ (cC (.imm _) (cC (.imm _) .nil))) (cC (.imm _) .nil))) (cN (cN (cN (cN .nil)))) rfl rfl
     ·have h := ifF q15 h; refine W.skip ?_; refine W.seq ?_; refine W.pk ?_; refine .t rfl rfl (O.alloc z109 rfl) ?_; refine .nil ?_; refine W.seq ?_; refine W.pk ?_; refine .a rfl rfl rfl rfl ?_; refine .nil ?_; (iterate 2 refine W.seq ?_); refine W.pk ?_; refine .m rfl rfl rfl rfl ?_; refine .a rfl rfl rfl rfl ?_; refine .nil ?_; obtain ⟨o38, b39, z40⟩ := bnd1 h; refine W.fork2 (out := o38) (fun (w37 : Int × Int) => mkSt [(8, some (.ptr 1000 0)), (11, some (.ptr 1001 0))] [(1000, some (.box [.i 0, .i 0])), (1001, some (.box [.i w37.1, .i w37.2]))] 1002) ?_ ?_
      ·clear h; refine W.block ?_; refine W.loopF (fun (s_ : Int × Int × Int) => mkSt [(0, some (.i x0)), (1, some (.imm (.row 2 (List.map api_Reset.enc x1)))), (3, some (.i x3)), (8, some (.ptr 1000 0)), (11, some (.ptr 1001 0)), (13, some (.i s_.1))] [(1000, some (.box [.i 0, .i 0])), (1001, some (.box [.i s_.2.1, .i s_.2.2]))] 1002) b39 (Gives.mkR [] (.e rfl rfl) (.e rfl rfl) rfl rfl rfl) ?_; rintro ⟨v22, v23, v24⟩ s_ hr; have h : accrue_Run.b0 x0 x1 x3 v22 v23 v24 = some s_ := hr; unfold accrue_Run.b0 at h; (iterate 2 refine W.seq ?_); refine W.pk ?_; (iterate 2 refine .m rfl rfl rfl rfl ?_); refine .v rfl rfl (OpL.binI rfl rfl rfl rfl) ?_; refine .nil ?_; refine W.cond rfl (fun q41 => ?_) (fun q41 => ?_)
       ·have h := ifT q41 h; refine W.skip ?_; refine W.seq ?_; refine W.block ?_; refine W.seq ?_; obtain ⟨t42, b43, h⟩ := bnd1 h; refine W.pk ?_; (iterate 2 refine .m rfl rfl rfl rfl ?_); refine .call (.tup [.i t42.1, .b t42.2]) [] 0 (accrue_Rate.ok b43) rfl rfl rfl ca84 rfl rfl (cC (.imm _) (cC (.imm _) .nil)) rfl rfl rfl rfl rfl ?_; refine .m rfl rfl rfl rfl ?_; (iterate 2 refine .v rfl rfl (OpL.extract rfl rfl rfl) ?_); (iterate 2 refine .a rfl rfl rfl rfl ?_); refine .nil ?_; refine W.seq ?_; obtain ⟨t44, b45, h⟩ := bnd1 h; refine W.pk ?_; refine .v rfl rfl (O.ldN ty109 rfl rfl rfl) ?_; (iterate 2 refine .m rfl rfl rfl rfl ?_); refine .call (.tup [.agg [.i t44.1.Units, .i t44.1.Rest], .i t44.2]) [] 0 (accrue_Meter_Day.ok b45) rfl rfl rfl ca85 rfl rfl (cC (.agg _ _ _ _ (cC (.imm _) (cC (.imm _) .nil))) (cC (.imm _) (cC (.imm _) .nil))) rfl rfl rfl rfl rfl ?_; refine .m rfl rfl rfl rfl ?_; (iterate 2 refine .v rfl rfl (OpL.extract rfl rfl rfl) ?_); refine .s rfl rfl (O.st ty109 rfl rfl rfl rfl rfl rfl rfl rfl rfl rfl (all' := [.i t44.1.Units, .i t44.1.Rest]) rfl) ?_; refine .a rfl rfl rfl rfl ?_; refine .nil ?_; refine W.seq ?_; refine W.pk ?_; refine .m rfl rfl rfl rfl ?_; refine .v rfl rfl (OpL.binI rfl rfl rfl rfl) ?_; refine .nil ?_; refine W.cond rfl (fun q46 => ?_) (fun q46 => ?_)
        ·have h := ifT q46 h; refine W.seq ?_; refine W.pk ?_; refine .v rfl rfl (O.build (out := [.i 0, .i 0]) bl109 rfl rfl rfl rfl (by kernel_rfl)) ?_; refine .m rfl rfl rfl rfl ?_; refine .s rfl rfl (O.st ty109 rfl rfl rfl rfl rfl rfl rfl rfl rfl rfl (all' := [.i 0, .i 0]) rfl) ?_; refine .a rfl rfl rfl rfl ?_; refine .nil ?_; refine W.ret ?_; cases h; refine rdR fun e_ => ?_; subst e_; have h := z40; dsimp only at h; refine fkR ?_; cases h; exact leaves (.inr rfl) rfl (.tup _ _ _ _ (cC (.agg _ _ _ _ (cC (.imm _) (cC (.imm _) .nil))) (cC (.imm _) .nil))) (cN (cN (cN (cN .nil)))) rfl rfl
        ·have h := ifF q46 h; refine W.skip ?_; refine W.pk ?_; refine .m rfl rfl rfl rfl ?_; refine .v rfl rfl (OpL.binI rfl rfl rfl rfl) ?_; refine .a rfl rfl rfl rfl ?_; refine .nil ?_; cases h; exact rdN (Gives.mkR [] (.e rfl rfl) (.e rfl rfl) rfl rfl rfl)
       ·have h := ifF q41 h; refine W.exit ?_; cases h; refine rdX fun e_ => ?_; subst e_; (repeat with_reducible refine thru ?_); refine hit ?_; exact fkN (Gives.mkR [] (.e rfl rfl) (.e rfl rfl) rfl rfl rfl)
      ·intro w37 e_; subst e_; clear h; have h := z40; dsimp only at h; refine W.seq ?_; refine W.pk ?_; refine .v rfl rfl (O.ldN ty109 rfl rfl rfl) ?_; refine .s rfl rfl (O.st ty109 rfl rfl rfl rfl rfl rfl rfl rfl rfl rfl (all' := [.i w37.1, .i w37.2]) rfl) ?_; refine .a rfl rfl rfl rfl ?_; refine .nil ?_; refine W.ret ?_; cases h; exact leaves (.inr rfl) rfl (.tup _ _ _ _ (cC (.agg _ _ _ _ (cC (.imm _) (cC (.imm _) .nil))) (cC (.imm _) .nil))) (cN (cN (cN (cN .nil)))) rfl rfl
    ·clear h; refine W.pk ?_; refine .m rfl rfl rfl rfl ?_; refine .v rfl rfl (OpL.binI rfl rfl rfl rfl) ?_; refine .m rfl rfl rfl rfl ?_; rcases tf (decide (x0 < 0)) with g14 | g14
     ·(iterate 2 refine .x rfl (unmet rfl rfl rfl g14) ?_); refine .v rfl rfl (O.pickT g14 rfl rfl rfl) ?_; refine .a rfl rfl rfl rfl ?_; refine .nil ?_; exact toN (Gives.mkR [] (.r rfl rfl (.r rfl rfl (.r rfl rfl (.r rfl rfl (.r rfl rfl (.c rfl (sbb (by simp only [g14, BL])) rfl .n)))))) (.r rfl rfl rfl .n) rfl rfl rfl)
     ·refine .m rfl (met rfl rfl rfl g14) rfl rfl ?_; refine .v rfl (met rfl rfl rfl g14) (OpL.binI rfl rfl rfl rfl) ?_; refine .v rfl rfl (O.pickF g14 rfl rfl rfl) ?_; refine .a rfl rfl rfl rfl ?_; refine .nil ?_; exact toN (Gives.mkR [] (.r rfl rfl (.r rfl rfl (.r rfl rfl (.r rfl rfl (.r rfl rfl (.c rfl (sbb (by simp only [g14, BL])) rfl .n)))))) (.r rfl rfl rfl .n) rfl rfl rfl)
  ·clear h; refine W.pk ?_; refine .m rfl rfl rfl rfl ?_; refine .call (.b t4) [] 0 (calendar_Good.ok b5) rfl rfl rfl ca44 rfl rfl (cC (.imm _) .nil) rfl rfl rfl rfl rfl ?_; refine .v rfl rfl (OpL.unV rfl rfl rfl) ?_; refine .m rfl rfl rfl rfl ?_; rcases tf t4 with g9 | g9
   ·refine .m rfl (met rfl rfl rfl (notT g9)) rfl rfl ?_; refine .call (.b t6) [] 0 (calendar_Good.ok ((if_pos (by simp only [g9, BL])).symm.trans b7)) rfl (met rfl rfl rfl (notT g9)) rfl ca44 rfl rfl (cC (.imm _) .nil) rfl rfl rfl rfl rfl ?_; refine .v rfl (met rfl rfl rfl (notT g9)) (OpL.unV rfl rfl rfl) ?_; refine .v rfl rfl (O.pickF (notT g9) rfl rfl rfl) ?_; refine .m rfl rfl rfl rfl ?_; rcases tf t6 with g10 | g10
    ·(iterate 2 refine .m rfl (met rfl rfl rfl (notT g10)) rfl rfl ?_); refine .v rfl (met rfl rfl rfl (notT g10)) (OpL.binI rfl rfl rfl rfl) ?_; refine .v rfl rfl (O.pickF (notT g10) rfl rfl rfl) ?_; refine .m rfl rfl rfl rfl ?_; rcases tf (decide (x2 > x3)) with g11 | g11
     ·(iterate 4 refine .x rfl (unmet rfl rfl rfl g11) ?_); refine .v rfl rfl (O.pickT g11 rfl rfl rfl) ?_; refine .m rfl rfl rfl rfl ?_; (iterate 6 refine .x rfl (unmet rfl rfl rfl rfl) ?_); refine .v rfl rfl (O.pickT rfl rfl rfl rfl) ?_; refine .a rfl rfl rfl rfl ?_; refine .nil ?_; exact toN (Gives.mkR [] (.r rfl rfl (.r rfl rfl (.r rfl rfl (.r rfl rfl (.r rfl rfl (.c rfl (sbb (by first | (simp only [g9, g10, g11, BL]; done) | (repeat (first | rw [g9] | rw [g10] | rw [g11])) <;> simp only [BL])) rfl .n)))))) (.r rfl rfl rfl .n) rfl rfl rfl)
     ·(iterate 2 refine .m rfl (met rfl rfl rfl g11) rfl rfl ?_); (iterate 2 refine .v rfl (met rfl rfl rfl g11) (OpL.binI rfl rfl rfl rfl) ?_); refine .v rfl rfl (O.pickF g11 rfl rfl rfl) ?_; refine .m rfl rfl rfl rfl ?_; rcases tf (decide ((IntKind.wrap .i64 (x3 - x2)) > 3660)) with g12 | g12
      ·(iterate 6 refine .x rfl (unmet rfl rfl rfl g12) ?_); refine .v rfl rfl (O.pickT g12 rfl rfl rfl) ?_; refine .a rfl rfl rfl rfl ?_; refine .nil ?_; exact toN (Gives.mkR [] (.r rfl rfl (.r rfl rfl (.r rfl rfl (.r rfl rfl (.r rfl rfl (.c rfl (sbb (by first | (simp only [g9, g10, g11, g12, BL]; done) | (repeat (first | rw [g9] | rw [g10] | rw [g11] | rw [g12])) <;> simp only [BL])) rfl .n)))))) (.r rfl rfl rfl .n) rfl rfl rfl)
      ·(iterate 2 refine .m rfl (met rfl rfl rfl g12) rfl rfl ?_); refine .v rfl (met rfl rfl rfl g12) (O.idx sl22 (c8 (by first | (simp only [g9, g10, g11, g12, BL]; done) | (repeat (first | rw [g9] | rw [g10] | rw [g11] | rw [g12])) <;> simp only [BL])) rfl rfl rfl) ?_; refine .v rfl (met rfl rfl rfl g12) (O.fld fld75_0 rfl rfl rfl) ?_; refine .v rfl (met rfl rfl rfl g12) (O.ld (y := .i ((nth x1 0).Day)) ty3 rfl rfl rfl) ?_; refine .v rfl (met rfl rfl rfl g12) (OpL.binI rfl rfl rfl rfl) ?_; refine .v rfl rfl (O.pickF g12 rfl rfl rfl) ?_; refine .a rfl rfl rfl rfl ?_; refine .nil ?_; exact toN (Gives.mkR [] (.r rfl rfl (.r rfl rfl (.r rfl rfl (.r rfl rfl (.r rfl rfl (.c rfl (sbb (by first | (simp only [g9, g10, g11, g12, BL]; done) | (repeat (first | rw [g9] | rw [g10] | rw [g11] | rw [g12])) <;> simp only [BL])) rfl .n)))))) (.r rfl rfl rfl .n) rfl rfl rfl)
    ·(iterate 3 refine .x rfl (unmet rfl rfl rfl (notF g10)) ?_); refine .v rfl rfl (O.pickT (notF g10) rfl rfl rfl) ?_; refine .m rfl rfl rfl rfl ?_; (iterate 4 refine .x rfl (unmet rfl rfl rfl rfl) ?_); refine .v rfl rfl (O.pickT rfl rfl rfl rfl) ?_; refine .m rfl rfl rfl rfl ?_; (iterate 6 refine .x rfl (unmet rfl rfl rfl rfl) ?_); refine .v rfl rfl (O.pickT rfl rfl rfl rfl) ?_; refine .a rfl rfl rfl rfl ?_; refine .nil ?_; exact toN (Gives.mkR [] (.r rfl rfl (.r rfl rfl (.r rfl rfl (.r rfl rfl (.r rfl rfl (.c rfl (sbb (by first | (simp only [g9, g10, BL]; done) | (repeat (first | rw [g9] | rw [g10])) <;> simp only [BL])) rfl .n)))))) (.r rfl rfl rfl .n) rfl rfl rfl)
   ·(iterate 3 refine .x rfl (unmet rfl rfl rfl (notF g9)) ?_); refine .v rfl rfl (O.pickT (notF g9) rfl rfl rfl) ?_; refine .m rfl rfl rfl rfl ?_; (iterate 3 refine .x rfl (unmet rfl rfl rfl rfl) ?_); refine .v rfl rfl (O.pickT rfl rfl rfl rfl) ?_; refine .m rfl rfl rfl rfl ?_; (iterate 4 refine .x rfl (unmet rfl rfl rfl rfl) ?_); refine .v rfl rfl (O.pickT rfl rfl rfl rfl) ?_; refine .m rfl rfl rfl rfl ?_; (iterate 6 refine .x rfl (unmet rfl rfl rfl rfl) ?_); refine .v rfl rfl (O.pickT rfl rfl rfl rfl) ?_; refine .a rfl rfl rfl rfl ?_; refine .nil ?_; exact toN (Gives.mkR [] (.r rfl rfl (.r rfl rfl (.r rfl rfl (.r rfl rfl (.r rfl rfl (.c rfl (sbb (by simp only [g9, BL])) rfl .n)))))) (.r rfl rfl rfl .n) rfl rfl rfl)

noncomputable def accrue_Between.f (x0 : Int) (x1 : List api_Reset) (x2 : Int) (x3 : Int) : Option (Int × Int) :=
  (accrue_Run.f x0 x1 x2 x3).bind fun t1 =>
  some (t1.1.Units, t1.2)
set_option maxRecDepth 100000 in
set_option maxHeartbeats 4000000 in
theorem accrue_Between.ok {x0 : Int} {x1 : List api_Reset} {x2 : Int} {x3 : Int} {r : Int × Int} (h : accrue_Between.f x0 x1 x2 x3 = some r) : Pm.Spec prog 67 [.imm (.val (.int .i64 x0)), .imm (.row 2 (List.map api_Reset.enc x1)), .imm (.val (.int .i64 x2)), .imm (.val (.int .i64 x3))] (.tup [.imm (.val (.int .i64 r.1)), .imm (.val (.int .i64 r.2))]) [none, none, none, none] := by
 unfold accrue_Between.f at h; refine Pm.Spec.of_body Try.func67 rfl (by kernel_rfl) (Nat.le_of_ble_eq_true rfl) (Nat.le_of_ble_eq_true rfl) ?_; refine W.ghost (σ' := (mkSt [(0, some (.i x0)), (1, some (.imm (.row 2 (List.map api_Reset.enc x1)))), (2, some (.i x2)), (3, some (.i x3))] [] 1000)) (Gives.entry (.c rfl (.c rfl (.c rfl (.c rfl .n)))) .n) ?_; refine W.seq ?_; refine W.pk ?_; (iterate 2 refine .a rfl rfl rfl rfl ?_); refine .nil ?_; refine W.seq ?_; obtain ⟨t1, b2, h⟩ := bnd1 h; refine W.pk ?_; (iterate 4 refine .m rfl rfl rfl rfl ?_); refine .call (.tup [.agg [.i t1.1.Units, .i t1.1.Rest], .i t1.2]) [] 0 (accrue_Run.ok b2) rfl rfl rfl ca80 rfl rfl (cC (.imm _) (cC (.imm _) (cC (.imm _) (cC (.imm _) .nil)))) rfl rfl rfl rfl rfl ?_; refine .m rfl rfl rfl rfl ?_; (iterate 2 refine .v rfl rfl (OpL.extract rfl rfl rfl) ?_); refine .t rfl rfl (O.alloc z109 rfl) ?_; refine .s rfl rfl (O.st ty109 rfl rfl rfl rfl rfl rfl rfl rfl rfl rfl (all' := [.i t1.1.Units, .i t1.1.Rest]) rfl) ?_; refine .a rfl rfl rfl rfl ?_; refine .nil ?_; refine W.seq ?_; refine W.pk ?_; refine .v rfl rfl (O.fld fld109_0 rfl rfl rfl) ?_; refine .v rfl rfl (O.ld (y := .i t1.1.Units) ty3 rfl rfl rfl) ?_; refine .m rfl rfl rfl rfl ?_; (iterate 2 refine .a rfl rfl rfl rfl ?_); refine .nil ?_; refine W.ret ?_; cases h; exact leaves (.inr rfl) rfl (.tup _ _ _ _ (cC (.imm _) (cC (.imm _) .nil))) (cN (cN (cN (cN .nil)))) rfl rfl

noncomputable def life_Interest.f (x0 : api_Trade) (x1 : Int) : Option (Int × Int) :=
  (calendar_Good.f x1).bind fun t1 =>
  if (!t1) = true then
    some (0, 10)
  else
    (life_until.f x0 x1).bind fun t4 =>
    (accrue_Between.f x0.Amount x0.Resets x0.Start t4).bind fun t6 =>
    some (t6.1, t6.2)
set_option maxRecDepth 100000 in
set_option maxHeartbeats 4000000 in
theorem life_Interest.ok {x0 : api_Trade} {x1 : Int} {r : Int × Int} (h : life_Interest.f x0 x1 = some r) : Pm.Spec prog 53 [.agg [.imm (.val (.int .i64 x0.ID)), .imm (.val (.int .i64 x0.Twin)), .imm (.val (.int .i64 x0.Member)), .imm (.val (.int .i64 x0.Side)), .imm (.val (.int .i64 x0.Basket)), .imm (.val (.int .i64 x0.Amount)), .imm (.val (.int .i64 x0.Start)), .imm (.val (.int .i64 x0.End)), .imm (.row 2 (List.map api_Reset.enc x0.Resets)), .imm (.val (.int .i64 x0.Stage)), .imm (.val (.bool x0.Short))], .imm (.val (.int .i64 x1))] (.tup [.imm (.val (.int .i64 r.1)), .imm (.val (.int .i64 r.2))]) [none, none] := by
 unfold life_Interest.f at h; refine Pm.Spec.of_body Try.func53 rfl (by kernel_rfl) (Nat.le_of_ble_eq_true rfl) (Nat.le_of_ble_eq_true rfl) ?_; refine W.ghost (σ' := (mkSt [(0, some (.agg (api_Trade.av x0))), (1, some (.i x1))] [] 1000)) (Gives.entry (.c rfl (.c rfl .n)) .n) ?_; refine W.seq ?_; refine W.pk ?_; refine .t rfl rfl (O.box rfl rfl rfl rfl rfl) ?_; (iterate 2 refine .a rfl rfl rfl rfl ?_); refine .nil ?_; (iterate 2 refine W.seq ?_); obtain ⟨t1, b2, h⟩ := bnd1 h; refine W.pk ?_; refine .m rfl rfl rfl rfl ?_; refine .call (.b t1) [] 0 (calendar_Good.ok b2) rfl rfl rfl ca44 rfl rfl (cC (.imm _) .nil) rfl rfl rfl rfl rfl ?_; refine .v rfl rfl (OpL.unV rfl rfl rfl) ?_; refine .nil ?_; refine W.cond rfl (fun q3 => ?_) (fun q3 => ?_)
 ·have h := ifT q3 h; refine W.seq ?_; refine W.pk ?_; (iterate 2 refine .a rfl rfl rfl rfl ?_); refine .nil ?_; refine W.ret ?_; cases h; exact leaves (.inr rfl) rfl (.tup _ _ _ _ (cC (.imm _) (cC (.imm _) .nil))) (cN (cN .nil)) rfl rfl
 ·have h := ifF q3 h; refine W.skip ?_; refine W.seq ?_; obtain ⟨t4, b5, h⟩ := bnd1 h; obtain ⟨t6, b7, h⟩ := bnd1 h; refine W.dk (unm 14 [0, 1, 0, 4, 0, 16, 0, 0, 192, 511, 1023, 1023, 4095, 8191]) rfl (by kernel_rfl) ?_; refine .v rfl rfl (O.fld fld24_5 rfl rfl rfl) ?_; refine .v rfl rfl (O.ld (y := .i x0.Amount) ty3 rfl rfl rfl) ?_; refine .v rfl rfl (O.fld fld24_8 rfl rfl rfl) ?_; refine .v rfl rfl (O.ld (y := .imm (.row 2 (List.map api_Reset.enc x0.Resets))) ty22 rfl rfl rfl) ?_; refine .v rfl rfl (O.fld fld24_6 rfl rfl rfl) ?_; refine .v rfl rfl (O.ld (y := .i x0.Start) ty3 rfl rfl rfl) ?_; refine .v rfl rfl (O.ldN ty24 rfl rfl rfl) ?_; refine .m rfl rfl rfl rfl ?_; refine .call (.i t4) [] 0 (life_until.ok b5) rfl rfl rfl ca68 rfl rfl (cC (.agg _ _ _ _ (cC (.imm _) (cC (.imm _) (cC (.imm _) (cC (.imm _) (cC (.imm _) (cC (.imm _) (cC (.imm _) (cC (.imm _) (cC (.imm _) (cC (.imm _) (cC (.imm _) .nil)))))))))))) (cC (.imm _) .nil)) rfl rfl rfl rfl rfl ?_; refine .call (.tup [.i t6.1, .i t6.2]) [] 0 (accrue_Between.ok b7) rfl rfl rfl ca67 rfl rfl (cC (.imm _) (cC (.imm _) (cC (.imm _) (cC (.imm _) .nil)))) rfl rfl rfl rfl rfl ?_; (iterate 2 refine .v rfl rfl (OpL.extract rfl rfl rfl) ?_); (iterate 2 refine .a rfl rfl rfl rfl ?_); refine .nil ?_; refine ⟨by kernel_rfl, by kernel_rfl, ?_⟩; refine W.ret ?_; cases h; exact leaves (.inr rfl) rfl (.tup _ _ _ _ (cC (.imm _) (cC (.imm _) .nil))) (cN (cN .nil)) rfl rfl

noncomputable def life_Owed.f (x0 : api_Trade) (x1 : Int) : Option (Int × Int) :=
  (life_Interest.f x0 x1).bind fun t1 =>
  if (t1.2 != 0) = true then
    some (0, t1.2)
  else
    (fixnum_Plus.f x0.Amount t1.1).bind fun t4 =>
    some (t4.1, t4.2)
set_option maxRecDepth 100000 in
set_option maxHeartbeats 4000000 in
theorem life_Owed.ok {x0 : api_Trade} {x1 : Int} {r : Int × Int} (h : life_Owed.f x0 x1 = some r) : Pm.Spec prog 33 [.agg [.imm (.val (.int .i64 x0.ID)), .imm (.val (.int .i64 x0.Twin)), .imm (.val (.int .i64 x0.Member)), .imm (.val (.int .i64 x0.Side)), .imm (.val (.int .i64 x0.Basket)), .imm (.val (.int .i64 x0.Amount)), .imm (.val (.int .i64 x0.Start)), .imm (.val (.int .i64 x0.End)), .imm (.row 2 (List.map api_Reset.enc x0.Resets)), .imm (.val (.int .i64 x0.Stage)), .imm (.val (.bool x0.Short))], .imm (.val (.int .i64 x1))] (.tup [.imm (.val (.int .i64 r.1)), .imm (.val (.int .i64 r.2))]) [none, none] := by
 unfold life_Owed.f at h; refine Pm.Spec.of_body Try.func33 rfl (by kernel_rfl) (Nat.le_of_ble_eq_true rfl) (Nat.le_of_ble_eq_true rfl) ?_; refine W.ghost (σ' := (mkSt [(0, some (.agg (api_Trade.av x0))), (1, some (.i x1))] [] 1000)) (Gives.entry (.c rfl (.c rfl .n)) .n) ?_; refine W.seq ?_; refine W.pk ?_; refine .t rfl rfl (O.box rfl rfl rfl rfl rfl) ?_; (iterate 2 refine .a rfl rfl rfl rfl ?_); refine .nil ?_; refine W.seq ?_; obtain ⟨t1, b2, h⟩ := bnd1 h; refine W.pk ?_; refine .v rfl rfl (O.ldN ty24 rfl rfl rfl) ?_; refine .m rfl rfl rfl rfl ?_; refine .call (.tup [.i t1.1, .i t1.2]) [] 0 (life_Interest.ok b2) rfl rfl rfl ca53 rfl rfl (cC (.agg _ _ _ _ (cC (.imm _) (cC (.imm _) (cC (.imm _) (cC (.imm _) (cC (.imm _) (cC (.imm _) (cC (.imm _) (cC (.imm _) (cC (.imm _) (cC (.imm _) (cC (.imm _) .nil)))))))))))) (cC (.imm _) .nil)) rfl rfl rfl rfl rfl ?_; refine .m rfl rfl rfl rfl ?_; (iterate 2 refine .v rfl rfl (OpL.extract rfl rfl rfl) ?_); (iterate 2 refine .a rfl rfl rfl rfl ?_); refine .nil ?_; (iterate 2 refine W.seq ?_); refine W.pk ?_; refine .m rfl rfl rfl rfl ?_; refine .v rfl rfl (OpL.binI rfl rfl rfl rfl) ?_; refine .nil ?_; refine W.cond rfl (fun q3 => ?_) (fun q3 => ?_)
 ·have h := ifT q3 h; refine W.seq ?_; refine W.pk ?_; refine .m rfl rfl rfl rfl ?_; (iterate 2 refine .a rfl rfl rfl rfl ?_); refine .nil ?_; refine W.ret ?_; cases h; exact leaves (.inr rfl) rfl (.tup _ _ _ _ (cC (.imm _) (cC (.imm _) .nil))) (cN (cN .nil)) rfl rfl
 ·have h := ifF q3 h; refine W.skip ?_; refine W.seq ?_; obtain ⟨t4, b5, h⟩ := bnd1 h; refine W.pk ?_; refine .v rfl rfl (O.fld fld24_5 rfl rfl rfl) ?_; refine .v rfl rfl (O.ld (y := .i x0.Amount) ty3 rfl rfl rfl) ?_; refine .m rfl rfl rfl rfl ?_; refine .call (.tup [.i t4.1, .i t4.2]) [] 0 (fixnum_Plus.ok b5) rfl rfl rfl ca54 rfl rfl (cC (.imm _) (cC (.imm _) .nil)) rfl rfl rfl rfl rfl ?_; (iterate 2 refine .v rfl rfl (OpL.extract rfl rfl rfl) ?_); (iterate 2 refine .a rfl rfl rfl rfl ?_); refine .nil ?_; refine W.ret ?_; cases h; exact leaves (.inr rfl) rfl (.tup _ _ _ _ (cC (.imm _) (cC (.imm _) .nil))) (cN (cN .nil)) rfl rfl

noncomputable def leg_Covered_End.f (x0 : leg_Covered) : Option (api_Leg × Int) :=
  (leg_check.f x0).bind fun t1 =>
  if (t1 != 0) = true then
    some ((⟨0, 0, 0, 0, []⟩ : api_Leg), t1)
  else
    (life_Open.f x0.Trade).bind fun t4 =>
    if t4 = true then
      some ((⟨0, 0, 0, 0, []⟩ : api_Leg), 33)
    else
      (life_Owed.f x0.Trade x0.Trade.End).bind fun t7 =>
      if (t7.2 != 0) = true then
        some ((⟨0, 0, 0, 0, []⟩ : api_Leg), t7.2)
      else
        (leg_Covered_way.f x0).bind fun t10 =>
        (leg_Covered_leg.f x0 x0.Trade.End t7.1 (IntKind.wrap .i64 (0 - t10))).bind fun t12 =>
        some (t12, 0)
set_option maxRecDepth 100000 in
set_option maxHeartbeats 4000000 in
theorem leg_Covered_End.ok {x0 : leg_Covered} {r : api_Leg × Int} (h : leg_Covered_End.f x0 = some r) : Pm.Spec prog 13 [.agg [.imm (.val (.int .i64 x0.Trade.ID)), .imm (.val (.int .i64 x0.Trade.Twin)), .imm (.val (.int .i64 x0.Trade.Member)), .imm (.val (.int .i64 x0.Trade.Side)), .imm (.val (.int .i64 x0.Trade.Basket)), .imm (.val (.int .i64 x0.Trade.Amount)), .imm (.val (.int .i64 x0.Trade.Start)), .imm (.val (.int .i64 x0.Trade.End)), .imm (.row 2 (List.map api_Reset.enc x0.Trade.Resets)), .imm (.val (.int .i64 x0.Trade.Stage)), .imm (.val (.bool x0.Trade.Short)), .imm (.row 2 (List.map api_Lot.enc x0.Lots))]] (.tup [.agg [.imm (.val (.int .i64 r.1.Day)), .imm (.val (.int .i64 r.1.Member)), .imm (.val (.int .i64 r.1.Trade)), .imm (.val (.int .i64 r.1.Cash)), .imm (.row 2 (List.map api_Lot.enc r.1.Lots))], .imm (.val (.int .i64 r.2))]) [none] := by
 unfold leg_Covered_End.f at h; refine Pm.Spec.of_body Try.func13 rfl (by kernel_rfl) (Nat.le_of_ble_eq_true rfl) (Nat.le_of_ble_eq_true rfl) ?_; refine W.ghost (σ' := (mkSt [(0, some (.agg (leg_Covered.av x0)))] [] 1000)) (Gives.entry (.c rfl .n) .n) ?_; refine W.seq ?_; refine W.pk ?_; refine .t rfl rfl (O.box rfl rfl rfl rfl rfl) ?_; refine .t rfl rfl (O.alloc z31 rfl) ?_; refine .a rfl rfl rfl rfl ?_; refine .nil ?_; (iterate 2 refine W.seq ?_); obtain ⟨t1, b2, h⟩ := bnd1 h; refine W.pk ?_; refine .v rfl rfl (O.ldN ty34 rfl rfl rfl) ?_; refine .call (.i t1) [] 0 (leg_check.ok b2) rfl rfl rfl ca27 rfl rfl (cC (.agg _ _ _ _ (cC (.imm _) (cC (.imm _) (cC (.imm _) (cC (.imm _) (cC (.imm _) (cC (.imm _) (cC (.imm _) (cC (.imm _) (cC (.imm _) (cC (.imm _) (cC (.imm _) (cC (.imm _) .nil))))))))))))) .nil) rfl rfl rfl rfl rfl ?_; refine .a rfl rfl rfl rfl ?_; refine .nil ?_; refine W.seq ?_; refine W.pk ?_; refine .m rfl rfl rfl rfl ?_; refine .v rfl rfl (OpL.binI rfl rfl rfl rfl) ?_; refine .nil ?_; refine W.cond rfl (fun q3 => ?_) (fun q3 => ?_)
 ·have h := ifT q3 h; refine W.seq ?_; refine W.pk ?_; refine .v rfl rfl (O.build (out := [.i 0, .i 0, .i 0, .i 0, .imm (.val (.slice none 0 0))]) bl31 rfl rfl rfl rfl (by kernel_rfl)) ?_; refine .m rfl rfl rfl rfl ?_; refine .s rfl rfl (O.st ty31 rfl rfl rfl rfl rfl rfl rfl rfl rfl rfl (all' := [.i 0, .i 0, .i 0, .i 0, .imm (.val (.slice none 0 0))]) rfl) ?_; refine .a rfl rfl rfl rfl ?_; refine .nil ?_; refine W.ret ?_; cases h; exact leaves (.inr rfl) rfl (.tup _ _ _ _ (cC (.agg _ _ _ _ (cC (.imm _) (cC (.imm _) (cC (.imm _) (cC (.imm _) (cC (.nilrow _) .nil)))))) (cC (.imm _) .nil))) (cN .nil) rfl rfl
 ·have h := ifF q3 h; refine W.skip ?_; (iterate 2 refine W.seq ?_); obtain ⟨t4, b5, h⟩ := bnd1 h; refine W.pk ?_; refine .v rfl rfl (O.fld fld34_0 rfl rfl rfl) ?_; refine .v rfl rfl (O.ldN ty24 rfl rfl rfl) ?_; refine .call (.b t4) [] 0 (life_Open.ok b5) rfl rfl rfl ca32 rfl rfl (cC (.agg _ _ _ _ (cC (.imm _) (cC (.imm _) (cC (.imm _) (cC (.imm _) (cC (.imm _) (cC (.imm _) (cC (.imm _) (cC (.imm _) (cC (.imm _) (cC (.imm _) (cC (.imm _) .nil)))))))))))) .nil) rfl rfl rfl rfl rfl ?_; refine .nil ?_; refine W.cond rfl (fun q6 => ?_) (fun q6 => ?_)
  ·have h := ifT q6 h; refine W.seq ?_; refine W.pk ?_; refine .v rfl rfl (O.build (out := [.i 0, .i 0, .i 0, .i 0, .imm (.val (.slice none 0 0))]) bl31 rfl rfl rfl rfl (by kernel_rfl)) ?_; refine .s rfl rfl (O.st ty31 rfl rfl rfl rfl rfl rfl rfl rfl rfl rfl (all' := [.i 0, .i 0, .i 0, .i 0, .imm (.val (.slice none 0 0))]) rfl) ?_; refine .a rfl rfl rfl rfl ?_; refine .nil ?_; refine W.ret ?_; cases h; exact leaves (.inr rfl) rfl (.tup _ _ _ _ (cC (.agg _ _ _ _ (cC (.imm _) (cC (.imm _) (cC (.imm _) (cC (.imm _) (cC (.nilrow _) .nil)))))) (cC (.imm _) .nil))) (cN .nil) rfl rfl
  ·have h := ifF q6 h; refine W.skip ?_; refine W.seq ?_; obtain ⟨t7, b8, h⟩ := bnd1 h; refine W.pk ?_; refine .v rfl rfl (O.fld fld34_0 rfl rfl rfl) ?_; refine .v rfl rfl (O.ldN ty24 rfl rfl rfl) ?_; refine .v rfl rfl (O.fld fld34_0 rfl rfl rfl) ?_; refine .v rfl rfl (O.fld fld24_7 rfl rfl rfl) ?_; refine .v rfl rfl (O.ld (y := .i x0.Trade.End) ty3 rfl rfl rfl) ?_; refine .call (.tup [.i t7.1, .i t7.2]) [] 0 (life_Owed.ok b8) rfl rfl rfl ca33 rfl rfl (cC (.agg _ _ _ _ (cC (.imm _) (cC (.imm _) (cC (.imm _) (cC (.imm _) (cC (.imm _) (cC (.imm _) (cC (.imm _) (cC (.imm _) (cC (.imm _) (cC (.imm _) (cC (.imm _) .nil)))))))))))) (cC (.imm _) .nil)) rfl rfl rfl rfl rfl ?_; refine .m rfl rfl rfl rfl ?_; (iterate 2 refine .v rfl rfl (OpL.extract rfl rfl rfl) ?_); (iterate 2 refine .a rfl rfl rfl rfl ?_); refine .nil ?_; (iterate 2 refine W.seq ?_); refine W.pk ?_; refine .m rfl rfl rfl rfl ?_; refine .v rfl rfl (OpL.binI rfl rfl rfl rfl) ?_; refine .nil ?_; refine W.cond rfl (fun q9 => ?_) (fun q9 => ?_)
   ·have h := ifT q9 h; refine W.seq ?_; refine W.pk ?_; refine .v rfl rfl (O.build (out := [.i 0, .i 0, .i 0, .i 0, .imm (.val (.slice none 0 0))]) bl31 rfl rfl rfl rfl (by kernel_rfl)) ?_; refine .m rfl rfl rfl rfl ?_; refine .s rfl rfl (O.st ty31 rfl rfl rfl rfl rfl rfl rfl rfl rfl rfl (all' := [.i 0, .i 0, .i 0, .i 0, .imm (.val (.slice none 0 0))]) rfl) ?_; refine .a rfl rfl rfl rfl ?_; refine .nil ?_; refine W.ret ?_; cases h; exact leaves (.inr rfl) rfl (.tup _ _ _ _ (cC (.agg _ _ _ _ (cC (.imm _) (cC (.imm _) (cC (.imm _) (cC (.imm _) (cC (.nilrow _) .nil)))))) (cC (.imm _) .nil))) (cN .nil) rfl rfl
   ·have h := ifF q9 h; refine W.skip ?_; refine W.seq ?_; obtain ⟨t10, b11, h⟩ := bnd1 h; obtain ⟨t12, b13, h⟩ := bnd1 h; refine W.dk (unm 11 [0, 0, 2, 6, 0, 0, 32, 96, 255, 511, 1023]) rfl (by kernel_rfl) ?_; refine .v rfl rfl (O.ldN ty34 rfl rfl rfl) ?_; refine .v rfl rfl (O.fld fld34_0 rfl rfl rfl) ?_; refine .v rfl rfl (O.fld fld24_7 rfl rfl rfl) ?_; refine .v rfl rfl (O.ld (y := .i x0.Trade.End) ty3 rfl rfl rfl) ?_; refine .m rfl rfl rfl rfl ?_; refine .v rfl rfl (O.ldN ty34 rfl rfl rfl) ?_; refine .call (.i t10) [] 0 (leg_Covered_way.ok b11) rfl rfl rfl ca29 rfl rfl (cC (.agg _ _ _ _ (cC (.imm _) (cC (.imm _) (cC (.imm _) (cC (.imm _) (cC (.imm _) (cC (.imm _) (cC (.imm _) (cC (.imm _) (cC (.imm _) (cC (.imm _) (cC (.imm _) (cC (.imm _) .nil))))))))))))) .nil) rfl rfl rfl rfl rfl ?_; refine .v rfl rfl (OpL.unV rfl rfl rfl) ?_; refine .call (.agg (api_Leg.av t12)) [] 0 (leg_Covered_leg.ok b13) rfl rfl rfl ca28 rfl rfl (cC (.agg _ _ _ _ (cC (.imm _) (cC (.imm _) (cC (.imm _) (cC (.imm _) (cC (.imm _) (cC (.imm _) (cC (.imm _) (cC (.imm _) (cC (.imm _) (cC (.imm _) (cC (.imm _) (cC (.imm _) .nil))))))))))))) (cC (.imm _) (cC (.imm _) (cC (.imm _) .nil)))) rfl rfl rfl rfl rfl ?_; refine .s rfl rfl (O.st ty31 rfl rfl rfl rfl rfl rfl rfl rfl rfl rfl (all' := [.i t12.Day, .i t12.Member, .i t12.Trade, .i t12.Cash, .imm (.row 2 (List.map api_Lot.enc t12.Lots))]) rfl) ?_; refine .a rfl rfl rfl rfl ?_; refine .nil ?_; refine ⟨by kernel_rfl, by kernel_rfl, ?_⟩; refine W.ret ?_; cases h; exact leaves (.inr rfl) rfl (.tup _ _ _ _ (cC (.agg _ _ _ _ (cC (.imm _) (cC (.imm _) (cC (.imm _) (cC (.imm _) (cC (.imm _) .nil)))))) (cC (.imm _) .nil))) (cN .nil) rfl rfl

noncomputable def lombardref10_Lots.b0 (x0 : List api_Lot) (x1 : List api_Lot) (v6 : Int) : Option (Int ⊕ (Bool ⊕ Unit)) :=
  if (decide (v6 < (List.length x0 : Int))) = true then
    if (0 : Int) ≤ v6 ∧ v6 < (List.length x0 : Int) then
    if (0 : Int) ≤ v6 ∧ v6 < (List.length x1 : Int) then
    if (!((((nth x0 v6).ISIN) == ((nth x1 v6).ISIN)) && (((nth x0 v6).Qty) == ((nth x1 v6).Qty)))) = true then
      some (.inr (.inl false))
    else
      some (.inl (IntKind.wrap .i64 (v6 + 1)))
    else none
    else none
  else
    some (.inr (.inr ()))
noncomputable def lombardref10_Lots.r0 (x0 : List api_Lot) (x1 : List api_Lot) (s : Int) : Option (Int ⊕ (Bool ⊕ Unit)) := lombardref10_Lots.b0 x0 x1 s
noncomputable def lombardref10_Lots.f (x0 : List api_Lot) (x1 : List api_Lot) : Option (Bool) :=
  if ((List.length x0 : Int) != (List.length x1 : Int)) = true then
    some false
  else
    (loop (lombardref10_Lots.r0 x0 x1) 0).bind fun o16 =>
    match o16 with
    | .inl r23 => some r23
    | .inr w15 =>
      some true
set_option maxRecDepth 100000 in
set_option maxHeartbeats 4000000 in
theorem lombardref10_Lots.ok {x0 : List api_Lot} {x1 : List api_Lot} {r : Bool} (h : lombardref10_Lots.f x0 x1 = some r) : Pm.Spec prog 35 [.imm (.row 2 (List.map api_Lot.enc x0)), .imm (.row 2 (List.map api_Lot.enc x1))] (.imm (.val (.bool r))) [none, none] := by
 unfold lombardref10_Lots.f at h; refine Pm.Spec.of_body Try.func35 rfl (by kernel_rfl) (Nat.le_of_ble_eq_true rfl) (Nat.le_of_ble_eq_true rfl) ?_; refine W.ghost (σ' := (mkSt [(0, some (.imm (.row 2 (List.map api_Lot.enc x0)))), (1, some (.imm (.row 2 (List.map api_Lot.enc x1))))] [] 1000)) (Gives.entry (.c rfl (.c rfl .n)) .n) ?_; refine W.seq ?_; refine W.pk ?_; refine .a rfl rfl rfl rfl ?_; refine .nil ?_; (iterate 2 refine W.seq ?_); refine W.pk ?_; refine .m rfl rfl rfl rfl ?_; refine .v rfl rfl (O.lenR sl25 rfl rfl) ?_; refine .m rfl rfl rfl rfl ?_; refine .v rfl rfl (O.lenR sl25 rfl rfl) ?_; refine .v rfl rfl (OpL.binI rfl rfl rfl rfl) ?_; refine .nil ?_; refine W.cond rfl (fun q1 => ?_) (fun q1 => ?_)
 ·have h := ifT q1 h; refine W.seq ?_; refine W.pk ?_; refine .a rfl rfl rfl rfl ?_; refine .nil ?_; refine W.ret ?_; cases h; exact leaves (.inr rfl) rfl (.imm _) (cN (cN .nil)) rfl rfl
 ·have h := ifF q1 h; refine W.skip ?_; (iterate 2 refine W.seq ?_); refine W.pk ?_; refine .a rfl rfl rfl rfl ?_; refine .nil ?_; obtain ⟨o16, b17, z18⟩ := bnd1 h; refine W.fork2 (out := o16) (fun (w15 : Unit) => mkSt [] [] 1000) ?_ ?_
  ·clear h; refine W.block ?_; refine W.loopF (fun (s_ : Int) => mkSt [(0, some (.imm (.row 2 (List.map api_Lot.enc x0)))), (1, some (.imm (.row 2 (List.map api_Lot.enc x1)))), (5, some (.i s_))] [] 1000) b17 (Gives.mkR [] (.e rfl rfl) .n rfl rfl rfl) ?_; rintro v6 s_ hr; have h : lombardref10_Lots.b0 x0 x1 v6 = some s_ := hr; unfold lombardref10_Lots.b0 at h; (iterate 2 refine W.seq ?_); refine W.pk ?_; (iterate 2 refine .m rfl rfl rfl rfl ?_); refine .v rfl rfl (O.lenR sl25 rfl rfl) ?_; refine .v rfl rfl (OpL.binI rfl rfl rfl rfl) ?_; refine .nil ?_; refine W.cond rfl (fun q19 => ?_) (fun q19 => ?_)
   ·have h := ifT q19 h; refine W.skip ?_; refine W.seq ?_; refine W.block ?_; refine W.seq ?_; obtain ⟨c20, h⟩ := chk h; obtain ⟨c21, h⟩ := chk h; refine W.dk (unm 9 [0, 0, 3, 7, 0, 0, 48, 112, 255]) rfl (by kernel_rfl) ?_; (iterate 2 refine .m rfl rfl rfl rfl ?_); refine .v rfl rfl (O.idx sl25 c20 rfl rfl rfl) ?_; refine .v rfl rfl (O.ldN ty44 rfl rfl rfl) ?_; (iterate 2 refine .m rfl rfl rfl rfl ?_); refine .v rfl rfl (O.idx sl25 c21 rfl rfl rfl) ?_; refine .v rfl rfl (O.ldN ty44 rfl rfl rfl) ?_; refine .v rfl rfl (O.neS (r := ((((nth x0 v6).ISIN) == ((nth x1 v6).ISIN)) && (((nth x0 v6).Qty) == ((nth x1 v6).Qty)))) fl44 rfl rfl rfl rfl rfl rfl) ?_; refine .nil ?_; refine ⟨by kernel_rfl, by kernel_rfl, ?_⟩; refine W.cond rfl (fun q22 => ?_) (fun q22 => ?_)
    ·have h := ifT q22 h; refine W.seq ?_; refine W.pk ?_; refine .a rfl rfl rfl rfl ?_; refine .nil ?_; refine W.ret ?_; cases h; refine rdR fun e_ => ?_; subst e_; have h := z18; dsimp only at h; refine fkR ?_; cases h; exact leaves (.inr rfl) rfl (.imm _) (cN (cN .nil)) rfl rfl
    ·have h := ifF q22 h; refine W.skip ?_; refine W.pk ?_; refine .m rfl rfl rfl rfl ?_; refine .v rfl rfl (OpL.binI rfl rfl rfl rfl) ?_; refine .a rfl rfl rfl rfl ?_; refine .nil ?_; cases h; exact rdN (Gives.mkR [] (.e rfl rfl) .n rfl rfl rfl)
   ·have h := ifF q19 h; refine W.exit ?_; cases h; refine rdX fun e_ => ?_; subst e_; (repeat with_reducible refine thru ?_); refine hit ?_; exact fkN (Gives.mkR [] .n .n rfl rfl rfl)
  ·intro w15 e_; subst e_; clear h; have h := z18; dsimp only at h; refine W.seq ?_; refine W.pk ?_; refine .a rfl rfl rfl rfl ?_; refine .nil ?_; refine W.ret ?_; cases h; exact leaves (.inr rfl) rfl (.imm _) (cN (cN .nil)) rfl rfl

noncomputable def lombardref25_Same.f (x0 : api_Leg) (x1 : api_Leg) : Option (Bool) :=
  (if ((((x0.Day == x1.Day) && (x0.Member == x1.Member)) && (x0.Trade == x1.Trade)) && (x0.Cash == x1.Cash)) = true then lombardref10_Lots.f x0.Lots x1.Lots else some default).bind fun t1 =>
  some (((((x0.Day == x1.Day) && (x0.Member == x1.Member)) && (x0.Trade == x1.Trade)) && (x0.Cash == x1.Cash)) && t1)
set_option maxRecDepth 100000 in
set_option maxHeartbeats 4000000 in
theorem lombardref25_Same.ok {x0 : api_Leg} {x1 : api_Leg} {r : Bool} (h : lombardref25_Same.f x0 x1 = some r) : Pm.Spec prog 15 [.agg [.imm (.val (.int .i64 x0.Day)), .imm (.val (.int .i64 x0.Member)), .imm (.val (.int .i64 x0.Trade)), .imm (.val (.int .i64 x0.Cash)), .imm (.row 2 (List.map api_Lot.enc x0.Lots))], .agg [.imm (.val (.int .i64 x1.Day)), .imm (.val (.int .i64 x1.Member)), .imm (.val (.int .i64 x1.Trade)), .imm (.val (.int .i64 x1.Cash)), .imm (.row 2 (List.map api_Lot.enc x1.Lots))]] (.imm (.val (.bool r))) [none, none] := by
 unfold lombardref25_Same.f at h; refine Pm.Spec.of_body Try.func15 rfl (by kernel_rfl) (Nat.le_of_ble_eq_true rfl) (Nat.le_of_ble_eq_true rfl) ?_; refine W.ghost (σ' := (mkSt [(0, some (.agg (api_Leg.av x0))), (1, some (.agg (api_Leg.av x1)))] [] 1000)) (Gives.entry (.c rfl (.c rfl .n)) .n) ?_; refine W.seq ?_; refine W.pk ?_; (iterate 2 refine .t rfl rfl (O.box rfl rfl rfl rfl rfl) ?_); refine .a rfl rfl rfl rfl ?_; refine .nil ?_; refine W.seq ?_; obtain ⟨t1, b2, h⟩ := bnd1 h; refine W.fork (mkSt [(4, some (.b (((((x0.Day == x1.Day) && (x0.Member == x1.Member)) && (x0.Trade == x1.Trade)) && (x0.Cash == x1.Cash)) && t1)))] [] 1002) ?_ ?_
 ·refine W.ret ?_; cases h; exact leaves (.inr rfl) rfl (.imm _) (cN (cN .nil)) rfl rfl
 ·clear h; refine W.pk ?_; refine .v rfl rfl (O.fld fld31_0 rfl rfl rfl) ?_; refine .v rfl rfl (O.ld (y := .i x0.Day) ty3 rfl rfl rfl) ?_; refine .v rfl rfl (O.fld fld31_0 rfl rfl rfl) ?_; refine .v rfl rfl (O.ld (y := .i x1.Day) ty3 rfl rfl rfl) ?_; refine .v rfl rfl (OpL.binI rfl rfl rfl rfl) ?_; refine .m rfl rfl rfl rfl ?_; rcases tf (x0.Day == x1.Day) with g3 | g3
  ·refine .v rfl (met rfl rfl rfl g3) (O.fld fld31_1 rfl rfl rfl) ?_; refine .v rfl (met rfl rfl rfl g3) (O.ld (y := .i x0.Member) ty3 rfl rfl rfl) ?_; refine .v rfl (met rfl rfl rfl g3) (O.fld fld31_1 rfl rfl rfl) ?_; refine .v rfl (met rfl rfl rfl g3) (O.ld (y := .i x1.Member) ty3 rfl rfl rfl) ?_; refine .v rfl (met rfl rfl rfl g3) (OpL.binI rfl rfl rfl rfl) ?_; refine .v rfl rfl (O.pickT g3 rfl rfl rfl) ?_; refine .m rfl rfl rfl rfl ?_; rcases tf (x0.Member == x1.Member) with g4 | g4
   ·refine .v rfl (met rfl rfl rfl g4) (O.fld fld31_2 rfl rfl rfl) ?_; refine .v rfl (met rfl rfl rfl g4) (O.ld (y := .i x0.Trade) ty3 rfl rfl rfl) ?_; refine .v rfl (met rfl rfl rfl g4) (O.fld fld31_2 rfl rfl rfl) ?_; refine .v rfl (met rfl rfl rfl g4) (O.ld (y := .i x1.Trade) ty3 rfl rfl rfl) ?_; refine .v rfl (met rfl rfl rfl g4) (OpL.binI rfl rfl rfl rfl) ?_; refine .v rfl rfl (O.pickT g4 rfl rfl rfl) ?_; refine .m rfl rfl rfl rfl ?_; rcases tf (x0.Trade == x1.Trade) with g5 | g5
    ·refine .v rfl (met rfl rfl rfl g5) (O.fld fld31_3 rfl rfl rfl) ?_; refine .v rfl (met rfl rfl rfl g5) (O.ld (y := .i x0.Cash) ty3 rfl rfl rfl) ?_; refine .v rfl (met rfl rfl rfl g5) (O.fld fld31_3 rfl rfl rfl) ?_; refine .v rfl (met rfl rfl rfl g5) (O.ld (y := .i x1.Cash) ty3 rfl rfl rfl) ?_; refine .v rfl (met rfl rfl rfl g5) (OpL.binI rfl rfl rfl rfl) ?_; refine .v rfl rfl (O.pickT g5 rfl rfl rfl) ?_; refine .m rfl rfl rfl rfl ?_; rcases tf (x0.Cash == x1.Cash) with g6 | g6
     ·refine .v rfl (met rfl rfl rfl g6) (O.fld fld31_4 rfl rfl rfl) ?_; refine .v rfl (met rfl rfl rfl g6) (O.ld (y := .imm (.row 2 (List.map api_Lot.enc x0.Lots))) ty25 rfl rfl rfl) ?_; refine .v rfl (met rfl rfl rfl g6) (O.fld fld31_4 rfl rfl rfl) ?_; refine .v rfl (met rfl rfl rfl g6) (O.ld (y := .imm (.row 2 (List.map api_Lot.enc x1.Lots))) ty25 rfl rfl rfl) ?_; refine .call (.b t1) [] 0 (lombardref10_Lots.ok ((if_pos (by first | (simp only [g3, g4, g5, g6, BL]; done) | (repeat (first | rw [g3] | rw [g4] | rw [g5] | rw [g6])) <;> simp only [BL])).symm.trans b2)) rfl (met rfl rfl rfl g6) rfl ca35 rfl rfl (cC (.imm _) (cC (.imm _) .nil)) rfl rfl rfl rfl rfl ?_; refine .v rfl rfl (O.pickT g6 rfl rfl rfl) ?_; refine .a rfl rfl rfl rfl ?_; refine .nil ?_; exact toN (Gives.mkR [] (.c rfl (sbb (by first | (simp only [g3, g4, g5, g6, BL]; done) | (repeat (first | rw [g3] | rw [g4] | rw [g5] | rw [g6])) <;> simp only [BL])) rfl .n) .n rfl rfl rfl)
     ·(iterate 5 refine .x rfl (unmet rfl rfl rfl g6) ?_); refine .v rfl rfl (O.pickF g6 rfl rfl rfl) ?_; refine .a rfl rfl rfl rfl ?_; refine .nil ?_; exact toN (Gives.mkR [] (.c rfl (sbb (by first | (simp only [g3, g4, g5, g6, BL]; done) | (repeat (first | rw [g3] | rw [g4] | rw [g5] | rw [g6])) <;> simp only [BL])) rfl .n) .n rfl rfl rfl)
    ·(iterate 5 refine .x rfl (unmet rfl rfl rfl g5) ?_); refine .v rfl rfl (O.pickF g5 rfl rfl rfl) ?_; refine .m rfl rfl rfl rfl ?_; (iterate 5 refine .x rfl (unmet rfl rfl rfl rfl) ?_); refine .v rfl rfl (O.pickF rfl rfl rfl rfl) ?_; refine .a rfl rfl rfl rfl ?_; refine .nil ?_; exact toN (Gives.mkR [] (.c rfl (sbb (by first | (simp only [g3, g4, g5, BL]; done) | (repeat (first | rw [g3] | rw [g4] | rw [g5])) <;> simp only [BL])) rfl .n) .n rfl rfl rfl)
   ·(iterate 5 refine .x rfl (unmet rfl rfl rfl g4) ?_); refine .v rfl rfl (O.pickF g4 rfl rfl rfl) ?_; refine .m rfl rfl rfl rfl ?_; (iterate 5 refine .x rfl (unmet rfl rfl rfl rfl) ?_); refine .v rfl rfl (O.pickF rfl rfl rfl rfl) ?_; refine .m rfl rfl rfl rfl ?_; (iterate 5 refine .x rfl (unmet rfl rfl rfl rfl) ?_); refine .v rfl rfl (O.pickF rfl rfl rfl rfl) ?_; refine .a rfl rfl rfl rfl ?_; refine .nil ?_; exact toN (Gives.mkR [] (.c rfl (sbb (by first | (simp only [g3, g4, BL]; done) | (repeat (first | rw [g3] | rw [g4])) <;> simp only [BL])) rfl .n) .n rfl rfl rfl)
  ·(iterate 5 refine .x rfl (unmet rfl rfl rfl g3) ?_); refine .v rfl rfl (O.pickF g3 rfl rfl rfl) ?_; refine .m rfl rfl rfl rfl ?_; (iterate 5 refine .x rfl (unmet rfl rfl rfl rfl) ?_); refine .v rfl rfl (O.pickF rfl rfl rfl rfl) ?_; refine .m rfl rfl rfl rfl ?_; (iterate 5 refine .x rfl (unmet rfl rfl rfl rfl) ?_); refine .v rfl rfl (O.pickF rfl rfl rfl rfl) ?_; refine .m rfl rfl rfl rfl ?_; (iterate 5 refine .x rfl (unmet rfl rfl rfl rfl) ?_); refine .v rfl rfl (O.pickF rfl rfl rfl rfl) ?_; refine .a rfl rfl rfl rfl ?_; refine .nil ?_; exact toN (Gives.mkR [] (.c rfl (sbb (by simp only [g3, BL])) rfl .n) .n rfl rfl rfl)

noncomputable def lombardlaw25_awake.f  : Option (Bool) :=
  (lombardlaw25_some.f).bind fun t1 =>
  (lombardlaw25_of.f t1).bind fun t3 =>
  (leg_Covered_Begin.f t3).bind fun t5 =>
  (lombardlaw25_some.f).bind fun t7 =>
  (lombardlaw25_of.f t7).bind fun t9 =>
  (leg_Covered_End.f t9).bind fun t11 =>
  (if (t5.2 == 0) = true then lombardref25_Same.f t5.1 (⟨0, 1, 1, 100, [(⟨[65], -7⟩ : api_Lot)]⟩ : api_Leg) else some default).bind fun t13 =>
  some (((t5.2 == 0) && t13) && (t11.2 == 33))
set_option maxRecDepth 100000 in
set_option maxHeartbeats 4000000 in
theorem lombardlaw25_awake.ok  {r : Bool} (h : lombardlaw25_awake.f  = some r) : Pm.Spec prog 9 [] (.imm (.val (.bool r))) [] := by
 unfold lombardlaw25_awake.f at h; refine Pm.Spec.of_body Try.func9 rfl (by kernel_rfl) (Nat.le_of_ble_eq_true rfl) (Nat.le_of_ble_eq_true rfl) ?_; refine W.ghost (σ' := (mkSt [] [] 1000)) (Gives.entry .n .n) ?_; refine W.seq ?_; refine W.pk ?_; refine .a rfl rfl rfl rfl ?_; refine .nil ?_; refine W.seq ?_; obtain ⟨t1, b2, h⟩ := bnd1 h; obtain ⟨t3, b4, h⟩ := bnd1 h; obtain ⟨t5, b6, h⟩ := bnd1 h; refine W.pk ?_; refine .call (.agg (lombardref25_Covered.av t1)) [] 0 (lombardlaw25_some.ok b2) rfl rfl rfl ca26 rfl rfl .nil rfl rfl rfl rfl rfl ?_; refine .call (.agg (leg_Covered.av t3)) [] 0 (lombardlaw25_of.ok b4) rfl rfl rfl ca10 rfl rfl (cC (.agg _ _ _ _ (cC (.imm _) (cC (.imm _) (cC (.imm _) (cC (.imm _) (cC (.imm _) (cC (.imm _) (cC (.imm _) (cC (.imm _) (cC (.imm _) (cC (.imm _) (cC (.imm _) (cC (.imm _) .nil))))))))))))) .nil) rfl rfl rfl rfl rfl ?_; refine .call (.tup [.agg (api_Leg.av t5.1), .i t5.2]) [] 0 (leg_Covered_Begin.ok b6) rfl rfl rfl ca11 rfl rfl (cC (.agg _ _ _ _ (cC (.imm _) (cC (.imm _) (cC (.imm _) (cC (.imm _) (cC (.imm _) (cC (.imm _) (cC (.imm _) (cC (.imm _) (cC (.imm _) (cC (.imm _) (cC (.imm _) (cC (.imm _) .nil))))))))))))) .nil) rfl rfl rfl rfl rfl ?_; refine .m rfl rfl rfl rfl ?_; (iterate 2 refine .v rfl rfl (OpL.extract rfl rfl rfl) ?_); refine .t rfl rfl (O.alloc z31 rfl) ?_; refine .s rfl rfl (O.st ty31 rfl rfl rfl rfl rfl rfl rfl rfl rfl rfl (all' := [.i t5.1.Day, .i t5.1.Member, .i t5.1.Trade, .i t5.1.Cash, .imm (.row 2 (List.map api_Lot.enc t5.1.Lots))]) rfl) ?_; refine .a rfl rfl rfl rfl ?_; refine .nil ?_; refine W.seq ?_; obtain ⟨t7, b8, h⟩ := bnd1 h; obtain ⟨t9, b10, h⟩ := bnd1 h; obtain ⟨t11, b12, h⟩ := bnd1 h; refine W.pk ?_; refine .call (.agg (lombardref25_Covered.av t7)) [] 0 (lombardlaw25_some.ok b8) rfl rfl rfl ca26 rfl rfl .nil rfl rfl rfl rfl rfl ?_; refine .call (.agg (leg_Covered.av t9)) [] 0 (lombardlaw25_of.ok b10) rfl rfl rfl ca10 rfl rfl (cC (.agg _ _ _ _ (cC (.imm _) (cC (.imm _) (cC (.imm _) (cC (.imm _) (cC (.imm _) (cC (.imm _) (cC (.imm _) (cC (.imm _) (cC (.imm _) (cC (.imm _) (cC (.imm _) (cC (.imm _) .nil))))))))))))) .nil) rfl rfl rfl rfl rfl ?_; refine .call (.tup [.agg (api_Leg.av t11.1), .i t11.2]) [] 0 (leg_Covered_End.ok b12) rfl rfl rfl ca13 rfl rfl (cC (.agg _ _ _ _ (cC (.imm _) (cC (.imm _) (cC (.imm _) (cC (.imm _) (cC (.imm _) (cC (.imm _) (cC (.imm _) (cC (.imm _) (cC (.imm _) (cC (.imm _) (cC (.imm _) (cC (.imm _) .nil))))))))))))) .nil) rfl rfl rfl rfl rfl ?_; refine .m rfl rfl rfl rfl ?_; (iterate 2 refine .v rfl rfl (OpL.extract rfl rfl rfl) ?_); refine .t rfl rfl (O.alloc z31 rfl) ?_; refine .s rfl rfl (O.st ty31 rfl rfl rfl rfl rfl rfl rfl rfl rfl rfl (all' := [.i t11.1.Day, .i t11.1.Member, .i t11.1.Trade, .i t11.1.Cash, .imm (.row 2 (List.map api_Lot.enc t11.1.Lots))]) rfl) ?_; refine .a rfl rfl rfl rfl ?_; refine .nil ?_; refine W.seq ?_; obtain ⟨t13, b14, h⟩ := bnd1 h; refine W.fork (mkSt [(0, some (.b (((t5.2 == 0) && t13) && (t11.2 == 33))))] [] 1003) ?_ ?_
 ·refine W.ret ?_; cases h; exact leaves (.inr rfl) rfl (.imm _) .nil rfl rfl
 ·clear h; refine W.pk ?_; refine .m rfl rfl rfl rfl ?_; refine .v rfl rfl (OpL.binI rfl rfl rfl rfl) ?_; refine .m rfl rfl rfl rfl ?_; rcases tf (t5.2 == 0) with g15 | g15
  ·refine .v rfl (met rfl rfl rfl g15) (O.ldN ty31 rfl rfl rfl) ?_; refine .v rfl (met rfl rfl rfl g15) (O.build (out := [.s [65], .i (-7)]) bl44 rfl rfl rfl rfl (by kernel_rfl)) ?_; refine .t rfl (met rfl rfl rfl g15) (O.lit (enc := api_Lot.enc) (l := [(⟨[65], -7⟩ : api_Lot)]) sl25 rfl rfl rfl rfl rfl rfl rfl rfl rfl) ?_; refine .v rfl (met rfl rfl rfl g15) (O.build (out := [.i 0, .i 1, .i 1, .i 100, .own 1002]) bl31 rfl rfl rfl rfl (by kernel_rfl)) ?_; refine .call (.b t13) [(1002, some (.rows 44 2 (List.map api_Lot.enc [(⟨[65], -7⟩ : api_Lot)]) true))] 0 (lombardref25_Same.ok ((if_pos (by simp only [g15, BL])).symm.trans b14)) rfl (met rfl rfl rfl g15) rfl ca15 rfl rfl (cC (.agg _ _ _ _ (cC (.imm _) (cC (.imm _) (cC (.imm _) (cC (.imm _) (cC (.imm _) .nil)))))) (cC (.agg _ _ _ _ (cC (.imm _) (cC (.imm _) (cC (.imm _) (cC (.imm _) (cC (.lend _ _ _ _ _ rfl) .nil)))))) .nil)) rfl rfl rfl rfl rfl ?_; refine .v rfl rfl (O.pickT g15 rfl rfl rfl) ?_; refine .m rfl rfl rfl rfl ?_; rcases tf t13 with g16 | g16
   ·refine .m rfl (met rfl rfl rfl g16) rfl rfl ?_; refine .v rfl (met rfl rfl rfl g16) (OpL.binI rfl rfl rfl rfl) ?_; refine .v rfl rfl (O.pickT g16 rfl rfl rfl) ?_; refine .a rfl rfl rfl rfl ?_; refine .nil ?_; exact toN (Gives.mkR [] (.c rfl (sbb (by first | (simp only [g15, g16, BL]; done) | (repeat (first | rw [g15] | rw [g16])) <;> simp only [BL])) rfl .n) .n rfl rfl rfl)
   ·(iterate 2 refine .x rfl (unmet rfl rfl rfl g16) ?_); refine .v rfl rfl (O.pickF g16 rfl rfl rfl) ?_; refine .a rfl rfl rfl rfl ?_; refine .nil ?_; exact toN (Gives.mkR [] (.c rfl (sbb (by first | (simp only [g15, g16, BL]; done) | (repeat (first | rw [g15] | rw [g16])) <;> simp only [BL])) rfl .n) .n rfl rfl rfl)
  ·(iterate 5 refine .x rfl (unmet rfl rfl rfl g15) ?_); refine .v rfl rfl (O.pickF g15 rfl rfl rfl) ?_; refine .m rfl rfl rfl rfl ?_; (iterate 2 refine .x rfl (unmet rfl rfl rfl rfl) ?_); refine .v rfl rfl (O.pickF rfl rfl rfl rfl) ?_; refine .a rfl rfl rfl rfl ?_; refine .nil ?_; exact toN (Gives.mkR [] (.c rfl (sbb (by simp only [g15, BL])) rfl .n) .n rfl rfl rfl)

noncomputable def slices_Clone_api_Leg.f (x0 : List api_Leg) : Option (List api_Leg) :=
  if (List.length x0) * 56 ≤ 140737488355328 then some x0 else none
set_option maxRecDepth 100000 in
theorem slices_Clone_api_Leg.ok {x0 r : List api_Leg} (h : slices_Clone_api_Leg.f x0 = some r) : Pm.Spec prog 38 [.imm (.row 5 (List.map api_Leg.enc x0))] (.xown 31 5 (List.map api_Leg.enc r)) [none] := by
 obtain ⟨h1, rfl⟩ : (List.length x0) * 56 ≤ 140737488355328 ∧ x0 = r := by
   unfold slices_Clone_api_Leg.f at h
   split at h
   · rename_i h1; cases h; exact ⟨h1, rfl⟩
   · cases h
 refine Pm.Spec.of_body Try.func38 rfl (by kernel_rfl) (Nat.le_of_ble_eq_true rfl) (Nat.le_of_ble_eq_true rfl) ?_
 refine W.ghost (σ' := (mkSt [(0, some (.imm (.row 5 (List.map api_Leg.enc x0))))] [] 1000)) (Gives.entry (.c rfl .n) .n) ?_
 cases x0 with
 | cons x1 l1 =>
  refine W.seq ?_
  refine W.pk ?_
  refine .v rfl rfl (OpL.move (.inr rfl) rfl) ?_
  refine .nil ?_
  refine W.seq ?_
  refine W.seq ?_
  refine W.pk ?_
  refine .v rfl rfl (OpL.move (.inl rfl) rfl) ?_
  refine .v rfl rfl (O.eqRow sl45 rfl rfl rfl) ?_
  refine .nil ?_
  refine W.cond rfl (fun q => by cases q) (fun _ => ?_)
  refine W.skip ?_
  refine W.seq ?_
  refine W.pk ?_
  refine .t rfl rfl (O.lit (enc := api_Leg.enc) (l := []) sl45 rfl rfl rfl rfl rfl rfl rfl rfl rfl) ?_
  refine .v rfl rfl (OpL.move (.inl rfl) rfl) ?_
  have h2 : (List.length ([] : List api_Leg) + List.length (x1 :: l1 : List api_Leg)) * 56 ≤ 140737488355328 := by simpa using h1
  refine .t rfl rfl (O.app (l := []) sl45 api_Leg.ok h2 rfl rfl rfl rfl) ?_
  refine .v rfl rfl (OpL.move (.inr rfl) rfl) ?_
  refine .nil ?_
  refine W.ret ?_
  exact leaves (.inr rfl) rfl (.own _ _ _ _ rfl) (cN .nil) rfl rfl
 | nil =>
  refine W.emptyS 0 rfl fun A c => ?_
  cases A with
  | none =>
   refine W.seq ?_
   refine W.pk ?_
   refine .v rfl rfl (OpL.move (.inr rfl) rfl) ?_
   refine .nil ?_
   refine W.seq ?_
   refine W.seq ?_
   refine W.pk ?_
   refine .v rfl rfl (OpL.move (.inl rfl) rfl) ?_
   refine .v rfl rfl (O.eqSl sl45 rfl rfl rfl) ?_
   refine .nil ?_
   refine W.cond rfl (fun _ => ?_) (fun q => by cases q)
   refine W.seq ?_
   refine W.pk ?_
   refine .v rfl rfl (OpL.move (.inr rfl) rfl) ?_
   refine .nil ?_
   refine W.ret ?_
   exact leaves (.inr rfl) rfl (.nilown _ _) (cN .nil) rfl rfl
  | some p =>
   refine W.seq ?_
   refine W.pk ?_
   refine .v rfl rfl (OpL.move (.inr rfl) rfl) ?_
   refine .nil ?_
   refine W.seq ?_
   refine W.seq ?_
   refine W.pk ?_
   refine .v rfl rfl (OpL.move (.inl rfl) rfl) ?_
   refine .v rfl rfl (O.eqSl sl45 rfl rfl rfl) ?_
   refine .nil ?_
   refine W.cond rfl (fun q => by cases q) (fun _ => ?_)
   refine W.skip ?_
   refine W.ghost (Gives.emptyS 0 5 rfl) ?_
   refine W.seq ?_
   refine W.pk ?_
   refine .t rfl rfl (O.lit (enc := api_Leg.enc) (l := []) sl45 rfl rfl rfl rfl rfl rfl rfl rfl rfl) ?_
   refine .v rfl rfl (OpL.move (.inl rfl) rfl) ?_
   have h2 : (List.length ([] : List api_Leg) + List.length ([] : List api_Leg)) * 56 ≤ 140737488355328 := by simp
   refine .t rfl rfl (O.app (l := []) sl45 api_Leg.ok h2 rfl rfl rfl rfl) ?_
   refine .v rfl rfl (OpL.move (.inr rfl) rfl) ?_
   refine .nil ?_
   refine W.ret ?_
   exact leaves (.inr rfl) rfl (.own _ _ _ _ rfl) (cN .nil) rfl rfl

noncomputable def cmp_Or_int.b0 (x0 : List Int) (v4 : Int) : Option (Int ⊕ (Int ⊕ Unit)) :=
  if (decide (v4 < (List.length x0 : Int))) = true then
    if (0 : Int) ≤ v4 ∧ v4 < (List.length x0 : Int) then
    if ((nth x0 v4) != 0) = true then
      some (.inr (.inl (nth x0 v4)))
    else
      some (.inl (IntKind.wrap .i64 (v4 + 1)))
    else none
  else
    some (.inr (.inr ()))
noncomputable def cmp_Or_int.r0 (x0 : List Int) (s : Int) : Option (Int ⊕ (Int ⊕ Unit)) := cmp_Or_int.b0 x0 s
noncomputable def cmp_Or_int.f (x0 : List Int) : Option (Int) :=
  (loop (cmp_Or_int.r0 x0) 0).bind fun o12 =>
  match o12 with
  | .inl r18 => some r18
  | .inr w11 =>
    some 0
set_option maxRecDepth 100000 in
set_option maxHeartbeats 4000000 in
theorem cmp_Or_int.ok {x0 : List Int} {r : Int} (h : cmp_Or_int.f x0 = some r) : Pm.Spec prog 41 [.xown 3 1 (List.map (encI .i64) x0)] (.imm (.val (.int .i64 r))) [some (.xown 3 1 (List.map (encI .i64) x0))] := by
 unfold cmp_Or_int.f at h; refine Pm.Spec.of_body Try.func41 rfl (by kernel_rfl) (Nat.le_of_ble_eq_true rfl) (Nat.le_of_ble_eq_true rfl) ?_; refine W.ghost (σ' := (mkSt [(0, some (.own 0))] [(0, some (.rows 3 1 (List.map (encI .i64) x0) false))] 1000)) (Gives.entry (.c rfl .n) (.c rfl .n)) ?_; refine W.seq ?_; refine W.pk ?_; refine .a rfl rfl rfl rfl ?_; refine .nil ?_; refine W.seq ?_; refine W.pk ?_; refine .a rfl rfl rfl rfl ?_; refine .nil ?_; (iterate 2 refine W.seq ?_); refine W.pk ?_; refine .m rfl rfl rfl rfl ?_; refine .v rfl rfl (O.lenO sl86 rfl rfl rfl) ?_; refine .m rfl rfl rfl rfl ?_; refine .nil ?_; obtain ⟨o12, b13, z14⟩ := bnd1 h; refine W.fork2 (out := o12) (fun (w11 : Unit) => mkSt [(3, some (.i 0))] [(0, some (.rows 3 1 (List.map (encI .i64) x0) false))] 1000) ?_ ?_
 ·clear h; refine W.block ?_; refine W.loopF (fun (s_ : Int) => mkSt [(3, some (.i 0)), (6, some (.own 0)), (7, some (.i (List.length x0 : Int))), (8, some (.i s_))] [(0, some (.rows 3 1 (List.map (encI .i64) x0) false))] 1000) b13 (Gives.mkR [] (.e rfl rfl) (.r rfl rfl rfl .n) rfl rfl rfl) ?_; rintro v4 s_ hr; have h : cmp_Or_int.b0 x0 v4 = some s_ := hr; unfold cmp_Or_int.b0 at h; refine W.seq ?_; refine W.pk ?_; refine .v rfl rfl (OpL.binI rfl rfl rfl rfl) ?_; refine .nil ?_; refine W.seq ?_; refine W.cond rfl (fun q15 => ?_) (fun q15 => ?_)
  ·have h := ifT q15 h; refine W.skip ?_; refine W.seq ?_; refine W.block ?_; refine W.seq ?_; obtain ⟨c16, h⟩ := chk h; refine W.pk ?_; refine .v rfl rfl (O.idxO sl86 c16 rfl rfl rfl rfl) ?_; refine .v rfl rfl (O.ldE (c := (.val (.int .i64 (nth x0 v4)))) ty3 c16 rfl rfl rfl rfl rfl) ?_; refine .a rfl rfl rfl rfl ?_; refine .nil ?_; refine W.seq ?_; refine W.pk ?_; (iterate 2 refine .m rfl rfl rfl rfl ?_); refine .v rfl rfl (OpL.binI rfl rfl rfl rfl) ?_; refine .nil ?_; refine W.cond rfl (fun q17 => ?_) (fun q17 => ?_)
   ·have h := ifT q17 h; refine W.seq ?_; refine W.pk ?_; refine .m rfl rfl rfl rfl ?_; refine .a rfl rfl rfl rfl ?_; refine .nil ?_; refine W.ret ?_; cases h; refine rdR fun e_ => ?_; subst e_; have h := z14; dsimp only at h; refine fkR ?_; cases h; exact leaves (.inr rfl) rfl (.imm _) (cS (.own _ _ _ _ rfl) .nil) rfl rfl
   ·have h := ifF q17 h; refine W.skip ?_; refine W.pk ?_; refine .v rfl rfl (OpL.binI rfl rfl rfl rfl) ?_; refine .m rfl rfl rfl rfl ?_; refine .nil ?_; cases h; exact rdN (Gives.mkR [] (.e rfl rfl) (.r rfl rfl rfl .n) rfl rfl rfl)
  ·have h := ifF q15 h; refine W.exit ?_; cases h; refine rdX fun e_ => ?_; subst e_; (repeat with_reducible refine thru ?_); refine hit ?_; exact fkN (Gives.mkR [] (.r rfl rfl .n) (.r rfl rfl rfl .n) rfl rfl rfl)
 ·intro w11 e_; subst e_; clear h; have h := z14; dsimp only at h; refine W.seq ?_; refine W.pk ?_; refine .m rfl rfl rfl rfl ?_; refine .a rfl rfl rfl rfl ?_; refine .nil ?_; refine W.ret ?_; cases h; exact leaves (.inr rfl) rfl (.imm _) (cS (.own _ _ _ _ rfl) .nil) rfl rfl

noncomputable def leg_Order_1_v2.f (x0 : api_Leg) (x1 : api_Leg) : Option (Int) :=
  (cmp_Compare_int.f x0.Day x1.Day).bind fun t1 =>
  (cmp_Compare_int.f x0.Member x1.Member).bind fun t3 =>
  (cmp_Compare_int.f x0.Trade x1.Trade).bind fun t5 =>
  (cmp_Or_int.f [t1, t3, t5]).bind fun t7 =>
  some t7
set_option maxRecDepth 100000 in
set_option maxHeartbeats 4000000 in
theorem leg_Order_1_v2.ok {x0 : api_Leg} {x1 : api_Leg} {r : Int} (h : leg_Order_1_v2.f x0 x1 = some r) : Pm.Spec prog 40 [.agg [.imm (.val (.int .i64 x0.Day)), .imm (.val (.int .i64 x0.Member)), .imm (.val (.int .i64 x0.Trade)), .imm (.val (.int .i64 x0.Cash)), .imm (.row 2 (List.map api_Lot.enc x0.Lots))], .agg [.imm (.val (.int .i64 x1.Day)), .imm (.val (.int .i64 x1.Member)), .imm (.val (.int .i64 x1.Trade)), .imm (.val (.int .i64 x1.Cash)), .imm (.row 2 (List.map api_Lot.enc x1.Lots))]] (.imm (.val (.int .i64 r))) [none, none] := by
 unfold leg_Order_1_v2.f at h; refine Pm.Spec.of_body Try.func40 rfl (by kernel_rfl) (Nat.le_of_ble_eq_true rfl) (Nat.le_of_ble_eq_true rfl) ?_; refine W.ghost (σ' := (mkSt [(0, some (.agg (api_Leg.av x0))), (1, some (.agg (api_Leg.av x1)))] [] 1000)) (Gives.entry (.c rfl (.c rfl .n)) .n) ?_; refine W.seq ?_; refine W.pk ?_; (iterate 2 refine .t rfl rfl (O.box rfl rfl rfl rfl rfl) ?_); refine .a rfl rfl rfl rfl ?_; refine .nil ?_; refine W.seq ?_; obtain ⟨t1, b2, h⟩ := bnd1 h; obtain ⟨t3, b4, h⟩ := bnd1 h; obtain ⟨t5, b6, h⟩ := bnd1 h; obtain ⟨t7, b8, h⟩ := bnd1 h; refine W.dk (unm 18 [0, 1, 0, 4, 15, 0, 32, 0, 128, 511, 0, 1024, 0, 4096, 16383, 32767, 65535, 131071]) rfl (by kernel_rfl) ?_; refine .v rfl rfl (O.fld fld31_0 rfl rfl rfl) ?_; refine .v rfl rfl (O.ld (y := .i x0.Day) ty3 rfl rfl rfl) ?_; refine .v rfl rfl (O.fld fld31_0 rfl rfl rfl) ?_; refine .v rfl rfl (O.ld (y := .i x1.Day) ty3 rfl rfl rfl) ?_; refine .call (.i t1) [] 0 (cmp_Compare_int.ok b2) rfl rfl rfl ca42 rfl rfl (cC (.imm _) (cC (.imm _) .nil)) rfl rfl rfl rfl rfl ?_; refine .v rfl rfl (O.fld fld31_1 rfl rfl rfl) ?_; refine .v rfl rfl (O.ld (y := .i x0.Member) ty3 rfl rfl rfl) ?_; refine .v rfl rfl (O.fld fld31_1 rfl rfl rfl) ?_; refine .v rfl rfl (O.ld (y := .i x1.Member) ty3 rfl rfl rfl) ?_; refine .call (.i t3) [] 0 (cmp_Compare_int.ok b4) rfl rfl rfl ca42 rfl rfl (cC (.imm _) (cC (.imm _) .nil)) rfl rfl rfl rfl rfl ?_; refine .v rfl rfl (O.fld fld31_2 rfl rfl rfl) ?_; refine .v rfl rfl (O.ld (y := .i x0.Trade) ty3 rfl rfl rfl) ?_; refine .v rfl rfl (O.fld fld31_2 rfl rfl rfl) ?_; refine .v rfl rfl (O.ld (y := .i x1.Trade) ty3 rfl rfl rfl) ?_; refine .call (.i t5) [] 0 (cmp_Compare_int.ok b6) rfl rfl rfl ca42 rfl rfl (cC (.imm _) (cC (.imm _) .nil)) rfl rfl rfl rfl rfl ?_; refine .t rfl rfl (O.lit (enc := (encI .i64)) (l := [t1, t3, t5]) sl86 rfl rfl rfl rfl rfl rfl rfl rfl rfl) ?_; refine .call (.i t7) [(1002, some (.rows 3 1 (List.map (encI .i64) [t1, t3, t5]) false)), (1002, none)] 0 (cmp_Or_int.ok b8) rfl rfl rfl ca41 rfl rfl (cC (.own _ _ _ _ rfl) .nil) rfl rfl rfl rfl rfl ?_; refine .a rfl rfl rfl rfl ?_; refine .nil ?_; refine ⟨by kernel_rfl, by kernel_rfl, ?_⟩; refine W.ret ?_; cases h; exact leaves (.inr rfl) rfl (.imm _) (cN (cN .nil)) rfl rfl
end Go.Proofs.Ytlgfdldonoaahaa
