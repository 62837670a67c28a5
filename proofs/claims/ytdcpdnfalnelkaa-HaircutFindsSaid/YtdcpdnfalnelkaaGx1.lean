/- Shows what functions of the program come to, each as a plain function: written by a program of the author's for this claim. -/
import Derived.Test.YtdcpdnfalnelkaaGx0
namespace Go.Proofs.Ytdcpdnfalnelkaa
open Go Go.Pm
set_option linter.unusedVariables false
set_option linter.unusedSimpArgs false
noncomputable def lombardref10_Basket.b0 (x0 : api_Basket) (v40 : Int) : Option (Int ⊕ (Int ⊕ Unit)) :=
  if (decide (v40 < (List.length x0.Cuts : Int))) = true then
    if (0 : Int) ≤ v40 ∧ v40 < (List.length x0.Cuts : Int) then
    (lombardref10_in.f ((nth x0.Cuts v40).Days) 0 200000).bind fun t73 =>
    if ((!t73) = false → (0 : Int) ≤ v40 ∧ v40 < (List.length x0.Cuts : Int)) then
    (if (!t73) = false then lombardref10_in.f ((nth x0.Cuts v40).Rating) 0 20 else some default).bind fun t76 =>
    if (((!t73) || (!t76)) = false → (0 : Int) ≤ v40 ∧ v40 < (List.length x0.Cuts : Int)) then
    (if ((!t73) || (!t76)) = false then lombardref10_in.f ((nth x0.Cuts v40).Cut) 0 999999 else some default).bind fun t79 =>
    if (((!t73) || (!t76)) || (!t79)) = true then
      some (.inr (.inl 1))
    else
      some (.inl (IntKind.wrap .i64 (v40 + 1)))
    else none
    else none
    else none
  else
    some (.inr (.inr ()))
noncomputable def lombardref10_Basket.r0 (x0 : api_Basket) (s : Int) : Option (Int ⊕ (Int ⊕ Unit)) := lombardref10_Basket.b0 x0 s
noncomputable def lombardref10_Basket.b1 (x0 : api_Basket) (v94 : Int) : Option (Int ⊕ (Int ⊕ Unit)) :=
  if (decide (v94 < (List.length x0.Barred : Int))) = true then
    if (0 : Int) ≤ v94 ∧ v94 < (List.length x0.Barred : Int) then
    (lombardref10_in.f (nth x0.Barred v94) 0 9999).bind fun t119 =>
    if ((!t119) = false ∧ (decide (v94 > 0)) = true → (0 : Int) ≤ v94 ∧ v94 < (List.length x0.Barred : Int)) then
    if ((!t119) = false ∧ (decide (v94 > 0)) = true → (0 : Int) ≤ (IntKind.wrap .i64 (v94 - 1)) ∧ (IntKind.wrap .i64 (v94 - 1)) < (List.length x0.Barred : Int)) then
    if ((!t119) || ((decide (v94 > 0)) && (decide ((nth x0.Barred v94) ≤ (nth x0.Barred (IntKind.wrap .i64 (v94 - 1))))))) = true then
      some (.inr (.inl 1))
    else
      some (.inl (IntKind.wrap .i64 (v94 + 1)))
    else none
    else none
    else none
  else
    some (.inr (.inr ()))
noncomputable def lombardref10_Basket.r1 (x0 : api_Basket) (s : Int) : Option (Int ⊕ (Int ⊕ Unit)) := lombardref10_Basket.b1 x0 s
noncomputable def lombardref10_Basket.f (x0 : api_Basket) : Option (Int) :=
  (lombardref10_in.f x0.ID 1 64).bind fun t1 =>
  (if (!t1) = false then lombardref10_Amount.f x0.Version else some default).bind fun t3 =>
  (if ((!t1) || (!t3)) = false then lombardref10_in.f x0.Rating 0 20 else some default).bind fun t5 =>
  (if (((!t1) || (!t3)) || (!t5)) = false then lombardref10_in.f x0.Issuer 0 1000000 else some default).bind fun t7 =>
  (if ((((!t1) || (!t3)) || (!t5)) || (!t7)) = false then lombardref10_in.f x0.Asset 0 1000000 else some default).bind fun t9 =>
  (if (((((!t1) || (!t3)) || (!t5)) || (!t7)) || (!t9)) = false then lombardref10_in.f (List.length x0.Cuts : Int) 1 64 else some default).bind fun t11 =>
  if (((((((!t1) || (!t3)) || (!t5)) || (!t7)) || (!t9)) || (!t11)) || (decide ((List.length x0.Barred : Int) > 64))) = true then
    some 1
  else
    (if (decide (x0.Least < 0)) = false then lombardref10_in.f x0.Most x0.Least 200000 else some default).bind fun t20 =>
    if ((decide (x0.Least < 0)) || (!t20)) = true then
      some 10
    else
      (lombardref05_Currency.f x0.Currency).bind fun t24 =>
      if (!t24) = true then
        some 11
      else
        (loop (lombardref10_Basket.r0 x0) 0).bind fun o68 =>
        match o68 with
        | .inl r84 => some r84
        | .inr w67 =>
          (loop (lombardref10_Basket.r1 x0) 0).bind fun o114 =>
          match o114 with
          | .inl r126 => some r126
          | .inr w113 =>
            some 0
set_option maxRecDepth 100000 in
set_option maxHeartbeats 4000000 in
theorem lombardref10_Basket.ok {x0 : api_Basket} {r : Int} (h : lombardref10_Basket.f x0 = some r) : Pm.Spec prog 16 [.agg [.imm (.val (.int .i64 x0.ID)), .imm (.val (.int .i64 x0.Version)), .imm (.val (.string (tx x0.Currency))), .imm (.val (.int .i64 x0.Rating)), .imm (.val (.int .i64 x0.Least)), .imm (.val (.int .i64 x0.Most)), .imm (.row 3 (List.map api_Cut.enc x0.Cuts)), .imm (.val (.int .i64 x0.Issuer)), .imm (.val (.int .i64 x0.Asset)), .imm (.row 1 (List.map (encI .i64) x0.Barred))]] (.imm (.val (.int .i64 r))) [none] := by
 unfold lombardref10_Basket.f at h
 refine Pm.Spec.of_body Try.func16 rfl (by kernel_rfl) (Nat.le_of_ble_eq_true rfl) (Nat.le_of_ble_eq_true rfl) ?_
 refine W.ghost (σ' := (mkSt [(0, some (.agg (api_Basket.av x0)))] [] 1000)) (Gives.entry (.c rfl .n) .n) ?_
 refine W.seq ?_
 refine W.pk ?_
 refine .t rfl rfl (O.box rfl rfl rfl rfl rfl) ?_
 refine .a rfl rfl rfl rfl ?_
 refine .nil ?_
 refine W.seq ?_
 refine W.seq ?_
 obtain ⟨t1, b2, h⟩ := bnd1 h
 obtain ⟨t3, b4, h⟩ := bnd1 h
 obtain ⟨t5, b6, h⟩ := bnd1 h
 obtain ⟨t7, b8, h⟩ := bnd1 h
 obtain ⟨t9, b10, h⟩ := bnd1 h
 obtain ⟨t11, b12, h⟩ := bnd1 h
 refine W.fork (mkSt [(1, some (.ptr 1000 0)), (45, some (.b (((((((!t1) || (!t3)) || (!t5)) || (!t7)) || (!t9)) || (!t11)) || (decide ((List.length x0.Barred : Int) > 64)))))] [(1000, some (.box [.i x0.ID, .i x0.Version, .s x0.Currency, .i x0.Rating, .i x0.Least, .i x0.Most, .imm (.row 3 (List.map api_Cut.enc x0.Cuts)), .i x0.Issuer, .i x0.Asset, .imm (.row 1 (List.map (encI .i64) x0.Barred))]))] 1001) ?_ ?_
 ·refine W.cond rfl (fun q19 => ?_) (fun q19 => ?_)
  ·have h := ifT q19 h
   refine W.seq ?_
   refine W.pk ?_
   refine .a rfl rfl rfl rfl ?_
   refine .nil ?_
   refine W.ret ?_
   cases h
   exact leaves (.inr rfl) rfl (.imm _) (cN .nil) rfl rfl
  ·have h := ifF q19 h
   refine W.skip ?_
   refine W.seq ?_
   refine W.seq ?_
   obtain ⟨t20, b21, h⟩ := bnd1 h
   refine W.fork (mkSt [(1, some (.ptr 1000 0)), (56, some (.b ((decide (x0.Least < 0)) || (!t20))))] [(1000, some (.box [.i x0.ID, .i x0.Version, .s x0.Currency, .i x0.Rating, .i x0.Least, .i x0.Most, .imm (.row 3 (List.map api_Cut.enc x0.Cuts)), .i x0.Issuer, .i x0.Asset, .imm (.row 1 (List.map (encI .i64) x0.Barred))]))] 1001) ?_ ?_
   ·refine W.cond rfl (fun q23 => ?_) (fun q23 => ?_)
    ·have h := ifT q23 h
     refine W.seq ?_
     refine W.pk ?_
     refine .a rfl rfl rfl rfl ?_
     refine .nil ?_
     refine W.ret ?_
     cases h
     exact leaves (.inr rfl) rfl (.imm _) (cN .nil) rfl rfl
    ·have h := ifF q23 h
     refine W.skip ?_
     refine W.seq ?_
     refine W.seq ?_
     obtain ⟨t24, b25, h⟩ := bnd1 h
     refine W.pk ?_
     refine .v rfl rfl (O.fld fld36_2 rfl rfl rfl) ?_
     refine .v rfl rfl (O.ld (y := .s x0.Currency) ty9 rfl rfl rfl) ?_
     refine .call (.b t24) [] 0 (lombardref05_Currency.ok b25) rfl rfl rfl ca41 rfl rfl (cC (.imm _) .nil) rfl rfl rfl rfl rfl ?_
     refine .v rfl rfl (OpL.unV rfl rfl rfl) ?_
     refine .nil ?_
     refine W.cond rfl (fun q26 => ?_) (fun q26 => ?_)
     ·have h := ifT q26 h
      refine W.seq ?_
      refine W.pk ?_
      refine .a rfl rfl rfl rfl ?_
      refine .nil ?_
      refine W.ret ?_
      cases h
      exact leaves (.inr rfl) rfl (.imm _) (cN .nil) rfl rfl
     ·have h := ifF q26 h
      refine W.skip ?_
      refine W.seq ?_
      refine W.seq ?_
      refine W.pk ?_
      refine .a rfl rfl rfl rfl ?_
      refine .nil ?_
      obtain ⟨o68, b69, z70⟩ := bnd1 h
      refine W.fork2 (out := o68) (fun (w67 : Unit) => mkSt [(1, some (.ptr 1000 0))] [(1000, some (.box [.i x0.ID, .i x0.Version, .s x0.Currency, .i x0.Rating, .i x0.Least, .i x0.Most, .imm (.row 3 (List.map api_Cut.enc x0.Cuts)), .i x0.Issuer, .i x0.Asset, .imm (.row 1 (List.map (encI .i64) x0.Barred))]))] 1001) ?_ ?_
      ·clear h
       refine W.block ?_
       refine W.loopF (fun (s_ : Int) => mkSt [(1, some (.ptr 1000 0)), (3, some (.i s_))] [(1000, some (.box [.i x0.ID, .i x0.Version, .s x0.Currency, .i x0.Rating, .i x0.Least, .i x0.Most, .imm (.row 3 (List.map api_Cut.enc x0.Cuts)), .i x0.Issuer, .i x0.Asset, .imm (.row 1 (List.map (encI .i64) x0.Barred))]))] 1001) b69 (Gives.mkR [] (.r rfl rfl (.r rfl rfl .n)) (.r rfl rfl rfl .n) rfl rfl rfl) ?_
       rintro v40 s_ hr
       have h : lombardref10_Basket.b0 x0 v40 = some s_ := hr
       unfold lombardref10_Basket.b0 at h
       refine W.seq ?_
       refine W.seq ?_
       refine W.pk ?_
       refine .m rfl rfl rfl rfl ?_
       refine .v rfl rfl (O.fld fld36_6 rfl rfl rfl) ?_
       refine .v rfl rfl (O.ld (y := .imm (.row 3 (List.map api_Cut.enc x0.Cuts))) ty33 rfl rfl rfl) ?_
       refine .v rfl rfl (O.lenR sl33 rfl rfl) ?_
       refine .v rfl rfl (OpL.binI rfl rfl rfl rfl) ?_
       refine .nil ?_
       refine W.cond rfl (fun q71 => ?_) (fun q71 => ?_)
       ·have h := ifT q71 h
        refine W.skip ?_
        refine W.seq ?_
        refine W.block ?_
        refine W.seq ?_
        obtain ⟨c72, h⟩ := chk h
        obtain ⟨t73, b74, h⟩ := bnd1 h
        obtain ⟨c75, h⟩ := chk h
        obtain ⟨t76, b77, h⟩ := bnd1 h
        obtain ⟨c78, h⟩ := chk h
        obtain ⟨t79, b80, h⟩ := bnd1 h
        refine W.fork (mkSt [(1, some (.ptr 1000 0)), (3, some (.i v40)), (95, some (.b (((!t73) || (!t76)) || (!t79))))] [(1000, some (.box [.i x0.ID, .i x0.Version, .s x0.Currency, .i x0.Rating, .i x0.Least, .i x0.Most, .imm (.row 3 (List.map api_Cut.enc x0.Cuts)), .i x0.Issuer, .i x0.Asset, .imm (.row 1 (List.map (encI .i64) x0.Barred))]))] 1001) ?_ ?_
        ·refine W.cond rfl (fun q83 => ?_) (fun q83 => ?_)
         ·have h := ifT q83 h
          refine W.seq ?_
          refine W.pk ?_
          refine .a rfl rfl rfl rfl ?_
          refine .nil ?_
          refine W.ret ?_
          cases h
          refine rdR fun e_ => ?_
          subst e_
          have h := z70
          dsimp only at h
          refine fkR ?_
          cases h
          exact leaves (.inr rfl) rfl (.imm _) (cN .nil) rfl rfl
         ·have h := ifF q83 h
          refine W.skip ?_
          refine W.pk ?_
          refine .m rfl rfl rfl rfl ?_
          refine .v rfl rfl (OpL.binI rfl rfl rfl rfl) ?_
          refine .a rfl rfl rfl rfl ?_
          refine .nil ?_
          cases h
          exact rdN (Gives.mkR [] (.r rfl rfl (.r rfl rfl .n)) (.r rfl rfl rfl .n) rfl rfl rfl)
        ·clear h
         rcases tf t73 with g81 | g81
         ·rcases tf t76 with g82 | g82
          ·refine W.pk ?_
           refine .v rfl rfl (O.fld fld36_6 rfl rfl rfl) ?_
           refine .v rfl rfl (O.ld (y := .imm (.row 3 (List.map api_Cut.enc x0.Cuts))) ty33 rfl rfl rfl) ?_
           refine .m rfl rfl rfl rfl ?_
           refine .v rfl rfl (O.idx sl33 c72 rfl rfl rfl) ?_
           refine .v rfl rfl (O.fld fld80_0 rfl rfl rfl) ?_
           refine .v rfl rfl (O.ld (y := .i ((nth x0.Cuts v40).Days)) ty3 rfl rfl rfl) ?_
           refine .call (.b t73) [] 0 (lombardref10_in.ok b74) rfl rfl rfl ca39 rfl rfl (cC (.imm _) (cC (.imm _) (cC (.imm _) .nil))) rfl rfl rfl rfl rfl ?_
           refine .v rfl rfl (OpL.unV rfl rfl rfl) ?_
           refine .m rfl rfl rfl rfl ?_
           refine .v rfl (met rfl rfl rfl (notT g81)) (O.fld fld36_6 rfl rfl rfl) ?_
           refine .v rfl (met rfl rfl rfl (notT g81)) (O.ld (y := .imm (.row 3 (List.map api_Cut.enc x0.Cuts))) ty33 rfl rfl rfl) ?_
           refine .m rfl (met rfl rfl rfl (notT g81)) rfl rfl ?_
           refine .v rfl (met rfl rfl rfl (notT g81)) (O.idx sl33 (c75 (by first | (simp only [g81, g82, Bool.true_or, Bool.or_true, Bool.false_or, Bool.or_false, Bool.true_and, Bool.and_true, Bool.false_and, Bool.and_false, Bool.not_true, Bool.not_false, cond_true, cond_false]; done) | (repeat (first | rw [g81] | rw [g82])) <;> simp only [Bool.true_or, Bool.or_true, Bool.false_or, Bool.or_false, Bool.true_and, Bool.and_true, Bool.false_and, Bool.and_false, Bool.not_true, Bool.not_false, cond_true, cond_false])) rfl rfl rfl) ?_
           refine .v rfl (met rfl rfl rfl (notT g81)) (O.fld fld80_1 rfl rfl rfl) ?_
           refine .v rfl (met rfl rfl rfl (notT g81)) (O.ld (y := .i ((nth x0.Cuts v40).Rating)) ty3 rfl rfl rfl) ?_
           refine .call (.b t76) [] 0 (lombardref10_in.ok ((if_pos (by first | (simp only [g81, g82, Bool.true_or, Bool.or_true, Bool.false_or, Bool.or_false, Bool.true_and, Bool.and_true, Bool.false_and, Bool.and_false, Bool.not_true, Bool.not_false, cond_true, cond_false]; done) | (repeat (first | rw [g81] | rw [g82])) <;> simp only [Bool.true_or, Bool.or_true, Bool.false_or, Bool.or_false, Bool.true_and, Bool.and_true, Bool.false_and, Bool.and_false, Bool.not_true, Bool.not_false, cond_true, cond_false])).symm.trans b77)) rfl (met rfl rfl rfl (notT g81)) rfl ca39 rfl rfl (cC (.imm _) (cC (.imm _) (cC (.imm _) .nil))) rfl rfl rfl rfl rfl ?_
           refine .v rfl (met rfl rfl rfl (notT g81)) (OpL.unV rfl rfl rfl) ?_
           refine .v rfl rfl (O.pickF (notT g81) rfl rfl rfl) ?_
           refine .m rfl rfl rfl rfl ?_
           refine .v rfl (met rfl rfl rfl (notT g82)) (O.fld fld36_6 rfl rfl rfl) ?_
           refine .v rfl (met rfl rfl rfl (notT g82)) (O.ld (y := .imm (.row 3 (List.map api_Cut.enc x0.Cuts))) ty33 rfl rfl rfl) ?_
           refine .m rfl (met rfl rfl rfl (notT g82)) rfl rfl ?_
           refine .v rfl (met rfl rfl rfl (notT g82)) (O.idx sl33 (c78 (by first | (simp only [g81, g82, Bool.true_or, Bool.or_true, Bool.false_or, Bool.or_false, Bool.true_and, Bool.and_true, Bool.false_and, Bool.and_false, Bool.not_true, Bool.not_false, cond_true, cond_false]; done) | (repeat (first | rw [g81] | rw [g82])) <;> simp only [Bool.true_or, Bool.or_true, Bool.false_or, Bool.or_false, Bool.true_and, Bool.and_true, Bool.false_and, Bool.and_false, Bool.not_true, Bool.not_false, cond_true, cond_false])) rfl rfl rfl) ?_
           refine .v rfl (met rfl rfl rfl (notT g82)) (O.fld fld80_2 rfl rfl rfl) ?_
           refine .v rfl (met rfl rfl rfl (notT g82)) (O.ld (y := .i ((nth x0.Cuts v40).Cut)) ty3 rfl rfl rfl) ?_
           refine .call (.b t79) [] 0 (lombardref10_in.ok ((if_pos (by first | (simp only [g81, g82, Bool.true_or, Bool.or_true, Bool.false_or, Bool.or_false, Bool.true_and, Bool.and_true, Bool.false_and, Bool.and_false, Bool.not_true, Bool.not_false, cond_true, cond_false]; done) | (repeat (first | rw [g81] | rw [g82])) <;> simp only [Bool.true_or, Bool.or_true, Bool.false_or, Bool.or_false, Bool.true_and, Bool.and_true, Bool.false_and, Bool.and_false, Bool.not_true, Bool.not_false, cond_true, cond_false])).symm.trans b80)) rfl (met rfl rfl rfl (notT g82)) rfl ca39 rfl rfl (cC (.imm _) (cC (.imm _) (cC (.imm _) .nil))) rfl rfl rfl rfl rfl ?_
           refine .v rfl (met rfl rfl rfl (notT g82)) (OpL.unV rfl rfl rfl) ?_
           refine .v rfl rfl (O.pickF (notT g82) rfl rfl rfl) ?_
           refine .nil ?_
           exact toN (Gives.mkR [] (.r rfl rfl (.r rfl rfl (.c rfl (sbb (by first | (simp only [g81, g82, Bool.true_or, Bool.or_true, Bool.false_or, Bool.or_false, Bool.true_and, Bool.and_true, Bool.false_and, Bool.and_false, Bool.not_true, Bool.not_false, cond_true, cond_false]; done) | (repeat (first | rw [g81] | rw [g82])) <;> simp only [Bool.true_or, Bool.or_true, Bool.false_or, Bool.or_false, Bool.true_and, Bool.and_true, Bool.false_and, Bool.and_false, Bool.not_true, Bool.not_false, cond_true, cond_false])) rfl .n))) (.r rfl rfl rfl .n) rfl rfl rfl)
          ·refine W.pk ?_
           refine .v rfl rfl (O.fld fld36_6 rfl rfl rfl) ?_
           refine .v rfl rfl (O.ld (y := .imm (.row 3 (List.map api_Cut.enc x0.Cuts))) ty33 rfl rfl rfl) ?_
           refine .m rfl rfl rfl rfl ?_
           refine .v rfl rfl (O.idx sl33 c72 rfl rfl rfl) ?_
           refine .v rfl rfl (O.fld fld80_0 rfl rfl rfl) ?_
           refine .v rfl rfl (O.ld (y := .i ((nth x0.Cuts v40).Days)) ty3 rfl rfl rfl) ?_
           refine .call (.b t73) [] 0 (lombardref10_in.ok b74) rfl rfl rfl ca39 rfl rfl (cC (.imm _) (cC (.imm _) (cC (.imm _) .nil))) rfl rfl rfl rfl rfl ?_
           refine .v rfl rfl (OpL.unV rfl rfl rfl) ?_
           refine .m rfl rfl rfl rfl ?_
           refine .v rfl (met rfl rfl rfl (notT g81)) (O.fld fld36_6 rfl rfl rfl) ?_
           refine .v rfl (met rfl rfl rfl (notT g81)) (O.ld (y := .imm (.row 3 (List.map api_Cut.enc x0.Cuts))) ty33 rfl rfl rfl) ?_
           refine .m rfl (met rfl rfl rfl (notT g81)) rfl rfl ?_
           refine .v rfl (met rfl rfl rfl (notT g81)) (O.idx sl33 (c75 (by first | (simp only [g81, g82, Bool.true_or, Bool.or_true, Bool.false_or, Bool.or_false, Bool.true_and, Bool.and_true, Bool.false_and, Bool.and_false, Bool.not_true, Bool.not_false, cond_true, cond_false]; done) | (repeat (first | rw [g81] | rw [g82])) <;> simp only [Bool.true_or, Bool.or_true, Bool.false_or, Bool.or_false, Bool.true_and, Bool.and_true, Bool.false_and, Bool.and_false, Bool.not_true, Bool.not_false, cond_true, cond_false])) rfl rfl rfl) ?_
           refine .v rfl (met rfl rfl rfl (notT g81)) (O.fld fld80_1 rfl rfl rfl) ?_
           refine .v rfl (met rfl rfl rfl (notT g81)) (O.ld (y := .i ((nth x0.Cuts v40).Rating)) ty3 rfl rfl rfl) ?_
           refine .call (.b t76) [] 0 (lombardref10_in.ok ((if_pos (by first | (simp only [g81, g82, Bool.true_or, Bool.or_true, Bool.false_or, Bool.or_false, Bool.true_and, Bool.and_true, Bool.false_and, Bool.and_false, Bool.not_true, Bool.not_false, cond_true, cond_false]; done) | (repeat (first | rw [g81] | rw [g82])) <;> simp only [Bool.true_or, Bool.or_true, Bool.false_or, Bool.or_false, Bool.true_and, Bool.and_true, Bool.false_and, Bool.and_false, Bool.not_true, Bool.not_false, cond_true, cond_false])).symm.trans b77)) rfl (met rfl rfl rfl (notT g81)) rfl ca39 rfl rfl (cC (.imm _) (cC (.imm _) (cC (.imm _) .nil))) rfl rfl rfl rfl rfl ?_
           refine .v rfl (met rfl rfl rfl (notT g81)) (OpL.unV rfl rfl rfl) ?_
           refine .v rfl rfl (O.pickF (notT g81) rfl rfl rfl) ?_
           refine .m rfl rfl rfl rfl ?_
           refine .x rfl (unmet rfl rfl rfl (notF g82)) ?_
           refine .x rfl (unmet rfl rfl rfl (notF g82)) ?_
           refine .x rfl (unmet rfl rfl rfl (notF g82)) ?_
           refine .x rfl (unmet rfl rfl rfl (notF g82)) ?_
           refine .x rfl (unmet rfl rfl rfl (notF g82)) ?_
           refine .x rfl (unmet rfl rfl rfl (notF g82)) ?_
           refine .x rfl (unmet rfl rfl rfl (notF g82)) ?_
           refine .x rfl (unmet rfl rfl rfl (notF g82)) ?_
           refine .v rfl rfl (O.pickT (notF g82) rfl rfl rfl) ?_
           refine .nil ?_
           exact toN (Gives.mkR [] (.r rfl rfl (.r rfl rfl (.c rfl (sbb (by first | (simp only [g81, g82, Bool.true_or, Bool.or_true, Bool.false_or, Bool.or_false, Bool.true_and, Bool.and_true, Bool.false_and, Bool.and_false, Bool.not_true, Bool.not_false, cond_true, cond_false]; done) | (repeat (first | rw [g81] | rw [g82])) <;> simp only [Bool.true_or, Bool.or_true, Bool.false_or, Bool.or_false, Bool.true_and, Bool.and_true, Bool.false_and, Bool.and_false, Bool.not_true, Bool.not_false, cond_true, cond_false])) rfl .n))) (.r rfl rfl rfl .n) rfl rfl rfl)
         ·refine W.pk ?_
          refine .v rfl rfl (O.fld fld36_6 rfl rfl rfl) ?_
          refine .v rfl rfl (O.ld (y := .imm (.row 3 (List.map api_Cut.enc x0.Cuts))) ty33 rfl rfl rfl) ?_
          refine .m rfl rfl rfl rfl ?_
          refine .v rfl rfl (O.idx sl33 c72 rfl rfl rfl) ?_
          refine .v rfl rfl (O.fld fld80_0 rfl rfl rfl) ?_
          refine .v rfl rfl (O.ld (y := .i ((nth x0.Cuts v40).Days)) ty3 rfl rfl rfl) ?_
          refine .call (.b t73) [] 0 (lombardref10_in.ok b74) rfl rfl rfl ca39 rfl rfl (cC (.imm _) (cC (.imm _) (cC (.imm _) .nil))) rfl rfl rfl rfl rfl ?_
          refine .v rfl rfl (OpL.unV rfl rfl rfl) ?_
          refine .m rfl rfl rfl rfl ?_
          refine .x rfl (unmet rfl rfl rfl (notF g81)) ?_
          refine .x rfl (unmet rfl rfl rfl (notF g81)) ?_
          refine .x rfl (unmet rfl rfl rfl (notF g81)) ?_
          refine .x rfl (unmet rfl rfl rfl (notF g81)) ?_
          refine .x rfl (unmet rfl rfl rfl (notF g81)) ?_
          refine .x rfl (unmet rfl rfl rfl (notF g81)) ?_
          refine .x rfl (unmet rfl rfl rfl (notF g81)) ?_
          refine .x rfl (unmet rfl rfl rfl (notF g81)) ?_
          refine .v rfl rfl (O.pickT (notF g81) rfl rfl rfl) ?_
          refine .m rfl rfl rfl rfl ?_
          refine .x rfl (unmet rfl rfl rfl rfl) ?_
          refine .x rfl (unmet rfl rfl rfl rfl) ?_
          refine .x rfl (unmet rfl rfl rfl rfl) ?_
          refine .x rfl (unmet rfl rfl rfl rfl) ?_
          refine .x rfl (unmet rfl rfl rfl rfl) ?_
          refine .x rfl (unmet rfl rfl rfl rfl) ?_
          refine .x rfl (unmet rfl rfl rfl rfl) ?_
          refine .x rfl (unmet rfl rfl rfl rfl) ?_
          refine .v rfl rfl (O.pickT rfl rfl rfl rfl) ?_
          refine .nil ?_
          exact toN (Gives.mkR [] (.r rfl rfl (.r rfl rfl (.c rfl (sbb (by simp only [g81, Bool.true_or, Bool.or_true, Bool.false_or, Bool.or_false, Bool.true_and, Bool.and_true, Bool.false_and, Bool.and_false, Bool.not_true, Bool.not_false, cond_true, cond_false])) rfl .n))) (.r rfl rfl rfl .n) rfl rfl rfl)
       ·have h := ifF q71 h
        refine W.exit ?_
        cases h
        refine rdX fun e_ => ?_
        subst e_
        repeat with_reducible refine thru ?_
        refine hit ?_
        exact fkN (Gives.mkR [] (.r rfl rfl .n) (.r rfl rfl rfl .n) rfl rfl rfl)
      ·intro w67 e_
       subst e_
       clear h
       have h := z70
       dsimp only at h
       refine W.seq ?_
       refine W.seq ?_
       refine W.pk ?_
       refine .a rfl rfl rfl rfl ?_
       refine .nil ?_
       obtain ⟨o114, b115, z116⟩ := bnd1 h
       refine W.fork2 (out := o114) (fun (w113 : Unit) => mkSt [] [] 1001) ?_ ?_
       ·clear h
        refine W.block ?_
        refine W.loopF (fun (s_ : Int) => mkSt [(1, some (.ptr 1000 0)), (4, some (.i s_))] [(1000, some (.box [.i x0.ID, .i x0.Version, .s x0.Currency, .i x0.Rating, .i x0.Least, .i x0.Most, .imm (.row 3 (List.map api_Cut.enc x0.Cuts)), .i x0.Issuer, .i x0.Asset, .imm (.row 1 (List.map (encI .i64) x0.Barred))]))] 1001) b115 (Gives.mkR [] (.r rfl rfl (.r rfl rfl .n)) (.r rfl rfl rfl .n) rfl rfl rfl) ?_
        rintro v94 s_ hr
        have h : lombardref10_Basket.b1 x0 v94 = some s_ := hr
        unfold lombardref10_Basket.b1 at h
        refine W.seq ?_
        refine W.seq ?_
        refine W.pk ?_
        refine .m rfl rfl rfl rfl ?_
        refine .v rfl rfl (O.fld fld36_9 rfl rfl rfl) ?_
        refine .v rfl rfl (O.ld (y := .imm (.row 1 (List.map (encI .i64) x0.Barred))) ty34 rfl rfl rfl) ?_
        refine .v rfl rfl (O.lenR sl34 rfl rfl) ?_
        refine .v rfl rfl (OpL.binI rfl rfl rfl rfl) ?_
        refine .nil ?_
        refine W.cond rfl (fun q117 => ?_) (fun q117 => ?_)
        ·have h := ifT q117 h
         refine W.skip ?_
         refine W.seq ?_
         refine W.block ?_
         refine W.seq ?_
         obtain ⟨c118, h⟩ := chk h
         obtain ⟨t119, b120, h⟩ := bnd1 h
         obtain ⟨c121, h⟩ := chk h
         obtain ⟨c122, h⟩ := chk h
         refine W.fork (mkSt [(1, some (.ptr 1000 0)), (4, some (.i v94)), (127, some (.b ((!t119) || ((decide (v94 > 0)) && (decide ((nth x0.Barred v94) ≤ (nth x0.Barred (IntKind.wrap .i64 (v94 - 1)))))))))] [(1000, some (.box [.i x0.ID, .i x0.Version, .s x0.Currency, .i x0.Rating, .i x0.Least, .i x0.Most, .imm (.row 3 (List.map api_Cut.enc x0.Cuts)), .i x0.Issuer, .i x0.Asset, .imm (.row 1 (List.map (encI .i64) x0.Barred))]))] 1001) ?_ ?_
         ·refine W.cond rfl (fun q125 => ?_) (fun q125 => ?_)
          ·have h := ifT q125 h
           refine W.seq ?_
           refine W.pk ?_
           refine .a rfl rfl rfl rfl ?_
           refine .nil ?_
           refine W.ret ?_
           cases h
           refine rdR fun e_ => ?_
           subst e_
           have h := z116
           dsimp only at h
           refine fkR ?_
           cases h
           exact leaves (.inr rfl) rfl (.imm _) (cN .nil) rfl rfl
          ·have h := ifF q125 h
           refine W.skip ?_
           refine W.pk ?_
           refine .m rfl rfl rfl rfl ?_
           refine .v rfl rfl (OpL.binI rfl rfl rfl rfl) ?_
           refine .a rfl rfl rfl rfl ?_
           refine .nil ?_
           cases h
           exact rdN (Gives.mkR [] (.r rfl rfl (.r rfl rfl .n)) (.r rfl rfl rfl .n) rfl rfl rfl)
         ·clear h
          rcases tf t119 with g123 | g123
          ·rcases tf (decide (v94 > 0)) with g124 | g124
           ·refine W.dk (unm 25 [0, 1, 0, 7, 15, 31, 63, 127, 255, 511, 1023, 2047, 4095, 2047, 16383, 32767, 2047, 67583, 2047, 264191, 985087, 2033663, 4194303, 8388607, 16777215]) rfl (by kernel_rfl) ?_
            refine .v rfl rfl (O.fld fld36_9 rfl rfl rfl) ?_
            refine .v rfl rfl (O.ld (y := .imm (.row 1 (List.map (encI .i64) x0.Barred))) ty34 rfl rfl rfl) ?_
            refine .m rfl rfl rfl rfl ?_
            refine .v rfl rfl (O.idx sl34 c118 rfl rfl rfl) ?_
            refine .v rfl rfl (O.ld (y := .i (nth x0.Barred v94)) ty3 rfl rfl rfl) ?_
            refine .call (.b t119) [] 0 (lombardref10_in.ok b120) rfl rfl rfl ca39 rfl rfl (cC (.imm _) (cC (.imm _) (cC (.imm _) .nil))) rfl rfl rfl rfl rfl ?_
            refine .v rfl rfl (OpL.unV rfl rfl rfl) ?_
            refine .m rfl rfl rfl rfl ?_
            refine .m rfl (met rfl rfl rfl (notT g123)) rfl rfl ?_
            refine .v rfl (met rfl rfl rfl (notT g123)) (OpL.binI rfl rfl rfl rfl) ?_
            refine .m rfl (met rfl rfl rfl (notT g123)) rfl rfl ?_
            refine .v rfl (met rfl rfl rfl g124) (O.fld fld36_9 rfl rfl rfl) ?_
            refine .v rfl (met rfl rfl rfl g124) (O.ld (y := .imm (.row 1 (List.map (encI .i64) x0.Barred))) ty34 rfl rfl rfl) ?_
            refine .m rfl (met rfl rfl rfl g124) rfl rfl ?_
            refine .v rfl (met rfl rfl rfl g124) (O.idx sl34 (c121 ⟨(by first | (simp only [g123, g124, Bool.true_or, Bool.or_true, Bool.false_or, Bool.or_false, Bool.true_and, Bool.and_true, Bool.false_and, Bool.and_false, Bool.not_true, Bool.not_false, cond_true, cond_false]; done) | (repeat (first | rw [g123] | rw [g124])) <;> simp only [Bool.true_or, Bool.or_true, Bool.false_or, Bool.or_false, Bool.true_and, Bool.and_true, Bool.false_and, Bool.and_false, Bool.not_true, Bool.not_false, cond_true, cond_false]), (by first | (simp only [g123, g124, Bool.true_or, Bool.or_true, Bool.false_or, Bool.or_false, Bool.true_and, Bool.and_true, Bool.false_and, Bool.and_false, Bool.not_true, Bool.not_false, cond_true, cond_false]; done) | (repeat (first | rw [g123] | rw [g124])) <;> simp only [Bool.true_or, Bool.or_true, Bool.false_or, Bool.or_false, Bool.true_and, Bool.and_true, Bool.false_and, Bool.and_false, Bool.not_true, Bool.not_false, cond_true, cond_false])⟩) rfl rfl rfl) ?_
            refine .v rfl (met rfl rfl rfl g124) (O.ld (y := .i (nth x0.Barred v94)) ty3 rfl rfl rfl) ?_
            refine .v rfl (met rfl rfl rfl g124) (O.fld fld36_9 rfl rfl rfl) ?_
            refine .v rfl (met rfl rfl rfl g124) (O.ld (y := .imm (.row 1 (List.map (encI .i64) x0.Barred))) ty34 rfl rfl rfl) ?_
            refine .m rfl (met rfl rfl rfl g124) rfl rfl ?_
            refine .v rfl (met rfl rfl rfl g124) (OpL.binI rfl rfl rfl rfl) ?_
            refine .v rfl (met rfl rfl rfl g124) (O.idx sl34 (c122 ⟨(by first | (simp only [g123, g124, Bool.true_or, Bool.or_true, Bool.false_or, Bool.or_false, Bool.true_and, Bool.and_true, Bool.false_and, Bool.and_false, Bool.not_true, Bool.not_false, cond_true, cond_false]; done) | (repeat (first | rw [g123] | rw [g124])) <;> simp only [Bool.true_or, Bool.or_true, Bool.false_or, Bool.or_false, Bool.true_and, Bool.and_true, Bool.false_and, Bool.and_false, Bool.not_true, Bool.not_false, cond_true, cond_false]), (by first | (simp only [g123, g124, Bool.true_or, Bool.or_true, Bool.false_or, Bool.or_false, Bool.true_and, Bool.and_true, Bool.false_and, Bool.and_false, Bool.not_true, Bool.not_false, cond_true, cond_false]; done) | (repeat (first | rw [g123] | rw [g124])) <;> simp only [Bool.true_or, Bool.or_true, Bool.false_or, Bool.or_false, Bool.true_and, Bool.and_true, Bool.false_and, Bool.and_false, Bool.not_true, Bool.not_false, cond_true, cond_false])⟩) rfl rfl rfl) ?_
            refine .v rfl (met rfl rfl rfl g124) (O.ld (y := .i (nth x0.Barred (IntKind.wrap .i64 (v94 - 1)))) ty3 rfl rfl rfl) ?_
            refine .v rfl (met rfl rfl rfl g124) (OpL.binI rfl rfl rfl rfl) ?_
            refine .v rfl (met rfl rfl rfl (notT g123)) (O.pickT g124 rfl rfl rfl) ?_
            refine .v rfl rfl (O.pickF (notT g123) rfl rfl rfl) ?_
            refine .nil ?_
            refine ⟨by kernel_rfl, by kernel_rfl, ?_⟩
            exact toN (Gives.mkR [] (.r rfl rfl (.r rfl rfl (.c rfl (sbb (by first | (simp only [g123, g124, Bool.true_or, Bool.or_true, Bool.false_or, Bool.or_false, Bool.true_and, Bool.and_true, Bool.false_and, Bool.and_false, Bool.not_true, Bool.not_false, cond_true, cond_false]; done) | (repeat (first | rw [g123] | rw [g124])) <;> simp only [Bool.true_or, Bool.or_true, Bool.false_or, Bool.or_false, Bool.true_and, Bool.and_true, Bool.false_and, Bool.and_false, Bool.not_true, Bool.not_false, cond_true, cond_false])) rfl .n))) (.r rfl rfl rfl .n) rfl rfl rfl)
           ·refine W.dk (unm 25 [0, 1, 0, 7, 15, 31, 63, 127, 255, 511, 1023, 2047, 4095, 2047, 16383, 32767, 2047, 67583, 2047, 264191, 985087, 2033663, 4194303, 8388607, 16777215]) rfl (by kernel_rfl) ?_
            refine .v rfl rfl (O.fld fld36_9 rfl rfl rfl) ?_
            refine .v rfl rfl (O.ld (y := .imm (.row 1 (List.map (encI .i64) x0.Barred))) ty34 rfl rfl rfl) ?_
            refine .m rfl rfl rfl rfl ?_
            refine .v rfl rfl (O.idx sl34 c118 rfl rfl rfl) ?_
            refine .v rfl rfl (O.ld (y := .i (nth x0.Barred v94)) ty3 rfl rfl rfl) ?_
            refine .call (.b t119) [] 0 (lombardref10_in.ok b120) rfl rfl rfl ca39 rfl rfl (cC (.imm _) (cC (.imm _) (cC (.imm _) .nil))) rfl rfl rfl rfl rfl ?_
            refine .v rfl rfl (OpL.unV rfl rfl rfl) ?_
            refine .m rfl rfl rfl rfl ?_
            refine .m rfl (met rfl rfl rfl (notT g123)) rfl rfl ?_
            refine .v rfl (met rfl rfl rfl (notT g123)) (OpL.binI rfl rfl rfl rfl) ?_
            refine .m rfl (met rfl rfl rfl (notT g123)) rfl rfl ?_
            refine .x rfl (unmet rfl rfl rfl g124) ?_
            refine .x rfl (unmet rfl rfl rfl g124) ?_
            refine .x rfl (unmet rfl rfl rfl g124) ?_
            refine .x rfl (unmet rfl rfl rfl g124) ?_
            refine .x rfl (unmet rfl rfl rfl g124) ?_
            refine .x rfl (unmet rfl rfl rfl g124) ?_
            refine .x rfl (unmet rfl rfl rfl g124) ?_
            refine .x rfl (unmet rfl rfl rfl g124) ?_
            refine .x rfl (unmet rfl rfl rfl g124) ?_
            refine .x rfl (unmet rfl rfl rfl g124) ?_
            refine .x rfl (unmet rfl rfl rfl g124) ?_
            refine .x rfl (unmet rfl rfl rfl g124) ?_
            refine .v rfl (met rfl rfl rfl (notT g123)) (O.pickF g124 rfl rfl rfl) ?_
            refine .v rfl rfl (O.pickF (notT g123) rfl rfl rfl) ?_
            refine .nil ?_
            refine ⟨by kernel_rfl, by kernel_rfl, ?_⟩
            exact toN (Gives.mkR [] (.r rfl rfl (.r rfl rfl (.c rfl (sbb (by first | (simp only [g123, g124, Bool.true_or, Bool.or_true, Bool.false_or, Bool.or_false, Bool.true_and, Bool.and_true, Bool.false_and, Bool.and_false, Bool.not_true, Bool.not_false, cond_true, cond_false]; done) | (repeat (first | rw [g123] | rw [g124])) <;> simp only [Bool.true_or, Bool.or_true, Bool.false_or, Bool.or_false, Bool.true_and, Bool.and_true, Bool.false_and, Bool.and_false, Bool.not_true, Bool.not_false, cond_true, cond_false])) rfl .n))) (.r rfl rfl rfl .n) rfl rfl rfl)
          ·refine W.dk (unm 25 [0, 1, 0, 7, 15, 31, 63, 127, 255, 511, 1023, 2047, 4095, 2047, 16383, 32767, 2047, 67583, 2047, 264191, 985087, 2033663, 4194303, 8388607, 16777215]) rfl (by kernel_rfl) ?_
           refine .v rfl rfl (O.fld fld36_9 rfl rfl rfl) ?_
           refine .v rfl rfl (O.ld (y := .imm (.row 1 (List.map (encI .i64) x0.Barred))) ty34 rfl rfl rfl) ?_
           refine .m rfl rfl rfl rfl ?_
           refine .v rfl rfl (O.idx sl34 c118 rfl rfl rfl) ?_
           refine .v rfl rfl (O.ld (y := .i (nth x0.Barred v94)) ty3 rfl rfl rfl) ?_
           refine .call (.b t119) [] 0 (lombardref10_in.ok b120) rfl rfl rfl ca39 rfl rfl (cC (.imm _) (cC (.imm _) (cC (.imm _) .nil))) rfl rfl rfl rfl rfl ?_
           refine .v rfl rfl (OpL.unV rfl rfl rfl) ?_
           refine .m rfl rfl rfl rfl ?_
           refine .x rfl (unmet rfl rfl rfl (notF g123)) ?_
           refine .x rfl (unmet rfl rfl rfl (notF g123)) ?_
           refine .x rfl (unmet rfl rfl rfl (notF g123)) ?_
           refine .x rfl (unmetU rfl rfl rfl) ?_
           refine .x rfl (unmetU rfl rfl rfl) ?_
           refine .x rfl (unmetU rfl rfl rfl) ?_
           refine .x rfl (unmetU rfl rfl rfl) ?_
           refine .x rfl (unmetU rfl rfl rfl) ?_
           refine .x rfl (unmetU rfl rfl rfl) ?_
           refine .x rfl (unmetU rfl rfl rfl) ?_
           refine .x rfl (unmetU rfl rfl rfl) ?_
           refine .x rfl (unmetU rfl rfl rfl) ?_
           refine .x rfl (unmetU rfl rfl rfl) ?_
           refine .x rfl (unmetU rfl rfl rfl) ?_
           refine .x rfl (unmetU rfl rfl rfl) ?_
           refine .x rfl (unmet rfl rfl rfl (notF g123)) ?_
           refine .v rfl rfl (O.pickT (notF g123) rfl rfl rfl) ?_
           refine .nil ?_
           refine ⟨by kernel_rfl, by kernel_rfl, ?_⟩
           exact toN (Gives.mkR [] (.r rfl rfl (.r rfl rfl (.c rfl (sbb (by simp only [g123, Bool.true_or, Bool.or_true, Bool.false_or, Bool.or_false, Bool.true_and, Bool.and_true, Bool.false_and, Bool.and_false, Bool.not_true, Bool.not_false, cond_true, cond_false])) rfl .n))) (.r rfl rfl rfl .n) rfl rfl rfl)
        ·have h := ifF q117 h
         refine W.exit ?_
         cases h
         refine rdX fun e_ => ?_
         subst e_
         repeat with_reducible refine thru ?_
         refine hit ?_
         exact fkN (Gives.mkR [] .n .n rfl rfl rfl)
       ·intro w113 e_
        subst e_
        clear h
        have h := z116
        dsimp only at h
        refine W.seq ?_
        refine W.pk ?_
        refine .a rfl rfl rfl rfl ?_
        refine .nil ?_
        refine W.ret ?_
        cases h
        exact leaves (.inr rfl) rfl (.imm _) (cN .nil) rfl rfl
   ·clear h
    rcases tf (decide (x0.Least < 0)) with g22 | g22
    ·refine W.pk ?_
     refine .v rfl rfl (O.fld fld36_4 rfl rfl rfl) ?_
     refine .v rfl rfl (O.ld (y := .i x0.Least) ty3 rfl rfl rfl) ?_
     refine .v rfl rfl (OpL.binI rfl rfl rfl rfl) ?_
     refine .m rfl rfl rfl rfl ?_
     refine .x rfl (unmet rfl rfl rfl g22) ?_
     refine .x rfl (unmet rfl rfl rfl g22) ?_
     refine .x rfl (unmet rfl rfl rfl g22) ?_
     refine .x rfl (unmet rfl rfl rfl g22) ?_
     refine .x rfl (unmet rfl rfl rfl g22) ?_
     refine .x rfl (unmet rfl rfl rfl g22) ?_
     refine .v rfl rfl (O.pickT g22 rfl rfl rfl) ?_
     refine .nil ?_
     exact toN (Gives.mkR [] (.r rfl rfl (.c rfl (sbb (by simp only [g22, Bool.true_or, Bool.or_true, Bool.false_or, Bool.or_false, Bool.true_and, Bool.and_true, Bool.false_and, Bool.and_false, Bool.not_true, Bool.not_false, cond_true, cond_false])) rfl .n)) (.r rfl rfl rfl .n) rfl rfl rfl)
    ·refine W.pk ?_
     refine .v rfl rfl (O.fld fld36_4 rfl rfl rfl) ?_
     refine .v rfl rfl (O.ld (y := .i x0.Least) ty3 rfl rfl rfl) ?_
     refine .v rfl rfl (OpL.binI rfl rfl rfl rfl) ?_
     refine .m rfl rfl rfl rfl ?_
     refine .v rfl (met rfl rfl rfl g22) (O.fld fld36_5 rfl rfl rfl) ?_
     refine .v rfl (met rfl rfl rfl g22) (O.ld (y := .i x0.Most) ty3 rfl rfl rfl) ?_
     refine .v rfl (met rfl rfl rfl g22) (O.fld fld36_4 rfl rfl rfl) ?_
     refine .v rfl (met rfl rfl rfl g22) (O.ld (y := .i x0.Least) ty3 rfl rfl rfl) ?_
     refine .call (.b t20) [] 0 (lombardref10_in.ok ((if_pos (by simp only [g22, Bool.true_or, Bool.or_true, Bool.false_or, Bool.or_false, Bool.true_and, Bool.and_true, Bool.false_and, Bool.and_false, Bool.not_true, Bool.not_false, cond_true, cond_false])).symm.trans b21)) rfl (met rfl rfl rfl g22) rfl ca39 rfl rfl (cC (.imm _) (cC (.imm _) (cC (.imm _) .nil))) rfl rfl rfl rfl rfl ?_
     refine .v rfl (met rfl rfl rfl g22) (OpL.unV rfl rfl rfl) ?_
     refine .v rfl rfl (O.pickF g22 rfl rfl rfl) ?_
     refine .nil ?_
     exact toN (Gives.mkR [] (.r rfl rfl (.c rfl (sbb (by simp only [g22, Bool.true_or, Bool.or_true, Bool.false_or, Bool.or_false, Bool.true_and, Bool.and_true, Bool.false_and, Bool.and_false, Bool.not_true, Bool.not_false, cond_true, cond_false])) rfl .n)) (.r rfl rfl rfl .n) rfl rfl rfl)
 ·clear h
  rcases tf t1 with g13 | g13
  ·rcases tf t3 with g14 | g14
   ·rcases tf t5 with g15 | g15
    ·rcases tf t7 with g16 | g16
     ·rcases tf t9 with g17 | g17
      ·rcases tf t11 with g18 | g18
       ·refine W.pk ?_
        refine .v rfl rfl (O.fld fld36_0 rfl rfl rfl) ?_
        refine .v rfl rfl (O.ld (y := .i x0.ID) ty3 rfl rfl rfl) ?_
        refine .call (.b t1) [] 0 (lombardref10_in.ok b2) rfl rfl rfl ca39 rfl rfl (cC (.imm _) (cC (.imm _) (cC (.imm _) .nil))) rfl rfl rfl rfl rfl ?_
        refine .v rfl rfl (OpL.unV rfl rfl rfl) ?_
        refine .m rfl rfl rfl rfl ?_
        refine .v rfl (met rfl rfl rfl (notT g13)) (O.fld fld36_1 rfl rfl rfl) ?_
        refine .v rfl (met rfl rfl rfl (notT g13)) (O.ld (y := .i x0.Version) ty3 rfl rfl rfl) ?_
        refine .call (.b t3) [] 0 (lombardref10_Amount.ok ((if_pos (by first | (simp only [g13, g14, g15, g16, g17, g18, Bool.true_or, Bool.or_true, Bool.false_or, Bool.or_false, Bool.true_and, Bool.and_true, Bool.false_and, Bool.and_false, Bool.not_true, Bool.not_false, cond_true, cond_false]; done) | (repeat (first | rw [g13] | rw [g14] | rw [g15] | rw [g16] | rw [g17] | rw [g18])) <;> simp only [Bool.true_or, Bool.or_true, Bool.false_or, Bool.or_false, Bool.true_and, Bool.and_true, Bool.false_and, Bool.and_false, Bool.not_true, Bool.not_false, cond_true, cond_false])).symm.trans b4)) rfl (met rfl rfl rfl (notT g13)) rfl ca40 rfl rfl (cC (.imm _) .nil) rfl rfl rfl rfl rfl ?_
        refine .v rfl (met rfl rfl rfl (notT g13)) (OpL.unV rfl rfl rfl) ?_
        refine .v rfl rfl (O.pickF (notT g13) rfl rfl rfl) ?_
        refine .m rfl rfl rfl rfl ?_
        refine .v rfl (met rfl rfl rfl (notT g14)) (O.fld fld36_3 rfl rfl rfl) ?_
        refine .v rfl (met rfl rfl rfl (notT g14)) (O.ld (y := .i x0.Rating) ty3 rfl rfl rfl) ?_
        refine .call (.b t5) [] 0 (lombardref10_in.ok ((if_pos (by first | (simp only [g13, g14, g15, g16, g17, g18, Bool.true_or, Bool.or_true, Bool.false_or, Bool.or_false, Bool.true_and, Bool.and_true, Bool.false_and, Bool.and_false, Bool.not_true, Bool.not_false, cond_true, cond_false]; done) | (repeat (first | rw [g13] | rw [g14] | rw [g15] | rw [g16] | rw [g17] | rw [g18])) <;> simp only [Bool.true_or, Bool.or_true, Bool.false_or, Bool.or_false, Bool.true_and, Bool.and_true, Bool.false_and, Bool.and_false, Bool.not_true, Bool.not_false, cond_true, cond_false])).symm.trans b6)) rfl (met rfl rfl rfl (notT g14)) rfl ca39 rfl rfl (cC (.imm _) (cC (.imm _) (cC (.imm _) .nil))) rfl rfl rfl rfl rfl ?_
        refine .v rfl (met rfl rfl rfl (notT g14)) (OpL.unV rfl rfl rfl) ?_
        refine .v rfl rfl (O.pickF (notT g14) rfl rfl rfl) ?_
        refine .m rfl rfl rfl rfl ?_
        refine .v rfl (met rfl rfl rfl (notT g15)) (O.fld fld36_7 rfl rfl rfl) ?_
        refine .v rfl (met rfl rfl rfl (notT g15)) (O.ld (y := .i x0.Issuer) ty3 rfl rfl rfl) ?_
        refine .call (.b t7) [] 0 (lombardref10_in.ok ((if_pos (by first | (simp only [g13, g14, g15, g16, g17, g18, Bool.true_or, Bool.or_true, Bool.false_or, Bool.or_false, Bool.true_and, Bool.and_true, Bool.false_and, Bool.and_false, Bool.not_true, Bool.not_false, cond_true, cond_false]; done) | (repeat (first | rw [g13] | rw [g14] | rw [g15] | rw [g16] | rw [g17] | rw [g18])) <;> simp only [Bool.true_or, Bool.or_true, Bool.false_or, Bool.or_false, Bool.true_and, Bool.and_true, Bool.false_and, Bool.and_false, Bool.not_true, Bool.not_false, cond_true, cond_false])).symm.trans b8)) rfl (met rfl rfl rfl (notT g15)) rfl ca39 rfl rfl (cC (.imm _) (cC (.imm _) (cC (.imm _) .nil))) rfl rfl rfl rfl rfl ?_
        refine .v rfl (met rfl rfl rfl (notT g15)) (OpL.unV rfl rfl rfl) ?_
        refine .v rfl rfl (O.pickF (notT g15) rfl rfl rfl) ?_
        refine .m rfl rfl rfl rfl ?_
        refine .v rfl (met rfl rfl rfl (notT g16)) (O.fld fld36_8 rfl rfl rfl) ?_
        refine .v rfl (met rfl rfl rfl (notT g16)) (O.ld (y := .i x0.Asset) ty3 rfl rfl rfl) ?_
        refine .call (.b t9) [] 0 (lombardref10_in.ok ((if_pos (by first | (simp only [g13, g14, g15, g16, g17, g18, Bool.true_or, Bool.or_true, Bool.false_or, Bool.or_false, Bool.true_and, Bool.and_true, Bool.false_and, Bool.and_false, Bool.not_true, Bool.not_false, cond_true, cond_false]; done) | (repeat (first | rw [g13] | rw [g14] | rw [g15] | rw [g16] | rw [g17] | rw [g18])) <;> simp only [Bool.true_or, Bool.or_true, Bool.false_or, Bool.or_false, Bool.true_and, Bool.and_true, Bool.false_and, Bool.and_false, Bool.not_true, Bool.not_false, cond_true, cond_false])).symm.trans b10)) rfl (met rfl rfl rfl (notT g16)) rfl ca39 rfl rfl (cC (.imm _) (cC (.imm _) (cC (.imm _) .nil))) rfl rfl rfl rfl rfl ?_
        refine .v rfl (met rfl rfl rfl (notT g16)) (OpL.unV rfl rfl rfl) ?_
        refine .v rfl rfl (O.pickF (notT g16) rfl rfl rfl) ?_
        refine .m rfl rfl rfl rfl ?_
        refine .v rfl (met rfl rfl rfl (notT g17)) (O.fld fld36_6 rfl rfl rfl) ?_
        refine .v rfl (met rfl rfl rfl (notT g17)) (O.ld (y := .imm (.row 3 (List.map api_Cut.enc x0.Cuts))) ty33 rfl rfl rfl) ?_
        refine .v rfl (met rfl rfl rfl (notT g17)) (O.lenR sl33 rfl rfl) ?_
        refine .call (.b t11) [] 0 (lombardref10_in.ok ((if_pos (by first | (simp only [g13, g14, g15, g16, g17, g18, Bool.true_or, Bool.or_true, Bool.false_or, Bool.or_false, Bool.true_and, Bool.and_true, Bool.false_and, Bool.and_false, Bool.not_true, Bool.not_false, cond_true, cond_false]; done) | (repeat (first | rw [g13] | rw [g14] | rw [g15] | rw [g16] | rw [g17] | rw [g18])) <;> simp only [Bool.true_or, Bool.or_true, Bool.false_or, Bool.or_false, Bool.true_and, Bool.and_true, Bool.false_and, Bool.and_false, Bool.not_true, Bool.not_false, cond_true, cond_false])).symm.trans b12)) rfl (met rfl rfl rfl (notT g17)) rfl ca39 rfl rfl (cC (.imm _) (cC (.imm _) (cC (.imm _) .nil))) rfl rfl rfl rfl rfl ?_
        refine .v rfl (met rfl rfl rfl (notT g17)) (OpL.unV rfl rfl rfl) ?_
        refine .v rfl rfl (O.pickF (notT g17) rfl rfl rfl) ?_
        refine .m rfl rfl rfl rfl ?_
        refine .v rfl (met rfl rfl rfl (notT g18)) (O.fld fld36_9 rfl rfl rfl) ?_
        refine .v rfl (met rfl rfl rfl (notT g18)) (O.ld (y := .imm (.row 1 (List.map (encI .i64) x0.Barred))) ty34 rfl rfl rfl) ?_
        refine .v rfl (met rfl rfl rfl (notT g18)) (O.lenR sl34 rfl rfl) ?_
        refine .v rfl (met rfl rfl rfl (notT g18)) (OpL.binI rfl rfl rfl rfl) ?_
        refine .v rfl rfl (O.pickF (notT g18) rfl rfl rfl) ?_
        refine .nil ?_
        exact toN (Gives.mkR [] (.r rfl rfl (.c rfl (sbb (by first | (simp only [g13, g14, g15, g16, g17, g18, Bool.true_or, Bool.or_true, Bool.false_or, Bool.or_false, Bool.true_and, Bool.and_true, Bool.false_and, Bool.and_false, Bool.not_true, Bool.not_false, cond_true, cond_false]; done) | (repeat (first | rw [g13] | rw [g14] | rw [g15] | rw [g16] | rw [g17] | rw [g18])) <;> simp only [Bool.true_or, Bool.or_true, Bool.false_or, Bool.or_false, Bool.true_and, Bool.and_true, Bool.false_and, Bool.and_false, Bool.not_true, Bool.not_false, cond_true, cond_false])) rfl .n)) (.r rfl rfl rfl .n) rfl rfl rfl)
       ·refine W.pk ?_
        refine .v rfl rfl (O.fld fld36_0 rfl rfl rfl) ?_
        refine .v rfl rfl (O.ld (y := .i x0.ID) ty3 rfl rfl rfl) ?_
        refine .call (.b t1) [] 0 (lombardref10_in.ok b2) rfl rfl rfl ca39 rfl rfl (cC (.imm _) (cC (.imm _) (cC (.imm _) .nil))) rfl rfl rfl rfl rfl ?_
        refine .v rfl rfl (OpL.unV rfl rfl rfl) ?_
        refine .m rfl rfl rfl rfl ?_
        refine .v rfl (met rfl rfl rfl (notT g13)) (O.fld fld36_1 rfl rfl rfl) ?_
        refine .v rfl (met rfl rfl rfl (notT g13)) (O.ld (y := .i x0.Version) ty3 rfl rfl rfl) ?_
        refine .call (.b t3) [] 0 (lombardref10_Amount.ok ((if_pos (by first | (simp only [g13, g14, g15, g16, g17, g18, Bool.true_or, Bool.or_true, Bool.false_or, Bool.or_false, Bool.true_and, Bool.and_true, Bool.false_and, Bool.and_false, Bool.not_true, Bool.not_false, cond_true, cond_false]; done) | (repeat (first | rw [g13] | rw [g14] | rw [g15] | rw [g16] | rw [g17] | rw [g18])) <;> simp only [Bool.true_or, Bool.or_true, Bool.false_or, Bool.or_false, Bool.true_and, Bool.and_true, Bool.false_and, Bool.and_false, Bool.not_true, Bool.not_false, cond_true, cond_false])).symm.trans b4)) rfl (met rfl rfl rfl (notT g13)) rfl ca40 rfl rfl (cC (.imm _) .nil) rfl rfl rfl rfl rfl ?_
        refine .v rfl (met rfl rfl rfl (notT g13)) (OpL.unV rfl rfl rfl) ?_
        refine .v rfl rfl (O.pickF (notT g13) rfl rfl rfl) ?_
        refine .m rfl rfl rfl rfl ?_
        refine .v rfl (met rfl rfl rfl (notT g14)) (O.fld fld36_3 rfl rfl rfl) ?_
        refine .v rfl (met rfl rfl rfl (notT g14)) (O.ld (y := .i x0.Rating) ty3 rfl rfl rfl) ?_
        refine .call (.b t5) [] 0 (lombardref10_in.ok ((if_pos (by first | (simp only [g13, g14, g15, g16, g17, g18, Bool.true_or, Bool.or_true, Bool.false_or, Bool.or_false, Bool.true_and, Bool.and_true, Bool.false_and, Bool.and_false, Bool.not_true, Bool.not_false, cond_true, cond_false]; done) | (repeat (first | rw [g13] | rw [g14] | rw [g15] | rw [g16] | rw [g17] | rw [g18])) <;> simp only [Bool.true_or, Bool.or_true, Bool.false_or, Bool.or_false, Bool.true_and, Bool.and_true, Bool.false_and, Bool.and_false, Bool.not_true, Bool.not_false, cond_true, cond_false])).symm.trans b6)) rfl (met rfl rfl rfl (notT g14)) rfl ca39 rfl rfl (cC (.imm _) (cC (.imm _) (cC (.imm _) .nil))) rfl rfl rfl rfl rfl ?_
        refine .v rfl (met rfl rfl rfl (notT g14)) (OpL.unV rfl rfl rfl) ?_
        refine .v rfl rfl (O.pickF (notT g14) rfl rfl rfl) ?_
        refine .m rfl rfl rfl rfl ?_
        refine .v rfl (met rfl rfl rfl (notT g15)) (O.fld fld36_7 rfl rfl rfl) ?_
        refine .v rfl (met rfl rfl rfl (notT g15)) (O.ld (y := .i x0.Issuer) ty3 rfl rfl rfl) ?_
        refine .call (.b t7) [] 0 (lombardref10_in.ok ((if_pos (by first | (simp only [g13, g14, g15, g16, g17, g18, Bool.true_or, Bool.or_true, Bool.false_or, Bool.or_false, Bool.true_and, Bool.and_true, Bool.false_and, Bool.and_false, Bool.not_true, Bool.not_false, cond_true, cond_false]; done) | (repeat (first | rw [g13] | rw [g14] | rw [g15] | rw [g16] | rw [g17] | rw [g18])) <;> simp only [Bool.true_or, Bool.or_true, Bool.false_or, Bool.or_false, Bool.true_and, Bool.and_true, Bool.false_and, Bool.and_false, Bool.not_true, Bool.not_false, cond_true, cond_false])).symm.trans b8)) rfl (met rfl rfl rfl (notT g15)) rfl ca39 rfl rfl (cC (.imm _) (cC (.imm _) (cC (.imm _) .nil))) rfl rfl rfl rfl rfl ?_
        refine .v rfl (met rfl rfl rfl (notT g15)) (OpL.unV rfl rfl rfl) ?_
        refine .v rfl rfl (O.pickF (notT g15) rfl rfl rfl) ?_
        refine .m rfl rfl rfl rfl ?_
        refine .v rfl (met rfl rfl rfl (notT g16)) (O.fld fld36_8 rfl rfl rfl) ?_
        refine .v rfl (met rfl rfl rfl (notT g16)) (O.ld (y := .i x0.Asset) ty3 rfl rfl rfl) ?_
        refine .call (.b t9) [] 0 (lombardref10_in.ok ((if_pos (by first | (simp only [g13, g14, g15, g16, g17, g18, Bool.true_or, Bool.or_true, Bool.false_or, Bool.or_false, Bool.true_and, Bool.and_true, Bool.false_and, Bool.and_false, Bool.not_true, Bool.not_false, cond_true, cond_false]; done) | (repeat (first | rw [g13] | rw [g14] | rw [g15] | rw [g16] | rw [g17] | rw [g18])) <;> simp only [Bool.true_or, Bool.or_true, Bool.false_or, Bool.or_false, Bool.true_and, Bool.and_true, Bool.false_and, Bool.and_false, Bool.not_true, Bool.not_false, cond_true, cond_false])).symm.trans b10)) rfl (met rfl rfl rfl (notT g16)) rfl ca39 rfl rfl (cC (.imm _) (cC (.imm _) (cC (.imm _) .nil))) rfl rfl rfl rfl rfl ?_
        refine .v rfl (met rfl rfl rfl (notT g16)) (OpL.unV rfl rfl rfl) ?_
        refine .v rfl rfl (O.pickF (notT g16) rfl rfl rfl) ?_
        refine .m rfl rfl rfl rfl ?_
        refine .v rfl (met rfl rfl rfl (notT g17)) (O.fld fld36_6 rfl rfl rfl) ?_
        refine .v rfl (met rfl rfl rfl (notT g17)) (O.ld (y := .imm (.row 3 (List.map api_Cut.enc x0.Cuts))) ty33 rfl rfl rfl) ?_
        refine .v rfl (met rfl rfl rfl (notT g17)) (O.lenR sl33 rfl rfl) ?_
        refine .call (.b t11) [] 0 (lombardref10_in.ok ((if_pos (by first | (simp only [g13, g14, g15, g16, g17, g18, Bool.true_or, Bool.or_true, Bool.false_or, Bool.or_false, Bool.true_and, Bool.and_true, Bool.false_and, Bool.and_false, Bool.not_true, Bool.not_false, cond_true, cond_false]; done) | (repeat (first | rw [g13] | rw [g14] | rw [g15] | rw [g16] | rw [g17] | rw [g18])) <;> simp only [Bool.true_or, Bool.or_true, Bool.false_or, Bool.or_false, Bool.true_and, Bool.and_true, Bool.false_and, Bool.and_false, Bool.not_true, Bool.not_false, cond_true, cond_false])).symm.trans b12)) rfl (met rfl rfl rfl (notT g17)) rfl ca39 rfl rfl (cC (.imm _) (cC (.imm _) (cC (.imm _) .nil))) rfl rfl rfl rfl rfl ?_
        refine .v rfl (met rfl rfl rfl (notT g17)) (OpL.unV rfl rfl rfl) ?_
        refine .v rfl rfl (O.pickF (notT g17) rfl rfl rfl) ?_
        refine .m rfl rfl rfl rfl ?_
        refine .x rfl (unmet rfl rfl rfl (notF g18)) ?_
        refine .x rfl (unmet rfl rfl rfl (notF g18)) ?_
        refine .x rfl (unmet rfl rfl rfl (notF g18)) ?_
        refine .x rfl (unmet rfl rfl rfl (notF g18)) ?_
        refine .v rfl rfl (O.pickT (notF g18) rfl rfl rfl) ?_
        refine .nil ?_
        exact toN (Gives.mkR [] (.r rfl rfl (.c rfl (sbb (by first | (simp only [g13, g14, g15, g16, g17, g18, Bool.true_or, Bool.or_true, Bool.false_or, Bool.or_false, Bool.true_and, Bool.and_true, Bool.false_and, Bool.and_false, Bool.not_true, Bool.not_false, cond_true, cond_false]; done) | (repeat (first | rw [g13] | rw [g14] | rw [g15] | rw [g16] | rw [g17] | rw [g18])) <;> simp only [Bool.true_or, Bool.or_true, Bool.false_or, Bool.or_false, Bool.true_and, Bool.and_true, Bool.false_and, Bool.and_false, Bool.not_true, Bool.not_false, cond_true, cond_false])) rfl .n)) (.r rfl rfl rfl .n) rfl rfl rfl)
      ·refine W.pk ?_
       refine .v rfl rfl (O.fld fld36_0 rfl rfl rfl) ?_
       refine .v rfl rfl (O.ld (y := .i x0.ID) ty3 rfl rfl rfl) ?_
       refine .call (.b t1) [] 0 (lombardref10_in.ok b2) rfl rfl rfl ca39 rfl rfl (cC (.imm _) (cC (.imm _) (cC (.imm _) .nil))) rfl rfl rfl rfl rfl ?_
       refine .v rfl rfl (OpL.unV rfl rfl rfl) ?_
       refine .m rfl rfl rfl rfl ?_
       refine .v rfl (met rfl rfl rfl (notT g13)) (O.fld fld36_1 rfl rfl rfl) ?_
       refine .v rfl (met rfl rfl rfl (notT g13)) (O.ld (y := .i x0.Version) ty3 rfl rfl rfl) ?_
       refine .call (.b t3) [] 0 (lombardref10_Amount.ok ((if_pos (by first | (simp only [g13, g14, g15, g16, g17, Bool.true_or, Bool.or_true, Bool.false_or, Bool.or_false, Bool.true_and, Bool.and_true, Bool.false_and, Bool.and_false, Bool.not_true, Bool.not_false, cond_true, cond_false]; done) | (repeat (first | rw [g13] | rw [g14] | rw [g15] | rw [g16] | rw [g17])) <;> simp only [Bool.true_or, Bool.or_true, Bool.false_or, Bool.or_false, Bool.true_and, Bool.and_true, Bool.false_and, Bool.and_false, Bool.not_true, Bool.not_false, cond_true, cond_false])).symm.trans b4)) rfl (met rfl rfl rfl (notT g13)) rfl ca40 rfl rfl (cC (.imm _) .nil) rfl rfl rfl rfl rfl ?_
       refine .v rfl (met rfl rfl rfl (notT g13)) (OpL.unV rfl rfl rfl) ?_
       refine .v rfl rfl (O.pickF (notT g13) rfl rfl rfl) ?_
       refine .m rfl rfl rfl rfl ?_
       refine .v rfl (met rfl rfl rfl (notT g14)) (O.fld fld36_3 rfl rfl rfl) ?_
       refine .v rfl (met rfl rfl rfl (notT g14)) (O.ld (y := .i x0.Rating) ty3 rfl rfl rfl) ?_
       refine .call (.b t5) [] 0 (lombardref10_in.ok ((if_pos (by first | (simp only [g13, g14, g15, g16, g17, Bool.true_or, Bool.or_true, Bool.false_or, Bool.or_false, Bool.true_and, Bool.and_true, Bool.false_and, Bool.and_false, Bool.not_true, Bool.not_false, cond_true, cond_false]; done) | (repeat (first | rw [g13] | rw [g14] | rw [g15] | rw [g16] | rw [g17])) <;> simp only [Bool.true_or, Bool.or_true, Bool.false_or, Bool.or_false, Bool.true_and, Bool.and_true, Bool.false_and, Bool.and_false, Bool.not_true, Bool.not_false, cond_true, cond_false])).symm.trans b6)) rfl (met rfl rfl rfl (notT g14)) rfl ca39 rfl rfl (cC (.imm _) (cC (.imm _) (cC (.imm _) .nil))) rfl rfl rfl rfl rfl ?_
       refine .v rfl (met rfl rfl rfl (notT g14)) (OpL.unV rfl rfl rfl) ?_
       refine .v rfl rfl (O.pickF (notT g14) rfl rfl rfl) ?_
       refine .m rfl rfl rfl rfl ?_
       refine .v rfl (met rfl rfl rfl (notT g15)) (O.fld fld36_7 rfl rfl rfl) ?_
       refine .v rfl (met rfl rfl rfl (notT g15)) (O.ld (y := .i x0.Issuer) ty3 rfl rfl rfl) ?_
       refine .call (.b t7) [] 0 (lombardref10_in.ok ((if_pos (by first | (simp only [g13, g14, g15, g16, g17, Bool.true_or, Bool.or_true, Bool.false_or, Bool.or_false, Bool.true_and, Bool.and_true, Bool.false_and, Bool.and_false, Bool.not_true, Bool.not_false, cond_true, cond_false]; done) | (repeat (first | rw [g13] | rw [g14] | rw [g15] | rw [g16] | rw [g17])) <;> simp only [Bool.true_or, Bool.or_true, Bool.false_or, Bool.or_false, Bool.true_and, Bool.and_true, Bool.false_and, Bool.and_false, Bool.not_true, Bool.not_false, cond_true, cond_false])).symm.trans b8)) rfl (met rfl rfl rfl (notT g15)) rfl ca39 rfl rfl (cC (.imm _) (cC (.imm _) (cC (.imm _) .nil))) rfl rfl rfl rfl rfl ?_
       refine .v rfl (met rfl rfl rfl (notT g15)) (OpL.unV rfl rfl rfl) ?_
       refine .v rfl rfl (O.pickF (notT g15) rfl rfl rfl) ?_
       refine .m rfl rfl rfl rfl ?_
       refine .v rfl (met rfl rfl rfl (notT g16)) (O.fld fld36_8 rfl rfl rfl) ?_
       refine .v rfl (met rfl rfl rfl (notT g16)) (O.ld (y := .i x0.Asset) ty3 rfl rfl rfl) ?_
       refine .call (.b t9) [] 0 (lombardref10_in.ok ((if_pos (by first | (simp only [g13, g14, g15, g16, g17, Bool.true_or, Bool.or_true, Bool.false_or, Bool.or_false, Bool.true_and, Bool.and_true, Bool.false_and, Bool.and_false, Bool.not_true, Bool.not_false, cond_true, cond_false]; done) | (repeat (first | rw [g13] | rw [g14] | rw [g15] | rw [g16] | rw [g17])) <;> simp only [Bool.true_or, Bool.or_true, Bool.false_or, Bool.or_false, Bool.true_and, Bool.and_true, Bool.false_and, Bool.and_false, Bool.not_true, Bool.not_false, cond_true, cond_false])).symm.trans b10)) rfl (met rfl rfl rfl (notT g16)) rfl ca39 rfl rfl (cC (.imm _) (cC (.imm _) (cC (.imm _) .nil))) rfl rfl rfl rfl rfl ?_
       refine .v rfl (met rfl rfl rfl (notT g16)) (OpL.unV rfl rfl rfl) ?_
       refine .v rfl rfl (O.pickF (notT g16) rfl rfl rfl) ?_
       refine .m rfl rfl rfl rfl ?_
       refine .x rfl (unmet rfl rfl rfl (notF g17)) ?_
       refine .x rfl (unmet rfl rfl rfl (notF g17)) ?_
       refine .x rfl (unmet rfl rfl rfl (notF g17)) ?_
       refine .x rfl (unmet rfl rfl rfl (notF g17)) ?_
       refine .x rfl (unmet rfl rfl rfl (notF g17)) ?_
       refine .v rfl rfl (O.pickT (notF g17) rfl rfl rfl) ?_
       refine .m rfl rfl rfl rfl ?_
       refine .x rfl (unmet rfl rfl rfl rfl) ?_
       refine .x rfl (unmet rfl rfl rfl rfl) ?_
       refine .x rfl (unmet rfl rfl rfl rfl) ?_
       refine .x rfl (unmet rfl rfl rfl rfl) ?_
       refine .v rfl rfl (O.pickT rfl rfl rfl rfl) ?_
       refine .nil ?_
       exact toN (Gives.mkR [] (.r rfl rfl (.c rfl (sbb (by first | (simp only [g13, g14, g15, g16, g17, Bool.true_or, Bool.or_true, Bool.false_or, Bool.or_false, Bool.true_and, Bool.and_true, Bool.false_and, Bool.and_false, Bool.not_true, Bool.not_false, cond_true, cond_false]; done) | (repeat (first | rw [g13] | rw [g14] | rw [g15] | rw [g16] | rw [g17])) <;> simp only [Bool.true_or, Bool.or_true, Bool.false_or, Bool.or_false, Bool.true_and, Bool.and_true, Bool.false_and, Bool.and_false, Bool.not_true, Bool.not_false, cond_true, cond_false])) rfl .n)) (.r rfl rfl rfl .n) rfl rfl rfl)
     ·refine W.pk ?_
      refine .v rfl rfl (O.fld fld36_0 rfl rfl rfl) ?_
      refine .v rfl rfl (O.ld (y := .i x0.ID) ty3 rfl rfl rfl) ?_
      refine .call (.b t1) [] 0 (lombardref10_in.ok b2) rfl rfl rfl ca39 rfl rfl (cC (.imm _) (cC (.imm _) (cC (.imm _) .nil))) rfl rfl rfl rfl rfl ?_
      refine .v rfl rfl (OpL.unV rfl rfl rfl) ?_
      refine .m rfl rfl rfl rfl ?_
      refine .v rfl (met rfl rfl rfl (notT g13)) (O.fld fld36_1 rfl rfl rfl) ?_
      refine .v rfl (met rfl rfl rfl (notT g13)) (O.ld (y := .i x0.Version) ty3 rfl rfl rfl) ?_
      refine .call (.b t3) [] 0 (lombardref10_Amount.ok ((if_pos (by first | (simp only [g13, g14, g15, g16, Bool.true_or, Bool.or_true, Bool.false_or, Bool.or_false, Bool.true_and, Bool.and_true, Bool.false_and, Bool.and_false, Bool.not_true, Bool.not_false, cond_true, cond_false]; done) | (repeat (first | rw [g13] | rw [g14] | rw [g15] | rw [g16])) <;> simp only [Bool.true_or, Bool.or_true, Bool.false_or, Bool.or_false, Bool.true_and, Bool.and_true, Bool.false_and, Bool.and_false, Bool.not_true, Bool.not_false, cond_true, cond_false])).symm.trans b4)) rfl (met rfl rfl rfl (notT g13)) rfl ca40 rfl rfl (cC (.imm _) .nil) rfl rfl rfl rfl rfl ?_
      refine .v rfl (met rfl rfl rfl (notT g13)) (OpL.unV rfl rfl rfl) ?_
      refine .v rfl rfl (O.pickF (notT g13) rfl rfl rfl) ?_
      refine .m rfl rfl rfl rfl ?_
      refine .v rfl (met rfl rfl rfl (notT g14)) (O.fld fld36_3 rfl rfl rfl) ?_
      refine .v rfl (met rfl rfl rfl (notT g14)) (O.ld (y := .i x0.Rating) ty3 rfl rfl rfl) ?_
      refine .call (.b t5) [] 0 (lombardref10_in.ok ((if_pos (by first | (simp only [g13, g14, g15, g16, Bool.true_or, Bool.or_true, Bool.false_or, Bool.or_false, Bool.true_and, Bool.and_true, Bool.false_and, Bool.and_false, Bool.not_true, Bool.not_false, cond_true, cond_false]; done) | (repeat (first | rw [g13] | rw [g14] | rw [g15] | rw [g16])) <;> simp only [Bool.true_or, Bool.or_true, Bool.false_or, Bool.or_false, Bool.true_and, Bool.and_true, Bool.false_and, Bool.and_false, Bool.not_true, Bool.not_false, cond_true, cond_false])).symm.trans b6)) rfl (met rfl rfl rfl (notT g14)) rfl ca39 rfl rfl (cC (.imm _) (cC (.imm _) (cC (.imm _) .nil))) rfl rfl rfl rfl rfl ?_
      refine .v rfl (met rfl rfl rfl (notT g14)) (OpL.unV rfl rfl rfl) ?_
      refine .v rfl rfl (O.pickF (notT g14) rfl rfl rfl) ?_
      refine .m rfl rfl rfl rfl ?_
      refine .v rfl (met rfl rfl rfl (notT g15)) (O.fld fld36_7 rfl rfl rfl) ?_
      refine .v rfl (met rfl rfl rfl (notT g15)) (O.ld (y := .i x0.Issuer) ty3 rfl rfl rfl) ?_
      refine .call (.b t7) [] 0 (lombardref10_in.ok ((if_pos (by first | (simp only [g13, g14, g15, g16, Bool.true_or, Bool.or_true, Bool.false_or, Bool.or_false, Bool.true_and, Bool.and_true, Bool.false_and, Bool.and_false, Bool.not_true, Bool.not_false, cond_true, cond_false]; done) | (repeat (first | rw [g13] | rw [g14] | rw [g15] | rw [g16])) <;> simp only [Bool.true_or, Bool.or_true, Bool.false_or, Bool.or_false, Bool.true_and, Bool.and_true, Bool.false_and, Bool.and_false, Bool.not_true, Bool.not_false, cond_true, cond_false])).symm.trans b8)) rfl (met rfl rfl rfl (notT g15)) rfl ca39 rfl rfl (cC (.imm _) (cC (.imm _) (cC (.imm _) .nil))) rfl rfl rfl rfl rfl ?_
      refine .v rfl (met rfl rfl rfl (notT g15)) (OpL.unV rfl rfl rfl) ?_
      refine .v rfl rfl (O.pickF (notT g15) rfl rfl rfl) ?_
      refine .m rfl rfl rfl rfl ?_
      refine .x rfl (unmet rfl rfl rfl (notF g16)) ?_
      refine .x rfl (unmet rfl rfl rfl (notF g16)) ?_
      refine .x rfl (unmet rfl rfl rfl (notF g16)) ?_
      refine .x rfl (unmet rfl rfl rfl (notF g16)) ?_
      refine .v rfl rfl (O.pickT (notF g16) rfl rfl rfl) ?_
      refine .m rfl rfl rfl rfl ?_
      refine .x rfl (unmet rfl rfl rfl rfl) ?_
      refine .x rfl (unmet rfl rfl rfl rfl) ?_
      refine .x rfl (unmet rfl rfl rfl rfl) ?_
      refine .x rfl (unmet rfl rfl rfl rfl) ?_
      refine .x rfl (unmet rfl rfl rfl rfl) ?_
      refine .v rfl rfl (O.pickT rfl rfl rfl rfl) ?_
      refine .m rfl rfl rfl rfl ?_
      refine .x rfl (unmet rfl rfl rfl rfl) ?_
      refine .x rfl (unmet rfl rfl rfl rfl) ?_
      refine .x rfl (unmet rfl rfl rfl rfl) ?_
      refine .x rfl (unmet rfl rfl rfl rfl) ?_
      refine .v rfl rfl (O.pickT rfl rfl rfl rfl) ?_
      refine .nil ?_
      exact toN (Gives.mkR [] (.r rfl rfl (.c rfl (sbb (by first | (simp only [g13, g14, g15, g16, Bool.true_or, Bool.or_true, Bool.false_or, Bool.or_false, Bool.true_and, Bool.and_true, Bool.false_and, Bool.and_false, Bool.not_true, Bool.not_false, cond_true, cond_false]; done) | (repeat (first | rw [g13] | rw [g14] | rw [g15] | rw [g16])) <;> simp only [Bool.true_or, Bool.or_true, Bool.false_or, Bool.or_false, Bool.true_and, Bool.and_true, Bool.false_and, Bool.and_false, Bool.not_true, Bool.not_false, cond_true, cond_false])) rfl .n)) (.r rfl rfl rfl .n) rfl rfl rfl)
    ·refine W.pk ?_
     refine .v rfl rfl (O.fld fld36_0 rfl rfl rfl) ?_
     refine .v rfl rfl (O.ld (y := .i x0.ID) ty3 rfl rfl rfl) ?_
     refine .call (.b t1) [] 0 (lombardref10_in.ok b2) rfl rfl rfl ca39 rfl rfl (cC (.imm _) (cC (.imm _) (cC (.imm _) .nil))) rfl rfl rfl rfl rfl ?_
     refine .v rfl rfl (OpL.unV rfl rfl rfl) ?_
     refine .m rfl rfl rfl rfl ?_
     refine .v rfl (met rfl rfl rfl (notT g13)) (O.fld fld36_1 rfl rfl rfl) ?_
     refine .v rfl (met rfl rfl rfl (notT g13)) (O.ld (y := .i x0.Version) ty3 rfl rfl rfl) ?_
     refine .call (.b t3) [] 0 (lombardref10_Amount.ok ((if_pos (by first | (simp only [g13, g14, g15, Bool.true_or, Bool.or_true, Bool.false_or, Bool.or_false, Bool.true_and, Bool.and_true, Bool.false_and, Bool.and_false, Bool.not_true, Bool.not_false, cond_true, cond_false]; done) | (repeat (first | rw [g13] | rw [g14] | rw [g15])) <;> simp only [Bool.true_or, Bool.or_true, Bool.false_or, Bool.or_false, Bool.true_and, Bool.and_true, Bool.false_and, Bool.and_false, Bool.not_true, Bool.not_false, cond_true, cond_false])).symm.trans b4)) rfl (met rfl rfl rfl (notT g13)) rfl ca40 rfl rfl (cC (.imm _) .nil) rfl rfl rfl rfl rfl ?_
     refine .v rfl (met rfl rfl rfl (notT g13)) (OpL.unV rfl rfl rfl) ?_
     refine .v rfl rfl (O.pickF (notT g13) rfl rfl rfl) ?_
     refine .m rfl rfl rfl rfl ?_
     refine .v rfl (met rfl rfl rfl (notT g14)) (O.fld fld36_3 rfl rfl rfl) ?_
     refine .v rfl (met rfl rfl rfl (notT g14)) (O.ld (y := .i x0.Rating) ty3 rfl rfl rfl) ?_
     refine .call (.b t5) [] 0 (lombardref10_in.ok ((if_pos (by first | (simp only [g13, g14, g15, Bool.true_or, Bool.or_true, Bool.false_or, Bool.or_false, Bool.true_and, Bool.and_true, Bool.false_and, Bool.and_false, Bool.not_true, Bool.not_false, cond_true, cond_false]; done) | (repeat (first | rw [g13] | rw [g14] | rw [g15])) <;> simp only [Bool.true_or, Bool.or_true, Bool.false_or, Bool.or_false, Bool.true_and, Bool.and_true, Bool.false_and, Bool.and_false, Bool.not_true, Bool.not_false, cond_true, cond_false])).symm.trans b6)) rfl (met rfl rfl rfl (notT g14)) rfl ca39 rfl rfl (cC (.imm _) (cC (.imm _) (cC (.imm _) .nil))) rfl rfl rfl rfl rfl ?_
     refine .v rfl (met rfl rfl rfl (notT g14)) (OpL.unV rfl rfl rfl) ?_
     refine .v rfl rfl (O.pickF (notT g14) rfl rfl rfl) ?_
     refine .m rfl rfl rfl rfl ?_
     refine .x rfl (unmet rfl rfl rfl (notF g15)) ?_
     refine .x rfl (unmet rfl rfl rfl (notF g15)) ?_
     refine .x rfl (unmet rfl rfl rfl (notF g15)) ?_
     refine .x rfl (unmet rfl rfl rfl (notF g15)) ?_
     refine .v rfl rfl (O.pickT (notF g15) rfl rfl rfl) ?_
     refine .m rfl rfl rfl rfl ?_
     refine .x rfl (unmet rfl rfl rfl rfl) ?_
     refine .x rfl (unmet rfl rfl rfl rfl) ?_
     refine .x rfl (unmet rfl rfl rfl rfl) ?_
     refine .x rfl (unmet rfl rfl rfl rfl) ?_
     refine .v rfl rfl (O.pickT rfl rfl rfl rfl) ?_
     refine .m rfl rfl rfl rfl ?_
     refine .x rfl (unmet rfl rfl rfl rfl) ?_
     refine .x rfl (unmet rfl rfl rfl rfl) ?_
     refine .x rfl (unmet rfl rfl rfl rfl) ?_
     refine .x rfl (unmet rfl rfl rfl rfl) ?_
     refine .x rfl (unmet rfl rfl rfl rfl) ?_
     refine .v rfl rfl (O.pickT rfl rfl rfl rfl) ?_
     refine .m rfl rfl rfl rfl ?_
     refine .x rfl (unmet rfl rfl rfl rfl) ?_
     refine .x rfl (unmet rfl rfl rfl rfl) ?_
     refine .x rfl (unmet rfl rfl rfl rfl) ?_
     refine .x rfl (unmet rfl rfl rfl rfl) ?_
     refine .v rfl rfl (O.pickT rfl rfl rfl rfl) ?_
     refine .nil ?_
     exact toN (Gives.mkR [] (.r rfl rfl (.c rfl (sbb (by first | (simp only [g13, g14, g15, Bool.true_or, Bool.or_true, Bool.false_or, Bool.or_false, Bool.true_and, Bool.and_true, Bool.false_and, Bool.and_false, Bool.not_true, Bool.not_false, cond_true, cond_false]; done) | (repeat (first | rw [g13] | rw [g14] | rw [g15])) <;> simp only [Bool.true_or, Bool.or_true, Bool.false_or, Bool.or_false, Bool.true_and, Bool.and_true, Bool.false_and, Bool.and_false, Bool.not_true, Bool.not_false, cond_true, cond_false])) rfl .n)) (.r rfl rfl rfl .n) rfl rfl rfl)
   ·refine W.pk ?_
    refine .v rfl rfl (O.fld fld36_0 rfl rfl rfl) ?_
    refine .v rfl rfl (O.ld (y := .i x0.ID) ty3 rfl rfl rfl) ?_
    refine .call (.b t1) [] 0 (lombardref10_in.ok b2) rfl rfl rfl ca39 rfl rfl (cC (.imm _) (cC (.imm _) (cC (.imm _) .nil))) rfl rfl rfl rfl rfl ?_
    refine .v rfl rfl (OpL.unV rfl rfl rfl) ?_
    refine .m rfl rfl rfl rfl ?_
    refine .v rfl (met rfl rfl rfl (notT g13)) (O.fld fld36_1 rfl rfl rfl) ?_
    refine .v rfl (met rfl rfl rfl (notT g13)) (O.ld (y := .i x0.Version) ty3 rfl rfl rfl) ?_
    refine .call (.b t3) [] 0 (lombardref10_Amount.ok ((if_pos (by first | (simp only [g13, g14, Bool.true_or, Bool.or_true, Bool.false_or, Bool.or_false, Bool.true_and, Bool.and_true, Bool.false_and, Bool.and_false, Bool.not_true, Bool.not_false, cond_true, cond_false]; done) | (repeat (first | rw [g13] | rw [g14])) <;> simp only [Bool.true_or, Bool.or_true, Bool.false_or, Bool.or_false, Bool.true_and, Bool.and_true, Bool.false_and, Bool.and_false, Bool.not_true, Bool.not_false, cond_true, cond_false])).symm.trans b4)) rfl (met rfl rfl rfl (notT g13)) rfl ca40 rfl rfl (cC (.imm _) .nil) rfl rfl rfl rfl rfl ?_
    refine .v rfl (met rfl rfl rfl (notT g13)) (OpL.unV rfl rfl rfl) ?_
    refine .v rfl rfl (O.pickF (notT g13) rfl rfl rfl) ?_
    refine .m rfl rfl rfl rfl ?_
    refine .x rfl (unmet rfl rfl rfl (notF g14)) ?_
    refine .x rfl (unmet rfl rfl rfl (notF g14)) ?_
    refine .x rfl (unmet rfl rfl rfl (notF g14)) ?_
    refine .x rfl (unmet rfl rfl rfl (notF g14)) ?_
    refine .v rfl rfl (O.pickT (notF g14) rfl rfl rfl) ?_
    refine .m rfl rfl rfl rfl ?_
    refine .x rfl (unmet rfl rfl rfl rfl) ?_
    refine .x rfl (unmet rfl rfl rfl rfl) ?_
    refine .x rfl (unmet rfl rfl rfl rfl) ?_
    refine .x rfl (unmet rfl rfl rfl rfl) ?_
    refine .v rfl rfl (O.pickT rfl rfl rfl rfl) ?_
    refine .m rfl rfl rfl rfl ?_
    refine .x rfl (unmet rfl rfl rfl rfl) ?_
    refine .x rfl (unmet rfl rfl rfl rfl) ?_
    refine .x rfl (unmet rfl rfl rfl rfl) ?_
    refine .x rfl (unmet rfl rfl rfl rfl) ?_
    refine .v rfl rfl (O.pickT rfl rfl rfl rfl) ?_
    refine .m rfl rfl rfl rfl ?_
    refine .x rfl (unmet rfl rfl rfl rfl) ?_
    refine .x rfl (unmet rfl rfl rfl rfl) ?_
    refine .x rfl (unmet rfl rfl rfl rfl) ?_
    refine .x rfl (unmet rfl rfl rfl rfl) ?_
    refine .x rfl (unmet rfl rfl rfl rfl) ?_
    refine .v rfl rfl (O.pickT rfl rfl rfl rfl) ?_
    refine .m rfl rfl rfl rfl ?_
    refine .x rfl (unmet rfl rfl rfl rfl) ?_
    refine .x rfl (unmet rfl rfl rfl rfl) ?_
    refine .x rfl (unmet rfl rfl rfl rfl) ?_
    refine .x rfl (unmet rfl rfl rfl rfl) ?_
    refine .v rfl rfl (O.pickT rfl rfl rfl rfl) ?_
    refine .nil ?_
    exact toN (Gives.mkR [] (.r rfl rfl (.c rfl (sbb (by first | (simp only [g13, g14, Bool.true_or, Bool.or_true, Bool.false_or, Bool.or_false, Bool.true_and, Bool.and_true, Bool.false_and, Bool.and_false, Bool.not_true, Bool.not_false, cond_true, cond_false]; done) | (repeat (first | rw [g13] | rw [g14])) <;> simp only [Bool.true_or, Bool.or_true, Bool.false_or, Bool.or_false, Bool.true_and, Bool.and_true, Bool.false_and, Bool.and_false, Bool.not_true, Bool.not_false, cond_true, cond_false])) rfl .n)) (.r rfl rfl rfl .n) rfl rfl rfl)
  ·refine W.pk ?_
   refine .v rfl rfl (O.fld fld36_0 rfl rfl rfl) ?_
   refine .v rfl rfl (O.ld (y := .i x0.ID) ty3 rfl rfl rfl) ?_
   refine .call (.b t1) [] 0 (lombardref10_in.ok b2) rfl rfl rfl ca39 rfl rfl (cC (.imm _) (cC (.imm _) (cC (.imm _) .nil))) rfl rfl rfl rfl rfl ?_
   refine .v rfl rfl (OpL.unV rfl rfl rfl) ?_
   refine .m rfl rfl rfl rfl ?_
   refine .x rfl (unmet rfl rfl rfl (notF g13)) ?_
   refine .x rfl (unmet rfl rfl rfl (notF g13)) ?_
   refine .x rfl (unmet rfl rfl rfl (notF g13)) ?_
   refine .x rfl (unmet rfl rfl rfl (notF g13)) ?_
   refine .v rfl rfl (O.pickT (notF g13) rfl rfl rfl) ?_
   refine .m rfl rfl rfl rfl ?_
   refine .x rfl (unmet rfl rfl rfl rfl) ?_
   refine .x rfl (unmet rfl rfl rfl rfl) ?_
   refine .x rfl (unmet rfl rfl rfl rfl) ?_
   refine .x rfl (unmet rfl rfl rfl rfl) ?_
   refine .v rfl rfl (O.pickT rfl rfl rfl rfl) ?_
   refine .m rfl rfl rfl rfl ?_
   refine .x rfl (unmet rfl rfl rfl rfl) ?_
   refine .x rfl (unmet rfl rfl rfl rfl) ?_
   refine .x rfl (unmet rfl rfl rfl rfl) ?_
   refine .x rfl (unmet rfl rfl rfl rfl) ?_
   refine .v rfl rfl (O.pickT rfl rfl rfl rfl) ?_
   refine .m rfl rfl rfl rfl ?_
   refine .x rfl (unmet rfl rfl rfl rfl) ?_
   refine .x rfl (unmet rfl rfl rfl rfl) ?_
   refine .x rfl (unmet rfl rfl rfl rfl) ?_
   refine .x rfl (unmet rfl rfl rfl rfl) ?_
   refine .v rfl rfl (O.pickT rfl rfl rfl rfl) ?_
   refine .m rfl rfl rfl rfl ?_
   refine .x rfl (unmet rfl rfl rfl rfl) ?_
   refine .x rfl (unmet rfl rfl rfl rfl) ?_
   refine .x rfl (unmet rfl rfl rfl rfl) ?_
   refine .x rfl (unmet rfl rfl rfl rfl) ?_
   refine .x rfl (unmet rfl rfl rfl rfl) ?_
   refine .v rfl rfl (O.pickT rfl rfl rfl rfl) ?_
   refine .m rfl rfl rfl rfl ?_
   refine .x rfl (unmet rfl rfl rfl rfl) ?_
   refine .x rfl (unmet rfl rfl rfl rfl) ?_
   refine .x rfl (unmet rfl rfl rfl rfl) ?_
   refine .x rfl (unmet rfl rfl rfl rfl) ?_
   refine .v rfl rfl (O.pickT rfl rfl rfl rfl) ?_
   refine .nil ?_
   exact toN (Gives.mkR [] (.r rfl rfl (.c rfl (sbb (by simp only [g13, Bool.true_or, Bool.or_true, Bool.false_or, Bool.or_false, Bool.true_and, Bool.and_true, Bool.false_and, Bool.and_false, Bool.not_true, Bool.not_false, cond_true, cond_false])) rfl .n)) (.r rfl rfl rfl .n) rfl rfl rfl)
end Go.Proofs.Ytdcpdnfalnelkaa
