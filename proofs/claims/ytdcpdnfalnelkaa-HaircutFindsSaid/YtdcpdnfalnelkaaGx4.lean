/- Shows what functions of the program come to, each as a plain function: written by a program of the author's for this claim. -/
import Derived.Test.YtdcpdnfalnelkaaGx3
namespace Go.Proofs.Ytdcpdnfalnelkaa
open Go Go.Pm
set_option linter.unusedVariables false
set_option linter.unusedSimpArgs false
noncomputable def isin_Currency.f (x0 : Bs) : Option (Bool) :=
  if (x0 == [69, 85, 82]) = true then
    if (x0 == [69, 85, 82]) = true then
      some true
    else
      some false
  else
    if (x0 == [85, 83, 68]) = true then
      if (x0 == [85, 83, 68]) = true then
        some true
      else
        some false
    else
      if (x0 == [71, 66, 80]) = true then
        if (x0 == [71, 66, 80]) = true then
          some true
        else
          some false
      else
        if (x0 == [67, 72, 70]) = true then
          if (x0 == [67, 72, 70]) = true then
            some true
          else
            some false
        else
          if (x0 == [74, 80, 89]) = true then
            if (x0 == [74, 80, 89]) = true then
              some true
            else
              some false
          else
            if (x0 == [83, 69, 75]) = true then
              if (x0 == [83, 69, 75]) = true then
                some true
              else
                some false
            else
              if (x0 == [78, 79, 75]) = true then
                if (x0 == [78, 79, 75]) = true then
                  some true
                else
                  some false
              else
                if (x0 == [68, 75, 75]) = true then
                  some true
                else
                  some false
set_option maxRecDepth 100000 in
set_option maxHeartbeats 4000000 in
theorem isin_Currency.ok {x0 : Bs} {r : Bool} (h : isin_Currency.f x0 = some r) : Pm.Spec prog 68 [.imm (.val (.string (tx x0)))] (.imm (.val (.bool r))) [none] := by
 unfold isin_Currency.f at h
 refine Pm.Spec.of_body Try.func68 rfl (by kernel_rfl) (Nat.le_of_ble_eq_true rfl) (Nat.le_of_ble_eq_true rfl) ?_
 refine W.ghost (σ' := (mkSt [(0, some (.s x0))] [] 1000)) (Gives.entry (.c rfl .n) .n) ?_
 refine W.seq ?_
 refine W.pk ?_
 refine .a rfl rfl rfl rfl ?_
 refine .nil ?_
 refine W.seq ?_
 refine W.seq ?_
 refine W.pk ?_
 refine .m rfl rfl rfl rfl ?_
 refine .nil ?_
 refine W.block ?_
 refine W.seq ?_
 refine W.seq ?_
 refine W.pk ?_
 refine .v rfl rfl (O.cmpS rfl rfl rfl rfl) ?_
 refine .a rfl rfl rfl rfl ?_
 refine .nil ?_
 refine W.cond rfl (fun q1 => ?_) (fun q1 => ?_)
 ·have h := ifT q1 h
  refine W.skip ?_
  refine W.cond rfl (fun q2 => ?_) (fun q2 => ?_)
  ·have h := ifT q2 h
   refine W.seq ?_
   refine W.pk ?_
   refine .a rfl rfl rfl rfl ?_
   refine .nil ?_
   refine W.ret ?_
   cases h
   exact leaves (.inr rfl) rfl (.imm _) (cN .nil) rfl rfl
  ·have h := ifF q2 h
   refine W.skip ?_
   refine W.seq ?_
   refine W.pk ?_
   refine .a rfl rfl rfl rfl ?_
   refine .nil ?_
   refine W.ret ?_
   cases h
   exact leaves (.inr rfl) rfl (.imm _) (cN .nil) rfl rfl
 ·have h := ifF q1 h
  refine W.seq ?_
  refine W.pk ?_
  refine .v rfl rfl (O.cmpS rfl rfl rfl rfl) ?_
  refine .a rfl rfl rfl rfl ?_
  refine .nil ?_
  refine W.cond rfl (fun q3 => ?_) (fun q3 => ?_)
  ·have h := ifT q3 h
   refine W.skip ?_
   refine W.cond rfl (fun q4 => ?_) (fun q4 => ?_)
   ·have h := ifT q4 h
    refine W.seq ?_
    refine W.pk ?_
    refine .a rfl rfl rfl rfl ?_
    refine .nil ?_
    refine W.ret ?_
    cases h
    exact leaves (.inr rfl) rfl (.imm _) (cN .nil) rfl rfl
   ·have h := ifF q4 h
    refine W.skip ?_
    refine W.seq ?_
    refine W.pk ?_
    refine .a rfl rfl rfl rfl ?_
    refine .nil ?_
    refine W.ret ?_
    cases h
    exact leaves (.inr rfl) rfl (.imm _) (cN .nil) rfl rfl
  ·have h := ifF q3 h
   refine W.seq ?_
   refine W.pk ?_
   refine .v rfl rfl (O.cmpS rfl rfl rfl rfl) ?_
   refine .a rfl rfl rfl rfl ?_
   refine .nil ?_
   refine W.cond rfl (fun q5 => ?_) (fun q5 => ?_)
   ·have h := ifT q5 h
    refine W.skip ?_
    refine W.cond rfl (fun q6 => ?_) (fun q6 => ?_)
    ·have h := ifT q6 h
     refine W.seq ?_
     refine W.pk ?_
     refine .a rfl rfl rfl rfl ?_
     refine .nil ?_
     refine W.ret ?_
     cases h
     exact leaves (.inr rfl) rfl (.imm _) (cN .nil) rfl rfl
    ·have h := ifF q6 h
     refine W.skip ?_
     refine W.seq ?_
     refine W.pk ?_
     refine .a rfl rfl rfl rfl ?_
     refine .nil ?_
     refine W.ret ?_
     cases h
     exact leaves (.inr rfl) rfl (.imm _) (cN .nil) rfl rfl
   ·have h := ifF q5 h
    refine W.seq ?_
    refine W.pk ?_
    refine .v rfl rfl (O.cmpS rfl rfl rfl rfl) ?_
    refine .a rfl rfl rfl rfl ?_
    refine .nil ?_
    refine W.cond rfl (fun q7 => ?_) (fun q7 => ?_)
    ·have h := ifT q7 h
     refine W.skip ?_
     refine W.cond rfl (fun q8 => ?_) (fun q8 => ?_)
     ·have h := ifT q8 h
      refine W.seq ?_
      refine W.pk ?_
      refine .a rfl rfl rfl rfl ?_
      refine .nil ?_
      refine W.ret ?_
      cases h
      exact leaves (.inr rfl) rfl (.imm _) (cN .nil) rfl rfl
     ·have h := ifF q8 h
      refine W.skip ?_
      refine W.seq ?_
      refine W.pk ?_
      refine .a rfl rfl rfl rfl ?_
      refine .nil ?_
      refine W.ret ?_
      cases h
      exact leaves (.inr rfl) rfl (.imm _) (cN .nil) rfl rfl
    ·have h := ifF q7 h
     refine W.seq ?_
     refine W.pk ?_
     refine .v rfl rfl (O.cmpS rfl rfl rfl rfl) ?_
     refine .a rfl rfl rfl rfl ?_
     refine .nil ?_
     refine W.cond rfl (fun q9 => ?_) (fun q9 => ?_)
     ·have h := ifT q9 h
      refine W.skip ?_
      refine W.cond rfl (fun q10 => ?_) (fun q10 => ?_)
      ·have h := ifT q10 h
       refine W.seq ?_
       refine W.pk ?_
       refine .a rfl rfl rfl rfl ?_
       refine .nil ?_
       refine W.ret ?_
       cases h
       exact leaves (.inr rfl) rfl (.imm _) (cN .nil) rfl rfl
      ·have h := ifF q10 h
       refine W.skip ?_
       refine W.seq ?_
       refine W.pk ?_
       refine .a rfl rfl rfl rfl ?_
       refine .nil ?_
       refine W.ret ?_
       cases h
       exact leaves (.inr rfl) rfl (.imm _) (cN .nil) rfl rfl
     ·have h := ifF q9 h
      refine W.seq ?_
      refine W.pk ?_
      refine .v rfl rfl (O.cmpS rfl rfl rfl rfl) ?_
      refine .a rfl rfl rfl rfl ?_
      refine .nil ?_
      refine W.cond rfl (fun q11 => ?_) (fun q11 => ?_)
      ·have h := ifT q11 h
       refine W.skip ?_
       refine W.cond rfl (fun q12 => ?_) (fun q12 => ?_)
       ·have h := ifT q12 h
        refine W.seq ?_
        refine W.pk ?_
        refine .a rfl rfl rfl rfl ?_
        refine .nil ?_
        refine W.ret ?_
        cases h
        exact leaves (.inr rfl) rfl (.imm _) (cN .nil) rfl rfl
       ·have h := ifF q12 h
        refine W.skip ?_
        refine W.seq ?_
        refine W.pk ?_
        refine .a rfl rfl rfl rfl ?_
        refine .nil ?_
        refine W.ret ?_
        cases h
        exact leaves (.inr rfl) rfl (.imm _) (cN .nil) rfl rfl
      ·have h := ifF q11 h
       refine W.seq ?_
       refine W.pk ?_
       refine .v rfl rfl (O.cmpS rfl rfl rfl rfl) ?_
       refine .a rfl rfl rfl rfl ?_
       refine .nil ?_
       refine W.cond rfl (fun q13 => ?_) (fun q13 => ?_)
       ·have h := ifT q13 h
        refine W.skip ?_
        refine W.cond rfl (fun q14 => ?_) (fun q14 => ?_)
        ·have h := ifT q14 h
         refine W.seq ?_
         refine W.pk ?_
         refine .a rfl rfl rfl rfl ?_
         refine .nil ?_
         refine W.ret ?_
         cases h
         exact leaves (.inr rfl) rfl (.imm _) (cN .nil) rfl rfl
        ·have h := ifF q14 h
         refine W.skip ?_
         refine W.seq ?_
         refine W.pk ?_
         refine .a rfl rfl rfl rfl ?_
         refine .nil ?_
         refine W.ret ?_
         cases h
         exact leaves (.inr rfl) rfl (.imm _) (cN .nil) rfl rfl
       ·have h := ifF q13 h
        refine W.pk ?_
        refine .v rfl rfl (O.cmpS rfl rfl rfl rfl) ?_
        refine .a rfl rfl rfl rfl ?_
        refine .nil ?_
        refine W.cond rfl (fun q15 => ?_) (fun q15 => ?_)
        ·have h := ifT q15 h
         refine W.seq ?_
         refine W.pk ?_
         refine .a rfl rfl rfl rfl ?_
         refine .nil ?_
         refine W.ret ?_
         cases h
         exact leaves (.inr rfl) rfl (.imm _) (cN .nil) rfl rfl
        ·have h := ifF q15 h
         refine W.skip ?_
         refine W.seq ?_
         refine W.pk ?_
         refine .a rfl rfl rfl rfl ?_
         refine .nil ?_
         refine W.ret ?_
         cases h
         exact leaves (.inr rfl) rfl (.imm _) (cN .nil) rfl rfl

noncomputable def isin_Asset.f (x0 : api_Asset) : Option (Int) :=
  (isin_Check.f x0.ISIN).bind fun t1 =>
  if (t1 != 0) = true then
    some t1
  else
    (isin_Currency.f x0.Currency).bind fun t4 =>
    if (!t4) = true then
      some 11
    else
      if ((((decide (x0.Issuer < 0)) || (decide (x0.Issuer > 9999))) || (decide (x0.Rating < 0))) || (decide (x0.Rating > 20))) = true then
        some 1
      else
        if ((decide (x0.Maturity < 0)) || (decide (x0.Maturity > 200000))) = true then
          some 10
        else
          some 0
set_option maxRecDepth 100000 in
set_option maxHeartbeats 4000000 in
theorem isin_Asset.ok {x0 : api_Asset} {r : Int} (h : isin_Asset.f x0 = some r) : Pm.Spec prog 47 [.agg [.imm (.val (.string (tx x0.ISIN))), .imm (.val (.int .i64 x0.Issuer)), .imm (.val (.int .i64 x0.Rating)), .imm (.val (.int .i64 x0.Maturity)), .imm (.val (.string (tx x0.Currency)))]] (.imm (.val (.int .i64 r))) [none] := by
 unfold isin_Asset.f at h
 refine Pm.Spec.of_body Try.func47 rfl (by kernel_rfl) (Nat.le_of_ble_eq_true rfl) (Nat.le_of_ble_eq_true rfl) ?_
 refine W.ghost (σ' := (mkSt [(0, some (.agg (api_Asset.av x0)))] [] 1000)) (Gives.entry (.c rfl .n) .n) ?_
 refine W.seq ?_
 refine W.pk ?_
 refine .t rfl rfl (O.box rfl rfl rfl rfl rfl) ?_
 refine .a rfl rfl rfl rfl ?_
 refine .nil ?_
 refine W.seq ?_
 refine W.seq ?_
 obtain ⟨t1, b2, h⟩ := bnd1 h
 refine W.pk ?_
 refine .v rfl rfl (O.fld fld38_0 rfl rfl rfl) ?_
 refine .v rfl rfl (O.ld (y := .s x0.ISIN) ty9 rfl rfl rfl) ?_
 refine .call (.i t1) [] 0 (isin_Check.ok b2) rfl rfl rfl ca67 rfl rfl (cC (.imm _) .nil) rfl rfl rfl rfl rfl ?_
 refine .a rfl rfl rfl rfl ?_
 refine .nil ?_
 refine W.seq ?_
 refine W.pk ?_
 refine .m rfl rfl rfl rfl ?_
 refine .v rfl rfl (OpL.binI rfl rfl rfl rfl) ?_
 refine .nil ?_
 refine W.cond rfl (fun q3 => ?_) (fun q3 => ?_)
 ·have h := ifT q3 h
  refine W.seq ?_
  refine W.pk ?_
  refine .m rfl rfl rfl rfl ?_
  refine .a rfl rfl rfl rfl ?_
  refine .nil ?_
  refine W.ret ?_
  cases h
  exact leaves (.inr rfl) rfl (.imm _) (cN .nil) rfl rfl
 ·have h := ifF q3 h
  refine W.skip ?_
  refine W.seq ?_
  refine W.block ?_
  refine W.seq ?_
  obtain ⟨t4, b5, h⟩ := bnd1 h
  refine W.pk ?_
  refine .v rfl rfl (O.fld fld38_4 rfl rfl rfl) ?_
  refine .v rfl rfl (O.ld (y := .s x0.Currency) ty9 rfl rfl rfl) ?_
  refine .call (.b t4) [] 0 (isin_Currency.ok b5) rfl rfl rfl ca68 rfl rfl (cC (.imm _) .nil) rfl rfl rfl rfl rfl ?_
  refine .v rfl rfl (OpL.unV rfl rfl rfl) ?_
  refine .a rfl rfl rfl rfl ?_
  refine .nil ?_
  refine W.cond rfl (fun q6 => ?_) (fun q6 => ?_)
  ·have h := ifT q6 h
   refine W.seq ?_
   refine W.pk ?_
   refine .a rfl rfl rfl rfl ?_
   refine .nil ?_
   refine W.ret ?_
   cases h
   exact leaves (.inr rfl) rfl (.imm _) (cN .nil) rfl rfl
  ·have h := ifF q6 h
   refine W.seq ?_
   refine W.fork (mkSt [(1, some (.ptr 1000 0)), (15, some (.b ((((decide (x0.Issuer < 0)) || (decide (x0.Issuer > 9999))) || (decide (x0.Rating < 0))) || (decide (x0.Rating > 20)))))] [(1000, some (.box [.s x0.ISIN, .i x0.Issuer, .i x0.Rating, .i x0.Maturity, .s x0.Currency]))] 1001) ?_ ?_
   ·refine W.cond rfl (fun q10 => ?_) (fun q10 => ?_)
    ·have h := ifT q10 h
     refine W.seq ?_
     refine W.pk ?_
     refine .a rfl rfl rfl rfl ?_
     refine .nil ?_
     refine W.ret ?_
     cases h
     exact leaves (.inr rfl) rfl (.imm _) (cN .nil) rfl rfl
    ·have h := ifF q10 h
     refine W.seq ?_
     refine W.fork (mkSt [(34, some (.b ((decide (x0.Maturity < 0)) || (decide (x0.Maturity > 200000)))))] [] 1001) ?_ ?_
     ·refine W.cond rfl (fun q12 => ?_) (fun q12 => ?_)
      ·have h := ifT q12 h
       refine W.seq ?_
       refine W.pk ?_
       refine .a rfl rfl rfl rfl ?_
       refine .nil ?_
       refine W.ret ?_
       cases h
       exact leaves (.inr rfl) rfl (.imm _) (cN .nil) rfl rfl
      ·have h := ifF q12 h
       refine W.skip ?_
       refine W.seq ?_
       refine W.pk ?_
       refine .a rfl rfl rfl rfl ?_
       refine .nil ?_
       refine W.ret ?_
       cases h
       exact leaves (.inr rfl) rfl (.imm _) (cN .nil) rfl rfl
     ·clear h
      rcases tf (decide (x0.Maturity < 0)) with g11 | g11
      ·refine W.pk ?_
       refine .v rfl rfl (O.fld fld38_3 rfl rfl rfl) ?_
       refine .v rfl rfl (O.ld (y := .i x0.Maturity) ty3 rfl rfl rfl) ?_
       refine .v rfl rfl (OpL.binI rfl rfl rfl rfl) ?_
       refine .m rfl rfl rfl rfl ?_
       refine .x rfl (unmet rfl rfl rfl g11) ?_
       refine .x rfl (unmet rfl rfl rfl g11) ?_
       refine .x rfl (unmet rfl rfl rfl g11) ?_
       refine .v rfl rfl (O.pickT g11 rfl rfl rfl) ?_
       refine .a rfl rfl rfl rfl ?_
       refine .nil ?_
       exact toN (Gives.mkR [] (.c rfl (sbb (by simp only [g11, Bool.true_or, Bool.or_true, Bool.false_or, Bool.or_false, Bool.true_and, Bool.and_true, Bool.false_and, Bool.and_false, Bool.not_true, Bool.not_false, cond_true, cond_false])) rfl .n) .n rfl rfl rfl)
      ·refine W.pk ?_
       refine .v rfl rfl (O.fld fld38_3 rfl rfl rfl) ?_
       refine .v rfl rfl (O.ld (y := .i x0.Maturity) ty3 rfl rfl rfl) ?_
       refine .v rfl rfl (OpL.binI rfl rfl rfl rfl) ?_
       refine .m rfl rfl rfl rfl ?_
       refine .v rfl (met rfl rfl rfl g11) (O.fld fld38_3 rfl rfl rfl) ?_
       refine .v rfl (met rfl rfl rfl g11) (O.ld (y := .i x0.Maturity) ty3 rfl rfl rfl) ?_
       refine .v rfl (met rfl rfl rfl g11) (OpL.binI rfl rfl rfl rfl) ?_
       refine .v rfl rfl (O.pickF g11 rfl rfl rfl) ?_
       refine .a rfl rfl rfl rfl ?_
       refine .nil ?_
       exact toN (Gives.mkR [] (.c rfl (sbb (by simp only [g11, Bool.true_or, Bool.or_true, Bool.false_or, Bool.or_false, Bool.true_and, Bool.and_true, Bool.false_and, Bool.and_false, Bool.not_true, Bool.not_false, cond_true, cond_false])) rfl .n) .n rfl rfl rfl)
   ·clear h
    rcases tf (decide (x0.Issuer < 0)) with g7 | g7
    ·refine W.pk ?_
     refine .v rfl rfl (O.fld fld38_1 rfl rfl rfl) ?_
     refine .v rfl rfl (O.ld (y := .i x0.Issuer) ty3 rfl rfl rfl) ?_
     refine .v rfl rfl (OpL.binI rfl rfl rfl rfl) ?_
     refine .m rfl rfl rfl rfl ?_
     refine .x rfl (unmet rfl rfl rfl g7) ?_
     refine .x rfl (unmet rfl rfl rfl g7) ?_
     refine .x rfl (unmet rfl rfl rfl g7) ?_
     refine .v rfl rfl (O.pickT g7 rfl rfl rfl) ?_
     refine .m rfl rfl rfl rfl ?_
     refine .x rfl (unmet rfl rfl rfl rfl) ?_
     refine .x rfl (unmet rfl rfl rfl rfl) ?_
     refine .x rfl (unmet rfl rfl rfl rfl) ?_
     refine .v rfl rfl (O.pickT rfl rfl rfl rfl) ?_
     refine .m rfl rfl rfl rfl ?_
     refine .x rfl (unmet rfl rfl rfl rfl) ?_
     refine .x rfl (unmet rfl rfl rfl rfl) ?_
     refine .x rfl (unmet rfl rfl rfl rfl) ?_
     refine .v rfl rfl (O.pickT rfl rfl rfl rfl) ?_
     refine .a rfl rfl rfl rfl ?_
     refine .nil ?_
     exact toN (Gives.mkR [] (.r rfl rfl (.c rfl (sbb (by simp only [g7, Bool.true_or, Bool.or_true, Bool.false_or, Bool.or_false, Bool.true_and, Bool.and_true, Bool.false_and, Bool.and_false, Bool.not_true, Bool.not_false, cond_true, cond_false])) rfl .n)) (.r rfl rfl rfl .n) rfl rfl rfl)
    ·rcases tf (decide (x0.Issuer > 9999)) with g8 | g8
     ·refine W.pk ?_
      refine .v rfl rfl (O.fld fld38_1 rfl rfl rfl) ?_
      refine .v rfl rfl (O.ld (y := .i x0.Issuer) ty3 rfl rfl rfl) ?_
      refine .v rfl rfl (OpL.binI rfl rfl rfl rfl) ?_
      refine .m rfl rfl rfl rfl ?_
      refine .v rfl (met rfl rfl rfl g7) (O.fld fld38_1 rfl rfl rfl) ?_
      refine .v rfl (met rfl rfl rfl g7) (O.ld (y := .i x0.Issuer) ty3 rfl rfl rfl) ?_
      refine .v rfl (met rfl rfl rfl g7) (OpL.binI rfl rfl rfl rfl) ?_
      refine .v rfl rfl (O.pickF g7 rfl rfl rfl) ?_
      refine .m rfl rfl rfl rfl ?_
      refine .x rfl (unmet rfl rfl rfl g8) ?_
      refine .x rfl (unmet rfl rfl rfl g8) ?_
      refine .x rfl (unmet rfl rfl rfl g8) ?_
      refine .v rfl rfl (O.pickT g8 rfl rfl rfl) ?_
      refine .m rfl rfl rfl rfl ?_
      refine .x rfl (unmet rfl rfl rfl rfl) ?_
      refine .x rfl (unmet rfl rfl rfl rfl) ?_
      refine .x rfl (unmet rfl rfl rfl rfl) ?_
      refine .v rfl rfl (O.pickT rfl rfl rfl rfl) ?_
      refine .a rfl rfl rfl rfl ?_
      refine .nil ?_
      exact toN (Gives.mkR [] (.r rfl rfl (.c rfl (sbb (by first | (simp only [g7, g8, Bool.true_or, Bool.or_true, Bool.false_or, Bool.or_false, Bool.true_and, Bool.and_true, Bool.false_and, Bool.and_false, Bool.not_true, Bool.not_false, cond_true, cond_false]; done) | (repeat (first | rw [g7] | rw [g8])) <;> simp only [Bool.true_or, Bool.or_true, Bool.false_or, Bool.or_false, Bool.true_and, Bool.and_true, Bool.false_and, Bool.and_false, Bool.not_true, Bool.not_false, cond_true, cond_false])) rfl .n)) (.r rfl rfl rfl .n) rfl rfl rfl)
     ·rcases tf (decide (x0.Rating < 0)) with g9 | g9
      ·refine W.pk ?_
       refine .v rfl rfl (O.fld fld38_1 rfl rfl rfl) ?_
       refine .v rfl rfl (O.ld (y := .i x0.Issuer) ty3 rfl rfl rfl) ?_
       refine .v rfl rfl (OpL.binI rfl rfl rfl rfl) ?_
       refine .m rfl rfl rfl rfl ?_
       refine .v rfl (met rfl rfl rfl g7) (O.fld fld38_1 rfl rfl rfl) ?_
       refine .v rfl (met rfl rfl rfl g7) (O.ld (y := .i x0.Issuer) ty3 rfl rfl rfl) ?_
       refine .v rfl (met rfl rfl rfl g7) (OpL.binI rfl rfl rfl rfl) ?_
       refine .v rfl rfl (O.pickF g7 rfl rfl rfl) ?_
       refine .m rfl rfl rfl rfl ?_
       refine .v rfl (met rfl rfl rfl g8) (O.fld fld38_2 rfl rfl rfl) ?_
       refine .v rfl (met rfl rfl rfl g8) (O.ld (y := .i x0.Rating) ty3 rfl rfl rfl) ?_
       refine .v rfl (met rfl rfl rfl g8) (OpL.binI rfl rfl rfl rfl) ?_
       refine .v rfl rfl (O.pickF g8 rfl rfl rfl) ?_
       refine .m rfl rfl rfl rfl ?_
       refine .x rfl (unmet rfl rfl rfl g9) ?_
       refine .x rfl (unmet rfl rfl rfl g9) ?_
       refine .x rfl (unmet rfl rfl rfl g9) ?_
       refine .v rfl rfl (O.pickT g9 rfl rfl rfl) ?_
       refine .a rfl rfl rfl rfl ?_
       refine .nil ?_
       exact toN (Gives.mkR [] (.r rfl rfl (.c rfl (sbb (by first | (simp only [g7, g8, g9, Bool.true_or, Bool.or_true, Bool.false_or, Bool.or_false, Bool.true_and, Bool.and_true, Bool.false_and, Bool.and_false, Bool.not_true, Bool.not_false, cond_true, cond_false]; done) | (repeat (first | rw [g7] | rw [g8] | rw [g9])) <;> simp only [Bool.true_or, Bool.or_true, Bool.false_or, Bool.or_false, Bool.true_and, Bool.and_true, Bool.false_and, Bool.and_false, Bool.not_true, Bool.not_false, cond_true, cond_false])) rfl .n)) (.r rfl rfl rfl .n) rfl rfl rfl)
      ·refine W.pk ?_
       refine .v rfl rfl (O.fld fld38_1 rfl rfl rfl) ?_
       refine .v rfl rfl (O.ld (y := .i x0.Issuer) ty3 rfl rfl rfl) ?_
       refine .v rfl rfl (OpL.binI rfl rfl rfl rfl) ?_
       refine .m rfl rfl rfl rfl ?_
       refine .v rfl (met rfl rfl rfl g7) (O.fld fld38_1 rfl rfl rfl) ?_
       refine .v rfl (met rfl rfl rfl g7) (O.ld (y := .i x0.Issuer) ty3 rfl rfl rfl) ?_
       refine .v rfl (met rfl rfl rfl g7) (OpL.binI rfl rfl rfl rfl) ?_
       refine .v rfl rfl (O.pickF g7 rfl rfl rfl) ?_
       refine .m rfl rfl rfl rfl ?_
       refine .v rfl (met rfl rfl rfl g8) (O.fld fld38_2 rfl rfl rfl) ?_
       refine .v rfl (met rfl rfl rfl g8) (O.ld (y := .i x0.Rating) ty3 rfl rfl rfl) ?_
       refine .v rfl (met rfl rfl rfl g8) (OpL.binI rfl rfl rfl rfl) ?_
       refine .v rfl rfl (O.pickF g8 rfl rfl rfl) ?_
       refine .m rfl rfl rfl rfl ?_
       refine .v rfl (met rfl rfl rfl g9) (O.fld fld38_2 rfl rfl rfl) ?_
       refine .v rfl (met rfl rfl rfl g9) (O.ld (y := .i x0.Rating) ty3 rfl rfl rfl) ?_
       refine .v rfl (met rfl rfl rfl g9) (OpL.binI rfl rfl rfl rfl) ?_
       refine .v rfl rfl (O.pickF g9 rfl rfl rfl) ?_
       refine .a rfl rfl rfl rfl ?_
       refine .nil ?_
       exact toN (Gives.mkR [] (.r rfl rfl (.c rfl (sbb (by first | (simp only [g7, g8, g9, Bool.true_or, Bool.or_true, Bool.false_or, Bool.or_false, Bool.true_and, Bool.and_true, Bool.false_and, Bool.and_false, Bool.not_true, Bool.not_false, cond_true, cond_false]; done) | (repeat (first | rw [g7] | rw [g8] | rw [g9])) <;> simp only [Bool.true_or, Bool.or_true, Bool.false_or, Bool.or_false, Bool.true_and, Bool.and_true, Bool.false_and, Bool.and_false, Bool.not_true, Bool.not_false, cond_true, cond_false])) rfl .n)) (.r rfl rfl rfl .n) rfl rfl rfl)

noncomputable def cmp_isNaN_string.f (x0 : Bs) : Option (Bool) :=
  some (!(x0 == x0))
set_option maxRecDepth 100000 in
set_option maxHeartbeats 4000000 in
theorem cmp_isNaN_string.ok {x0 : Bs} {r : Bool} (h : cmp_isNaN_string.f x0 = some r) : Pm.Spec prog 81 [.imm (.val (.string (tx x0)))] (.imm (.val (.bool r))) [none] := by
 unfold cmp_isNaN_string.f at h
 refine Pm.Spec.of_body Try.func81 rfl (by kernel_rfl) (Nat.le_of_ble_eq_true rfl) (Nat.le_of_ble_eq_true rfl) ?_
 refine W.ghost (σ' := (mkSt [(0, some (.s x0))] [] 1000)) (Gives.entry (.c rfl .n) .n) ?_
 refine W.seq ?_
 refine W.pk ?_
 refine .a rfl rfl rfl rfl ?_
 refine .nil ?_
 refine W.seq ?_
 refine W.pk ?_
 refine .m rfl rfl rfl rfl ?_
 refine .m rfl rfl rfl rfl ?_
 refine .v rfl rfl (O.cmpS rfl rfl rfl rfl) ?_
 refine .a rfl rfl rfl rfl ?_
 refine .nil ?_
 refine W.ret ?_
 cases h
 exact leaves (.inr rfl) rfl (.imm _) (cN .nil) rfl rfl

noncomputable def cmp_Compare_string.f (x0 : Bs) (x1 : Bs) : Option (Int) :=
  (cmp_isNaN_string.f x0).bind fun t1 =>
  (cmp_isNaN_string.f x1).bind fun t3 =>
  if t1 = true then
    if t3 = true then
      some 0
    else
      some (-1)
  else
    if t3 = true then
      some 1
    else
      if (Go.Op.bytesLess x0 x1) = true then
        some (-1)
      else
        if (!(Go.Op.bytesLess x0 x1 || x0 == x1)) = true then
          some 1
        else
          some 0
set_option maxRecDepth 100000 in
set_option maxHeartbeats 4000000 in
theorem cmp_Compare_string.ok {x0 : Bs} {x1 : Bs} {r : Int} (h : cmp_Compare_string.f x0 x1 = some r) : Pm.Spec prog 71 [.imm (.val (.string (tx x0))), .imm (.val (.string (tx x1)))] (.imm (.val (.int .i64 r))) [none, none] := by
 unfold cmp_Compare_string.f at h
 refine Pm.Spec.of_body Try.func71 rfl (by kernel_rfl) (Nat.le_of_ble_eq_true rfl) (Nat.le_of_ble_eq_true rfl) ?_
 refine W.ghost (σ' := (mkSt [(0, some (.s x0)), (1, some (.s x1))] [] 1000)) (Gives.entry (.c rfl (.c rfl .n)) .n) ?_
 refine W.seq ?_
 refine W.pk ?_
 refine .a rfl rfl rfl rfl ?_
 refine .nil ?_
 refine W.seq ?_
 obtain ⟨t1, b2, h⟩ := bnd1 h
 refine W.pk ?_
 refine .m rfl rfl rfl rfl ?_
 refine .call (.b t1) [] 0 (cmp_isNaN_string.ok b2) rfl rfl rfl ca81 rfl rfl (cC (.imm _) .nil) rfl rfl rfl rfl rfl ?_
 refine .a rfl rfl rfl rfl ?_
 refine .nil ?_
 refine W.seq ?_
 obtain ⟨t3, b4, h⟩ := bnd1 h
 refine W.pk ?_
 refine .m rfl rfl rfl rfl ?_
 refine .call (.b t3) [] 0 (cmp_isNaN_string.ok b4) rfl rfl rfl ca81 rfl rfl (cC (.imm _) .nil) rfl rfl rfl rfl rfl ?_
 refine .a rfl rfl rfl rfl ?_
 refine .nil ?_
 refine W.seq ?_
 refine W.seq ?_
 refine W.pk ?_
 refine .m rfl rfl rfl rfl ?_
 refine .nil ?_
 refine W.cond rfl (fun q5 => ?_) (fun q5 => ?_)
 ·have h := ifT q5 h
  refine W.seq ?_
  refine W.seq ?_
  refine W.pk ?_
  refine .m rfl rfl rfl rfl ?_
  refine .nil ?_
  refine W.cond rfl (fun q6 => ?_) (fun q6 => ?_)
  ·have h := ifT q6 h
   refine W.seq ?_
   refine W.pk ?_
   refine .a rfl rfl rfl rfl ?_
   refine .nil ?_
   refine W.ret ?_
   cases h
   exact leaves (.inr rfl) rfl (.imm _) (cN (cN .nil)) rfl rfl
  ·have h := ifF q6 h
   refine W.skip ?_
   refine W.seq ?_
   refine W.pk ?_
   refine .a rfl rfl rfl rfl ?_
   refine .nil ?_
   refine W.ret ?_
   cases h
   exact leaves (.inr rfl) rfl (.imm _) (cN (cN .nil)) rfl rfl
 ·have h := ifF q5 h
  refine W.skip ?_
  refine W.seq ?_
  refine W.seq ?_
  refine W.pk ?_
  refine .m rfl rfl rfl rfl ?_
  refine .nil ?_
  refine W.cond rfl (fun q7 => ?_) (fun q7 => ?_)
  ·have h := ifT q7 h
   refine W.seq ?_
   refine W.pk ?_
   refine .a rfl rfl rfl rfl ?_
   refine .nil ?_
   refine W.ret ?_
   cases h
   exact leaves (.inr rfl) rfl (.imm _) (cN (cN .nil)) rfl rfl
  ·have h := ifF q7 h
   refine W.skip ?_
   refine W.seq ?_
   refine W.seq ?_
   refine W.pk ?_
   refine .m rfl rfl rfl rfl ?_
   refine .m rfl rfl rfl rfl ?_
   refine .v rfl rfl (O.cmpS rfl rfl rfl rfl) ?_
   refine .nil ?_
   refine W.cond rfl (fun q8 => ?_) (fun q8 => ?_)
   ·have h := ifT q8 h
    refine W.seq ?_
    refine W.pk ?_
    refine .a rfl rfl rfl rfl ?_
    refine .nil ?_
    refine W.ret ?_
    cases h
    exact leaves (.inr rfl) rfl (.imm _) (cN (cN .nil)) rfl rfl
   ·have h := ifF q8 h
    refine W.skip ?_
    refine W.seq ?_
    refine W.seq ?_
    refine W.pk ?_
    refine .m rfl rfl rfl rfl ?_
    refine .m rfl rfl rfl rfl ?_
    refine .v rfl rfl (O.cmpS rfl rfl rfl rfl) ?_
    refine .nil ?_
    refine W.cond rfl (fun q9 => ?_) (fun q9 => ?_)
    ·have h := ifT q9 h
     refine W.seq ?_
     refine W.pk ?_
     refine .a rfl rfl rfl rfl ?_
     refine .nil ?_
     refine W.ret ?_
     cases h
     exact leaves (.inr rfl) rfl (.imm _) (cN (cN .nil)) rfl rfl
    ·have h := ifF q9 h
     refine W.skip ?_
     refine W.seq ?_
     refine W.pk ?_
     refine .a rfl rfl rfl rfl ?_
     refine .nil ?_
     refine W.ret ?_
     cases h
     exact leaves (.inr rfl) rfl (.imm _) (cN (cN .nil)) rfl rfl

noncomputable def asset_Book_place_1_v2.f (x0 : api_Asset) (x1 : Bs) : Option (Int) :=
  (cmp_Compare_string.f x0.ISIN x1).bind fun t1 =>
  some t1
set_option maxRecDepth 100000 in
set_option maxHeartbeats 4000000 in
theorem asset_Book_place_1_v2.ok {x0 : api_Asset} {x1 : Bs} {r : Int} (h : asset_Book_place_1_v2.f x0 x1 = some r) : Pm.Spec prog 70 [.agg [.imm (.val (.string (tx x0.ISIN))), .imm (.val (.int .i64 x0.Issuer)), .imm (.val (.int .i64 x0.Rating)), .imm (.val (.int .i64 x0.Maturity)), .imm (.val (.string (tx x0.Currency)))], .imm (.val (.string (tx x1)))] (.imm (.val (.int .i64 r))) [none, none] := by
 unfold asset_Book_place_1_v2.f at h
 refine Pm.Spec.of_body Try.func70 rfl (by kernel_rfl) (Nat.le_of_ble_eq_true rfl) (Nat.le_of_ble_eq_true rfl) ?_
 refine W.ghost (σ' := (mkSt [(0, some (.agg (api_Asset.av x0))), (1, some (.s x1))] [] 1000)) (Gives.entry (.c rfl (.c rfl .n)) .n) ?_
 refine W.seq ?_
 refine W.pk ?_
 refine .t rfl rfl (O.box rfl rfl rfl rfl rfl) ?_
 refine .a rfl rfl rfl rfl ?_
 refine .nil ?_
 refine W.seq ?_
 obtain ⟨t1, b2, h⟩ := bnd1 h
 refine W.pk ?_
 refine .v rfl rfl (O.fld fld38_0 rfl rfl rfl) ?_
 refine .v rfl rfl (O.ld (y := .s x0.ISIN) ty9 rfl rfl rfl) ?_
 refine .m rfl rfl rfl rfl ?_
 refine .call (.i t1) [] 0 (cmp_Compare_string.ok b2) rfl rfl rfl ca71 rfl rfl (cC (.imm _) (cC (.imm _) .nil)) rfl rfl rfl rfl rfl ?_
 refine .a rfl rfl rfl rfl ?_
 refine .nil ?_
 refine W.ret ?_
 cases h
 exact leaves (.inr rfl) rfl (.imm _) (cN (cN .nil)) rfl rfl

noncomputable def slices_BinarySearchFunc_string__asset_Book_place_1.b0 (x0 : List api_Asset) (x1 : Bs) (v6 : Int) (v7 : Int) : Option ((Int × Int) ⊕ Int) :=
  if (decide (v6 < v7)) = true then
    if (0 : Int) ≤ (IntKind.wrap .i64 (shrI .u64 (IntKind.wrap .u64 (IntKind.wrap .i64 (v6 + v7))) 1)) ∧ (IntKind.wrap .i64 (shrI .u64 (IntKind.wrap .u64 (IntKind.wrap .i64 (v6 + v7))) 1)) < (List.length x0 : Int) then
    (asset_Book_place_1_v2.f (nth x0 (IntKind.wrap .i64 (shrI .u64 (IntKind.wrap .u64 (IntKind.wrap .i64 (v6 + v7))) 1))) x1).bind fun t24 =>
    if (decide (t24 < 0)) = true then
      some (.inl ((IntKind.wrap .i64 ((IntKind.wrap .i64 (shrI .u64 (IntKind.wrap .u64 (IntKind.wrap .i64 (v6 + v7))) 1)) + 1)), v7))
    else
      some (.inl (v6, (IntKind.wrap .i64 (shrI .u64 (IntKind.wrap .u64 (IntKind.wrap .i64 (v6 + v7))) 1))))
    else none
  else
    some (.inr v6)
noncomputable def slices_BinarySearchFunc_string__asset_Book_place_1.r0 (x0 : List api_Asset) (x1 : Bs) (s : Int × Int) : Option ((Int × Int) ⊕ Int) := slices_BinarySearchFunc_string__asset_Book_place_1.b0 x0 x1 s.1 s.2
noncomputable def slices_BinarySearchFunc_string__asset_Book_place_1.f (x0 : List api_Asset) (x1 : Bs) : Option (Int × Bool) :=
  (loop (slices_BinarySearchFunc_string__asset_Book_place_1.r0 x0 x1) (0, (List.length x0 : Int))).bind fun o19 =>
  if ((decide (o19 < (List.length x0 : Int))) = true → (0 : Int) ≤ o19 ∧ o19 < (List.length x0 : Int)) then
  (if (decide (o19 < (List.length x0 : Int))) = true then asset_Book_place_1_v2.f (nth x0 o19) x1 else some default).bind fun t28 =>
  some (o19, ((decide (o19 < (List.length x0 : Int))) && (t28 == 0)))
  else none
set_option maxRecDepth 100000 in
set_option maxHeartbeats 4000000 in
theorem slices_BinarySearchFunc_string__asset_Book_place_1.ok {x0 : List api_Asset} {x1 : Bs} {r : Int × Bool} (h : slices_BinarySearchFunc_string__asset_Book_place_1.f x0 x1 = some r) : Pm.Spec prog 69 [.xown 38 5 (List.map api_Asset.enc x0), .imm (.val (.string (tx x1))), .fn 70 []] (.tup [.imm (.val (.int .i64 r.1)), .imm (.val (.bool r.2))]) [some (.xown 38 5 (List.map api_Asset.enc x0)), none, none] := by
 unfold slices_BinarySearchFunc_string__asset_Book_place_1.f at h
 refine Pm.Spec.of_body Try.func69 rfl (by kernel_rfl) (Nat.le_of_ble_eq_true rfl) (Nat.le_of_ble_eq_true rfl) ?_
 refine W.ghost (σ' := (mkSt [(0, some (.own 0)), (1, some (.s x1)), (2, some (.fn 70 []))] [(0, some (.rows 38 5 (List.map api_Asset.enc x0) false))] 1000)) (Gives.entry (.c rfl (.c rfl (.c rfl .n))) (.c rfl .n)) ?_
 refine W.seq ?_
 refine W.pk ?_
 refine .a rfl rfl rfl rfl ?_
 refine .a rfl rfl rfl rfl ?_
 refine .nil ?_
 refine W.seq ?_
 refine W.pk ?_
 refine .m rfl rfl rfl rfl ?_
 refine .v rfl rfl (O.lenO sl56 rfl rfl rfl) ?_
 refine .a rfl rfl rfl rfl ?_
 refine .nil ?_
 refine W.seq ?_
 refine W.pk ?_
 refine .m rfl rfl rfl rfl ?_
 refine .a rfl rfl rfl rfl ?_
 refine .a rfl rfl rfl rfl ?_
 refine .nil ?_
 refine W.seq ?_
 obtain ⟨o19, b20, h⟩ := bnd1 h
 refine W.fork (mkSt [(0, some (.own 0)), (1, some (.s x1)), (2, some (.fn 70 [])), (8, some (.i (List.length x0 : Int))), (9, some (.i o19))] [(0, some (.rows 38 5 (List.map api_Asset.enc x0) false))] 1000) ?_ ?_
 ·refine W.seq ?_
  obtain ⟨c27, h⟩ := chk h
  obtain ⟨t28, b29, h⟩ := bnd1 h
  refine W.fork (mkSt [(6, some (.i o19)), (7, some (.b ((decide (o19 < (List.length x0 : Int))) && (t28 == 0))))] [(0, some (.rows 38 5 (List.map api_Asset.enc x0) false))] 1000) ?_ ?_
  ·refine W.ret ?_
   cases h
   exact leaves (.inr rfl) rfl (.tup _ _ _ _ (cC (.imm _) (cC (.imm _) .nil))) (cS (.own _ _ _ _ rfl) (cN (cN .nil))) rfl rfl
  ·clear h
   rcases tf (decide (o19 < (List.length x0 : Int))) with g30 | g30
   ·refine W.pk ?_
    refine .m rfl rfl rfl rfl ?_
    refine .m rfl rfl rfl rfl ?_
    refine .m rfl rfl rfl rfl ?_
    refine .v rfl rfl (OpL.binI rfl rfl rfl rfl) ?_
    refine .m rfl rfl rfl rfl ?_
    refine .m rfl (met rfl rfl rfl g30) rfl rfl ?_
    refine .m rfl (met rfl rfl rfl g30) rfl rfl ?_
    refine .m rfl (met rfl rfl rfl g30) rfl rfl ?_
    refine .v rfl (met rfl rfl rfl g30) (O.idxO sl56 (c27 (by simp only [g30, Bool.true_or, Bool.or_true, Bool.false_or, Bool.or_false, Bool.true_and, Bool.and_true, Bool.false_and, Bool.and_false, Bool.not_true, Bool.not_false, cond_true, cond_false])) rfl rfl rfl rfl) ?_
    refine .v rfl (met rfl rfl rfl g30) (O.ldEN ty38 (c27 (by simp only [g30, Bool.true_or, Bool.or_true, Bool.false_or, Bool.or_false, Bool.true_and, Bool.and_true, Bool.false_and, Bool.and_false, Bool.not_true, Bool.not_false, cond_true, cond_false])) rfl rfl rfl rfl rfl) ?_
    refine .m rfl (met rfl rfl rfl g30) rfl rfl ?_
    refine .call (.i t28) [] 0 (asset_Book_place_1_v2.ok ((if_pos (by simp only [g30, Bool.true_or, Bool.or_true, Bool.false_or, Bool.or_false, Bool.true_and, Bool.and_true, Bool.false_and, Bool.and_false, Bool.not_true, Bool.not_false, cond_true, cond_false])).symm.trans b29)) rfl (met rfl rfl rfl g30) rfl ca70 rfl rfl (cC (.agg _ _ _ _ (cC (.imm _) (cC (.imm _) (cC (.imm _) (cC (.imm _) (cC (.imm _) .nil)))))) (cC (.imm _) .nil)) rfl rfl rfl rfl rfl ?_
    refine .v rfl (met rfl rfl rfl g30) (OpL.binI rfl rfl rfl rfl) ?_
    refine .v rfl rfl (O.pickT g30 rfl rfl rfl) ?_
    refine .a rfl rfl rfl rfl ?_
    refine .a rfl rfl rfl rfl ?_
    refine .nil ?_
    exact toN (Gives.mkR [] (.r rfl rfl (.c rfl (sbb (by simp only [g30, Bool.true_or, Bool.or_true, Bool.false_or, Bool.or_false, Bool.true_and, Bool.and_true, Bool.false_and, Bool.and_false, Bool.not_true, Bool.not_false, cond_true, cond_false])) rfl .n)) (.r rfl rfl rfl .n) rfl rfl rfl)
   ·refine W.pk ?_
    refine .m rfl rfl rfl rfl ?_
    refine .m rfl rfl rfl rfl ?_
    refine .m rfl rfl rfl rfl ?_
    refine .v rfl rfl (OpL.binI rfl rfl rfl rfl) ?_
    refine .m rfl rfl rfl rfl ?_
    refine .x rfl (unmet rfl rfl rfl g30) ?_
    refine .x rfl (unmet rfl rfl rfl g30) ?_
    refine .x rfl (unmet rfl rfl rfl g30) ?_
    refine .x rfl (unmet rfl rfl rfl g30) ?_
    refine .x rfl (unmet rfl rfl rfl g30) ?_
    refine .x rfl (unmet rfl rfl rfl g30) ?_
    refine .x rfl (unmet rfl rfl rfl g30) ?_
    refine .x rfl (unmet rfl rfl rfl g30) ?_
    refine .v rfl rfl (O.pickF g30 rfl rfl rfl) ?_
    refine .a rfl rfl rfl rfl ?_
    refine .a rfl rfl rfl rfl ?_
    refine .nil ?_
    exact toN (Gives.mkR [] (.r rfl rfl (.c rfl (sbb (by simp only [g30, Bool.true_or, Bool.or_true, Bool.false_or, Bool.or_false, Bool.true_and, Bool.and_true, Bool.false_and, Bool.and_false, Bool.not_true, Bool.not_false, cond_true, cond_false])) rfl .n)) (.r rfl rfl rfl .n) rfl rfl rfl)
 ·clear h
  refine W.block ?_
  refine W.loopF (fun (s_ : Int × Int) => mkSt [(0, some (.own 0)), (1, some (.s x1)), (2, some (.fn 70 [])), (8, some (.i (List.length x0 : Int))), (9, some (.i s_.1)), (10, some (.i s_.2))] [(0, some (.rows 38 5 (List.map api_Asset.enc x0) false))] 1000) b20 (Gives.mkR [] (.r rfl rfl (.r rfl rfl (.r rfl rfl (.r rfl rfl (.r rfl rfl (.r rfl rfl .n)))))) (.r rfl rfl rfl .n) rfl rfl rfl) ?_
  rintro ⟨v6, v7⟩ s_ hr
  have h : slices_BinarySearchFunc_string__asset_Book_place_1.b0 x0 x1 v6 v7 = some s_ := hr
  unfold slices_BinarySearchFunc_string__asset_Book_place_1.b0 at h
  refine W.seq ?_
  refine W.seq ?_
  refine W.pk ?_
  refine .m rfl rfl rfl rfl ?_
  refine .m rfl rfl rfl rfl ?_
  refine .v rfl rfl (OpL.binI rfl rfl rfl rfl) ?_
  refine .nil ?_
  refine W.cond rfl (fun q22 => ?_) (fun q22 => ?_)
  ·have h := ifT q22 h
   refine W.skip ?_
   refine W.block ?_
   refine W.seq ?_
   refine W.pk ?_
   refine .m rfl rfl rfl rfl ?_
   refine .m rfl rfl rfl rfl ?_
   refine .v rfl rfl (OpL.binI rfl rfl rfl rfl) ?_
   refine .v rfl rfl (O.conv h3 u124 rfl rfl) ?_
   refine .v rfl rfl (O.shr (by decide) rfl rfl rfl) ?_
   refine .v rfl rfl (O.conv h124 u3 rfl rfl) ?_
   refine .a rfl rfl rfl rfl ?_
   refine .nil ?_
   refine W.seq ?_
   obtain ⟨c23, h⟩ := chk h
   obtain ⟨t24, b25, h⟩ := bnd1 h
   refine W.pk ?_
   refine .m rfl rfl rfl rfl ?_
   refine .m rfl rfl rfl rfl ?_
   refine .m rfl rfl rfl rfl ?_
   refine .v rfl rfl (O.idxO sl56 c23 rfl rfl rfl rfl) ?_
   refine .v rfl rfl (O.ldEN ty38 c23 rfl rfl rfl rfl rfl) ?_
   refine .m rfl rfl rfl rfl ?_
   refine .call (.i t24) [] 0 (asset_Book_place_1_v2.ok b25) rfl rfl rfl ca70 rfl rfl (cC (.agg _ _ _ _ (cC (.imm _) (cC (.imm _) (cC (.imm _) (cC (.imm _) (cC (.imm _) .nil)))))) (cC (.imm _) .nil)) rfl rfl rfl rfl rfl ?_
   refine .v rfl rfl (OpL.binI rfl rfl rfl rfl) ?_
   refine .nil ?_
   refine W.cond rfl (fun q26 => ?_) (fun q26 => ?_)
   ·have h := ifT q26 h
    refine W.pk ?_
    refine .m rfl rfl rfl rfl ?_
    refine .v rfl rfl (OpL.binI rfl rfl rfl rfl) ?_
    refine .a rfl rfl rfl rfl ?_
    refine .nil ?_
    cases h
    exact rdN (Gives.mkR [] (.r rfl rfl (.r rfl rfl (.r rfl rfl (.r rfl rfl (.r rfl rfl (.r rfl rfl .n)))))) (.r rfl rfl rfl .n) rfl rfl rfl)
   ·have h := ifF q26 h
    refine W.pk ?_
    refine .m rfl rfl rfl rfl ?_
    refine .a rfl rfl rfl rfl ?_
    refine .nil ?_
    cases h
    exact rdN (Gives.mkR [] (.r rfl rfl (.r rfl rfl (.r rfl rfl (.r rfl rfl (.r rfl rfl (.r rfl rfl .n)))))) (.r rfl rfl rfl .n) rfl rfl rfl)
  ·have h := ifF q22 h
   refine W.exit ?_
   cases h
   refine rdX fun e_ => ?_
   subst e_
   repeat with_reducible refine thru ?_
   refine hit ?_
   exact toN (Gives.mkR [] (.r rfl rfl (.r rfl rfl (.r rfl rfl (.r rfl rfl (.r rfl rfl .n))))) (.r rfl rfl rfl .n) rfl rfl rfl)

noncomputable def asset_Book_place.f (x0 : asset_Book) (x1 : Bs) : Option (Int × Bool) :=
  (slices_BinarySearchFunc_string__asset_Book_place_1.f x0.l x1).bind fun t1 =>
  some (t1.1, t1.2)
set_option maxRecDepth 100000 in
set_option maxHeartbeats 4000000 in
theorem asset_Book_place.ok {x0 : asset_Book} {x1 : Bs} {r : Int × Bool} (h : asset_Book_place.f x0 x1 = some r) : Pm.Spec prog 48 [.xbox [.xown 38 5 (List.map api_Asset.enc x0.l), .xown 3 1 (List.map (encI .i64) x0.prices), .imm (.val (.bool x0.made))], .imm (.val (.string (tx x1)))] (.tup [.imm (.val (.int .i64 r.1)), .imm (.val (.bool r.2))]) [some (.xbox [.xown 38 5 (List.map api_Asset.enc x0.l), .xown 3 1 (List.map (encI .i64) x0.prices), .imm (.val (.bool x0.made))]), none] := by
 unfold asset_Book_place.f at h
 refine Pm.Spec.of_body Try.func48 rfl (by kernel_rfl) (Nat.le_of_ble_eq_true rfl) (Nat.le_of_ble_eq_true rfl) ?_
 refine W.ghost (σ' := (mkSt [(0, some (.ptr 0 0)), (1, some (.s x1))] [(0, some (.box [.own 1, .own 2, .b x0.made])), (1, some (.rows 38 5 (List.map api_Asset.enc x0.l) false)), (2, some (.rows 3 1 (List.map (encI .i64) x0.prices) false))] 1000)) (Gives.entry (.c rfl (.c rfl .n)) (.c rfl (.c rfl (.c rfl .n)))) ?_
 refine W.ghost (σ' := (mkSt [(0, some (.ptr 0 0)), (1, some (.s x1))] [(0, some (.box [.own 1000, .own 1001, .b x0.made])), (1000, some (.rows 38 5 (List.map api_Asset.enc x0.l) false)), (1001, some (.rows 3 1 (List.map (encI .i64) x0.prices) false))] 1002)) (Gives.mkR [(1000, 1), (1001, 2)] (.r rfl rfl (.r rfl rfl .n)) (.r rfl rfl rfl (.r rfl rfl rfl (.r rfl rfl rfl .n))) rfl rfl rfl) ?_
 refine W.seq ?_
 refine W.pk ?_
 refine .a rfl rfl rfl rfl ?_
 refine .a rfl rfl rfl rfl ?_
 refine .nil ?_
 refine W.seq ?_
 obtain ⟨t1, b2, h⟩ := bnd1 h
 refine W.pk ?_
 refine .m rfl rfl rfl rfl ?_
 refine .v rfl rfl (OpL.nilP rfl rfl rfl) ?_
 refine .v rfl rfl (O.fld fld83_0 rfl rfl rfl) ?_
 refine .v rfl rfl (O.ld (y := .own 1000) ty56 rfl rfl rfl) ?_
 refine .m rfl rfl rfl rfl ?_
 refine .call (.tup [.i t1.1, .b t1.2]) [(1000, some (.rows 38 5 (List.map api_Asset.enc x0.l) false)), (1000, none)] 0 (slices_BinarySearchFunc_string__asset_Book_place_1.ok b2) rfl rfl rfl ca69 rfl rfl (cC (.own _ _ _ _ rfl) (cC (.imm _) (cC (.fn _ _ _ _ _ .nil) .nil))) rfl rfl rfl rfl rfl ?_
 refine .v rfl rfl (OpL.extract rfl rfl rfl) ?_
 refine .v rfl rfl (OpL.extract rfl rfl rfl) ?_
 refine .a rfl rfl rfl rfl ?_
 refine .a rfl rfl rfl rfl ?_
 refine .nil ?_
 refine W.ret ?_
 cases h
 exact leaves (.inr rfl) rfl (.tup _ _ _ _ (cC (.imm _) (cC (.imm _) .nil))) (cS (.ptr _ _ _ _ _ rfl (cC (.own _ _ _ _ rfl) (cC (.own _ _ _ _ rfl) (cC (.imm _) .nil)))) (cN .nil)) rfl rfl

noncomputable def slices_Insert_api_Asset.f (x0 : List api_Asset) (x1 : Int) (x2 : List api_Asset) : Option (List api_Asset) :=
  insF 56 x0 x1 x2
set_option maxRecDepth 100000 in
set_option maxHeartbeats 4000000 in
theorem slices_Insert_api_Asset.ok {x0 : List api_Asset} {x1 : Int} {x2 : List api_Asset} {r : List api_Asset} (h : slices_Insert_api_Asset.f x0 x1 x2 = some r) : Pm.Spec prog 49 [.xown 38 5 (List.map api_Asset.enc x0), .imm (.val (.int .i64 x1)), .xown 38 5 (List.map api_Asset.enc x2)] (.xown 38 5 (List.map api_Asset.enc r)) [none, none, none] := by
 obtain ⟨i, x, rfl, rfl, c2, c3, c4, rfl⟩ := insF_some (by decide) h
 refine Pm.Spec.of_body Try.func49 rfl (by kernel_rfl) (Nat.le_of_ble_eq_true rfl) (Nat.le_of_ble_eq_true rfl) ?_
 refine W.ghost (σ' := (mkSt [(0, some (.own 0)), (1, some (.i (i : Int))), (2, some (.own 1))] [(0, some (.rows 38 5 (List.map api_Asset.enc x0) false)), (1, some (.rows 38 5 (List.map api_Asset.enc [x]) false))] 1000)) (Gives.entry (.c rfl (.c rfl (.c rfl .n))) (.c rfl (.c rfl .n))) ?_
 refine W.seq ?_
 refine W.pk ?_
 refine .v rfl rfl (OpL.move (.inr rfl) rfl) ?_
 refine .nil ?_
 refine W.seq ?_
 refine W.pk ?_
 refine .m rfl rfl rfl rfl ?_
 refine .m rfl rfl rfl rfl ?_
 refine .v rfl rfl (O.partE (l := i) (N := (List.length x0)) sl56 c2 (List.length_map _).symm rfl rfl rfl rfl) ?_
 refine .nil ?_
 refine W.seq ?_
 refine W.pk ?_
 refine .m rfl rfl rfl rfl ?_
 refine .v rfl rfl (O.lenO sl56 rfl rfl rfl) ?_
 refine .a rfl rfl rfl rfl ?_
 refine .nil ?_
 refine W.seq ?_
 refine W.seq ?_
 refine W.pk ?_
 refine .m rfl rfl rfl rfl ?_
 refine .v rfl rfl (OpL.binI rfl rfl rfl rfl) ?_
 refine .nil ?_
 refine W.cond rfl (fun q => by simp at q) (fun _ => ?_)
 refine W.skip ?_
 refine W.seq ?_
 refine W.pk ?_
 refine .m rfl rfl rfl rfl ?_
 refine .v rfl rfl (O.lenO sl56 rfl rfl rfl) ?_
 refine .a rfl rfl rfl rfl ?_
 refine .nil ?_
 refine W.seq ?_
 refine W.seq ?_
 refine W.pk ?_
 refine .m rfl rfl rfl rfl ?_
 refine .m rfl rfl rfl rfl ?_
 refine .v rfl rfl (OpL.binI rfl rfl rfl rfl) ?_
 refine .nil ?_
 refine W.cond rfl (fun q => ?_) (fun q => ?_)
 · have q' : i = (List.length x0) := by have := eq_of_beq q; omega
   rw [ins0 q']
   refine W.seq ?_
   refine W.pk ?_
   refine .m rfl rfl rfl rfl ?_
   refine .m rfl rfl rfl rfl ?_
   have h2 : ((List.length x0) + List.length [x]) * 56 ≤ 140737488355328 := c3
   refine .t rfl rfl (O.appO (m := [x]) sl56 api_Asset.ok h2 rfl rfl rfl rfl rfl) ?_
   refine .a rfl rfl rfl rfl ?_
   refine .nil ?_
   refine W.ret ?_
   exact leaves (.inr rfl) rfl (.own _ _ _ _ rfl) (cN (cN (cN .nil))) rfl rfl
 · have lt : i < (List.length x0) := by
     have : ¬ ((i : Int) = ((List.length x0) : Int)) := fun e => by simp [e] at q
     omega
   refine W.skip ?_
   refine W.capM 0 rfl rfl (by omega) (fun C b1 b2 => ?_)
   simp only [maxLen] at b2
   refine W.seq ?_
   refine W.seq ?_
   refine W.pk ?_
   refine .m rfl rfl rfl rfl ?_
   refine .m rfl rfl rfl rfl ?_
   refine .v rfl rfl (OpL.binI rfl rfl rfl (addN (a := (List.length x0)) (b := 1) (by omega))) ?_
   refine .m rfl rfl rfl rfl ?_
   refine .v rfl rfl (O.capV sl56 rfl rfl) ?_
   refine .v rfl rfl (OpL.binI rfl rfl rfl rfl) ?_
   refine .nil ?_
   refine W.cond rfl (fun q => ?_) (fun q => ?_)
   · have q' : C < (List.length x0) + 1 := by have := of_decide_eq_true q; omega
     refine W.seq ?_
     refine W.pk ?_
     refine .m rfl rfl rfl rfl ?_
     refine .m rfl rfl rfl rfl ?_
     refine .v rfl rfl (O.sliceF (u := i) sl56 (by omega) rfl rfl rfl) ?_
     refine .m rfl rfl rfl rfl ?_
     refine .m rfl rfl rfl rfl ?_
     refine .v rfl rfl (OpL.binI rfl rfl rfl (addN (a := (List.length x0)) (b := 1) (by omega))) ?_
     refine .m rfl rfl rfl rfl ?_
     refine .v rfl rfl (OpL.binI rfl rfl rfl (subN (a := (List.length x0) + 1) (b := i) (by omega) (by omega))) ?_
     refine .t rfl rfl (OpL.appMake (zr := (List.map T.val [.string (tx []), .int .i64 0, .int .i64 0, .int .i64 0, .string (tx [])])) (q := (List.length x0) + 1 - i) sl56 rfl (TRow.refl _) rfl rfl rfl rfl (by rw [List.length_map]; omega) (by omega) (by omega) (by rw [show i + ((List.length x0) + 1 - i) = (List.length x0) + 1 by omega]; exact c3)) ?_
     refine .a rfl rfl rfl rfl ?_
     refine .nil ?_
     refine W.ghost (Gives.capM (List.length_map _).symm 0 rfl rfl) ?_
     have r1 : ((List.take i (List.map api_Asset.enc x0) ++ List.replicate ((List.length x0) + 1 - i) (List.map T.val [.string (tx []), .int .i64 0, .int .i64 0, .int .i64 0, .string (tx [])]))).length = (List.length x0) + 1 := by rw [List.length_append, List.length_take, List.length_map, List.length_replicate]; omega
     have r2 : ((List.map api_Asset.enc (List.take i x0 ++ [x]) ++ List.replicate ((List.length x0) - i) (List.map T.val [.string (tx []), .int .i64 0, .int .i64 0, .int .i64 0, .string (tx [])]))).length = (List.length x0) + 1 := by rw [List.length_append, List.length_map, List.length_append, List.length_take, List.length_replicate, List.length_singleton]; omega
     refine W.seq ?_
     refine W.pk ?_
     refine .m rfl rfl rfl rfl ?_
     refine .m rfl rfl rfl rfl ?_
     refine .v rfl rfl (O.partE (l := i) (N := (List.length x0) + 1) sl56 (by omega) r1.symm rfl rfl rfl rfl) ?_
     refine .m rfl rfl rfl rfl ?_
     refine .k rfl rfl (O.copyO (c := 1) (l := [x]) (L := (List.map api_Asset.enc (List.take i x0 ++ [x]) ++ List.replicate ((List.length x0) - i) (List.map T.val [.string (tx []), .int .i64 0, .int .i64 0, .int .i64 0, .string (tx [])]))) (enc := api_Asset.enc) sl56 api_Asset.ok (by rw [r1, List.length_map, List.length_singleton]; omega) rfl (ins1 lt) rfl rfl rfl rfl rfl) ?_
     refine .nil ?_
     refine W.seq ?_
     refine W.dk (unm 9 [0, 0, 0, 6, 15, 0, 0, 96, 255]) rfl (by kernel_rfl) ?_
     refine .m rfl rfl rfl rfl ?_
     refine .m rfl rfl rfl rfl ?_
     refine .m rfl rfl rfl rfl ?_
     refine .v rfl rfl (OpL.binI rfl rfl rfl (addN (a := i) (b := 1) (by omega))) ?_
     refine .v rfl rfl (O.partE (l := i + 1) (N := (List.length x0) + 1) sl56 (by omega) r2.symm rfl rfl rfl rfl) ?_
     refine .m rfl rfl rfl rfl ?_
     refine .m rfl rfl rfl rfl ?_
     refine .v rfl rfl (O.partE (l := i) (N := (List.length x0)) sl56 c2 (List.length_map _).symm rfl rfl rfl rfl) ?_
     refine .k rfl rfl (O.copyV (c := (List.length x0) - i) (l := List.drop i x0) (L := (List.map api_Asset.enc (List.take i x0 ++ [x] ++ List.drop i x0))) (enc := api_Asset.enc) sl56 api_Asset.ok (by rw [r2, List.length_map]; omega) (by rw [← List.map_drop, List.take_of_length_le (by rw [List.length_map, List.length_drop]; omega)]) (ins2 lt) rfl rfl rfl rfl rfl) ?_
     refine .nil ?_
     refine ⟨by kernel_rfl, by kernel_rfl, ?_⟩
     refine W.seq ?_
     refine W.pk ?_
     refine .m rfl rfl rfl rfl ?_
     refine .a rfl rfl rfl rfl ?_
     refine .nil ?_
     refine W.ret ?_
     exact leaves (.inr rfl) rfl (.own _ _ _ _ rfl) (cN (cN (cN .nil))) rfl rfl
   · have q' : (List.length x0) + 1 ≤ C := by have := of_decide_eq_false q; omega
     refine W.skip ?_
     refine W.growC 0 rfl rfl (List.length_map _).symm q' (fun jk jl => ?_)
     have r1 : (((List.map api_Asset.enc x0) ++ [jk])).length = (List.length x0) + 1 := by rw [List.length_append, List.length_map, List.length_singleton]
     have r2 : ((List.map api_Asset.enc (List.take (i + 1) x0 ++ List.drop i x0))).length = (List.length x0) + 1 := by rw [List.length_map, List.length_append, List.length_take, List.length_drop]; omega
     refine W.seq ?_
     refine W.pk ?_
     refine .m rfl rfl rfl rfl ?_
     refine .m rfl rfl rfl rfl ?_
     refine .m rfl rfl rfl rfl ?_
     refine .v rfl rfl (OpL.binI rfl rfl rfl (addN (a := (List.length x0)) (b := 1) (by omega))) ?_
     refine .v rfl rfl (O.sliceF (u := (List.length x0) + 1) sl56 (by omega) rfl rfl rfl) ?_
     refine .a rfl rfl rfl rfl ?_
     refine .nil ?_
     refine W.ghost (Gives.capM r1.symm 0 rfl rfl) ?_
     refine W.seq ?_
     refine W.seq ?_
     refine W.pk ?_
     refine .m rfl rfl rfl rfl ?_
     refine .m rfl rfl rfl rfl ?_
     refine .m rfl rfl rfl rfl ?_
     refine .m rfl rfl rfl rfl ?_
     refine .v rfl rfl (OpL.binI rfl rfl rfl (addN (a := i) (b := 1) (by omega))) ?_
     refine .v rfl rfl (O.partE (l := i + 1) (N := (List.length x0) + 1) sl56 (by omega) r1.symm rfl rfl rfl rfl) ?_
     refine .v rfl rfl (OpL.apart (tR := 4) (f := 72) (fn := Try.f72) sl56 rfl (by kernel_rfl) (by kernel_rfl) (by kernel_rfl) (by kernel_rfl) rfl rfl rfl rfl rfl (by decide) (by simp) (by omega)) ?_
     refine .v rfl rfl (OpL.unV rfl rfl rfl) ?_
     refine .nil ?_
     refine W.cond rfl (fun _ => ?_) (fun q => by cases q)
     refine W.seq ?_
     refine W.dk (unm 9 [0, 0, 0, 6, 15, 0, 0, 96, 255]) rfl (by kernel_rfl) ?_
     refine .m rfl rfl rfl rfl ?_
     refine .m rfl rfl rfl rfl ?_
     refine .m rfl rfl rfl rfl ?_
     refine .v rfl rfl (OpL.binI rfl rfl rfl (addN (a := i) (b := 1) (by omega))) ?_
     refine .v rfl rfl (O.partE (l := i + 1) (N := (List.length x0) + 1) sl56 (by omega) r1.symm rfl rfl rfl rfl) ?_
     refine .m rfl rfl rfl rfl ?_
     refine .m rfl rfl rfl rfl ?_
     refine .v rfl rfl (O.partE (l := i) (N := (List.length x0) + 1) sl56 (by omega) r1.symm rfl rfl rfl rfl) ?_
     refine .k rfl rfl (O.copyV (c := (List.length x0) - i) (l := List.drop i x0) (L := (List.map api_Asset.enc (List.take (i + 1) x0 ++ List.drop i x0))) (enc := api_Asset.enc) sl56 api_Asset.ok (by rw [r1]; omega) (ins5 lt) (ins3 lt) rfl rfl rfl rfl rfl) ?_
     refine .nil ?_
     refine ⟨by kernel_rfl, by kernel_rfl, ?_⟩
     refine W.seq ?_
     refine W.pk ?_
     refine .m rfl rfl rfl rfl ?_
     refine .m rfl rfl rfl rfl ?_
     refine .v rfl rfl (O.partE (l := i) (N := (List.length x0) + 1) sl56 (by omega) r2.symm rfl rfl rfl rfl) ?_
     refine .m rfl rfl rfl rfl ?_
     refine .k rfl rfl (O.copyO (c := 1) (l := [x]) (L := (List.map api_Asset.enc (List.take i x0 ++ [x] ++ List.drop i x0))) (enc := api_Asset.enc) sl56 api_Asset.ok (by rw [r2, List.length_map, List.length_singleton]; omega) rfl (ins4 lt) rfl rfl rfl rfl rfl) ?_
     refine .nil ?_
     refine W.seq ?_
     refine W.pk ?_
     refine .m rfl rfl rfl rfl ?_
     refine .a rfl rfl rfl rfl ?_
     refine .nil ?_
     refine W.ret ?_
     exact leaves (.inr rfl) rfl (.own _ _ _ _ rfl) (cN (cN (cN .nil))) rfl rfl

noncomputable def slices_Insert_int.f (x0 : List Int) (x1 : Int) (x2 : List Int) : Option (List Int) :=
  insF 8 x0 x1 x2
set_option maxRecDepth 100000 in
set_option maxHeartbeats 4000000 in
theorem slices_Insert_int.ok {x0 : List Int} {x1 : Int} {x2 : List Int} {r : List Int} (h : slices_Insert_int.f x0 x1 x2 = some r) : Pm.Spec prog 50 [.xown 3 1 (List.map (encI .i64) x0), .imm (.val (.int .i64 x1)), .xown 3 1 (List.map (encI .i64) x2)] (.xown 3 1 (List.map (encI .i64) r)) [none, none, none] := by
 obtain ⟨i, x, rfl, rfl, c2, c3, c4, rfl⟩ := insF_some (by decide) h
 refine Pm.Spec.of_body Try.func50 rfl (by kernel_rfl) (Nat.le_of_ble_eq_true rfl) (Nat.le_of_ble_eq_true rfl) ?_
 refine W.ghost (σ' := (mkSt [(0, some (.own 0)), (1, some (.i (i : Int))), (2, some (.own 1))] [(0, some (.rows 3 1 (List.map (encI .i64) x0) false)), (1, some (.rows 3 1 (List.map (encI .i64) [x]) false))] 1000)) (Gives.entry (.c rfl (.c rfl (.c rfl .n))) (.c rfl (.c rfl .n))) ?_
 refine W.seq ?_
 refine W.pk ?_
 refine .v rfl rfl (OpL.move (.inr rfl) rfl) ?_
 refine .nil ?_
 refine W.seq ?_
 refine W.pk ?_
 refine .m rfl rfl rfl rfl ?_
 refine .m rfl rfl rfl rfl ?_
 refine .v rfl rfl (O.partE (l := i) (N := (List.length x0)) sl34 c2 (List.length_map _).symm rfl rfl rfl rfl) ?_
 refine .nil ?_
 refine W.seq ?_
 refine W.pk ?_
 refine .m rfl rfl rfl rfl ?_
 refine .v rfl rfl (O.lenO sl34 rfl rfl rfl) ?_
 refine .a rfl rfl rfl rfl ?_
 refine .nil ?_
 refine W.seq ?_
 refine W.seq ?_
 refine W.pk ?_
 refine .m rfl rfl rfl rfl ?_
 refine .v rfl rfl (OpL.binI rfl rfl rfl rfl) ?_
 refine .nil ?_
 refine W.cond rfl (fun q => by simp at q) (fun _ => ?_)
 refine W.skip ?_
 refine W.seq ?_
 refine W.pk ?_
 refine .m rfl rfl rfl rfl ?_
 refine .v rfl rfl (O.lenO sl34 rfl rfl rfl) ?_
 refine .a rfl rfl rfl rfl ?_
 refine .nil ?_
 refine W.seq ?_
 refine W.seq ?_
 refine W.pk ?_
 refine .m rfl rfl rfl rfl ?_
 refine .m rfl rfl rfl rfl ?_
 refine .v rfl rfl (OpL.binI rfl rfl rfl rfl) ?_
 refine .nil ?_
 refine W.cond rfl (fun q => ?_) (fun q => ?_)
 · have q' : i = (List.length x0) := by have := eq_of_beq q; omega
   rw [ins0 q']
   refine W.seq ?_
   refine W.pk ?_
   refine .m rfl rfl rfl rfl ?_
   refine .m rfl rfl rfl rfl ?_
   have h2 : ((List.length x0) + List.length [x]) * 8 ≤ 140737488355328 := c3
   refine .t rfl rfl (O.appO (m := [x]) sl34 (EncOk.int .i64) h2 rfl rfl rfl rfl rfl) ?_
   refine .a rfl rfl rfl rfl ?_
   refine .nil ?_
   refine W.ret ?_
   exact leaves (.inr rfl) rfl (.own _ _ _ _ rfl) (cN (cN (cN .nil))) rfl rfl
 · have lt : i < (List.length x0) := by
     have : ¬ ((i : Int) = ((List.length x0) : Int)) := fun e => by simp [e] at q
     omega
   refine W.skip ?_
   refine W.capM 0 rfl rfl (by omega) (fun C b1 b2 => ?_)
   simp only [maxLen] at b2
   refine W.seq ?_
   refine W.seq ?_
   refine W.pk ?_
   refine .m rfl rfl rfl rfl ?_
   refine .m rfl rfl rfl rfl ?_
   refine .v rfl rfl (OpL.binI rfl rfl rfl (addN (a := (List.length x0)) (b := 1) (by omega))) ?_
   refine .m rfl rfl rfl rfl ?_
   refine .v rfl rfl (O.capV sl34 rfl rfl) ?_
   refine .v rfl rfl (OpL.binI rfl rfl rfl rfl) ?_
   refine .nil ?_
   refine W.cond rfl (fun q => ?_) (fun q => ?_)
   · have q' : C < (List.length x0) + 1 := by have := of_decide_eq_true q; omega
     refine W.seq ?_
     refine W.pk ?_
     refine .m rfl rfl rfl rfl ?_
     refine .m rfl rfl rfl rfl ?_
     refine .v rfl rfl (O.sliceF (u := i) sl34 (by omega) rfl rfl rfl) ?_
     refine .m rfl rfl rfl rfl ?_
     refine .m rfl rfl rfl rfl ?_
     refine .v rfl rfl (OpL.binI rfl rfl rfl (addN (a := (List.length x0)) (b := 1) (by omega))) ?_
     refine .m rfl rfl rfl rfl ?_
     refine .v rfl rfl (OpL.binI rfl rfl rfl (subN (a := (List.length x0) + 1) (b := i) (by omega) (by omega))) ?_
     refine .t rfl rfl (OpL.appMake (zr := (List.map T.val [.int .i64 0])) (q := (List.length x0) + 1 - i) sl34 rfl (TRow.refl _) rfl rfl rfl rfl (by rw [List.length_map]; omega) (by omega) (by omega) (by rw [show i + ((List.length x0) + 1 - i) = (List.length x0) + 1 by omega]; exact c3)) ?_
     refine .a rfl rfl rfl rfl ?_
     refine .nil ?_
     refine W.ghost (Gives.capM (List.length_map _).symm 0 rfl rfl) ?_
     have r1 : ((List.take i (List.map (encI .i64) x0) ++ List.replicate ((List.length x0) + 1 - i) (List.map T.val [.int .i64 0]))).length = (List.length x0) + 1 := by rw [List.length_append, List.length_take, List.length_map, List.length_replicate]; omega
     have r2 : ((List.map (encI .i64) (List.take i x0 ++ [x]) ++ List.replicate ((List.length x0) - i) (List.map T.val [.int .i64 0]))).length = (List.length x0) + 1 := by rw [List.length_append, List.length_map, List.length_append, List.length_take, List.length_replicate, List.length_singleton]; omega
     refine W.seq ?_
     refine W.pk ?_
     refine .m rfl rfl rfl rfl ?_
     refine .m rfl rfl rfl rfl ?_
     refine .v rfl rfl (O.partE (l := i) (N := (List.length x0) + 1) sl34 (by omega) r1.symm rfl rfl rfl rfl) ?_
     refine .m rfl rfl rfl rfl ?_
     refine .k rfl rfl (O.copyO (c := 1) (l := [x]) (L := (List.map (encI .i64) (List.take i x0 ++ [x]) ++ List.replicate ((List.length x0) - i) (List.map T.val [.int .i64 0]))) (enc := (encI .i64)) sl34 (EncOk.int .i64) (by rw [r1, List.length_map, List.length_singleton]; omega) rfl (ins1 lt) rfl rfl rfl rfl rfl) ?_
     refine .nil ?_
     refine W.seq ?_
     refine W.dk (unm 9 [0, 0, 0, 6, 15, 0, 0, 96, 255]) rfl (by kernel_rfl) ?_
     refine .m rfl rfl rfl rfl ?_
     refine .m rfl rfl rfl rfl ?_
     refine .m rfl rfl rfl rfl ?_
     refine .v rfl rfl (OpL.binI rfl rfl rfl (addN (a := i) (b := 1) (by omega))) ?_
     refine .v rfl rfl (O.partE (l := i + 1) (N := (List.length x0) + 1) sl34 (by omega) r2.symm rfl rfl rfl rfl) ?_
     refine .m rfl rfl rfl rfl ?_
     refine .m rfl rfl rfl rfl ?_
     refine .v rfl rfl (O.partE (l := i) (N := (List.length x0)) sl34 c2 (List.length_map _).symm rfl rfl rfl rfl) ?_
     refine .k rfl rfl (O.copyV (c := (List.length x0) - i) (l := List.drop i x0) (L := (List.map (encI .i64) (List.take i x0 ++ [x] ++ List.drop i x0))) (enc := (encI .i64)) sl34 (EncOk.int .i64) (by rw [r2, List.length_map]; omega) (by rw [← List.map_drop, List.take_of_length_le (by rw [List.length_map, List.length_drop]; omega)]) (ins2 lt) rfl rfl rfl rfl rfl) ?_
     refine .nil ?_
     refine ⟨by kernel_rfl, by kernel_rfl, ?_⟩
     refine W.seq ?_
     refine W.pk ?_
     refine .m rfl rfl rfl rfl ?_
     refine .a rfl rfl rfl rfl ?_
     refine .nil ?_
     refine W.ret ?_
     exact leaves (.inr rfl) rfl (.own _ _ _ _ rfl) (cN (cN (cN .nil))) rfl rfl
   · have q' : (List.length x0) + 1 ≤ C := by have := of_decide_eq_false q; omega
     refine W.skip ?_
     refine W.growC 0 rfl rfl (List.length_map _).symm q' (fun jk jl => ?_)
     have r1 : (((List.map (encI .i64) x0) ++ [jk])).length = (List.length x0) + 1 := by rw [List.length_append, List.length_map, List.length_singleton]
     have r2 : ((List.map (encI .i64) (List.take (i + 1) x0 ++ List.drop i x0))).length = (List.length x0) + 1 := by rw [List.length_map, List.length_append, List.length_take, List.length_drop]; omega
     refine W.seq ?_
     refine W.pk ?_
     refine .m rfl rfl rfl rfl ?_
     refine .m rfl rfl rfl rfl ?_
     refine .m rfl rfl rfl rfl ?_
     refine .v rfl rfl (OpL.binI rfl rfl rfl (addN (a := (List.length x0)) (b := 1) (by omega))) ?_
     refine .v rfl rfl (O.sliceF (u := (List.length x0) + 1) sl34 (by omega) rfl rfl rfl) ?_
     refine .a rfl rfl rfl rfl ?_
     refine .nil ?_
     refine W.ghost (Gives.capM r1.symm 0 rfl rfl) ?_
     refine W.seq ?_
     refine W.seq ?_
     refine W.pk ?_
     refine .m rfl rfl rfl rfl ?_
     refine .m rfl rfl rfl rfl ?_
     refine .m rfl rfl rfl rfl ?_
     refine .m rfl rfl rfl rfl ?_
     refine .v rfl rfl (OpL.binI rfl rfl rfl (addN (a := i) (b := 1) (by omega))) ?_
     refine .v rfl rfl (O.partE (l := i + 1) (N := (List.length x0) + 1) sl34 (by omega) r1.symm rfl rfl rfl rfl) ?_
     refine .v rfl rfl (OpL.apart (tR := 4) (f := 74) (fn := Try.f74) sl34 rfl (by kernel_rfl) (by kernel_rfl) (by kernel_rfl) (by kernel_rfl) rfl rfl rfl rfl rfl (by decide) (by simp) (by omega)) ?_
     refine .v rfl rfl (OpL.unV rfl rfl rfl) ?_
     refine .nil ?_
     refine W.cond rfl (fun _ => ?_) (fun q => by cases q)
     refine W.seq ?_
     refine W.dk (unm 9 [0, 0, 0, 6, 15, 0, 0, 96, 255]) rfl (by kernel_rfl) ?_
     refine .m rfl rfl rfl rfl ?_
     refine .m rfl rfl rfl rfl ?_
     refine .m rfl rfl rfl rfl ?_
     refine .v rfl rfl (OpL.binI rfl rfl rfl (addN (a := i) (b := 1) (by omega))) ?_
     refine .v rfl rfl (O.partE (l := i + 1) (N := (List.length x0) + 1) sl34 (by omega) r1.symm rfl rfl rfl rfl) ?_
     refine .m rfl rfl rfl rfl ?_
     refine .m rfl rfl rfl rfl ?_
     refine .v rfl rfl (O.partE (l := i) (N := (List.length x0) + 1) sl34 (by omega) r1.symm rfl rfl rfl rfl) ?_
     refine .k rfl rfl (O.copyV (c := (List.length x0) - i) (l := List.drop i x0) (L := (List.map (encI .i64) (List.take (i + 1) x0 ++ List.drop i x0))) (enc := (encI .i64)) sl34 (EncOk.int .i64) (by rw [r1]; omega) (ins5 lt) (ins3 lt) rfl rfl rfl rfl rfl) ?_
     refine .nil ?_
     refine ⟨by kernel_rfl, by kernel_rfl, ?_⟩
     refine W.seq ?_
     refine W.pk ?_
     refine .m rfl rfl rfl rfl ?_
     refine .m rfl rfl rfl rfl ?_
     refine .v rfl rfl (O.partE (l := i) (N := (List.length x0) + 1) sl34 (by omega) r2.symm rfl rfl rfl rfl) ?_
     refine .m rfl rfl rfl rfl ?_
     refine .k rfl rfl (O.copyO (c := 1) (l := [x]) (L := (List.map (encI .i64) (List.take i x0 ++ [x] ++ List.drop i x0))) (enc := (encI .i64)) sl34 (EncOk.int .i64) (by rw [r2, List.length_map, List.length_singleton]; omega) rfl (ins4 lt) rfl rfl rfl rfl rfl) ?_
     refine .nil ?_
     refine W.seq ?_
     refine W.pk ?_
     refine .m rfl rfl rfl rfl ?_
     refine .a rfl rfl rfl rfl ?_
     refine .nil ?_
     refine W.ret ?_
     exact leaves (.inr rfl) rfl (.own _ _ _ _ rfl) (cN (cN (cN .nil))) rfl rfl
end Go.Proofs.Ytdcpdnfalnelkaa
