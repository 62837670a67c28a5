/- Shows what functions of the program come to, each as a plain function: written by a program of the author's for this claim. -/
import Derived.Test.YtidinbjehfodoaaGx3
namespace Go.Proofs.Ytidinbjehfodoaa
open Go Go.Pm
set_option linter.unusedVariables false
set_option linter.unusedSimpArgs false
noncomputable def lombardref23_Book_Put.f (x0 : lombardref23_Book) (x1 : api_Trade) (x2 : api_Trade) : Option (lombardref23_Book × Int) :=
  (lombardref23_Check.f x1).bind fun t1 =>
  if (t1 != 0) = true then
    (lombardref23_Check.f x1).bind fun t4 =>
    some (x0, t4)
  else
    (lombardref23_Check.f x2).bind fun t6 =>
    if (t6 != 0) = true then
      (lombardref23_Check.f x2).bind fun t9 =>
      some (x0, t9)
    else
      (lombardref23_Twins.f x1 x2).bind fun t11 =>
      if (!t11) = true then
        some (x0, 32)
      else
        (lombardref23_Book_Find.f x0 x1.ID).bind fun t14 =>
        (lombardref23_Book_Find.f x0 x2.ID).bind fun t16 =>
        if ((decide (t14 < 0)) || (decide (t16 < 0))) = true then
          some (x0, 6)
        else
          if (0 : Int) ≤ t14 ∧ t14 < (List.length x0.L : Int) then
          if ((((nth x0.L t14).Member) != x1.Member) = false → (0 : Int) ≤ t16 ∧ t16 < (List.length x0.L : Int)) then
          if ((((nth x0.L t14).Member) != x1.Member) || (((nth x0.L t16).Member) != x2.Member)) = true then
            some (x0, 22)
          else
            if (List.length ([] : List api_Trade) + List.length x0.L) * 104 ≤ 140737488355328 then
            if (0 : Int) ≤ t14 ∧ t14 < (List.length (([] : List api_Trade) ++ x0.L) : Int) then
            if (0 : Int) ≤ t16 ∧ t16 < (List.length (List.set (([] : List api_Trade) ++ x0.L) (Int.toNat t14) x1) : Int) then
            some ((⟨(List.set (List.set (([] : List api_Trade) ++ x0.L) (Int.toNat t14) x1) (Int.toNat t16) x2), x0.Next⟩ : lombardref23_Book), 0)
            else none
            else none
            else none
          else none
          else none
set_option maxRecDepth 100000 in
set_option maxHeartbeats 4000000 in
theorem lombardref23_Book_Put.ok {x0 : lombardref23_Book} {x1 : api_Trade} {x2 : api_Trade} {r : lombardref23_Book × Int} (h : lombardref23_Book_Put.f x0 x1 x2 = some r) : Pm.Spec prog 44 [.agg [.imm (.row 11 (List.map api_Trade.enc x0.L)), .imm (.val (.int .i64 x0.Next))], .agg [.imm (.val (.int .i64 x1.ID)), .imm (.val (.int .i64 x1.Twin)), .imm (.val (.int .i64 x1.Member)), .imm (.val (.int .i64 x1.Side)), .imm (.val (.int .i64 x1.Basket)), .imm (.val (.int .i64 x1.Amount)), .imm (.val (.int .i64 x1.Start)), .imm (.val (.int .i64 x1.End)), .imm (.row 2 (List.map api_Reset.enc x1.Resets)), .imm (.val (.int .i64 x1.Stage)), .imm (.val (.bool x1.Short))], .agg [.imm (.val (.int .i64 x2.ID)), .imm (.val (.int .i64 x2.Twin)), .imm (.val (.int .i64 x2.Member)), .imm (.val (.int .i64 x2.Side)), .imm (.val (.int .i64 x2.Basket)), .imm (.val (.int .i64 x2.Amount)), .imm (.val (.int .i64 x2.Start)), .imm (.val (.int .i64 x2.End)), .imm (.row 2 (List.map api_Reset.enc x2.Resets)), .imm (.val (.int .i64 x2.Stage)), .imm (.val (.bool x2.Short))]] (.tup [.agg [.imm (.row 11 (List.map api_Trade.enc r.1.L)), .imm (.val (.int .i64 r.1.Next))], .imm (.val (.int .i64 r.2))]) [none, none, none] := by
 unfold lombardref23_Book_Put.f at h
 refine Pm.Spec.of_body Try.func44 rfl (by kernel_rfl) (Nat.le_of_ble_eq_true rfl) (Nat.le_of_ble_eq_true rfl) ?_
 refine W.ghost (σ' := (mkSt [(0, some (.agg [.imm (.row 11 (List.map api_Trade.enc x0.L)), .i x0.Next])), (1, some (.agg (api_Trade.av x1))), (2, some (.agg (api_Trade.av x2)))] [] 1000)) (Gives.entry (.c rfl (.c rfl (.c rfl .n))) .n) ?_
 refine W.seq ?_
 refine W.pk ?_
 refine .t rfl rfl (O.box rfl rfl rfl rfl rfl) ?_
 refine .t rfl rfl (O.box rfl rfl rfl rfl rfl) ?_
 refine .t rfl rfl (O.box rfl rfl rfl rfl rfl) ?_
 refine .t rfl rfl (O.alloc z47 rfl) ?_
 refine .a rfl rfl rfl rfl ?_
 refine .nil ?_
 refine W.seq ?_
 refine W.seq ?_
 obtain ⟨t1, b2, h⟩ := bnd1 h
 refine W.pk ?_
 refine .v rfl rfl (O.ldN ty26 rfl rfl rfl) ?_
 refine .call (.i t1) [] 0 (lombardref23_Check.ok b2) rfl rfl rfl ca12 rfl rfl (cC (.agg _ _ _ _ (cC (.imm _) (cC (.imm _) (cC (.imm _) (cC (.imm _) (cC (.imm _) (cC (.imm _) (cC (.imm _) (cC (.imm _) (cC (.imm _) (cC (.imm _) (cC (.imm _) .nil)))))))))))) .nil) rfl rfl rfl rfl rfl ?_
 refine .v rfl rfl (OpL.binI rfl rfl rfl rfl) ?_
 refine .nil ?_
 refine W.cond rfl (fun q3 => ?_) (fun q3 => ?_)
 ·have h := ifT q3 h
  refine W.seq ?_
  obtain ⟨t4, b5, h⟩ := bnd1 h
  refine W.dk (unm 5 [0, 0, 2, 7, 15]) rfl (by kernel_rfl) ?_
  refine .v rfl rfl (O.ldN ty47 rfl rfl rfl) ?_
  refine .v rfl rfl (O.ldN ty26 rfl rfl rfl) ?_
  refine .call (.i t4) [] 0 (lombardref23_Check.ok b5) rfl rfl rfl ca12 rfl rfl (cC (.agg _ _ _ _ (cC (.imm _) (cC (.imm _) (cC (.imm _) (cC (.imm _) (cC (.imm _) (cC (.imm _) (cC (.imm _) (cC (.imm _) (cC (.imm _) (cC (.imm _) (cC (.imm _) .nil)))))))))))) .nil) rfl rfl rfl rfl rfl ?_
  refine .s rfl rfl (O.st ty47 rfl rfl rfl rfl rfl rfl rfl rfl rfl rfl (all' := [.imm (.row 11 (List.map api_Trade.enc x0.L)), .i x0.Next]) rfl) ?_
  refine .a rfl rfl rfl rfl ?_
  refine .nil ?_
  refine ⟨by kernel_rfl, by kernel_rfl, ?_⟩
  refine W.ret ?_
  cases h
  exact leaves (.inr rfl) rfl (.tup _ _ _ _ (cC (.agg _ _ _ _ (cC (.imm _) (cC (.imm _) .nil))) (cC (.imm _) .nil))) (cN (cN (cN .nil))) rfl rfl
 ·have h := ifF q3 h
  refine W.skip ?_
  refine W.seq ?_
  refine W.seq ?_
  obtain ⟨t6, b7, h⟩ := bnd1 h
  refine W.pk ?_
  refine .v rfl rfl (O.ldN ty26 rfl rfl rfl) ?_
  refine .call (.i t6) [] 0 (lombardref23_Check.ok b7) rfl rfl rfl ca12 rfl rfl (cC (.agg _ _ _ _ (cC (.imm _) (cC (.imm _) (cC (.imm _) (cC (.imm _) (cC (.imm _) (cC (.imm _) (cC (.imm _) (cC (.imm _) (cC (.imm _) (cC (.imm _) (cC (.imm _) .nil)))))))))))) .nil) rfl rfl rfl rfl rfl ?_
  refine .v rfl rfl (OpL.binI rfl rfl rfl rfl) ?_
  refine .nil ?_
  refine W.cond rfl (fun q8 => ?_) (fun q8 => ?_)
  ·have h := ifT q8 h
   refine W.seq ?_
   obtain ⟨t9, b10, h⟩ := bnd1 h
   refine W.dk (unm 5 [0, 0, 2, 7, 15]) rfl (by kernel_rfl) ?_
   refine .v rfl rfl (O.ldN ty47 rfl rfl rfl) ?_
   refine .v rfl rfl (O.ldN ty26 rfl rfl rfl) ?_
   refine .call (.i t9) [] 0 (lombardref23_Check.ok b10) rfl rfl rfl ca12 rfl rfl (cC (.agg _ _ _ _ (cC (.imm _) (cC (.imm _) (cC (.imm _) (cC (.imm _) (cC (.imm _) (cC (.imm _) (cC (.imm _) (cC (.imm _) (cC (.imm _) (cC (.imm _) (cC (.imm _) .nil)))))))))))) .nil) rfl rfl rfl rfl rfl ?_
   refine .s rfl rfl (O.st ty47 rfl rfl rfl rfl rfl rfl rfl rfl rfl rfl (all' := [.imm (.row 11 (List.map api_Trade.enc x0.L)), .i x0.Next]) rfl) ?_
   refine .a rfl rfl rfl rfl ?_
   refine .nil ?_
   refine ⟨by kernel_rfl, by kernel_rfl, ?_⟩
   refine W.ret ?_
   cases h
   exact leaves (.inr rfl) rfl (.tup _ _ _ _ (cC (.agg _ _ _ _ (cC (.imm _) (cC (.imm _) .nil))) (cC (.imm _) .nil))) (cN (cN (cN .nil))) rfl rfl
  ·have h := ifF q8 h
   refine W.skip ?_
   refine W.seq ?_
   refine W.seq ?_
   obtain ⟨t11, b12, h⟩ := bnd1 h
   refine W.pk ?_
   refine .v rfl rfl (O.ldN ty26 rfl rfl rfl) ?_
   refine .v rfl rfl (O.ldN ty26 rfl rfl rfl) ?_
   refine .call (.b t11) [] 0 (lombardref23_Twins.ok b12) rfl rfl rfl ca14 rfl rfl (cC (.agg _ _ _ _ (cC (.imm _) (cC (.imm _) (cC (.imm _) (cC (.imm _) (cC (.imm _) (cC (.imm _) (cC (.imm _) (cC (.imm _) (cC (.imm _) (cC (.imm _) (cC (.imm _) .nil)))))))))))) (cC (.agg _ _ _ _ (cC (.imm _) (cC (.imm _) (cC (.imm _) (cC (.imm _) (cC (.imm _) (cC (.imm _) (cC (.imm _) (cC (.imm _) (cC (.imm _) (cC (.imm _) (cC (.imm _) .nil)))))))))))) .nil)) rfl rfl rfl rfl rfl ?_
   refine .v rfl rfl (OpL.unV rfl rfl rfl) ?_
   refine .nil ?_
   refine W.cond rfl (fun q13 => ?_) (fun q13 => ?_)
   ·have h := ifT q13 h
    refine W.seq ?_
    refine W.pk ?_
    refine .v rfl rfl (O.ldN ty47 rfl rfl rfl) ?_
    refine .s rfl rfl (O.st ty47 rfl rfl rfl rfl rfl rfl rfl rfl rfl rfl (all' := [.imm (.row 11 (List.map api_Trade.enc x0.L)), .i x0.Next]) rfl) ?_
    refine .a rfl rfl rfl rfl ?_
    refine .nil ?_
    refine W.ret ?_
    cases h
    exact leaves (.inr rfl) rfl (.tup _ _ _ _ (cC (.agg _ _ _ _ (cC (.imm _) (cC (.imm _) .nil))) (cC (.imm _) .nil))) (cN (cN (cN .nil))) rfl rfl
   ·have h := ifF q13 h
    refine W.skip ?_
    refine W.seq ?_
    obtain ⟨t14, b15, h⟩ := bnd1 h
    obtain ⟨t16, b17, h⟩ := bnd1 h
    refine W.dk (unm 10 [0, 0, 2, 7, 0, 0, 32, 127, 255, 511]) rfl (by kernel_rfl) ?_
    refine .v rfl rfl (O.ldN ty47 rfl rfl rfl) ?_
    refine .v rfl rfl (O.fld fld26_0 rfl rfl rfl) ?_
    refine .v rfl rfl (O.ld (y := .i x1.ID) ty3 rfl rfl rfl) ?_
    refine .call (.i t14) [] 0 (lombardref23_Book_Find.ok b15) rfl rfl rfl ca24 rfl rfl (cC (.agg _ _ _ _ (cC (.imm _) (cC (.imm _) .nil))) (cC (.imm _) .nil)) rfl rfl rfl rfl rfl ?_
    refine .v rfl rfl (O.ldN ty47 rfl rfl rfl) ?_
    refine .v rfl rfl (O.fld fld26_0 rfl rfl rfl) ?_
    refine .v rfl rfl (O.ld (y := .i x2.ID) ty3 rfl rfl rfl) ?_
    refine .call (.i t16) [] 0 (lombardref23_Book_Find.ok b17) rfl rfl rfl ca24 rfl rfl (cC (.agg _ _ _ _ (cC (.imm _) (cC (.imm _) .nil))) (cC (.imm _) .nil)) rfl rfl rfl rfl rfl ?_
    refine .a rfl rfl rfl rfl ?_
    refine .a rfl rfl rfl rfl ?_
    refine .nil ?_
    refine ⟨by kernel_rfl, by kernel_rfl, ?_⟩
    refine W.seq ?_
    refine W.seq ?_
    refine W.fork (mkSt [(3, some (.ptr 1000 0)), (4, some (.ptr 1001 0)), (5, some (.ptr 1002 0)), (6, some (.ptr 1003 0)), (8, some (.i t14)), (9, some (.i t16)), (41, some (.b ((decide (t14 < 0)) || (decide (t16 < 0)))))] [(1000, some (.box [.imm (.row 11 (List.map api_Trade.enc x0.L)), .i x0.Next])), (1001, some (.box [.i x1.ID, .i x1.Twin, .i x1.Member, .i x1.Side, .i x1.Basket, .i x1.Amount, .i x1.Start, .i x1.End, .imm (.row 2 (List.map api_Reset.enc x1.Resets)), .i x1.Stage, .b x1.Short])), (1002, some (.box [.i x2.ID, .i x2.Twin, .i x2.Member, .i x2.Side, .i x2.Basket, .i x2.Amount, .i x2.Start, .i x2.End, .imm (.row 2 (List.map api_Reset.enc x2.Resets)), .i x2.Stage, .b x2.Short])), (1003, some (.box [.imm (.val (.slice none 0 0)), .i 0]))] 1004) ?_ ?_
    ·refine W.cond rfl (fun q19 => ?_) (fun q19 => ?_)
     ·have h := ifT q19 h
      refine W.seq ?_
      refine W.pk ?_
      refine .v rfl rfl (O.ldN ty47 rfl rfl rfl) ?_
      refine .s rfl rfl (O.st ty47 rfl rfl rfl rfl rfl rfl rfl rfl rfl rfl (all' := [.imm (.row 11 (List.map api_Trade.enc x0.L)), .i x0.Next]) rfl) ?_
      refine .a rfl rfl rfl rfl ?_
      refine .nil ?_
      refine W.ret ?_
      cases h
      exact leaves (.inr rfl) rfl (.tup _ _ _ _ (cC (.agg _ _ _ _ (cC (.imm _) (cC (.imm _) .nil))) (cC (.imm _) .nil))) (cN (cN (cN .nil))) rfl rfl
     ·have h := ifF q19 h
      refine W.skip ?_
      refine W.seq ?_
      refine W.seq ?_
      obtain ⟨c20, h⟩ := chk h
      obtain ⟨c21, h⟩ := chk h
      refine W.fork (mkSt [(3, some (.ptr 1000 0)), (4, some (.ptr 1001 0)), (5, some (.ptr 1002 0)), (6, some (.ptr 1003 0)), (8, some (.i t14)), (9, some (.i t16)), (62, some (.b ((((nth x0.L t14).Member) != x1.Member) || (((nth x0.L t16).Member) != x2.Member))))] [(1000, some (.box [.imm (.row 11 (List.map api_Trade.enc x0.L)), .i x0.Next])), (1001, some (.box [.i x1.ID, .i x1.Twin, .i x1.Member, .i x1.Side, .i x1.Basket, .i x1.Amount, .i x1.Start, .i x1.End, .imm (.row 2 (List.map api_Reset.enc x1.Resets)), .i x1.Stage, .b x1.Short])), (1002, some (.box [.i x2.ID, .i x2.Twin, .i x2.Member, .i x2.Side, .i x2.Basket, .i x2.Amount, .i x2.Start, .i x2.End, .imm (.row 2 (List.map api_Reset.enc x2.Resets)), .i x2.Stage, .b x2.Short])), (1003, some (.box [.imm (.val (.slice none 0 0)), .i 0]))] 1004) ?_ ?_
      ·refine W.cond rfl (fun q23 => ?_) (fun q23 => ?_)
       ·have h := ifT q23 h
        refine W.seq ?_
        refine W.pk ?_
        refine .v rfl rfl (O.ldN ty47 rfl rfl rfl) ?_
        refine .s rfl rfl (O.st ty47 rfl rfl rfl rfl rfl rfl rfl rfl rfl rfl (all' := [.imm (.row 11 (List.map api_Trade.enc x0.L)), .i x0.Next]) rfl) ?_
        refine .a rfl rfl rfl rfl ?_
        refine .nil ?_
        refine W.ret ?_
        cases h
        exact leaves (.inr rfl) rfl (.tup _ _ _ _ (cC (.agg _ _ _ _ (cC (.imm _) (cC (.imm _) .nil))) (cC (.imm _) .nil))) (cN (cN (cN .nil))) rfl rfl
       ·have h := ifF q23 h
        refine W.skip ?_
        refine W.seq ?_
        obtain ⟨c24, h⟩ := chk h
        refine W.pk ?_
        refine .t rfl rfl (O.lit (enc := api_Trade.enc) (l := ([] : List api_Trade)) sl35 rfl rfl rfl rfl rfl rfl rfl rfl rfl) ?_
        refine .v rfl rfl (O.fld fld47_0 rfl rfl rfl) ?_
        refine .v rfl rfl (O.ld (y := .imm (.row 11 (List.map api_Trade.enc x0.L))) ty35 rfl rfl rfl) ?_
        refine .t rfl rfl (O.app sl35 api_Trade.ok c24 rfl rfl rfl rfl) ?_
        refine .a rfl rfl rfl rfl ?_
        refine .nil ?_
        refine W.seq ?_
        obtain ⟨c25, h⟩ := chk h
        obtain ⟨c26, h⟩ := chk h
        refine W.dk (unm 10 [0, 0, 0, 0, 0, 0, 19, 83, 255, 511]) rfl (by kernel_rfl) ?_
        refine .m rfl rfl rfl rfl ?_
        refine .m rfl rfl rfl rfl ?_
        refine .m rfl rfl rfl rfl ?_
        refine .m rfl rfl rfl rfl ?_
        refine .v rfl rfl (O.ldN ty26 rfl rfl rfl) ?_
        refine .v rfl rfl (O.ldN ty26 rfl rfl rfl) ?_
        refine .v rfl rfl (O.idxO sl35 c25 rfl rfl rfl rfl) ?_
        refine .s rfl rfl (O.stE (x' := x1) ty26 c25 rfl rfl rfl rfl rfl rfl rfl rfl rfl rfl rfl) ?_
        refine .v rfl rfl (O.idxO sl35 c26 rfl rfl rfl rfl) ?_
        refine .s rfl rfl (O.stE (x' := x2) ty26 c26 rfl rfl rfl rfl rfl rfl rfl rfl rfl rfl rfl) ?_
        refine .nil ?_
        refine ⟨by kernel_rfl, by kernel_rfl, ?_⟩
        refine W.seq ?_
        refine W.pk ?_
        refine .m rfl rfl rfl rfl ?_
        refine .v rfl rfl (O.fld fld47_1 rfl rfl rfl) ?_
        refine .v rfl rfl (O.ld (y := .i x0.Next) ty3 rfl rfl rfl) ?_
        refine .v rfl rfl (O.build (out := [.own 1005, .i x0.Next]) bl47 rfl rfl rfl rfl (by kernel_rfl)) ?_
        refine .s rfl rfl (O.st ty47 rfl rfl rfl rfl rfl rfl rfl rfl rfl rfl (all' := [.own 1005, .i x0.Next]) rfl) ?_
        refine .a rfl rfl rfl rfl ?_
        refine .nil ?_
        refine W.ret ?_
        cases h
        exact leaves (.inr rfl) rfl (.tup _ _ _ _ (cC (.agg _ _ _ _ (cC (.lend _ _ _ _ _ rfl) (cC (.imm _) .nil))) (cC (.imm _) .nil))) (cN (cN (cN .nil))) rfl rfl
      ·clear h
       rcases tf (((nth x0.L t14).Member) != x1.Member) with g22 | g22
       ·refine W.dk (unm 20 [0, 1, 0, 7, 15, 31, 0, 64, 255, 511, 1023, 2047, 1023, 8191, 16383, 32767, 1023, 66559, 262143, 524287]) rfl (by kernel_rfl) ?_
        refine .v rfl rfl (O.fld fld47_0 rfl rfl rfl) ?_
        refine .v rfl rfl (O.ld (y := .imm (.row 11 (List.map api_Trade.enc x0.L))) ty35 rfl rfl rfl) ?_
        refine .m rfl rfl rfl rfl ?_
        refine .v rfl rfl (O.idx sl35 c20 rfl rfl rfl) ?_
        refine .v rfl rfl (O.fld fld26_2 rfl rfl rfl) ?_
        refine .v rfl rfl (O.ld (y := .i ((nth x0.L t14).Member)) ty3 rfl rfl rfl) ?_
        refine .v rfl rfl (O.fld fld26_2 rfl rfl rfl) ?_
        refine .v rfl rfl (O.ld (y := .i x1.Member) ty3 rfl rfl rfl) ?_
        refine .v rfl rfl (OpL.binI rfl rfl rfl rfl) ?_
        refine .m rfl rfl rfl rfl ?_
        refine .x rfl (unmet rfl rfl rfl g22) ?_
        refine .x rfl (unmet rfl rfl rfl g22) ?_
        refine .x rfl (unmet rfl rfl rfl g22) ?_
        refine .x rfl (unmet rfl rfl rfl g22) ?_
        refine .x rfl (unmet rfl rfl rfl g22) ?_
        refine .x rfl (unmet rfl rfl rfl g22) ?_
        refine .x rfl (unmet rfl rfl rfl g22) ?_
        refine .x rfl (unmet rfl rfl rfl g22) ?_
        refine .x rfl (unmet rfl rfl rfl g22) ?_
        refine .v rfl rfl (O.pickT g22 rfl rfl rfl) ?_
        refine .nil ?_
        refine ⟨by kernel_rfl, by kernel_rfl, ?_⟩
        exact toN (Gives.mkR [] (.r rfl rfl (.r rfl rfl (.r rfl rfl (.r rfl rfl (.r rfl rfl (.r rfl rfl (.c rfl (sbb (by simp only [g22, Bool.true_or, Bool.or_true, Bool.false_or, Bool.or_false, Bool.true_and, Bool.and_true, Bool.false_and, Bool.and_false, Bool.not_true, Bool.not_false, cond_true, cond_false])) rfl .n))))))) (.r rfl rfl rfl (.r rfl rfl rfl (.r rfl rfl rfl (.r rfl rfl rfl .n)))) rfl rfl rfl)
       ·refine W.dk (unm 20 [0, 1, 0, 7, 15, 31, 0, 64, 255, 511, 1023, 2047, 1023, 8191, 16383, 32767, 1023, 66559, 262143, 524287]) rfl (by kernel_rfl) ?_
        refine .v rfl rfl (O.fld fld47_0 rfl rfl rfl) ?_
        refine .v rfl rfl (O.ld (y := .imm (.row 11 (List.map api_Trade.enc x0.L))) ty35 rfl rfl rfl) ?_
        refine .m rfl rfl rfl rfl ?_
        refine .v rfl rfl (O.idx sl35 c20 rfl rfl rfl) ?_
        refine .v rfl rfl (O.fld fld26_2 rfl rfl rfl) ?_
        refine .v rfl rfl (O.ld (y := .i ((nth x0.L t14).Member)) ty3 rfl rfl rfl) ?_
        refine .v rfl rfl (O.fld fld26_2 rfl rfl rfl) ?_
        refine .v rfl rfl (O.ld (y := .i x1.Member) ty3 rfl rfl rfl) ?_
        refine .v rfl rfl (OpL.binI rfl rfl rfl rfl) ?_
        refine .m rfl rfl rfl rfl ?_
        refine .v rfl (met rfl rfl rfl g22) (O.fld fld47_0 rfl rfl rfl) ?_
        refine .v rfl (met rfl rfl rfl g22) (O.ld (y := .imm (.row 11 (List.map api_Trade.enc x0.L))) ty35 rfl rfl rfl) ?_
        refine .m rfl (met rfl rfl rfl g22) rfl rfl ?_
        refine .v rfl (met rfl rfl rfl g22) (O.idx sl35 (c21 (by simp only [g22, Bool.true_or, Bool.or_true, Bool.false_or, Bool.or_false, Bool.true_and, Bool.and_true, Bool.false_and, Bool.and_false, Bool.not_true, Bool.not_false, cond_true, cond_false])) rfl rfl rfl) ?_
        refine .v rfl (met rfl rfl rfl g22) (O.fld fld26_2 rfl rfl rfl) ?_
        refine .v rfl (met rfl rfl rfl g22) (O.ld (y := .i ((nth x0.L t16).Member)) ty3 rfl rfl rfl) ?_
        refine .v rfl (met rfl rfl rfl g22) (O.fld fld26_2 rfl rfl rfl) ?_
        refine .v rfl (met rfl rfl rfl g22) (O.ld (y := .i x2.Member) ty3 rfl rfl rfl) ?_
        refine .v rfl (met rfl rfl rfl g22) (OpL.binI rfl rfl rfl rfl) ?_
        refine .v rfl rfl (O.pickF g22 rfl rfl rfl) ?_
        refine .nil ?_
        refine ⟨by kernel_rfl, by kernel_rfl, ?_⟩
        exact toN (Gives.mkR [] (.r rfl rfl (.r rfl rfl (.r rfl rfl (.r rfl rfl (.r rfl rfl (.r rfl rfl (.c rfl (sbb (by simp only [g22, Bool.true_or, Bool.or_true, Bool.false_or, Bool.or_false, Bool.true_and, Bool.and_true, Bool.false_and, Bool.and_false, Bool.not_true, Bool.not_false, cond_true, cond_false])) rfl .n))))))) (.r rfl rfl rfl (.r rfl rfl rfl (.r rfl rfl rfl (.r rfl rfl rfl .n)))) rfl rfl rfl)
    ·clear h
     rcases tf (decide (t14 < 0)) with g18 | g18
     ·refine W.pk ?_
      refine .m rfl rfl rfl rfl ?_
      refine .v rfl rfl (OpL.binI rfl rfl rfl rfl) ?_
      refine .m rfl rfl rfl rfl ?_
      refine .x rfl (unmet rfl rfl rfl g18) ?_
      refine .x rfl (unmet rfl rfl rfl g18) ?_
      refine .v rfl rfl (O.pickT g18 rfl rfl rfl) ?_
      refine .nil ?_
      exact toN (Gives.mkR [] (.r rfl rfl (.r rfl rfl (.r rfl rfl (.r rfl rfl (.r rfl rfl (.r rfl rfl (.c rfl (sbb (by simp only [g18, Bool.true_or, Bool.or_true, Bool.false_or, Bool.or_false, Bool.true_and, Bool.and_true, Bool.false_and, Bool.and_false, Bool.not_true, Bool.not_false, cond_true, cond_false])) rfl .n))))))) (.r rfl rfl rfl (.r rfl rfl rfl (.r rfl rfl rfl (.r rfl rfl rfl .n)))) rfl rfl rfl)
     ·refine W.pk ?_
      refine .m rfl rfl rfl rfl ?_
      refine .v rfl rfl (OpL.binI rfl rfl rfl rfl) ?_
      refine .m rfl rfl rfl rfl ?_
      refine .m rfl (met rfl rfl rfl g18) rfl rfl ?_
      refine .v rfl (met rfl rfl rfl g18) (OpL.binI rfl rfl rfl rfl) ?_
      refine .v rfl rfl (O.pickF g18 rfl rfl rfl) ?_
      refine .nil ?_
      exact toN (Gives.mkR [] (.r rfl rfl (.r rfl rfl (.r rfl rfl (.r rfl rfl (.r rfl rfl (.r rfl rfl (.c rfl (sbb (by simp only [g18, Bool.true_or, Bool.or_true, Bool.false_or, Bool.or_false, Bool.true_and, Bool.and_true, Bool.false_and, Bool.and_false, Bool.not_true, Bool.not_false, cond_true, cond_false])) rfl .n))))))) (.r rfl rfl rfl (.r rfl rfl rfl (.r rfl rfl rfl (.r rfl rfl rfl .n)))) rfl rfl rfl)

noncomputable def accrue_Check.b0 (x0 : List api_Reset) (v13 : Int) : Option (Int ⊕ (Int ⊕ Unit)) :=
  if (decide (v13 < (List.length x0 : Int))) = true then
    if (0 : Int) ≤ v13 ∧ v13 < (List.length x0 : Int) then
    (calendar_Good.f ((nth x0 v13).Day)).bind fun t40 =>
    if ((!t40) = false ∧ (decide (v13 > 0)) = true → (0 : Int) ≤ (IntKind.wrap .i64 (v13 - 1)) ∧ (IntKind.wrap .i64 (v13 - 1)) < (List.length x0 : Int)) then
    if ((!t40) || ((decide (v13 > 0)) && (decide (((nth x0 v13).Day) ≤ ((nth x0 (IntKind.wrap .i64 (v13 - 1))).Day))))) = true then
      some (.inr (.inl 10))
    else
      if ((decide (((nth x0 v13).Rate) < (-1000000))) || (decide (((nth x0 v13).Rate) > 1000000))) = true then
        some (.inr (.inl 1))
      else
        some (.inl (IntKind.wrap .i64 (v13 + 1)))
    else none
    else none
  else
    some (.inr (.inr ()))
noncomputable def accrue_Check.r0 (x0 : List api_Reset) (s : Int) : Option (Int ⊕ (Int ⊕ Unit)) := accrue_Check.b0 x0 s
noncomputable def accrue_Check.f (x0 : List api_Reset) : Option (Int) :=
  if ((List.length x0 : Int) == 0) = true then
    some 6
  else
    if (decide ((List.length x0 : Int) > 64)) = true then
      some 2
    else
      (loop (accrue_Check.r0 x0) 0).bind fun o35 =>
      match o35 with
      | .inl r48 => some r48
      | .inr w34 =>
        some 0
set_option maxRecDepth 100000 in
set_option maxHeartbeats 4000000 in
theorem accrue_Check.ok {x0 : List api_Reset} {r : Int} (h : accrue_Check.f x0 = some r) : Pm.Spec prog 38 [.imm (.row 2 (List.map api_Reset.enc x0))] (.imm (.val (.int .i64 r))) [none] := by
 unfold accrue_Check.f at h
 refine Pm.Spec.of_body Try.func38 rfl (by kernel_rfl) (Nat.le_of_ble_eq_true rfl) (Nat.le_of_ble_eq_true rfl) ?_
 refine W.ghost (σ' := (mkSt [(0, some (.imm (.row 2 (List.map api_Reset.enc x0))))] [] 1000)) (Gives.entry (.c rfl .n) .n) ?_
 refine W.seq ?_
 refine W.pk ?_
 refine .a rfl rfl rfl rfl ?_
 refine .nil ?_
 refine W.seq ?_
 refine W.block ?_
 refine W.seq ?_
 refine W.pk ?_
 refine .m rfl rfl rfl rfl ?_
 refine .v rfl rfl (O.lenR sl24 rfl rfl) ?_
 refine .v rfl rfl (OpL.binI rfl rfl rfl rfl) ?_
 refine .a rfl rfl rfl rfl ?_
 refine .nil ?_
 refine W.cond rfl (fun q1 => ?_) (fun q1 => ?_)
 ·have h := ifT q1 h
  refine W.seq ?_
  refine W.pk ?_
  refine .a rfl rfl rfl rfl ?_
  refine .nil ?_
  refine W.ret ?_
  cases h
  exact leaves (.inr rfl) rfl (.imm _) (cN .nil) rfl rfl
 ·have h := ifF q1 h
  refine W.seq ?_
  refine W.pk ?_
  refine .m rfl rfl rfl rfl ?_
  refine .v rfl rfl (O.lenR sl24 rfl rfl) ?_
  refine .v rfl rfl (OpL.binI rfl rfl rfl rfl) ?_
  refine .a rfl rfl rfl rfl ?_
  refine .nil ?_
  refine W.cond rfl (fun q2 => ?_) (fun q2 => ?_)
  ·have h := ifT q2 h
   refine W.seq ?_
   refine W.pk ?_
   refine .a rfl rfl rfl rfl ?_
   refine .nil ?_
   refine W.ret ?_
   cases h
   exact leaves (.inr rfl) rfl (.imm _) (cN .nil) rfl rfl
  ·have h := ifF q2 h
   refine W.skip ?_
   refine W.seq ?_
   refine W.seq ?_
   refine W.pk ?_
   refine .m rfl rfl rfl rfl ?_
   refine .v rfl rfl (O.lenR sl24 rfl rfl) ?_
   refine .m rfl rfl rfl rfl ?_
   refine .nil ?_
   obtain ⟨o35, b36, z37⟩ := bnd1 h
   refine W.fork2 (out := o35) (fun (w34 : Unit) => mkSt [] [] 1000) ?_ ?_
   ·clear h
    refine W.block ?_
    refine W.loopF (fun (s_ : Int) => mkSt [(0, some (.imm (.row 2 (List.map api_Reset.enc x0)))), (13, some (.imm (.row 2 (List.map api_Reset.enc x0)))), (14, some (.i (List.length x0 : Int))), (15, some (.i s_))] [] 1000) b36 (Gives.mkR [] (.r rfl rfl (.r rfl rfl (.r rfl rfl (.r rfl rfl .n)))) .n rfl rfl rfl) ?_
    rintro v13 s_ hr
    have h : accrue_Check.b0 x0 v13 = some s_ := hr
    unfold accrue_Check.b0 at h
    refine W.seq ?_
    refine W.pk ?_
    refine .v rfl rfl (OpL.binI rfl rfl rfl rfl) ?_
    refine .nil ?_
    refine W.seq ?_
    refine W.cond rfl (fun q38 => ?_) (fun q38 => ?_)
    ·have h := ifT q38 h
     refine W.skip ?_
     refine W.seq ?_
     refine W.block ?_
     refine W.seq ?_
     obtain ⟨c39, h⟩ := chk h
     refine W.pk ?_
     refine .m rfl rfl rfl rfl ?_
     refine .v rfl rfl (O.idx sl24 c39 rfl rfl rfl) ?_
     refine .v rfl rfl (O.ldN ty60 rfl rfl rfl) ?_
     refine .t rfl rfl (O.alloc z60 rfl) ?_
     refine .a rfl rfl rfl rfl ?_
     refine .s rfl rfl (O.st ty60 rfl rfl rfl rfl rfl rfl rfl rfl rfl rfl (all' := [.i ((nth x0 v13).Day), .i ((nth x0 v13).Rate)]) rfl) ?_
     refine .nil ?_
     refine W.block ?_
     refine W.seq ?_
     obtain ⟨t40, b41, h⟩ := bnd1 h
     obtain ⟨c42, h⟩ := chk h
     refine W.fork (mkSt [(0, some (.imm (.row 2 (List.map api_Reset.enc x0)))), (4, some (.ptr 1000 0)), (13, some (.imm (.row 2 (List.map api_Reset.enc x0)))), (14, some (.i (List.length x0 : Int))), (15, some (.i v13)), (20, some (.b ((!t40) || ((decide (v13 > 0)) && (decide (((nth x0 v13).Day) ≤ ((nth x0 (IntKind.wrap .i64 (v13 - 1))).Day)))))))] [(1000, some (.box [.i ((nth x0 v13).Day), .i ((nth x0 v13).Rate)]))] 1001) ?_ ?_
     ·refine W.cond rfl (fun q45 => ?_) (fun q45 => ?_)
      ·have h := ifT q45 h
       refine W.seq ?_
       refine W.pk ?_
       refine .a rfl rfl rfl rfl ?_
       refine .nil ?_
       refine W.ret ?_
       cases h
       refine rdR fun e_ => ?_
       subst e_
       have h := z37
       dsimp only at h
       refine fkR ?_
       cases h
       exact leaves (.inr rfl) rfl (.imm _) (cN .nil) rfl rfl
      ·have h := ifF q45 h
       refine W.seq ?_
       refine W.fork (mkSt [(0, some (.imm (.row 2 (List.map api_Reset.enc x0)))), (13, some (.imm (.row 2 (List.map api_Reset.enc x0)))), (14, some (.i (List.length x0 : Int))), (15, some (.i v13)), (40, some (.b ((decide (((nth x0 v13).Rate) < (-1000000))) || (decide (((nth x0 v13).Rate) > 1000000)))))] [] 1001) ?_ ?_
       ·refine W.cond rfl (fun q47 => ?_) (fun q47 => ?_)
        ·have h := ifT q47 h
         refine W.seq ?_
         refine W.pk ?_
         refine .a rfl rfl rfl rfl ?_
         refine .nil ?_
         refine W.ret ?_
         cases h
         refine rdR fun e_ => ?_
         subst e_
         have h := z37
         dsimp only at h
         refine fkR ?_
         cases h
         exact leaves (.inr rfl) rfl (.imm _) (cN .nil) rfl rfl
        ·have h := ifF q47 h
         refine W.skip ?_
         refine W.pk ?_
         refine .v rfl rfl (OpL.binI rfl rfl rfl rfl) ?_
         refine .m rfl rfl rfl rfl ?_
         refine .nil ?_
         cases h
         exact rdN (Gives.mkR [] (.r rfl rfl (.r rfl rfl (.r rfl rfl (.r rfl rfl .n)))) .n rfl rfl rfl)
       ·clear h
        rcases tf (decide (((nth x0 v13).Rate) < (-1000000))) with g46 | g46
        ·refine W.pk ?_
         refine .v rfl rfl (O.fld fld60_1 rfl rfl rfl) ?_
         refine .v rfl rfl (O.ld (y := .i ((nth x0 v13).Rate)) ty3 rfl rfl rfl) ?_
         refine .v rfl rfl (OpL.binI rfl rfl rfl rfl) ?_
         refine .m rfl rfl rfl rfl ?_
         refine .x rfl (unmet rfl rfl rfl g46) ?_
         refine .x rfl (unmet rfl rfl rfl g46) ?_
         refine .x rfl (unmet rfl rfl rfl g46) ?_
         refine .v rfl rfl (O.pickT g46 rfl rfl rfl) ?_
         refine .a rfl rfl rfl rfl ?_
         refine .nil ?_
         exact toN (Gives.mkR [] (.r rfl rfl (.r rfl rfl (.r rfl rfl (.r rfl rfl (.c rfl (sbb (by simp only [g46, Bool.true_or, Bool.or_true, Bool.false_or, Bool.or_false, Bool.true_and, Bool.and_true, Bool.false_and, Bool.and_false, Bool.not_true, Bool.not_false, cond_true, cond_false])) rfl .n))))) .n rfl rfl rfl)
        ·refine W.pk ?_
         refine .v rfl rfl (O.fld fld60_1 rfl rfl rfl) ?_
         refine .v rfl rfl (O.ld (y := .i ((nth x0 v13).Rate)) ty3 rfl rfl rfl) ?_
         refine .v rfl rfl (OpL.binI rfl rfl rfl rfl) ?_
         refine .m rfl rfl rfl rfl ?_
         refine .v rfl (met rfl rfl rfl g46) (O.fld fld60_1 rfl rfl rfl) ?_
         refine .v rfl (met rfl rfl rfl g46) (O.ld (y := .i ((nth x0 v13).Rate)) ty3 rfl rfl rfl) ?_
         refine .v rfl (met rfl rfl rfl g46) (OpL.binI rfl rfl rfl rfl) ?_
         refine .v rfl rfl (O.pickF g46 rfl rfl rfl) ?_
         refine .a rfl rfl rfl rfl ?_
         refine .nil ?_
         exact toN (Gives.mkR [] (.r rfl rfl (.r rfl rfl (.r rfl rfl (.r rfl rfl (.c rfl (sbb (by simp only [g46, Bool.true_or, Bool.or_true, Bool.false_or, Bool.or_false, Bool.true_and, Bool.and_true, Bool.false_and, Bool.and_false, Bool.not_true, Bool.not_false, cond_true, cond_false])) rfl .n))))) .n rfl rfl rfl)
     ·clear h
      rcases tf t40 with g43 | g43
      ·rcases tf (decide (v13 > 0)) with g44 | g44
       ·refine W.dk (unm 20 [0, 1, 3, 7, 15, 31, 63, 127, 255, 511, 255, 255, 2303, 7423, 15615, 31999, 65535, 131071, 262143, 524287]) rfl (by kernel_rfl) ?_
        refine .v rfl rfl (O.fld fld60_0 rfl rfl rfl) ?_
        refine .v rfl rfl (O.ld (y := .i ((nth x0 v13).Day)) ty3 rfl rfl rfl) ?_
        refine .call (.b t40) [] 0 (calendar_Good.ok b41) rfl rfl rfl ca35 rfl rfl (cC (.imm _) .nil) rfl rfl rfl rfl rfl ?_
        refine .v rfl rfl (OpL.unV rfl rfl rfl) ?_
        refine .m rfl rfl rfl rfl ?_
        refine .m rfl (met rfl rfl rfl (notT g43)) rfl rfl ?_
        refine .v rfl (met rfl rfl rfl (notT g43)) (OpL.binI rfl rfl rfl rfl) ?_
        refine .m rfl (met rfl rfl rfl (notT g43)) rfl rfl ?_
        refine .v rfl (met rfl rfl rfl g44) (O.fld fld60_0 rfl rfl rfl) ?_
        refine .v rfl (met rfl rfl rfl g44) (O.ld (y := .i ((nth x0 v13).Day)) ty3 rfl rfl rfl) ?_
        refine .m rfl (met rfl rfl rfl g44) rfl rfl ?_
        refine .m rfl (met rfl rfl rfl g44) rfl rfl ?_
        refine .v rfl (met rfl rfl rfl g44) (OpL.binI rfl rfl rfl rfl) ?_
        refine .v rfl (met rfl rfl rfl g44) (O.idx sl24 (c42 ⟨(by first | (simp only [g43, g44, Bool.true_or, Bool.or_true, Bool.false_or, Bool.or_false, Bool.true_and, Bool.and_true, Bool.false_and, Bool.and_false, Bool.not_true, Bool.not_false, cond_true, cond_false]; done) | (repeat (first | rw [g43] | rw [g44])) <;> simp only [Bool.true_or, Bool.or_true, Bool.false_or, Bool.or_false, Bool.true_and, Bool.and_true, Bool.false_and, Bool.and_false, Bool.not_true, Bool.not_false, cond_true, cond_false]), (by first | (simp only [g43, g44, Bool.true_or, Bool.or_true, Bool.false_or, Bool.or_false, Bool.true_and, Bool.and_true, Bool.false_and, Bool.and_false, Bool.not_true, Bool.not_false, cond_true, cond_false]; done) | (repeat (first | rw [g43] | rw [g44])) <;> simp only [Bool.true_or, Bool.or_true, Bool.false_or, Bool.or_false, Bool.true_and, Bool.and_true, Bool.false_and, Bool.and_false, Bool.not_true, Bool.not_false, cond_true, cond_false])⟩) rfl rfl rfl) ?_
        refine .v rfl (met rfl rfl rfl g44) (O.fld fld60_0 rfl rfl rfl) ?_
        refine .v rfl (met rfl rfl rfl g44) (O.ld (y := .i ((nth x0 (IntKind.wrap .i64 (v13 - 1))).Day)) ty3 rfl rfl rfl) ?_
        refine .v rfl (met rfl rfl rfl g44) (OpL.binI rfl rfl rfl rfl) ?_
        refine .v rfl (met rfl rfl rfl (notT g43)) (O.pickT g44 rfl rfl rfl) ?_
        refine .v rfl rfl (O.pickF (notT g43) rfl rfl rfl) ?_
        refine .a rfl rfl rfl rfl ?_
        refine .nil ?_
        refine ⟨by kernel_rfl, by kernel_rfl, ?_⟩
        exact toN (Gives.mkR [] (.r rfl rfl (.r rfl rfl (.r rfl rfl (.r rfl rfl (.r rfl rfl (.c rfl (sbb (by first | (simp only [g43, g44, Bool.true_or, Bool.or_true, Bool.false_or, Bool.or_false, Bool.true_and, Bool.and_true, Bool.false_and, Bool.and_false, Bool.not_true, Bool.not_false, cond_true, cond_false]; done) | (repeat (first | rw [g43] | rw [g44])) <;> simp only [Bool.true_or, Bool.or_true, Bool.false_or, Bool.or_false, Bool.true_and, Bool.and_true, Bool.false_and, Bool.and_false, Bool.not_true, Bool.not_false, cond_true, cond_false])) rfl .n)))))) (.r rfl rfl rfl .n) rfl rfl rfl)
       ·refine W.dk (unm 20 [0, 1, 3, 7, 15, 31, 63, 127, 255, 511, 255, 255, 2303, 7423, 15615, 31999, 65535, 131071, 262143, 524287]) rfl (by kernel_rfl) ?_
        refine .v rfl rfl (O.fld fld60_0 rfl rfl rfl) ?_
        refine .v rfl rfl (O.ld (y := .i ((nth x0 v13).Day)) ty3 rfl rfl rfl) ?_
        refine .call (.b t40) [] 0 (calendar_Good.ok b41) rfl rfl rfl ca35 rfl rfl (cC (.imm _) .nil) rfl rfl rfl rfl rfl ?_
        refine .v rfl rfl (OpL.unV rfl rfl rfl) ?_
        refine .m rfl rfl rfl rfl ?_
        refine .m rfl (met rfl rfl rfl (notT g43)) rfl rfl ?_
        refine .v rfl (met rfl rfl rfl (notT g43)) (OpL.binI rfl rfl rfl rfl) ?_
        refine .m rfl (met rfl rfl rfl (notT g43)) rfl rfl ?_
        refine .x rfl (unmet rfl rfl rfl g44) ?_
        refine .x rfl (unmet rfl rfl rfl g44) ?_
        refine .x rfl (unmet rfl rfl rfl g44) ?_
        refine .x rfl (unmet rfl rfl rfl g44) ?_
        refine .x rfl (unmet rfl rfl rfl g44) ?_
        refine .x rfl (unmet rfl rfl rfl g44) ?_
        refine .x rfl (unmet rfl rfl rfl g44) ?_
        refine .x rfl (unmet rfl rfl rfl g44) ?_
        refine .x rfl (unmet rfl rfl rfl g44) ?_
        refine .v rfl (met rfl rfl rfl (notT g43)) (O.pickF g44 rfl rfl rfl) ?_
        refine .v rfl rfl (O.pickF (notT g43) rfl rfl rfl) ?_
        refine .a rfl rfl rfl rfl ?_
        refine .nil ?_
        refine ⟨by kernel_rfl, by kernel_rfl, ?_⟩
        exact toN (Gives.mkR [] (.r rfl rfl (.r rfl rfl (.r rfl rfl (.r rfl rfl (.r rfl rfl (.c rfl (sbb (by first | (simp only [g43, g44, Bool.true_or, Bool.or_true, Bool.false_or, Bool.or_false, Bool.true_and, Bool.and_true, Bool.false_and, Bool.and_false, Bool.not_true, Bool.not_false, cond_true, cond_false]; done) | (repeat (first | rw [g43] | rw [g44])) <;> simp only [Bool.true_or, Bool.or_true, Bool.false_or, Bool.or_false, Bool.true_and, Bool.and_true, Bool.false_and, Bool.and_false, Bool.not_true, Bool.not_false, cond_true, cond_false])) rfl .n)))))) (.r rfl rfl rfl .n) rfl rfl rfl)
      ·refine W.dk (unm 20 [0, 1, 3, 7, 15, 31, 63, 127, 255, 511, 255, 255, 2303, 7423, 15615, 31999, 65535, 131071, 262143, 524287]) rfl (by kernel_rfl) ?_
       refine .v rfl rfl (O.fld fld60_0 rfl rfl rfl) ?_
       refine .v rfl rfl (O.ld (y := .i ((nth x0 v13).Day)) ty3 rfl rfl rfl) ?_
       refine .call (.b t40) [] 0 (calendar_Good.ok b41) rfl rfl rfl ca35 rfl rfl (cC (.imm _) .nil) rfl rfl rfl rfl rfl ?_
       refine .v rfl rfl (OpL.unV rfl rfl rfl) ?_
       refine .m rfl rfl rfl rfl ?_
       refine .x rfl (unmet rfl rfl rfl (notF g43)) ?_
       refine .x rfl (unmet rfl rfl rfl (notF g43)) ?_
       refine .x rfl (unmet rfl rfl rfl (notF g43)) ?_
       refine .x rfl (unmetU rfl rfl rfl) ?_
       refine .x rfl (unmetU rfl rfl rfl) ?_
       refine .x rfl (unmetU rfl rfl rfl) ?_
       refine .x rfl (unmetU rfl rfl rfl) ?_
       refine .x rfl (unmetU rfl rfl rfl) ?_
       refine .x rfl (unmetU rfl rfl rfl) ?_
       refine .x rfl (unmetU rfl rfl rfl) ?_
       refine .x rfl (unmetU rfl rfl rfl) ?_
       refine .x rfl (unmetU rfl rfl rfl) ?_
       refine .x rfl (unmet rfl rfl rfl (notF g43)) ?_
       refine .v rfl rfl (O.pickT (notF g43) rfl rfl rfl) ?_
       refine .a rfl rfl rfl rfl ?_
       refine .nil ?_
       refine ⟨by kernel_rfl, by kernel_rfl, ?_⟩
       exact toN (Gives.mkR [] (.r rfl rfl (.r rfl rfl (.r rfl rfl (.r rfl rfl (.r rfl rfl (.c rfl (sbb (by simp only [g43, Bool.true_or, Bool.or_true, Bool.false_or, Bool.or_false, Bool.true_and, Bool.and_true, Bool.false_and, Bool.and_false, Bool.not_true, Bool.not_false, cond_true, cond_false])) rfl .n)))))) (.r rfl rfl rfl .n) rfl rfl rfl)
    ·have h := ifF q38 h
     refine W.exit ?_
     cases h
     refine rdX fun e_ => ?_
     subst e_
     repeat with_reducible refine thru ?_
     refine hit ?_
     exact fkN (Gives.mkR [] .n .n rfl rfl rfl)
   ·intro w34 e_
    subst e_
    clear h
    have h := z37
    dsimp only at h
    refine W.seq ?_
    refine W.pk ?_
    refine .a rfl rfl rfl rfl ?_
    refine .nil ?_
    refine W.ret ?_
    cases h
    exact leaves (.inr rfl) rfl (.imm _) (cN .nil) rfl rfl
end Go.Proofs.Ytidinbjehfodoaa
