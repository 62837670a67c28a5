/- Shows what functions of the program come to, each as a plain function: written by a program of the author's for this claim. -/
import Derived.Test.YtkcjlpiaaklnkaaGx7
namespace Go.Proofs.Ytkcjlpiaaklnkaa
open Go Go.Pm
set_option linter.unusedVariables false
set_option linter.unusedSimpArgs false
noncomputable def lombardlaw13_shows.b0 (x1 : List lombardref13_Known) (t1 : List api_Asset) (t3 : List api_Price) (v17 : Int) (v18 : Int) : Option ((Int × Int) ⊕ (Bool ⊕ Int)) :=
  if (decide (v18 < (List.length x1 : Int))) = true then
    if (0 : Int) ≤ v18 ∧ v18 < (List.length t1 : Int) then
    if (0 : Int) ≤ v18 ∧ v18 < (List.length x1 : Int) then
    if (!((((nth t1 v18).ISIN) == (((nth x1 v18).A).ISIN)) && ((((nth t1 v18).Issuer) == (((nth x1 v18).A).Issuer)) && ((((nth t1 v18).Rating) == (((nth x1 v18).A).Rating)) && ((((nth t1 v18).Maturity) == (((nth x1 v18).A).Maturity)) && (((nth t1 v18).Currency) == (((nth x1 v18).A).Currency))))))) = true then
      some (.inr (.inl false))
    else
      if (0 : Int) ≤ v18 ∧ v18 < (List.length x1 : Int) then
      if (decide (((nth x1 v18).Price) > 0)) = true then
        if ((decide (v17 ≥ (List.length t3 : Int))) = false → (0 : Int) ≤ v17 ∧ v17 < (List.length t3 : Int)) then
        if ((decide (v17 ≥ (List.length t3 : Int))) = false → (0 : Int) ≤ v18 ∧ v18 < (List.length x1 : Int)) then
        if ((decide (v17 ≥ (List.length t3 : Int))) = false → (0 : Int) ≤ v18 ∧ v18 < (List.length x1 : Int)) then
        if ((decide (v17 ≥ (List.length t3 : Int))) || (!((((nth t3 v17).ISIN) == (((nth x1 v18).A).ISIN)) && (((nth t3 v17).Price) == ((nth x1 v18).Price))))) = true then
          some (.inr (.inl false))
        else
          some (.inl ((IntKind.wrap .i64 (v17 + 1)), (IntKind.wrap .i64 (v18 + 1))))
        else none
        else none
        else none
      else
        some (.inl (v17, (IntKind.wrap .i64 (v18 + 1))))
      else none
    else none
    else none
  else
    some (.inr (.inr v17))
noncomputable def lombardlaw13_shows.r0 (x1 : List lombardref13_Known) (t1 : List api_Asset) (t3 : List api_Price) (s : Int × Int) : Option ((Int × Int) ⊕ (Bool ⊕ Int)) := lombardlaw13_shows.b0 x1 t1 t3 s.1 s.2
noncomputable def lombardlaw13_shows.f (x0 : asset_Book) (x1 : List lombardref13_Known) : Option (Bool) :=
  (asset_Book_All.f x0).bind fun t1 =>
  (asset_Book_Prices.f x0).bind fun t3 =>
  if ((List.length t1 : Int) != (List.length x1 : Int)) = true then
    some false
  else
    (loop (lombardlaw13_shows.r0 x1 t1 t3) (0, 0)).bind fun o42 =>
    match o42 with
    | .inl r56 => some r56
    | .inr w41 =>
      some (w41 == (List.length t3 : Int))
set_option maxRecDepth 100000 in
set_option maxHeartbeats 4000000 in
theorem lombardlaw13_shows.ok {x0 : asset_Book} {x1 : List lombardref13_Known} {r : Bool} (h : lombardlaw13_shows.f x0 x1 = some r) : Pm.Spec prog 22 [.xbox [.xown 29 5 (List.map api_Asset.enc x0.l), .xown 3 1 (List.map (encI .i64) x0.prices), .imm (.val (.bool x0.made))], .xown 46 6 (List.map lombardref13_Known.enc x1)] (.imm (.val (.bool r))) [some (.xbox [.xown 29 5 (List.map api_Asset.enc x0.l), .xown 3 1 (List.map (encI .i64) x0.prices), .imm (.val (.bool x0.made))]), some (.xown 46 6 (List.map lombardref13_Known.enc x1))] := by
 unfold lombardlaw13_shows.f at h
 refine Pm.Spec.of_body Try.func22 rfl (by kernel_rfl) (Nat.le_of_ble_eq_true rfl) (Nat.le_of_ble_eq_true rfl) ?_
 refine W.ghost (σ' := (mkSt [(0, some (.ptr 0 0)), (1, some (.own 3))] [(0, some (.box [.own 1, .own 2, .b x0.made])), (1, some (.rows 29 5 (List.map api_Asset.enc x0.l) false)), (2, some (.rows 3 1 (List.map (encI .i64) x0.prices) false)), (3, some (.rows 46 6 (List.map lombardref13_Known.enc x1) false))] 1000)) (Gives.entry (.c rfl (.c rfl .n)) (.c rfl (.c rfl (.c rfl (.c rfl .n))))) ?_
 refine W.ghost (σ' := (mkSt [(0, some (.ptr 0 0)), (1, some (.own 3))] [(0, some (.box [.own 1000, .own 1001, .b x0.made])), (3, some (.rows 46 6 (List.map lombardref13_Known.enc x1) false)), (1000, some (.rows 29 5 (List.map api_Asset.enc x0.l) false)), (1001, some (.rows 3 1 (List.map (encI .i64) x0.prices) false))] 1002)) (Gives.mkR [(1000, 1), (1001, 2)] (.r rfl rfl (.r rfl rfl .n)) (.r rfl rfl rfl (.r rfl rfl rfl (.r rfl rfl rfl (.r rfl rfl rfl .n)))) rfl rfl rfl) ?_
 refine W.seq ?_
 refine W.pk ?_
 refine .a rfl rfl rfl rfl ?_
 refine .nil ?_
 refine W.seq ?_
 obtain ⟨t1, b2, h⟩ := bnd1 h
 obtain ⟨t3, b4, h⟩ := bnd1 h
 refine W.pk ?_
 refine .m rfl rfl rfl rfl ?_
 refine .call (.own 1002) [(1002, some (.rows 29 5 (List.map api_Asset.enc t1) false)), (0, some (.box [.own 1003, .own 1004, .b x0.made])), (1003, some (.rows 29 5 (List.map api_Asset.enc x0.l) false)), (1004, some (.rows 3 1 (List.map (encI .i64) x0.prices) false)), (0, none), (1000, none), (1001, none)] 3 (asset_Book_All.ok b2) rfl rfl rfl ca31 rfl rfl (cC (.ptr _ _ _ _ _ rfl (cC (.own _ _ _ _ rfl) (cC (.own _ _ _ _ rfl) (cC (.imm _) .nil)))) .nil) rfl rfl rfl rfl rfl ?_
 refine .m rfl rfl rfl rfl ?_
 refine .call (.own 1005) [(1005, some (.rows 82 2 (List.map api_Price.enc t3) false)), (0, some (.box [.own 1006, .own 1007, .b x0.made])), (1006, some (.rows 29 5 (List.map api_Asset.enc x0.l) false)), (1007, some (.rows 3 1 (List.map (encI .i64) x0.prices) false)), (0, none), (1003, none), (1004, none)] 3 (asset_Book_Prices.ok b4) rfl rfl rfl ca32 rfl rfl (cC (.ptr _ _ _ _ _ rfl (cC (.own _ _ _ _ rfl) (cC (.own _ _ _ _ rfl) (cC (.imm _) .nil)))) .nil) rfl rfl rfl rfl rfl ?_
 refine .a rfl rfl rfl rfl ?_
 refine .a rfl rfl rfl rfl ?_
 refine .nil ?_
 refine W.seq ?_
 refine W.seq ?_
 refine W.pk ?_
 refine .m rfl rfl rfl rfl ?_
 refine .v rfl rfl (O.lenO sl68 rfl rfl rfl) ?_
 refine .m rfl rfl rfl rfl ?_
 refine .v rfl rfl (O.lenO sl31 rfl rfl rfl) ?_
 refine .v rfl rfl (OpL.binI rfl rfl rfl rfl) ?_
 refine .nil ?_
 refine W.cond rfl (fun q5 => ?_) (fun q5 => ?_)
 ·have h := ifT q5 h
  refine W.seq ?_
  refine W.pk ?_
  refine .a rfl rfl rfl rfl ?_
  refine .nil ?_
  refine W.ret ?_
  cases h
  exact leaves (.inr rfl) rfl (.imm _) (cS (.ptr _ _ _ _ _ rfl (cC (.own _ _ _ _ rfl) (cC (.own _ _ _ _ rfl) (cC (.imm _) .nil)))) (cS (.own _ _ _ _ rfl) .nil)) rfl rfl
 ·have h := ifF q5 h
  refine W.skip ?_
  refine W.seq ?_
  refine W.pk ?_
  refine .a rfl rfl rfl rfl ?_
  refine .nil ?_
  refine W.seq ?_
  refine W.seq ?_
  refine W.pk ?_
  refine .a rfl rfl rfl rfl ?_
  refine .nil ?_
  obtain ⟨o42, b43, z44⟩ := bnd1 h
  refine W.fork2 (out := o42) (fun (w41 : Int) => mkSt [(6, some (.own 1005)), (7, some (.i w41))] [(0, some (.box [.own 1006, .own 1007, .b x0.made])), (3, some (.rows 46 6 (List.map lombardref13_Known.enc x1) false)), (1005, some (.rows 82 2 (List.map api_Price.enc t3) false)), (1006, some (.rows 29 5 (List.map api_Asset.enc x0.l) false)), (1007, some (.rows 3 1 (List.map (encI .i64) x0.prices) false))] 1008) ?_ ?_
  ·clear h
   refine W.block ?_
   refine W.loopF (fun (s_ : Int × Int) => mkSt [(1, some (.own 3)), (5, some (.own 1002)), (6, some (.own 1005)), (7, some (.i s_.1)), (8, some (.i s_.2))] [(0, some (.box [.own 1006, .own 1007, .b x0.made])), (3, some (.rows 46 6 (List.map lombardref13_Known.enc x1) false)), (1002, some (.rows 29 5 (List.map api_Asset.enc t1) false)), (1005, some (.rows 82 2 (List.map api_Price.enc t3) false)), (1006, some (.rows 29 5 (List.map api_Asset.enc x0.l) false)), (1007, some (.rows 3 1 (List.map (encI .i64) x0.prices) false))] 1008) b43 (Gives.mkR [] (.r rfl rfl (.r rfl rfl (.r rfl rfl (.r rfl rfl (.r rfl rfl .n))))) (.r rfl rfl rfl (.r rfl rfl rfl (.r rfl rfl rfl (.r rfl rfl rfl (.r rfl rfl rfl (.r rfl rfl rfl .n)))))) rfl rfl rfl) ?_
   rintro ⟨v17, v18⟩ s_ hr
   have h : lombardlaw13_shows.b0 x1 t1 t3 v17 v18 = some s_ := hr
   unfold lombardlaw13_shows.b0 at h
   refine W.seq ?_
   refine W.seq ?_
   refine W.pk ?_
   refine .m rfl rfl rfl rfl ?_
   refine .m rfl rfl rfl rfl ?_
   refine .v rfl rfl (O.lenO sl31 rfl rfl rfl) ?_
   refine .v rfl rfl (OpL.binI rfl rfl rfl rfl) ?_
   refine .nil ?_
   refine W.cond rfl (fun q45 => ?_) (fun q45 => ?_)
   ·have h := ifT q45 h
    refine W.skip ?_
    refine W.seq ?_
    refine W.block ?_
    refine W.seq ?_
    refine W.seq ?_
    obtain ⟨c46, h⟩ := chk h
    obtain ⟨c47, h⟩ := chk h
    refine W.dk (unm 10 [0, 0, 3, 7, 0, 0, 48, 112, 240, 511]) rfl (by kernel_rfl) ?_
    refine .m rfl rfl rfl rfl ?_
    refine .m rfl rfl rfl rfl ?_
    refine .v rfl rfl (O.idxO sl68 c46 rfl rfl rfl rfl) ?_
    refine .v rfl rfl (O.ldEN ty29 c46 rfl rfl rfl rfl rfl) ?_
    refine .m rfl rfl rfl rfl ?_
    refine .m rfl rfl rfl rfl ?_
    refine .v rfl rfl (O.idxO sl31 c47 rfl rfl rfl rfl) ?_
    refine .v rfl rfl (O.fld fld46_0 rfl rfl rfl) ?_
    refine .v rfl rfl (O.ldEN ty29 c47 rfl rfl rfl rfl rfl) ?_
    refine .v rfl rfl (O.neS (r := ((((nth t1 v18).ISIN) == (((nth x1 v18).A).ISIN)) && ((((nth t1 v18).Issuer) == (((nth x1 v18).A).Issuer)) && ((((nth t1 v18).Rating) == (((nth x1 v18).A).Rating)) && ((((nth t1 v18).Maturity) == (((nth x1 v18).A).Maturity)) && (((nth t1 v18).Currency) == (((nth x1 v18).A).Currency))))))) fl29 rfl rfl rfl rfl rfl rfl) ?_
    refine .nil ?_
    refine ⟨by kernel_rfl, by kernel_rfl, ?_⟩
    refine W.cond rfl (fun q48 => ?_) (fun q48 => ?_)
    ·have h := ifT q48 h
     refine W.seq ?_
     refine W.pk ?_
     refine .a rfl rfl rfl rfl ?_
     refine .nil ?_
     refine W.ret ?_
     cases h
     refine rdR fun e_ => ?_
     subst e_
     have h := z44
     dsimp only at h
     refine fkR ?_
     cases h
     exact leaves (.inr rfl) rfl (.imm _) (cS (.ptr _ _ _ _ _ rfl (cC (.own _ _ _ _ rfl) (cC (.own _ _ _ _ rfl) (cC (.imm _) .nil)))) (cS (.own _ _ _ _ rfl) .nil)) rfl rfl
    ·have h := ifF q48 h
     refine W.skip ?_
     refine W.seq ?_
     obtain ⟨c49, h⟩ := chk h
     refine W.pk ?_
     refine .m rfl rfl rfl rfl ?_
     refine .m rfl rfl rfl rfl ?_
     refine .v rfl rfl (O.idxO sl31 c49 rfl rfl rfl rfl) ?_
     refine .v rfl rfl (O.fld fld46_1 rfl rfl rfl) ?_
     refine .v rfl rfl (O.ldE (c := (.val (.int .i64 ((nth x1 v18).Price)))) ty3 c49 rfl rfl rfl rfl rfl) ?_
     refine .v rfl rfl (OpL.binI rfl rfl rfl rfl) ?_
     refine .nil ?_
     refine W.cond rfl (fun q50 => ?_) (fun q50 => ?_)
     ·have h := ifT q50 h
      refine W.seq ?_
      refine W.seq ?_
      obtain ⟨c51, h⟩ := chk h
      obtain ⟨c52, h⟩ := chk h
      obtain ⟨c53, h⟩ := chk h
      refine W.fork (mkSt [(1, some (.own 3)), (5, some (.own 1002)), (6, some (.own 1005)), (7, some (.i v17)), (8, some (.i v18)), (62, some (.b ((decide (v17 ≥ (List.length t3 : Int))) || (!((((nth t3 v17).ISIN) == (((nth x1 v18).A).ISIN)) && (((nth t3 v17).Price) == ((nth x1 v18).Price)))))))] [(0, some (.box [.own 1006, .own 1007, .b x0.made])), (3, some (.rows 46 6 (List.map lombardref13_Known.enc x1) false)), (1002, some (.rows 29 5 (List.map api_Asset.enc t1) false)), (1005, some (.rows 82 2 (List.map api_Price.enc t3) false)), (1006, some (.rows 29 5 (List.map api_Asset.enc x0.l) false)), (1007, some (.rows 3 1 (List.map (encI .i64) x0.prices) false))] 1008) ?_ ?_
      ·refine W.cond rfl (fun q55 => ?_) (fun q55 => ?_)
       ·have h := ifT q55 h
        refine W.seq ?_
        refine W.pk ?_
        refine .a rfl rfl rfl rfl ?_
        refine .nil ?_
        refine W.ret ?_
        cases h
        refine rdR fun e_ => ?_
        subst e_
        have h := z44
        dsimp only at h
        refine fkR ?_
        cases h
        exact leaves (.inr rfl) rfl (.imm _) (cS (.ptr _ _ _ _ _ rfl (cC (.own _ _ _ _ rfl) (cC (.own _ _ _ _ rfl) (cC (.imm _) .nil)))) (cS (.own _ _ _ _ rfl) .nil)) rfl rfl
       ·have h := ifF q55 h
        refine W.skip ?_
        refine W.pk ?_
        refine .m rfl rfl rfl rfl ?_
        refine .v rfl rfl (OpL.binI rfl rfl rfl rfl) ?_
        refine .a rfl rfl rfl rfl ?_
        refine .nil ?_
        refine W.pk ?_
        refine .m rfl rfl rfl rfl ?_
        refine .v rfl rfl (OpL.binI rfl rfl rfl rfl) ?_
        refine .a rfl rfl rfl rfl ?_
        refine .nil ?_
        cases h
        exact rdN (Gives.mkR [] (.r rfl rfl (.r rfl rfl (.r rfl rfl (.r rfl rfl (.r rfl rfl .n))))) (.r rfl rfl rfl (.r rfl rfl rfl (.r rfl rfl rfl (.r rfl rfl rfl (.r rfl rfl rfl (.r rfl rfl rfl .n)))))) rfl rfl rfl)
      ·clear h
       rcases tf (decide (v17 ≥ (List.length t3 : Int))) with g54 | g54
       ·refine W.dk (unm 23 [0, 0, 2, 7, 15, 31, 31, 127, 255, 31, 31, 1567, 3615, 7711, 15903, 31, 31, 98335, 229407, 491551, 1048095, 2097151, 4194303]) rfl (by kernel_rfl) ?_
        refine .m rfl rfl rfl rfl ?_
        refine .m rfl rfl rfl rfl ?_
        refine .v rfl rfl (O.lenO sl49 rfl rfl rfl) ?_
        refine .v rfl rfl (OpL.binI rfl rfl rfl rfl) ?_
        refine .m rfl rfl rfl rfl ?_
        refine .x rfl (unmet rfl rfl rfl g54) ?_
        refine .x rfl (unmet rfl rfl rfl g54) ?_
        refine .x rfl (unmet rfl rfl rfl g54) ?_
        refine .x rfl (unmet rfl rfl rfl g54) ?_
        refine .x rfl (unmet rfl rfl rfl g54) ?_
        refine .x rfl (unmet rfl rfl rfl g54) ?_
        refine .x rfl (unmet rfl rfl rfl g54) ?_
        refine .x rfl (unmet rfl rfl rfl g54) ?_
        refine .x rfl (unmet rfl rfl rfl g54) ?_
        refine .x rfl (unmet rfl rfl rfl g54) ?_
        refine .x rfl (unmet rfl rfl rfl g54) ?_
        refine .x rfl (unmet rfl rfl rfl g54) ?_
        refine .x rfl (unmet rfl rfl rfl g54) ?_
        refine .x rfl (unmet rfl rfl rfl g54) ?_
        refine .x rfl (unmet rfl rfl rfl g54) ?_
        refine .x rfl (unmet rfl rfl rfl g54) ?_
        refine .x rfl (unmet rfl rfl rfl g54) ?_
        refine .v rfl rfl (O.pickT g54 rfl rfl rfl) ?_
        refine .nil ?_
        refine ⟨by kernel_rfl, by kernel_rfl, ?_⟩
        exact toN (Gives.mkR [] (.r rfl rfl (.r rfl rfl (.r rfl rfl (.r rfl rfl (.r rfl rfl (.c rfl (sbb (by simp only [g54, Bool.true_or, Bool.or_true, Bool.false_or, Bool.or_false, Bool.true_and, Bool.and_true, Bool.false_and, Bool.and_false, Bool.not_true, Bool.not_false, cond_true, cond_false])) rfl .n)))))) (.r rfl rfl rfl (.r rfl rfl rfl (.r rfl rfl rfl (.r rfl rfl rfl (.r rfl rfl rfl (.r rfl rfl rfl .n)))))) rfl rfl rfl)
       ·refine W.dk (unm 23 [0, 0, 2, 7, 15, 31, 31, 127, 255, 31, 31, 1567, 3615, 7711, 15903, 31, 31, 98335, 229407, 491551, 1048095, 2097151, 4194303]) rfl (by kernel_rfl) ?_
        refine .m rfl rfl rfl rfl ?_
        refine .m rfl rfl rfl rfl ?_
        refine .v rfl rfl (O.lenO sl49 rfl rfl rfl) ?_
        refine .v rfl rfl (OpL.binI rfl rfl rfl rfl) ?_
        refine .m rfl rfl rfl rfl ?_
        refine .m rfl (met rfl rfl rfl g54) rfl rfl ?_
        refine .m rfl (met rfl rfl rfl g54) rfl rfl ?_
        refine .v rfl (met rfl rfl rfl g54) (O.idxO sl49 (c51 (by simp only [g54, Bool.true_or, Bool.or_true, Bool.false_or, Bool.or_false, Bool.true_and, Bool.and_true, Bool.false_and, Bool.and_false, Bool.not_true, Bool.not_false, cond_true, cond_false])) rfl rfl rfl rfl) ?_
        refine .v rfl (met rfl rfl rfl g54) (O.ldEN ty82 (c51 (by simp only [g54, Bool.true_or, Bool.or_true, Bool.false_or, Bool.or_false, Bool.true_and, Bool.and_true, Bool.false_and, Bool.and_false, Bool.not_true, Bool.not_false, cond_true, cond_false])) rfl rfl rfl rfl rfl) ?_
        refine .m rfl (met rfl rfl rfl g54) rfl rfl ?_
        refine .m rfl (met rfl rfl rfl g54) rfl rfl ?_
        refine .v rfl (met rfl rfl rfl g54) (O.idxO sl31 (c52 (by simp only [g54, Bool.true_or, Bool.or_true, Bool.false_or, Bool.or_false, Bool.true_and, Bool.and_true, Bool.false_and, Bool.and_false, Bool.not_true, Bool.not_false, cond_true, cond_false])) rfl rfl rfl rfl) ?_
        refine .v rfl (met rfl rfl rfl g54) (O.fld fld46_0 rfl rfl rfl) ?_
        refine .v rfl (met rfl rfl rfl g54) (O.fld fld29_0 rfl rfl rfl) ?_
        refine .v rfl (met rfl rfl rfl g54) (O.ldE (c := (.val (.string (tx (((nth x1 v18).A).ISIN))))) ty9 (c52 (by simp only [g54, Bool.true_or, Bool.or_true, Bool.false_or, Bool.or_false, Bool.true_and, Bool.and_true, Bool.false_and, Bool.and_false, Bool.not_true, Bool.not_false, cond_true, cond_false])) rfl rfl rfl rfl rfl) ?_
        refine .m rfl (met rfl rfl rfl g54) rfl rfl ?_
        refine .m rfl (met rfl rfl rfl g54) rfl rfl ?_
        refine .v rfl (met rfl rfl rfl g54) (O.idxO sl31 (c53 (by simp only [g54, Bool.true_or, Bool.or_true, Bool.false_or, Bool.or_false, Bool.true_and, Bool.and_true, Bool.false_and, Bool.and_false, Bool.not_true, Bool.not_false, cond_true, cond_false])) rfl rfl rfl rfl) ?_
        refine .v rfl (met rfl rfl rfl g54) (O.fld fld46_1 rfl rfl rfl) ?_
        refine .v rfl (met rfl rfl rfl g54) (O.ldE (c := (.val (.int .i64 ((nth x1 v18).Price)))) ty3 (c53 (by simp only [g54, Bool.true_or, Bool.or_true, Bool.false_or, Bool.or_false, Bool.true_and, Bool.and_true, Bool.false_and, Bool.and_false, Bool.not_true, Bool.not_false, cond_true, cond_false])) rfl rfl rfl rfl rfl) ?_
        refine .v rfl (met rfl rfl rfl g54) (O.build (out := [.s (((nth x1 v18).A).ISIN), .i ((nth x1 v18).Price)]) bl82 rfl rfl rfl rfl (by kernel_rfl)) ?_
        refine .v rfl (met rfl rfl rfl g54) (O.neS (r := ((((nth t3 v17).ISIN) == (((nth x1 v18).A).ISIN)) && (((nth t3 v17).Price) == ((nth x1 v18).Price)))) fl82 rfl rfl rfl rfl rfl rfl) ?_
        refine .v rfl rfl (O.pickF g54 rfl rfl rfl) ?_
        refine .nil ?_
        refine ⟨by kernel_rfl, by kernel_rfl, ?_⟩
        exact toN (Gives.mkR [] (.r rfl rfl (.r rfl rfl (.r rfl rfl (.r rfl rfl (.r rfl rfl (.c rfl (sbb (by simp only [g54, Bool.true_or, Bool.or_true, Bool.false_or, Bool.or_false, Bool.true_and, Bool.and_true, Bool.false_and, Bool.and_false, Bool.not_true, Bool.not_false, cond_true, cond_false])) rfl .n)))))) (.r rfl rfl rfl (.r rfl rfl rfl (.r rfl rfl rfl (.r rfl rfl rfl (.r rfl rfl rfl (.r rfl rfl rfl .n)))))) rfl rfl rfl)
     ·have h := ifF q50 h
      refine W.skip ?_
      refine W.pk ?_
      refine .m rfl rfl rfl rfl ?_
      refine .v rfl rfl (OpL.binI rfl rfl rfl rfl) ?_
      refine .a rfl rfl rfl rfl ?_
      refine .nil ?_
      cases h
      exact rdN (Gives.mkR [] (.r rfl rfl (.r rfl rfl (.r rfl rfl (.r rfl rfl (.r rfl rfl .n))))) (.r rfl rfl rfl (.r rfl rfl rfl (.r rfl rfl rfl (.r rfl rfl rfl (.r rfl rfl rfl (.r rfl rfl rfl .n)))))) rfl rfl rfl)
   ·have h := ifF q45 h
    refine W.exit ?_
    cases h
    refine rdX fun e_ => ?_
    subst e_
    repeat with_reducible refine thru ?_
    refine hit ?_
    exact fkN (Gives.mkR [] (.r rfl rfl (.r rfl rfl .n)) (.r rfl rfl rfl (.r rfl rfl rfl (.r rfl rfl rfl (.r rfl rfl rfl (.r rfl rfl rfl .n))))) rfl rfl rfl)
  ·intro w41 e_
   subst e_
   clear h
   have h := z44
   dsimp only at h
   refine W.seq ?_
   refine W.pk ?_
   refine .m rfl rfl rfl rfl ?_
   refine .m rfl rfl rfl rfl ?_
   refine .v rfl rfl (O.lenO sl49 rfl rfl rfl) ?_
   refine .v rfl rfl (OpL.binI rfl rfl rfl rfl) ?_
   refine .a rfl rfl rfl rfl ?_
   refine .nil ?_
   refine W.ret ?_
   cases h
   exact leaves (.inr rfl) rfl (.imm _) (cS (.ptr _ _ _ _ _ rfl (cC (.own _ _ _ _ rfl) (cC (.own _ _ _ _ rfl) (cC (.imm _) .nil)))) (cS (.own _ _ _ _ rfl) .nil)) rfl rfl

noncomputable def lombardlaw13_AssetPlays.b0 (x0 : List lombardlaw13_Act) (v31 : Int) (v32 : Bool) (v33 : List api_Asset) (v34 : List Int) (v35 : List lombardref13_Known) : Option ((Int × Bool × (List api_Asset) × (List Int) × (List lombardref13_Known)) ⊕ (Bool ⊕ Unit)) :=
  if ((decide (v31 < (List.length x0 : Int))) && (decide (v31 < 90))) = true then
    if (0 : Int) ≤ v31 ∧ v31 < (List.length x0 : Int) then
    if ((decide ((List.length ((nth x0 v31).Prices) : Int) ≤ 100)) = true → (0 : Int) ≤ v31 ∧ v31 < (List.length x0 : Int)) then
    (if (decide ((List.length ((nth x0 v31).Prices) : Int) ≤ 100)) = true then lombardlaw13_does.f (⟨v33, v34, v32⟩ : asset_Book) v35 (⟨(nth x0 v31).Kind, ((nth x0 v31).Asset), (nth x0 v31).Prices⟩ : lombardlaw13_Act) else some (default, (⟨v33, v34, v32⟩ : asset_Book), v35)).bind fun t68 =>
    (if (decide ((List.length ((nth x0 v31).Prices) : Int) ≤ 100)) = true ∧ (!t68.1) = false then lombardlaw13_shows.f t68.2.1 t68.2.2 else some default).bind fun t70 =>
    if ((decide ((List.length ((nth x0 v31).Prices) : Int) ≤ 100)) && ((!t68.1) || (!t70))) = true then
      some (.inr (.inl false))
    else
      some (.inl ((IntKind.wrap .i64 (v31 + 1)), t68.2.1.made, t68.2.1.l, t68.2.1.prices, t68.2.2))
    else none
    else none
  else
    some (.inr (.inr ()))
noncomputable def lombardlaw13_AssetPlays.r0 (x0 : List lombardlaw13_Act) (s : Int × Bool × (List api_Asset) × (List Int) × (List lombardref13_Known)) : Option ((Int × Bool × (List api_Asset) × (List Int) × (List lombardref13_Known)) ⊕ (Bool ⊕ Unit)) := lombardlaw13_AssetPlays.b0 x0 s.1 s.2.1 s.2.2.1 s.2.2.2.1 s.2.2.2.2
noncomputable def lombardlaw13_AssetPlays.f (x0 : List lombardlaw13_Act) : Option (Bool) :=
  (asset_New.f).bind fun t1 =>
  (loop (lombardlaw13_AssetPlays.r0 x0) (0, t1.made, t1.l, t1.prices, [])).bind fun o61 =>
  match o61 with
  | .inl r76 => some r76
  | .inr w60 =>
    (lombardlaw13_awake.f).bind fun t77 =>
    some t77
set_option maxRecDepth 100000 in
set_option maxHeartbeats 4000000 in
theorem lombardlaw13_AssetPlays.ok {x0 : List lombardlaw13_Act} {r : Bool} (h : lombardlaw13_AssetPlays.f x0 = some r) : Pm.Spec prog 6 [.imm (.row 7 (List.map lombardlaw13_Act.enc x0))] (.imm (.val (.bool r))) [none] := by
 unfold lombardlaw13_AssetPlays.f at h
 refine Pm.Spec.of_body Try.func6 rfl (by kernel_rfl) (Nat.le_of_ble_eq_true rfl) (Nat.le_of_ble_eq_true rfl) ?_
 refine W.ghost (σ' := (mkSt [(0, some (.imm (.row 7 (List.map lombardlaw13_Act.enc x0))))] [] 1000)) (Gives.entry (.c rfl .n) .n) ?_
 refine W.seq ?_
 refine W.pk ?_
 refine .a rfl rfl rfl rfl ?_
 refine .nil ?_
 refine W.seq ?_
 obtain ⟨t1, b2, h⟩ := bnd1 h
 refine W.pk ?_
 refine .call (.ptr 1000 0) [(1000, some (.box [.own 1001, .own 1002, .b t1.made])), (1001, some (.rows 29 5 (List.map api_Asset.enc t1.l) false)), (1002, some (.rows 3 1 (List.map (encI .i64) t1.prices) false))] 3 (asset_New.ok b2) rfl rfl rfl ca20 rfl rfl .nil rfl rfl rfl rfl rfl ?_
 refine .a rfl rfl rfl rfl ?_
 refine .nil ?_
 refine W.seq ?_
 refine W.pk ?_
 refine .t rfl rfl (O.alloc z31 rfl) ?_
 refine .nil ?_
 refine W.seq ?_
 refine W.seq ?_
 refine W.pk ?_
 refine .a rfl rfl rfl rfl ?_
 refine .nil ?_
 refine W.ghost (Gives.mintB 1003 0 46 6 rfl rfl) ?_
 obtain ⟨o61, b62, z63⟩ := bnd1 h
 refine W.fork2 (out := o61) (fun (w60 : Unit) => mkSt [] [] 1005) ?_ ?_
 ·clear h
  refine W.block ?_
  refine W.loopF (fun (s_ : Int × Bool × (List api_Asset) × (List Int) × (List lombardref13_Known)) => mkSt [(0, some (.imm (.row 7 (List.map lombardlaw13_Act.enc x0)))), (3, some (.ptr 1000 0)), (4, some (.ptr 1003 0)), (5, some (.i s_.1))] [(1000, some (.box [.own 1001, .own 1002, .b s_.2.1])), (1001, some (.rows 29 5 (List.map api_Asset.enc s_.2.2.1) false)), (1002, some (.rows 3 1 (List.map (encI .i64) s_.2.2.2.1) false)), (1003, some (.box [.own 1004])), (1004, some (.rows 46 6 (List.map lombardref13_Known.enc s_.2.2.2.2) false))] 1005) b62 (Gives.mkR [] (.r rfl rfl (.r rfl rfl (.r rfl rfl (.r rfl rfl .n)))) (.r rfl rfl rfl (.r rfl rfl rfl (.r rfl rfl rfl (.r rfl rfl rfl (.r rfl rfl rfl .n))))) rfl rfl rfl) ?_
  rintro ⟨v31, v32, v33, v34, v35⟩ s_ hr
  have h : lombardlaw13_AssetPlays.b0 x0 v31 v32 v33 v34 v35 = some s_ := hr
  unfold lombardlaw13_AssetPlays.b0 at h
  refine W.seq ?_
  refine W.seq ?_
  refine W.fork (mkSt [(0, some (.imm (.row 7 (List.map lombardlaw13_Act.enc x0)))), (3, some (.ptr 1000 0)), (4, some (.ptr 1003 0)), (5, some (.i v31)), (14, some (.b ((decide (v31 < (List.length x0 : Int))) && (decide (v31 < 90)))))] [(1000, some (.box [.own 1001, .own 1002, .b v32])), (1001, some (.rows 29 5 (List.map api_Asset.enc v33) false)), (1002, some (.rows 3 1 (List.map (encI .i64) v34) false)), (1003, some (.box [.own 1004])), (1004, some (.rows 46 6 (List.map lombardref13_Known.enc v35) false))] 1005) ?_ ?_
  ·refine W.cond rfl (fun q65 => ?_) (fun q65 => ?_)
   ·have h := ifT q65 h
    refine W.skip ?_
    refine W.seq ?_
    refine W.block ?_
    refine W.seq ?_
    obtain ⟨c66, h⟩ := chk h
    obtain ⟨c67, h⟩ := chk h
    obtain ⟨t68, b69, h⟩ := bnd1 h
    obtain ⟨t70, b71, h⟩ := bnd1 h
    refine W.fork (mkSt [(0, some (.imm (.row 7 (List.map lombardlaw13_Act.enc x0)))), (3, some (.ptr 1000 0)), (4, some (.ptr 1003 0)), (5, some (.i v31)), (38, some (.b ((decide ((List.length ((nth x0 v31).Prices) : Int) ≤ 100)) && ((!t68.1) || (!t70)))))] [(1000, some (.box [.own 1008, .own 1009, .b t68.2.1.made])), (1003, some (.box [.own 1007])), (1007, some (.rows 46 6 (List.map lombardref13_Known.enc t68.2.2) false)), (1008, some (.rows 29 5 (List.map api_Asset.enc t68.2.1.l) false)), (1009, some (.rows 3 1 (List.map (encI .i64) t68.2.1.prices) false))] 1010) ?_ ?_
    ·refine W.cond rfl (fun q74 => ?_) (fun q74 => ?_)
     ·have h := ifT q74 h
      refine W.seq ?_
      refine W.pk ?_
      refine .a rfl rfl rfl rfl ?_
      refine .nil ?_
      refine W.ret ?_
      cases h
      refine rdR fun e_ => ?_
      subst e_
      have h := z63
      dsimp only at h
      refine fkR ?_
      cases h
      exact leaves (.inr rfl) rfl (.imm _) (cN .nil) rfl rfl
     ·have h := ifF q74 h
      refine W.skip ?_
      refine W.pk ?_
      refine .m rfl rfl rfl rfl ?_
      refine .v rfl rfl (OpL.binI rfl rfl rfl rfl) ?_
      refine .a rfl rfl rfl rfl ?_
      refine .nil ?_
      cases h
      exact rdN (Gives.mkR [(1001, 1008), (1002, 1009), (1004, 1007)] (.r rfl rfl (.r rfl rfl (.r rfl rfl (.r rfl rfl .n)))) (.r rfl rfl rfl (.r rfl rfl rfl (.r rfl rfl rfl (.r rfl rfl rfl (.r rfl rfl rfl .n))))) rfl rfl rfl)
    ·clear h
     rcases tf (decide ((List.length ((nth x0 v31).Prices) : Int) ≤ 100)) with g72 | g72
     ·rcases tf t68.1 with g73 | g73
      ·refine W.pk ?_
       refine .m rfl rfl rfl rfl ?_
       refine .m rfl rfl rfl rfl ?_
       refine .v rfl rfl (O.idx sl27 c66 rfl rfl rfl) ?_
       refine .v rfl rfl (O.fld fld51_2 rfl rfl rfl) ?_
       refine .v rfl rfl (O.ld (y := .imm (.row 2 (List.map api_Price.enc ((nth x0 v31).Prices)))) ty49 rfl rfl rfl) ?_
       refine .v rfl rfl (O.lenR sl49 rfl rfl) ?_
       refine .v rfl rfl (OpL.binI rfl rfl rfl rfl) ?_
       refine .m rfl rfl rfl rfl ?_
       refine .m rfl (met rfl rfl rfl g72) rfl rfl ?_
       refine .m rfl (met rfl rfl rfl g72) rfl rfl ?_
       refine .m rfl (met rfl rfl rfl g72) rfl rfl ?_
       refine .v rfl (met rfl rfl rfl g72) (O.idx sl27 (c67 (by first | (simp only [g72, g73, Bool.true_or, Bool.or_true, Bool.false_or, Bool.or_false, Bool.true_and, Bool.and_true, Bool.false_and, Bool.and_false, Bool.not_true, Bool.not_false, cond_true, cond_false]; done) | (repeat (first | rw [g72] | rw [g73])) <;> simp only [Bool.true_or, Bool.or_true, Bool.false_or, Bool.or_false, Bool.true_and, Bool.and_true, Bool.false_and, Bool.and_false, Bool.not_true, Bool.not_false, cond_true, cond_false])) rfl rfl rfl) ?_
       refine .v rfl (met rfl rfl rfl g72) (O.ldN ty51 rfl rfl rfl) ?_
       refine .call (.b t68.1) [(1000, some (.box [.own 1005, .own 1006, .b t68.2.1.made])), (1005, some (.rows 29 5 (List.map api_Asset.enc t68.2.1.l) false)), (1006, some (.rows 3 1 (List.map (encI .i64) t68.2.1.prices) false)), (1003, some (.box [.own 1007])), (1007, some (.rows 46 6 (List.map lombardref13_Known.enc t68.2.2) false)), (1000, none), (1001, none), (1002, none), (1003, none), (1004, none)] 3 (lombardlaw13_does.ok ((if_pos (by first | (simp only [g72, g73, Bool.true_or, Bool.or_true, Bool.false_or, Bool.or_false, Bool.true_and, Bool.and_true, Bool.false_and, Bool.and_false, Bool.not_true, Bool.not_false, cond_true, cond_false]; done) | (repeat (first | rw [g72] | rw [g73])) <;> simp only [Bool.true_or, Bool.or_true, Bool.false_or, Bool.or_false, Bool.true_and, Bool.and_true, Bool.false_and, Bool.and_false, Bool.not_true, Bool.not_false, cond_true, cond_false])).symm.trans b69)) rfl (met rfl rfl rfl g72) rfl ca21 rfl rfl (cC (.ptr _ _ _ _ _ rfl (cC (.own _ _ _ _ rfl) (cC (.own _ _ _ _ rfl) (cC (.imm _) .nil)))) (cC (.ptr _ _ _ _ _ rfl (cC (.own _ _ _ _ rfl) .nil)) (cC (.agg _ _ _ _ (cC (.imm _) (cC (.imm _) (cC (.imm _) (cC (.imm _) (cC (.imm _) (cC (.imm _) (cC (.imm _) .nil)))))))) .nil))) rfl rfl rfl rfl rfl ?_
       refine .v rfl (met rfl rfl rfl g72) (OpL.unV rfl rfl rfl) ?_
       refine .m rfl (met rfl rfl rfl g72) rfl rfl ?_
       refine .m rfl (met rfl rfl rfl (notT g73)) rfl rfl ?_
       refine .v rfl (met rfl rfl rfl (notT g73)) (O.ld (y := .own 1007) ty31 rfl rfl rfl) ?_
       refine .call (.b t70) [(1000, some (.box [.own 1008, .own 1009, .b t68.2.1.made])), (1008, some (.rows 29 5 (List.map api_Asset.enc t68.2.1.l) false)), (1009, some (.rows 3 1 (List.map (encI .i64) t68.2.1.prices) false)), (1007, some (.rows 46 6 (List.map lombardref13_Known.enc t68.2.2) false)), (1000, none), (1005, none), (1006, none), (1007, none)] 2 (lombardlaw13_shows.ok ((if_pos ⟨(by first | (simp only [g72, g73, Bool.true_or, Bool.or_true, Bool.false_or, Bool.or_false, Bool.true_and, Bool.and_true, Bool.false_and, Bool.and_false, Bool.not_true, Bool.not_false, cond_true, cond_false]; done) | (repeat (first | rw [g72] | rw [g73])) <;> simp only [Bool.true_or, Bool.or_true, Bool.false_or, Bool.or_false, Bool.true_and, Bool.and_true, Bool.false_and, Bool.and_false, Bool.not_true, Bool.not_false, cond_true, cond_false]), (by first | (simp only [g72, g73, Bool.true_or, Bool.or_true, Bool.false_or, Bool.or_false, Bool.true_and, Bool.and_true, Bool.false_and, Bool.and_false, Bool.not_true, Bool.not_false, cond_true, cond_false]; done) | (repeat (first | rw [g72] | rw [g73])) <;> simp only [Bool.true_or, Bool.or_true, Bool.false_or, Bool.or_false, Bool.true_and, Bool.and_true, Bool.false_and, Bool.and_false, Bool.not_true, Bool.not_false, cond_true, cond_false])⟩).symm.trans b71)) rfl (met rfl rfl rfl (notT g73)) rfl ca22 rfl rfl (cC (.ptr _ _ _ _ _ rfl (cC (.own _ _ _ _ rfl) (cC (.own _ _ _ _ rfl) (cC (.imm _) .nil)))) (cC (.own _ _ _ _ rfl) .nil)) rfl rfl rfl rfl rfl ?_
       refine .v rfl (met rfl rfl rfl (notT g73)) (OpL.unV rfl rfl rfl) ?_
       refine .v rfl (met rfl rfl rfl g72) (O.pickF (notT g73) rfl rfl rfl) ?_
       refine .v rfl rfl (O.pickT g72 rfl rfl rfl) ?_
       refine .nil ?_
       exact toN (Gives.mkR [] (.r rfl rfl (.r rfl rfl (.r rfl rfl (.r rfl rfl (.c rfl (sbb (by first | (simp only [g72, g73, Bool.true_or, Bool.or_true, Bool.false_or, Bool.or_false, Bool.true_and, Bool.and_true, Bool.false_and, Bool.and_false, Bool.not_true, Bool.not_false, cond_true, cond_false]; done) | (repeat (first | rw [g72] | rw [g73])) <;> simp only [Bool.true_or, Bool.or_true, Bool.false_or, Bool.or_false, Bool.true_and, Bool.and_true, Bool.false_and, Bool.and_false, Bool.not_true, Bool.not_false, cond_true, cond_false])) rfl .n))))) (.r rfl rfl rfl (.r rfl rfl rfl (.r rfl rfl rfl (.r rfl rfl rfl (.r rfl rfl rfl .n))))) rfl rfl rfl)
      ·refine W.pk ?_
       refine .m rfl rfl rfl rfl ?_
       refine .m rfl rfl rfl rfl ?_
       refine .v rfl rfl (O.idx sl27 c66 rfl rfl rfl) ?_
       refine .v rfl rfl (O.fld fld51_2 rfl rfl rfl) ?_
       refine .v rfl rfl (O.ld (y := .imm (.row 2 (List.map api_Price.enc ((nth x0 v31).Prices)))) ty49 rfl rfl rfl) ?_
       refine .v rfl rfl (O.lenR sl49 rfl rfl) ?_
       refine .v rfl rfl (OpL.binI rfl rfl rfl rfl) ?_
       refine .m rfl rfl rfl rfl ?_
       refine .m rfl (met rfl rfl rfl g72) rfl rfl ?_
       refine .m rfl (met rfl rfl rfl g72) rfl rfl ?_
       refine .m rfl (met rfl rfl rfl g72) rfl rfl ?_
       refine .v rfl (met rfl rfl rfl g72) (O.idx sl27 (c67 (by first | (simp only [g72, g73, Bool.true_or, Bool.or_true, Bool.false_or, Bool.or_false, Bool.true_and, Bool.and_true, Bool.false_and, Bool.and_false, Bool.not_true, Bool.not_false, cond_true, cond_false]; done) | (repeat (first | rw [g72] | rw [g73])) <;> simp only [Bool.true_or, Bool.or_true, Bool.false_or, Bool.or_false, Bool.true_and, Bool.and_true, Bool.false_and, Bool.and_false, Bool.not_true, Bool.not_false, cond_true, cond_false])) rfl rfl rfl) ?_
       refine .v rfl (met rfl rfl rfl g72) (O.ldN ty51 rfl rfl rfl) ?_
       refine .call (.b t68.1) [(1000, some (.box [.own 1005, .own 1006, .b t68.2.1.made])), (1005, some (.rows 29 5 (List.map api_Asset.enc t68.2.1.l) false)), (1006, some (.rows 3 1 (List.map (encI .i64) t68.2.1.prices) false)), (1003, some (.box [.own 1007])), (1007, some (.rows 46 6 (List.map lombardref13_Known.enc t68.2.2) false)), (1000, none), (1001, none), (1002, none), (1003, none), (1004, none)] 3 (lombardlaw13_does.ok ((if_pos (by first | (simp only [g72, g73, Bool.true_or, Bool.or_true, Bool.false_or, Bool.or_false, Bool.true_and, Bool.and_true, Bool.false_and, Bool.and_false, Bool.not_true, Bool.not_false, cond_true, cond_false]; done) | (repeat (first | rw [g72] | rw [g73])) <;> simp only [Bool.true_or, Bool.or_true, Bool.false_or, Bool.or_false, Bool.true_and, Bool.and_true, Bool.false_and, Bool.and_false, Bool.not_true, Bool.not_false, cond_true, cond_false])).symm.trans b69)) rfl (met rfl rfl rfl g72) rfl ca21 rfl rfl (cC (.ptr _ _ _ _ _ rfl (cC (.own _ _ _ _ rfl) (cC (.own _ _ _ _ rfl) (cC (.imm _) .nil)))) (cC (.ptr _ _ _ _ _ rfl (cC (.own _ _ _ _ rfl) .nil)) (cC (.agg _ _ _ _ (cC (.imm _) (cC (.imm _) (cC (.imm _) (cC (.imm _) (cC (.imm _) (cC (.imm _) (cC (.imm _) .nil)))))))) .nil))) rfl rfl rfl rfl rfl ?_
       refine .v rfl (met rfl rfl rfl g72) (OpL.unV rfl rfl rfl) ?_
       refine .m rfl (met rfl rfl rfl g72) rfl rfl ?_
       refine .x rfl (unmet rfl rfl rfl (notF g73)) ?_
       refine .x rfl (unmet rfl rfl rfl (notF g73)) ?_
       refine .x rfl (unmet rfl rfl rfl (notF g73)) ?_
       refine .x rfl (unmet rfl rfl rfl (notF g73)) ?_
       refine .v rfl (met rfl rfl rfl g72) (O.pickT (notF g73) rfl rfl rfl) ?_
       refine .v rfl rfl (O.pickT g72 rfl rfl rfl) ?_
       refine .nil ?_
       exact toN (Gives.mkR [(1008, 1005), (1009, 1006)] (.r rfl rfl (.r rfl rfl (.r rfl rfl (.r rfl rfl (.c rfl (sbb (by first | (simp only [g72, g73, Bool.true_or, Bool.or_true, Bool.false_or, Bool.or_false, Bool.true_and, Bool.and_true, Bool.false_and, Bool.and_false, Bool.not_true, Bool.not_false, cond_true, cond_false]; done) | (repeat (first | rw [g72] | rw [g73])) <;> simp only [Bool.true_or, Bool.or_true, Bool.false_or, Bool.or_false, Bool.true_and, Bool.and_true, Bool.false_and, Bool.and_false, Bool.not_true, Bool.not_false, cond_true, cond_false])) rfl .n))))) (.r rfl rfl rfl (.r rfl rfl rfl (.r rfl rfl rfl (.r rfl rfl rfl (.r rfl rfl rfl .n))))) rfl rfl rfl)
     ·refine W.pk ?_
      refine .m rfl rfl rfl rfl ?_
      refine .m rfl rfl rfl rfl ?_
      refine .v rfl rfl (O.idx sl27 c66 rfl rfl rfl) ?_
      refine .v rfl rfl (O.fld fld51_2 rfl rfl rfl) ?_
      refine .v rfl rfl (O.ld (y := .imm (.row 2 (List.map api_Price.enc ((nth x0 v31).Prices)))) ty49 rfl rfl rfl) ?_
      refine .v rfl rfl (O.lenR sl49 rfl rfl) ?_
      refine .v rfl rfl (OpL.binI rfl rfl rfl rfl) ?_
      refine .m rfl rfl rfl rfl ?_
      refine .x rfl (unmet rfl rfl rfl g72) ?_
      refine .x rfl (unmet rfl rfl rfl g72) ?_
      refine .x rfl (unmet rfl rfl rfl g72) ?_
      refine .x rfl (unmet rfl rfl rfl g72) ?_
      refine .x rfl (unmet rfl rfl rfl g72) ?_
      refine .x rfl (unmet rfl rfl rfl g72) ?_
      refine .x rfl (unmet rfl rfl rfl g72) ?_
      refine .x rfl (unmet rfl rfl rfl g72) ?_
      refine .x rfl (unmetU rfl rfl rfl) ?_
      refine .x rfl (unmetU rfl rfl rfl) ?_
      refine .x rfl (unmetU rfl rfl rfl) ?_
      refine .x rfl (unmetU rfl rfl rfl) ?_
      refine .x rfl (unmet rfl rfl rfl g72) ?_
      refine .v rfl rfl (O.pickF g72 rfl rfl rfl) ?_
      refine .nil ?_
      have e75 : t68 = (default, (⟨v33, v34, v32⟩ : asset_Book), v35) := (Option.some.inj ((if_neg (by simp only [g72, Bool.true_or, Bool.or_true, Bool.false_or, Bool.or_false, Bool.true_and, Bool.and_true, Bool.false_and, Bool.and_false, Bool.not_true, Bool.not_false, cond_true, cond_false, Bool.true_eq_false, Bool.false_eq_true, false_and, and_false, true_and, and_true, not_false_eq_true])).symm.trans b69)).symm
      exact toN (Gives.mkR [(1007, 1004), (1008, 1001), (1009, 1002)] (.r rfl rfl (.r rfl rfl (.r rfl rfl (.r rfl rfl (.c rfl (sbb (by first | (simp only [g72, e75, Bool.true_or, Bool.or_true, Bool.false_or, Bool.or_false, Bool.true_and, Bool.and_true, Bool.false_and, Bool.and_false, Bool.not_true, Bool.not_false, cond_true, cond_false]; done) | (repeat (first | rw [g72] | rw [e75])) <;> simp only [Bool.true_or, Bool.or_true, Bool.false_or, Bool.or_false, Bool.true_and, Bool.and_true, Bool.false_and, Bool.and_false, Bool.not_true, Bool.not_false, cond_true, cond_false])) rfl .n))))) (.c rfl (.box (.cons (.rfl _) (.cons (.rfl _) (.cons (sbb (by first | (simp only [g72, e75, Bool.true_or, Bool.or_true, Bool.false_or, Bool.or_false, Bool.true_and, Bool.and_true, Bool.false_and, Bool.and_false, Bool.not_true, Bool.not_false, cond_true, cond_false]; done) | (repeat (first | rw [g72] | rw [e75])) <;> simp only [Bool.true_or, Bool.or_true, Bool.false_or, Bool.or_false, Bool.true_and, Bool.and_true, Bool.false_and, Bool.and_false, Bool.not_true, Bool.not_false, cond_true, cond_false])) .nil)))) rfl rfl (.r rfl rfl rfl (.c rfl (kro (by first | (simp only [g72, e75, Bool.true_or, Bool.or_true, Bool.false_or, Bool.or_false, Bool.true_and, Bool.and_true, Bool.false_and, Bool.and_false, Bool.not_true, Bool.not_false, cond_true, cond_false]; done) | (repeat (first | rw [g72] | rw [e75])) <;> simp only [Bool.true_or, Bool.or_true, Bool.false_or, Bool.or_false, Bool.true_and, Bool.and_true, Bool.false_and, Bool.and_false, Bool.not_true, Bool.not_false, cond_true, cond_false])) rfl rfl (.c rfl (kro (by first | (simp only [g72, e75, Bool.true_or, Bool.or_true, Bool.false_or, Bool.or_false, Bool.true_and, Bool.and_true, Bool.false_and, Bool.and_false, Bool.not_true, Bool.not_false, cond_true, cond_false]; done) | (repeat (first | rw [g72] | rw [e75])) <;> simp only [Bool.true_or, Bool.or_true, Bool.false_or, Bool.or_false, Bool.true_and, Bool.and_true, Bool.false_and, Bool.and_false, Bool.not_true, Bool.not_false, cond_true, cond_false])) rfl rfl (.c rfl (kro (by first | (simp only [g72, e75, Bool.true_or, Bool.or_true, Bool.false_or, Bool.or_false, Bool.true_and, Bool.and_true, Bool.false_and, Bool.and_false, Bool.not_true, Bool.not_false, cond_true, cond_false]; done) | (repeat (first | rw [g72] | rw [e75])) <;> simp only [Bool.true_or, Bool.or_true, Bool.false_or, Bool.or_false, Bool.true_and, Bool.and_true, Bool.false_and, Bool.and_false, Bool.not_true, Bool.not_false, cond_true, cond_false])) rfl rfl .n))))) rfl rfl rfl)
   ·have h := ifF q65 h
    refine W.exit ?_
    cases h
    refine rdX fun e_ => ?_
    subst e_
    repeat with_reducible refine thru ?_
    refine hit ?_
    exact fkN (Gives.mkR [] .n .n rfl rfl rfl)
  ·clear h
   rcases tf (decide (v31 < (List.length x0 : Int))) with g64 | g64
   ·refine W.pk ?_
    refine .m rfl rfl rfl rfl ?_
    refine .m rfl rfl rfl rfl ?_
    refine .v rfl rfl (O.lenR sl27 rfl rfl) ?_
    refine .v rfl rfl (OpL.binI rfl rfl rfl rfl) ?_
    refine .m rfl rfl rfl rfl ?_
    refine .m rfl (met rfl rfl rfl g64) rfl rfl ?_
    refine .v rfl (met rfl rfl rfl g64) (OpL.binI rfl rfl rfl rfl) ?_
    refine .v rfl rfl (O.pickT g64 rfl rfl rfl) ?_
    refine .nil ?_
    exact toN (Gives.mkR [] (.r rfl rfl (.r rfl rfl (.r rfl rfl (.r rfl rfl (.c rfl (sbb (by simp only [g64, Bool.true_or, Bool.or_true, Bool.false_or, Bool.or_false, Bool.true_and, Bool.and_true, Bool.false_and, Bool.and_false, Bool.not_true, Bool.not_false, cond_true, cond_false])) rfl .n))))) (.r rfl rfl rfl (.r rfl rfl rfl (.r rfl rfl rfl (.r rfl rfl rfl (.r rfl rfl rfl .n))))) rfl rfl rfl)
   ·refine W.pk ?_
    refine .m rfl rfl rfl rfl ?_
    refine .m rfl rfl rfl rfl ?_
    refine .v rfl rfl (O.lenR sl27 rfl rfl) ?_
    refine .v rfl rfl (OpL.binI rfl rfl rfl rfl) ?_
    refine .m rfl rfl rfl rfl ?_
    refine .x rfl (unmet rfl rfl rfl g64) ?_
    refine .x rfl (unmet rfl rfl rfl g64) ?_
    refine .v rfl rfl (O.pickF g64 rfl rfl rfl) ?_
    refine .nil ?_
    exact toN (Gives.mkR [] (.r rfl rfl (.r rfl rfl (.r rfl rfl (.r rfl rfl (.c rfl (sbb (by simp only [g64, Bool.true_or, Bool.or_true, Bool.false_or, Bool.or_false, Bool.true_and, Bool.and_true, Bool.false_and, Bool.and_false, Bool.not_true, Bool.not_false, cond_true, cond_false])) rfl .n))))) (.r rfl rfl rfl (.r rfl rfl rfl (.r rfl rfl rfl (.r rfl rfl rfl (.r rfl rfl rfl .n))))) rfl rfl rfl)
 ·intro w60 e_
  subst e_
  clear h
  have h := z63
  dsimp only at h
  refine W.seq ?_
  obtain ⟨t77, b78, h⟩ := bnd1 h
  refine W.pk ?_
  refine .call (.b t77) [] 0 (lombardlaw13_awake.ok b78) rfl rfl rfl ca9 rfl rfl .nil rfl rfl rfl rfl rfl ?_
  refine .a rfl rfl rfl rfl ?_
  refine .nil ?_
  refine W.ret ?_
  cases h
  exact leaves (.inr rfl) rfl (.imm _) (cN .nil) rfl rfl

noncomputable def lombardref01_Of.b0  (v6 : Int) (v7 : List Int) : Option ((Int × (List Int)) ⊕ (List Int)) :=
  if (decide (v6 > 0)) = true then
    if (List.length v7 + List.length [(Int.tmod v6 65536)]) * 8 ≤ 140737488355328 then
    some (.inl ((IntKind.wrap .u64 (Int.tdiv v6 65536)), (v7 ++ [(Int.tmod v6 65536)])))
    else none
  else
    some (.inr v7)
noncomputable def lombardref01_Of.r0  (s : Int × (List Int)) : Option ((Int × (List Int)) ⊕ (List Int)) := lombardref01_Of.b0  s.1 s.2
noncomputable def lombardref01_Of.f (x0 : Int) : Option (List Int) :=
  (loop lombardref01_Of.r0 (x0, [])).bind fun o13 =>
  some o13
set_option maxRecDepth 100000 in
set_option maxHeartbeats 4000000 in
theorem lombardref01_Of.ok {x0 : Int} {r : List Int} (h : lombardref01_Of.f x0 = some r) : Pm.Spec prog 59 [.imm (.val (.int .u64 x0))] (.xown 88 1 (List.map (encI .u64) r)) [none] := by
 unfold lombardref01_Of.f at h
 refine Pm.Spec.of_body Try.func59 rfl (by kernel_rfl) (Nat.le_of_ble_eq_true rfl) (Nat.le_of_ble_eq_true rfl) ?_
 refine W.ghost (σ' := (mkSt [(0, some (.imm (.val (.int .u64 x0))))] [] 1000)) (Gives.entry (.c rfl .n) .n) ?_
 refine W.seq ?_
 refine W.pk ?_
 refine .a rfl rfl rfl rfl ?_
 refine .nil ?_
 refine W.seq ?_
 refine W.pk ?_
 refine .a rfl rfl rfl rfl ?_
 refine .nil ?_
 refine W.seq ?_
 refine W.ghost (Gives.mintS 3 88 1 rfl) ?_
 obtain ⟨o13, b14, h⟩ := bnd1 h
 refine W.fork (mkSt [(3, some (.own 1000))] [(1000, some (.rows 88 1 (List.map (encI .u64) o13) false))] 1001) ?_ ?_
 ·refine W.seq ?_
  refine W.pk ?_
  refine .m rfl rfl rfl rfl ?_
  refine .a rfl rfl rfl rfl ?_
  refine .nil ?_
  refine W.ret ?_
  cases h
  exact leaves (.inr rfl) rfl (.own _ _ _ _ rfl) (cN .nil) rfl rfl
 ·clear h
  refine W.block ?_
  refine W.loopF (fun (s_ : Int × (List Int)) => mkSt [(0, some (.imm (.val (.int .u64 s_.1)))), (3, some (.own 1000))] [(1000, some (.rows 88 1 (List.map (encI .u64) s_.2) false))] 1001) b14 (Gives.mkR [] (.r rfl rfl (.r rfl rfl .n)) (.r rfl rfl rfl .n) rfl rfl rfl) ?_
  rintro ⟨v6, v7⟩ s_ hr
  have h : lombardref01_Of.b0  v6 v7 = some s_ := hr
  unfold lombardref01_Of.b0 at h
  refine W.seq ?_
  refine W.seq ?_
  refine W.pk ?_
  refine .m rfl rfl rfl rfl ?_
  refine .v rfl rfl (OpL.binI rfl rfl rfl rfl) ?_
  refine .nil ?_
  refine W.cond rfl (fun q16 => ?_) (fun q16 => ?_)
  ·have h := ifT q16 h
   refine W.skip ?_
   refine W.block ?_
   refine W.seq ?_
   obtain ⟨c17, h⟩ := chk h
   refine W.pk ?_
   refine .m rfl rfl rfl rfl ?_
   refine .m rfl rfl rfl rfl ?_
   refine .v rfl rfl (O.rem rfl rfl rfl (by decide)) ?_
   refine .t rfl rfl (O.lit (enc := (encI .u64)) (l := [(Int.tmod v6 65536)]) sl103 rfl rfl rfl rfl rfl rfl rfl rfl rfl) ?_
   refine .t rfl rfl (O.appO sl103 (EncOk.int .u64) c17 rfl rfl rfl rfl rfl) ?_
   refine .a rfl rfl rfl rfl ?_
   refine .nil ?_
   refine W.pk ?_
   refine .m rfl rfl rfl rfl ?_
   refine .v rfl rfl (O.quo rfl rfl rfl (by decide)) ?_
   refine .a rfl rfl rfl rfl ?_
   refine .nil ?_
   cases h
   exact rdN (Gives.mkR [(1000, 1002)] (.r rfl rfl (.r rfl rfl .n)) (.r rfl rfl rfl .n) rfl rfl rfl)
  ·have h := ifF q16 h
   refine W.exit ?_
   cases h
   refine rdX fun e_ => ?_
   subst e_
   repeat with_reducible refine thru ?_
   refine hit ?_
   exact toN (Gives.mkR [] (.r rfl rfl .n) (.r rfl rfl rfl .n) rfl rfl rfl)

noncomputable def lombardref01_size.f (x0 : Int) : Option (List Int) :=
  if (x0 == (-9223372036854775808)) = true then
    (lombardref01_Of.f 9223372036854775808).bind fun t2 =>
    some t2
  else
    if (decide (x0 < 0)) = true then
      (lombardref01_Of.f (IntKind.wrap .u64 (IntKind.wrap .i64 (0 - x0)))).bind fun t5 =>
      some t5
    else
      (lombardref01_Of.f (IntKind.wrap .u64 x0)).bind fun t7 =>
      some t7
set_option maxRecDepth 100000 in
set_option maxHeartbeats 4000000 in
theorem lombardref01_size.ok {x0 : Int} {r : List Int} (h : lombardref01_size.f x0 = some r) : Pm.Spec prog 56 [.imm (.val (.int .i64 x0))] (.xown 88 1 (List.map (encI .u64) r)) [none] := by
 unfold lombardref01_size.f at h
 refine Pm.Spec.of_body Try.func56 rfl (by kernel_rfl) (Nat.le_of_ble_eq_true rfl) (Nat.le_of_ble_eq_true rfl) ?_
 refine W.ghost (σ' := (mkSt [(0, some (.i x0))] [] 1000)) (Gives.entry (.c rfl .n) .n) ?_
 refine W.seq ?_
 refine W.pk ?_
 refine .a rfl rfl rfl rfl ?_
 refine .nil ?_
 refine W.seq ?_
 refine W.seq ?_
 refine W.pk ?_
 refine .m rfl rfl rfl rfl ?_
 refine .v rfl rfl (OpL.binI rfl rfl rfl rfl) ?_
 refine .nil ?_
 refine W.cond rfl (fun q1 => ?_) (fun q1 => ?_)
 ·have h := ifT q1 h
  refine W.seq ?_
  obtain ⟨t2, b3, h⟩ := bnd1 h
  refine W.pk ?_
  refine .call (.own 1000) [(1000, some (.rows 88 1 (List.map (encI .u64) t2) false))] 1 (lombardref01_Of.ok b3) rfl rfl rfl ca59 rfl rfl (cC (.imm _) .nil) rfl rfl rfl rfl rfl ?_
  refine .a rfl rfl rfl rfl ?_
  refine .nil ?_
  refine W.ret ?_
  cases h
  exact leaves (.inr rfl) rfl (.own _ _ _ _ rfl) (cN .nil) rfl rfl
 ·have h := ifF q1 h
  refine W.skip ?_
  refine W.seq ?_
  refine W.seq ?_
  refine W.pk ?_
  refine .m rfl rfl rfl rfl ?_
  refine .v rfl rfl (OpL.binI rfl rfl rfl rfl) ?_
  refine .nil ?_
  refine W.cond rfl (fun q4 => ?_) (fun q4 => ?_)
  ·have h := ifT q4 h
   refine W.seq ?_
   obtain ⟨t5, b6, h⟩ := bnd1 h
   refine W.pk ?_
   refine .m rfl rfl rfl rfl ?_
   refine .v rfl rfl (OpL.binI rfl rfl rfl rfl) ?_
   refine .v rfl rfl (O.conv h3 u88 rfl rfl) ?_
   refine .call (.own 1000) [(1000, some (.rows 88 1 (List.map (encI .u64) t5) false))] 1 (lombardref01_Of.ok b6) rfl rfl rfl ca59 rfl rfl (cC (.imm _) .nil) rfl rfl rfl rfl rfl ?_
   refine .a rfl rfl rfl rfl ?_
   refine .nil ?_
   refine W.ret ?_
   cases h
   exact leaves (.inr rfl) rfl (.own _ _ _ _ rfl) (cN .nil) rfl rfl
  ·have h := ifF q4 h
   refine W.skip ?_
   refine W.seq ?_
   obtain ⟨t7, b8, h⟩ := bnd1 h
   refine W.pk ?_
   refine .m rfl rfl rfl rfl ?_
   refine .v rfl rfl (O.conv h3 u88 rfl rfl) ?_
   refine .call (.own 1000) [(1000, some (.rows 88 1 (List.map (encI .u64) t7) false))] 1 (lombardref01_Of.ok b8) rfl rfl rfl ca59 rfl rfl (cC (.imm _) .nil) rfl rfl rfl rfl rfl ?_
   refine .a rfl rfl rfl rfl ?_
   refine .nil ?_
   refine W.ret ?_
   cases h
   exact leaves (.inr rfl) rfl (.own _ _ _ _ rfl) (cN .nil) rfl rfl

noncomputable def lombardref01_trim.b0 (x0 : List Int) (v4 : Int) : Option (Int ⊕ Int) :=
  if ((decide (v4 > 0)) = true → (0 : Int) ≤ (IntKind.wrap .i64 (v4 - 1)) ∧ (IntKind.wrap .i64 (v4 - 1)) < (List.length x0 : Int)) then
  if ((decide (v4 > 0)) && ((nth x0 (IntKind.wrap .i64 (v4 - 1))) == 0)) = true then
    some (.inl (IntKind.wrap .i64 (v4 - 1)))
  else
    some (.inr v4)
  else none
noncomputable def lombardref01_trim.r0 (x0 : List Int) (s : Int) : Option (Int ⊕ Int) := lombardref01_trim.b0 x0 s
noncomputable def lombardref01_trim.f (x0 : List Int) : Option (List Int) :=
  (loop (lombardref01_trim.r0 x0) (List.length x0 : Int)).bind fun o12 =>
  if (0 : Int) ≤ 0 ∧ 0 ≤ o12 ∧ o12 ≤ (List.length x0 : Int) then
  some ((x0.drop (Int.toNat 0)).take (Int.toNat o12 - Int.toNat 0))
  else none
set_option maxRecDepth 100000 in
set_option maxHeartbeats 4000000 in
theorem lombardref01_trim.ok {x0 : List Int} {r : List Int} (h : lombardref01_trim.f x0 = some r) : Pm.Spec prog 70 [.xown 88 1 (List.map (encI .u64) x0)] (.imm (.row 1 (List.map (encI .u64) r))) [none] := by
 unfold lombardref01_trim.f at h
 refine Pm.Spec.of_body Try.func70 rfl (by kernel_rfl) (Nat.le_of_ble_eq_true rfl) (Nat.le_of_ble_eq_true rfl) ?_
 refine W.ghost (σ' := (mkSt [(0, some (.own 0))] [(0, some (.rows 88 1 (List.map (encI .u64) x0) false))] 1000)) (Gives.entry (.c rfl .n) (.c rfl .n)) ?_
 refine W.seq ?_
 refine W.pk ?_
 refine .a rfl rfl rfl rfl ?_
 refine .nil ?_
 refine W.seq ?_
 refine W.pk ?_
 refine .m rfl rfl rfl rfl ?_
 refine .v rfl rfl (O.lenO sl103 rfl rfl rfl) ?_
 refine .a rfl rfl rfl rfl ?_
 refine .nil ?_
 refine W.seq ?_
 obtain ⟨o12, b13, h⟩ := bnd1 h
 refine W.fork (mkSt [(0, some (.own 0)), (3, some (.i o12))] [(0, some (.rows 88 1 (List.map (encI .u64) x0) false))] 1000) ?_ ?_
 ·refine W.seq ?_
  obtain ⟨c18, h⟩ := chk h
  refine W.pk ?_
  refine .m rfl rfl rfl rfl ?_
  refine .m rfl rfl rfl rfl ?_
  refine .v rfl rfl (O.partO sl103 c18 rfl rfl rfl rfl rfl) ?_
  refine .a rfl rfl rfl rfl ?_
  refine .nil ?_
  refine W.ret ?_
  cases h
  exact leaves (.inr rfl) rfl (cfView rfl c18) (cN .nil) rfl rfl
 ·clear h
  refine W.block ?_
  refine W.loopF (fun (s_ : Int) => mkSt [(0, some (.own 0)), (3, some (.i s_))] [(0, some (.rows 88 1 (List.map (encI .u64) x0) false))] 1000) b13 (Gives.mkR [] (.r rfl rfl (.r rfl rfl .n)) (.r rfl rfl rfl .n) rfl rfl rfl) ?_
  rintro v4 s_ hr
  have h : lombardref01_trim.b0 x0 v4 = some s_ := hr
  unfold lombardref01_trim.b0 at h
  refine W.seq ?_
  refine W.seq ?_
  obtain ⟨c15, h⟩ := chk h
  refine W.fork (mkSt [(0, some (.own 0)), (3, some (.i v4)), (15, some (.b ((decide (v4 > 0)) && ((nth x0 (IntKind.wrap .i64 (v4 - 1))) == 0))))] [(0, some (.rows 88 1 (List.map (encI .u64) x0) false))] 1000) ?_ ?_
  ·refine W.cond rfl (fun q17 => ?_) (fun q17 => ?_)
   ·have h := ifT q17 h
    refine W.skip ?_
    refine W.block ?_
    refine W.pk ?_
    refine .m rfl rfl rfl rfl ?_
    refine .v rfl rfl (OpL.binI rfl rfl rfl rfl) ?_
    refine .a rfl rfl rfl rfl ?_
    refine .nil ?_
    cases h
    exact rdN (Gives.mkR [] (.r rfl rfl (.r rfl rfl .n)) (.r rfl rfl rfl .n) rfl rfl rfl)
   ·have h := ifF q17 h
    refine W.exit ?_
    cases h
    refine rdX fun e_ => ?_
    subst e_
    repeat with_reducible refine thru ?_
    refine hit ?_
    exact toN (Gives.mkR [] (.r rfl rfl (.r rfl rfl .n)) (.r rfl rfl rfl .n) rfl rfl rfl)
  ·clear h
   rcases tf (decide (v4 > 0)) with g16 | g16
   ·refine W.pk ?_
    refine .m rfl rfl rfl rfl ?_
    refine .v rfl rfl (OpL.binI rfl rfl rfl rfl) ?_
    refine .m rfl rfl rfl rfl ?_
    refine .m rfl (met rfl rfl rfl g16) rfl rfl ?_
    refine .m rfl (met rfl rfl rfl g16) rfl rfl ?_
    refine .v rfl (met rfl rfl rfl g16) (OpL.binI rfl rfl rfl rfl) ?_
    refine .v rfl (met rfl rfl rfl g16) (O.idxO sl103 (c15 (by simp only [g16, Bool.true_or, Bool.or_true, Bool.false_or, Bool.or_false, Bool.true_and, Bool.and_true, Bool.false_and, Bool.and_false, Bool.not_true, Bool.not_false, cond_true, cond_false])) rfl rfl rfl rfl) ?_
    refine .v rfl (met rfl rfl rfl g16) (O.ldE (c := (.val (.int .u64 (nth x0 (IntKind.wrap .i64 (v4 - 1)))))) ty88 (c15 (by simp only [g16, Bool.true_or, Bool.or_true, Bool.false_or, Bool.or_false, Bool.true_and, Bool.and_true, Bool.false_and, Bool.and_false, Bool.not_true, Bool.not_false, cond_true, cond_false])) rfl rfl rfl rfl rfl) ?_
    refine .v rfl (met rfl rfl rfl g16) (OpL.binI rfl rfl rfl rfl) ?_
    refine .v rfl rfl (O.pickT g16 rfl rfl rfl) ?_
    refine .nil ?_
    exact toN (Gives.mkR [] (.r rfl rfl (.r rfl rfl (.c rfl (sbb (by simp only [g16, Bool.true_or, Bool.or_true, Bool.false_or, Bool.or_false, Bool.true_and, Bool.and_true, Bool.false_and, Bool.and_false, Bool.not_true, Bool.not_false, cond_true, cond_false])) rfl .n))) (.r rfl rfl rfl .n) rfl rfl rfl)
   ·refine W.pk ?_
    refine .m rfl rfl rfl rfl ?_
    refine .v rfl rfl (OpL.binI rfl rfl rfl rfl) ?_
    refine .m rfl rfl rfl rfl ?_
    refine .x rfl (unmet rfl rfl rfl g16) ?_
    refine .x rfl (unmet rfl rfl rfl g16) ?_
    refine .x rfl (unmet rfl rfl rfl g16) ?_
    refine .x rfl (unmet rfl rfl rfl g16) ?_
    refine .x rfl (unmet rfl rfl rfl g16) ?_
    refine .x rfl (unmet rfl rfl rfl g16) ?_
    refine .v rfl rfl (O.pickF g16 rfl rfl rfl) ?_
    refine .nil ?_
    exact toN (Gives.mkR [] (.r rfl rfl (.r rfl rfl (.c rfl (sbb (by simp only [g16, Bool.true_or, Bool.or_true, Bool.false_or, Bool.or_false, Bool.true_and, Bool.and_true, Bool.false_and, Bool.and_false, Bool.not_true, Bool.not_false, cond_true, cond_false])) rfl .n))) (.r rfl rfl rfl .n) rfl rfl rfl)
end Go.Proofs.Ytkcjlpiaaklnkaa
