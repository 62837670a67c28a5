/- Shows what functions of the program come to, each as a plain function: written by a program of the author's for this claim. -/
import Derived.Test.YtdcpdnfalnelkaaGx8
namespace Go.Proofs.Ytdcpdnfalnelkaa
open Go Go.Pm
set_option linter.unusedVariables false
set_option linter.unusedSimpArgs false
noncomputable def lombardlaw15_HaircutFinds.b0 (x0 : List api_Asset) (v17 : List lombardref13_Known) (v18 : Int) (v19 : Bool) (v20 : List api_Asset) (v21 : List Int) : Option (((List lombardref13_Known) × Int × Bool × (List api_Asset) × (List Int)) ⊕ ((List lombardref13_Known) × Bool × (List api_Asset) × (List Int))) :=
  if (decide (v18 < (List.length x0 : Int))) = true then
    if (0 : Int) ≤ v18 ∧ v18 < (List.length x0 : Int) then
    (asset_Book_Add.f (⟨v20, v21, v19⟩ : asset_Book) (nth x0 v18)).bind fun t42 =>
    if (0 : Int) ≤ v18 ∧ v18 < (List.length x0 : Int) then
    (lombardref13_Add.f v17 (nth x0 v18)).bind fun t45 =>
    some (.inl (t45.1, (IntKind.wrap .i64 (v18 + 1)), t42.2.made, t42.2.l, t42.2.prices))
    else none
    else none
  else
    some (.inr (v17, v19, v20, v21))
noncomputable def lombardlaw15_HaircutFinds.r0 (x0 : List api_Asset) (s : (List lombardref13_Known) × Int × Bool × (List api_Asset) × (List Int)) : Option (((List lombardref13_Known) × Int × Bool × (List api_Asset) × (List Int)) ⊕ ((List lombardref13_Known) × Bool × (List api_Asset) × (List Int))) := lombardlaw15_HaircutFinds.b0 x0 s.1 s.2.1 s.2.2.1 s.2.2.2.1 s.2.2.2.2
noncomputable def lombardlaw15_HaircutFinds.f (x0 : List api_Asset) (x1 : List api_Price) (x2 : api_Basket) (x3 : api_Lot) (x4 : Int) : Option (Bool) :=
  (lombardref10_Basket.f x2).bind fun t1 =>
  if (((t1 != 0) || (decide ((List.length x0 : Int) > 40))) || (decide ((List.length x1 : Int) > 100))) = true then
    (lombardlaw15_awake.f).bind fun t6 =>
    some t6
  else
    (asset_New.f).bind fun t8 =>
    (loop (lombardlaw15_HaircutFinds.r0 x0) ([], 0, t8.made, t8.l, t8.prices)).bind fun o37 =>
    (asset_Book_Set.f (⟨o37.2.2.1, o37.2.2.2, o37.2.1⟩ : asset_Book) x1).bind fun t47 =>
    (lombardref13_Set.f o37.1 x1).bind fun t49 =>
    (haircut_Find.f t47.2.2 x2 x3 x4).bind fun t51 =>
    (lombardref15_Find.f t49.1 x2 x3 x4).bind fun t53 =>
    (haircut_Find_v2.f x2 x3 x4).bind fun t55 =>
    (if ((((((((t51.1.Lot.ISIN == t53.1.Lot.ISIN) && (t51.1.Lot.Qty == t53.1.Lot.Qty)) && ((t51.1.Asset.ISIN == t53.1.Asset.ISIN) && ((t51.1.Asset.Issuer == t53.1.Asset.Issuer) && ((t51.1.Asset.Rating == t53.1.Asset.Rating) && ((t51.1.Asset.Maturity == t53.1.Asset.Maturity) && (t51.1.Asset.Currency == t53.1.Asset.Currency)))))) && (t51.1.Price == t53.1.Price)) && (t51.1.Cut == t53.1.Cut)) && (t51.2 == t53.2)) && ((t55.1.Lot.ISIN == []) && ((t55.1.Lot.Qty == 0) && ((t55.1.Asset.ISIN == []) && ((t55.1.Asset.Issuer == 0) && ((t55.1.Asset.Rating == 0) && ((t55.1.Asset.Maturity == 0) && ((t55.1.Asset.Currency == []) && ((t55.1.Price == 0) && (t55.1.Cut == 0)))))))))) && (t55.2 == 21)) = true then lombardlaw15_awake.f else some default).bind fun t57 =>
    some (((((((((t51.1.Lot.ISIN == t53.1.Lot.ISIN) && (t51.1.Lot.Qty == t53.1.Lot.Qty)) && ((t51.1.Asset.ISIN == t53.1.Asset.ISIN) && ((t51.1.Asset.Issuer == t53.1.Asset.Issuer) && ((t51.1.Asset.Rating == t53.1.Asset.Rating) && ((t51.1.Asset.Maturity == t53.1.Asset.Maturity) && (t51.1.Asset.Currency == t53.1.Asset.Currency)))))) && (t51.1.Price == t53.1.Price)) && (t51.1.Cut == t53.1.Cut)) && (t51.2 == t53.2)) && ((t55.1.Lot.ISIN == []) && ((t55.1.Lot.Qty == 0) && ((t55.1.Asset.ISIN == []) && ((t55.1.Asset.Issuer == 0) && ((t55.1.Asset.Rating == 0) && ((t55.1.Asset.Maturity == 0) && ((t55.1.Asset.Currency == []) && ((t55.1.Price == 0) && (t55.1.Cut == 0)))))))))) && (t55.2 == 21)) && t57)
set_option maxRecDepth 100000 in
set_option maxHeartbeats 4000000 in
theorem lombardlaw15_HaircutFinds.ok {x0 : List api_Asset} {x1 : List api_Price} {x2 : api_Basket} {x3 : api_Lot} {x4 : Int} {r : Bool} (h : lombardlaw15_HaircutFinds.f x0 x1 x2 x3 x4 = some r) : Pm.Spec prog 8 [.imm (.row 5 (List.map api_Asset.enc x0)), .imm (.row 2 (List.map api_Price.enc x1)), .agg [.imm (.val (.int .i64 x2.ID)), .imm (.val (.int .i64 x2.Version)), .imm (.val (.string (tx x2.Currency))), .imm (.val (.int .i64 x2.Rating)), .imm (.val (.int .i64 x2.Least)), .imm (.val (.int .i64 x2.Most)), .imm (.row 3 (List.map api_Cut.enc x2.Cuts)), .imm (.val (.int .i64 x2.Issuer)), .imm (.val (.int .i64 x2.Asset)), .imm (.row 1 (List.map (encI .i64) x2.Barred))], .agg [.imm (.val (.string (tx x3.ISIN))), .imm (.val (.int .i64 x3.Qty))], .imm (.val (.int .i64 x4))] (.imm (.val (.bool r))) [none, none, none, none, none] := by
 unfold lombardlaw15_HaircutFinds.f at h
 refine Pm.Spec.of_body Try.func8 rfl (by kernel_rfl) (Nat.le_of_ble_eq_true rfl) (Nat.le_of_ble_eq_true rfl) ?_
 refine W.ghost (σ' := (mkSt [(0, some (.imm (.row 5 (List.map api_Asset.enc x0)))), (1, some (.imm (.row 2 (List.map api_Price.enc x1)))), (2, some (.agg (api_Basket.av x2))), (3, some (.agg [.s x3.ISIN, .i x3.Qty])), (4, some (.i x4))] [] 1000)) (Gives.entry (.c rfl (.c rfl (.c rfl (.c rfl (.c rfl .n))))) .n) ?_
 refine W.seq ?_
 refine W.pk ?_
 refine .t rfl rfl (O.box rfl rfl rfl rfl rfl) ?_
 refine .t rfl rfl (O.box rfl rfl rfl rfl rfl) ?_
 refine .a rfl rfl rfl rfl ?_
 refine .nil ?_
 refine W.seq ?_
 refine W.seq ?_
 obtain ⟨t1, b2, h⟩ := bnd1 h
 refine W.fork (mkSt [(0, some (.imm (.row 5 (List.map api_Asset.enc x0)))), (1, some (.imm (.row 2 (List.map api_Price.enc x1)))), (4, some (.i x4)), (7, some (.ptr 1000 0)), (8, some (.ptr 1001 0)), (32, some (.b (((t1 != 0) || (decide ((List.length x0 : Int) > 40))) || (decide ((List.length x1 : Int) > 100)))))] [(1000, some (.box [.i x2.ID, .i x2.Version, .s x2.Currency, .i x2.Rating, .i x2.Least, .i x2.Most, .imm (.row 3 (List.map api_Cut.enc x2.Cuts)), .i x2.Issuer, .i x2.Asset, .imm (.row 1 (List.map (encI .i64) x2.Barred))])), (1001, some (.box [.s x3.ISIN, .i x3.Qty]))] 1002) ?_ ?_
 ·refine W.cond rfl (fun q5 => ?_) (fun q5 => ?_)
  ·have h := ifT q5 h
   refine W.seq ?_
   obtain ⟨t6, b7, h⟩ := bnd1 h
   refine W.pk ?_
   refine .call (.b t6) [] 0 (lombardlaw15_awake.ok b7) rfl rfl rfl ca9 rfl rfl .nil rfl rfl rfl rfl rfl ?_
   refine .a rfl rfl rfl rfl ?_
   refine .nil ?_
   refine W.ret ?_
   cases h
   exact leaves (.inr rfl) rfl (.imm _) (cN (cN (cN (cN (cN .nil))))) rfl rfl
  ·have h := ifF q5 h
   refine W.skip ?_
   refine W.seq ?_
   obtain ⟨t8, b9, h⟩ := bnd1 h
   refine W.pk ?_
   refine .call (.ptr 1002 0) [(1002, some (.box [.own 1003, .own 1004, .b t8.made])), (1003, some (.rows 38 5 (List.map api_Asset.enc t8.l) false)), (1004, some (.rows 3 1 (List.map (encI .i64) t8.prices) false))] 3 (asset_New.ok b9) rfl rfl rfl ca26 rfl rfl .nil rfl rfl rfl rfl rfl ?_
   refine .a rfl rfl rfl rfl ?_
   refine .nil ?_
   refine W.seq ?_
   refine W.pk ?_
   refine .a rfl rfl rfl rfl ?_
   refine .nil ?_
   refine W.seq ?_
   refine W.seq ?_
   refine W.pk ?_
   refine .a rfl rfl rfl rfl ?_
   refine .nil ?_
   obtain ⟨o37, b38, h⟩ := bnd1 h
   refine W.fork (mkSt [(1, some (.imm (.row 2 (List.map api_Price.enc x1)))), (4, some (.i x4)), (7, some (.ptr 1000 0)), (8, some (.ptr 1001 0)), (11, some (.ptr 1002 0)), (12, some (.imm (.row 6 (List.map lombardref13_Known.enc o37.1))))] [(1000, some (.box [.i x2.ID, .i x2.Version, .s x2.Currency, .i x2.Rating, .i x2.Least, .i x2.Most, .imm (.row 3 (List.map api_Cut.enc x2.Cuts)), .i x2.Issuer, .i x2.Asset, .imm (.row 1 (List.map (encI .i64) x2.Barred))])), (1001, some (.box [.s x3.ISIN, .i x3.Qty])), (1002, some (.box [.own 1003, .own 1004, .b o37.2.1])), (1003, some (.rows 38 5 (List.map api_Asset.enc o37.2.2.1) false)), (1004, some (.rows 3 1 (List.map (encI .i64) o37.2.2.2) false))] 1005) ?_ ?_
   ·refine W.seq ?_
    obtain ⟨t47, b48, h⟩ := bnd1 h
    refine W.pk ?_
    refine .m rfl rfl rfl rfl ?_
    refine .m rfl rfl rfl rfl ?_
    refine .call (.tup [.i t47.1, .i t47.2.1]) [(1002, some (.box [.own 1005, .own 1006, .b t47.2.2.made])), (1005, some (.rows 38 5 (List.map api_Asset.enc t47.2.2.l) false)), (1006, some (.rows 3 1 (List.map (encI .i64) t47.2.2.prices) false)), (1002, none), (1003, none), (1004, none)] 2 (asset_Book_Set.ok b48) rfl rfl rfl ca29 rfl rfl (cC (.ptr _ _ _ _ _ rfl (cC (.own _ _ _ _ rfl) (cC (.own _ _ _ _ rfl) (cC (.imm _) .nil)))) (cC (.imm _) .nil)) rfl rfl rfl rfl rfl ?_
    refine .nil ?_
    refine W.seq ?_
    obtain ⟨t49, b50, h⟩ := bnd1 h
    refine W.pk ?_
    refine .m rfl rfl rfl rfl ?_
    refine .m rfl rfl rfl rfl ?_
    refine .call (.tup [.imm (.row 6 (List.map lombardref13_Known.enc t49.1)), .i t49.2.1, .i t49.2.2]) [] 0 (lombardref13_Set.ok b50) rfl rfl rfl ca30 rfl rfl (cC (.imm _) (cC (.imm _) .nil)) rfl rfl rfl rfl rfl ?_
    refine .m rfl rfl rfl rfl ?_
    refine .v rfl rfl (OpL.extract rfl rfl rfl) ?_
    refine .v rfl rfl (OpL.extract rfl rfl rfl) ?_
    refine .v rfl rfl (OpL.extract rfl rfl rfl) ?_
    refine .a rfl rfl rfl rfl ?_
    refine .nil ?_
    refine W.seq ?_
    obtain ⟨t51, b52, h⟩ := bnd1 h
    refine W.pk ?_
    refine .m rfl rfl rfl rfl ?_
    refine .v rfl rfl (O.ldN ty36 rfl rfl rfl) ?_
    refine .v rfl rfl (O.ldN ty46 rfl rfl rfl) ?_
    refine .m rfl rfl rfl rfl ?_
    refine .call (.tup [.agg (haircut_Item.av t51.1), .i t51.2]) [(1002, some (.box [.own 1007, .own 1008, .b t47.2.2.made])), (1007, some (.rows 38 5 (List.map api_Asset.enc t47.2.2.l) false)), (1008, some (.rows 3 1 (List.map (encI .i64) t47.2.2.prices) false)), (1002, none), (1005, none), (1006, none)] 2 (haircut_Find.ok b52) rfl rfl rfl ca31 rfl rfl (cC (.ptr _ _ _ _ _ rfl (cC (.own _ _ _ _ rfl) (cC (.own _ _ _ _ rfl) (cC (.imm _) .nil)))) (cC (.agg _ _ _ _ (cC (.imm _) (cC (.imm _) (cC (.imm _) (cC (.imm _) (cC (.imm _) (cC (.imm _) (cC (.imm _) (cC (.imm _) (cC (.imm _) (cC (.imm _) .nil))))))))))) (cC (.agg _ _ _ _ (cC (.imm _) (cC (.imm _) .nil))) (cC (.imm _) .nil)))) rfl rfl rfl rfl rfl ?_
    refine .m rfl rfl rfl rfl ?_
    refine .v rfl rfl (OpL.extract rfl rfl rfl) ?_
    refine .v rfl rfl (OpL.extract rfl rfl rfl) ?_
    refine .t rfl rfl (O.alloc z48 rfl) ?_
    refine .s rfl rfl (O.st ty48 rfl rfl rfl rfl rfl rfl rfl rfl rfl rfl (all' := [.s t51.1.Lot.ISIN, .i t51.1.Lot.Qty, .s t51.1.Asset.ISIN, .i t51.1.Asset.Issuer, .i t51.1.Asset.Rating, .i t51.1.Asset.Maturity, .s t51.1.Asset.Currency, .i t51.1.Price, .i t51.1.Cut]) rfl) ?_
    refine .a rfl rfl rfl rfl ?_
    refine .nil ?_
    refine W.seq ?_
    obtain ⟨t53, b54, h⟩ := bnd1 h
    refine W.pk ?_
    refine .m rfl rfl rfl rfl ?_
    refine .v rfl rfl (O.ldN ty36 rfl rfl rfl) ?_
    refine .v rfl rfl (O.ldN ty46 rfl rfl rfl) ?_
    refine .m rfl rfl rfl rfl ?_
    refine .call (.tup [.agg (lombardref15_Item.av t53.1), .i t53.2]) [] 0 (lombardref15_Find.ok b54) rfl rfl rfl ca32 rfl rfl (cC (.imm _) (cC (.agg _ _ _ _ (cC (.imm _) (cC (.imm _) (cC (.imm _) (cC (.imm _) (cC (.imm _) (cC (.imm _) (cC (.imm _) (cC (.imm _) (cC (.imm _) (cC (.imm _) .nil))))))))))) (cC (.agg _ _ _ _ (cC (.imm _) (cC (.imm _) .nil))) (cC (.imm _) .nil)))) rfl rfl rfl rfl rfl ?_
    refine .m rfl rfl rfl rfl ?_
    refine .v rfl rfl (OpL.extract rfl rfl rfl) ?_
    refine .v rfl rfl (OpL.extract rfl rfl rfl) ?_
    refine .t rfl rfl (O.alloc z50 rfl) ?_
    refine .s rfl rfl (O.st ty50 rfl rfl rfl rfl rfl rfl rfl rfl rfl rfl (all' := [.s t53.1.Lot.ISIN, .i t53.1.Lot.Qty, .s t53.1.Asset.ISIN, .i t53.1.Asset.Issuer, .i t53.1.Asset.Rating, .i t53.1.Asset.Maturity, .s t53.1.Asset.Currency, .i t53.1.Price, .i t53.1.Cut]) rfl) ?_
    refine .a rfl rfl rfl rfl ?_
    refine .nil ?_
    refine W.seq ?_
    obtain ⟨t55, b56, h⟩ := bnd1 h
    refine W.pk ?_
    refine .v rfl rfl (O.ldN ty36 rfl rfl rfl) ?_
    refine .v rfl rfl (O.ldN ty46 rfl rfl rfl) ?_
    refine .m rfl rfl rfl rfl ?_
    refine .call (.tup [.agg (haircut_Item.av t55.1), .i t55.2]) [] 0 (haircut_Find_v2.ok b56) rfl rfl rfl ca31 rfl rfl (cC (.imm _) (cC (.agg _ _ _ _ (cC (.imm _) (cC (.imm _) (cC (.imm _) (cC (.imm _) (cC (.imm _) (cC (.imm _) (cC (.imm _) (cC (.imm _) (cC (.imm _) (cC (.imm _) .nil))))))))))) (cC (.agg _ _ _ _ (cC (.imm _) (cC (.imm _) .nil))) (cC (.imm _) .nil)))) rfl rfl rfl rfl rfl ?_
    refine .m rfl rfl rfl rfl ?_
    refine .v rfl rfl (OpL.extract rfl rfl rfl) ?_
    refine .v rfl rfl (OpL.extract rfl rfl rfl) ?_
    refine .t rfl rfl (O.alloc z48 rfl) ?_
    refine .s rfl rfl (O.st ty48 rfl rfl rfl rfl rfl rfl rfl rfl rfl rfl (all' := [.s t55.1.Lot.ISIN, .i t55.1.Lot.Qty, .s t55.1.Asset.ISIN, .i t55.1.Asset.Issuer, .i t55.1.Asset.Rating, .i t55.1.Asset.Maturity, .s t55.1.Asset.Currency, .i t55.1.Price, .i t55.1.Cut]) rfl) ?_
    refine .a rfl rfl rfl rfl ?_
    refine .nil ?_
    refine W.seq ?_
    obtain ⟨t57, b58, h⟩ := bnd1 h
    refine W.fork (mkSt [(10, some (.b (((((((((t51.1.Lot.ISIN == t53.1.Lot.ISIN) && (t51.1.Lot.Qty == t53.1.Lot.Qty)) && ((t51.1.Asset.ISIN == t53.1.Asset.ISIN) && ((t51.1.Asset.Issuer == t53.1.Asset.Issuer) && ((t51.1.Asset.Rating == t53.1.Asset.Rating) && ((t51.1.Asset.Maturity == t53.1.Asset.Maturity) && (t51.1.Asset.Currency == t53.1.Asset.Currency)))))) && (t51.1.Price == t53.1.Price)) && (t51.1.Cut == t53.1.Cut)) && (t51.2 == t53.2)) && ((t55.1.Lot.ISIN == []) && ((t55.1.Lot.Qty == 0) && ((t55.1.Asset.ISIN == []) && ((t55.1.Asset.Issuer == 0) && ((t55.1.Asset.Rating == 0) && ((t55.1.Asset.Maturity == 0) && ((t55.1.Asset.Currency == []) && ((t55.1.Price == 0) && (t55.1.Cut == 0)))))))))) && (t55.2 == 21)) && t57)))] [] 1012) ?_ ?_
    ·refine W.ret ?_
     cases h
     exact leaves (.inr rfl) rfl (.imm _) (cN (cN (cN (cN (cN .nil))))) rfl rfl
    ·clear h
     rcases tf ((t51.1.Lot.ISIN == t53.1.Lot.ISIN) && (t51.1.Lot.Qty == t53.1.Lot.Qty)) with g59 | g59
     ·rcases tf ((t51.1.Asset.ISIN == t53.1.Asset.ISIN) && ((t51.1.Asset.Issuer == t53.1.Asset.Issuer) && ((t51.1.Asset.Rating == t53.1.Asset.Rating) && ((t51.1.Asset.Maturity == t53.1.Asset.Maturity) && (t51.1.Asset.Currency == t53.1.Asset.Currency))))) with g60 | g60
      ·rcases tf (t51.1.Price == t53.1.Price) with g61 | g61
       ·rcases tf (t51.1.Cut == t53.1.Cut) with g62 | g62
        ·rcases tf (t51.2 == t53.2) with g63 | g63
         ·rcases tf ((t55.1.Lot.ISIN == []) && ((t55.1.Lot.Qty == 0) && ((t55.1.Asset.ISIN == []) && ((t55.1.Asset.Issuer == 0) && ((t55.1.Asset.Rating == 0) && ((t55.1.Asset.Maturity == 0) && ((t55.1.Asset.Currency == []) && ((t55.1.Price == 0) && (t55.1.Cut == 0))))))))) with g64 | g64
          ·rcases tf (t55.2 == 21) with g65 | g65
           ·refine W.pk ?_
            refine .v rfl rfl (O.fld fld48_0 rfl rfl rfl) ?_
            refine .v rfl rfl (O.ldN ty46 rfl rfl rfl) ?_
            refine .v rfl rfl (O.fld fld50_0 rfl rfl rfl) ?_
            refine .v rfl rfl (O.ldN ty46 rfl rfl rfl) ?_
            refine .v rfl rfl (O.eqS (r := ((t51.1.Lot.ISIN == t53.1.Lot.ISIN) && (t51.1.Lot.Qty == t53.1.Lot.Qty))) fl46 rfl rfl rfl rfl rfl rfl) ?_
            refine .m rfl rfl rfl rfl ?_
            refine .v rfl (met rfl rfl rfl g59) (O.fld fld48_1 rfl rfl rfl) ?_
            refine .v rfl (met rfl rfl rfl g59) (O.ldN ty38 rfl rfl rfl) ?_
            refine .v rfl (met rfl rfl rfl g59) (O.fld fld50_1 rfl rfl rfl) ?_
            refine .v rfl (met rfl rfl rfl g59) (O.ldN ty38 rfl rfl rfl) ?_
            refine .v rfl (met rfl rfl rfl g59) (O.eqS (r := ((t51.1.Asset.ISIN == t53.1.Asset.ISIN) && ((t51.1.Asset.Issuer == t53.1.Asset.Issuer) && ((t51.1.Asset.Rating == t53.1.Asset.Rating) && ((t51.1.Asset.Maturity == t53.1.Asset.Maturity) && (t51.1.Asset.Currency == t53.1.Asset.Currency)))))) fl38 rfl rfl rfl rfl rfl rfl) ?_
            refine .v rfl rfl (O.pickT g59 rfl rfl rfl) ?_
            refine .m rfl rfl rfl rfl ?_
            refine .v rfl (met rfl rfl rfl g60) (O.fld fld48_2 rfl rfl rfl) ?_
            refine .v rfl (met rfl rfl rfl g60) (O.ld (y := .i t51.1.Price) ty3 rfl rfl rfl) ?_
            refine .v rfl (met rfl rfl rfl g60) (O.fld fld50_2 rfl rfl rfl) ?_
            refine .v rfl (met rfl rfl rfl g60) (O.ld (y := .i t53.1.Price) ty3 rfl rfl rfl) ?_
            refine .v rfl (met rfl rfl rfl g60) (OpL.binI rfl rfl rfl rfl) ?_
            refine .v rfl rfl (O.pickT g60 rfl rfl rfl) ?_
            refine .m rfl rfl rfl rfl ?_
            refine .v rfl (met rfl rfl rfl g61) (O.fld fld48_3 rfl rfl rfl) ?_
            refine .v rfl (met rfl rfl rfl g61) (O.ld (y := .i t51.1.Cut) ty3 rfl rfl rfl) ?_
            refine .v rfl (met rfl rfl rfl g61) (O.fld fld50_3 rfl rfl rfl) ?_
            refine .v rfl (met rfl rfl rfl g61) (O.ld (y := .i t53.1.Cut) ty3 rfl rfl rfl) ?_
            refine .v rfl (met rfl rfl rfl g61) (OpL.binI rfl rfl rfl rfl) ?_
            refine .v rfl rfl (O.pickT g61 rfl rfl rfl) ?_
            refine .m rfl rfl rfl rfl ?_
            refine .m rfl (met rfl rfl rfl g62) rfl rfl ?_
            refine .m rfl (met rfl rfl rfl g62) rfl rfl ?_
            refine .v rfl (met rfl rfl rfl g62) (OpL.binI rfl rfl rfl rfl) ?_
            refine .v rfl rfl (O.pickT g62 rfl rfl rfl) ?_
            refine .m rfl rfl rfl rfl ?_
            refine .v rfl (met rfl rfl rfl g63) (O.ldN ty48 rfl rfl rfl) ?_
            refine .v rfl (met rfl rfl rfl g63) (O.build (out := [.s [], .i 0, .s [], .i 0, .i 0, .i 0, .s [], .i 0, .i 0]) bl48 rfl rfl rfl rfl (by kernel_rfl)) ?_
            refine .v rfl (met rfl rfl rfl g63) (O.eqD (r := ((t55.1.Lot.ISIN == []) && ((t55.1.Lot.Qty == 0) && ((t55.1.Asset.ISIN == []) && ((t55.1.Asset.Issuer == 0) && ((t55.1.Asset.Rating == 0) && ((t55.1.Asset.Maturity == 0) && ((t55.1.Asset.Currency == []) && ((t55.1.Price == 0) && (t55.1.Cut == 0)))))))))) fl48 rfl rfl rfl rfl rfl rfl) ?_
            refine .v rfl rfl (O.pickT g63 rfl rfl rfl) ?_
            refine .m rfl rfl rfl rfl ?_
            refine .m rfl (met rfl rfl rfl g64) rfl rfl ?_
            refine .v rfl (met rfl rfl rfl g64) (OpL.binI rfl rfl rfl rfl) ?_
            refine .v rfl rfl (O.pickT g64 rfl rfl rfl) ?_
            refine .m rfl rfl rfl rfl ?_
            refine .call (.b t57) [] 0 (lombardlaw15_awake.ok ((if_pos (by first | (simp only [g59, g60, g61, g62, g63, g64, g65, Bool.true_or, Bool.or_true, Bool.false_or, Bool.or_false, Bool.true_and, Bool.and_true, Bool.false_and, Bool.and_false, Bool.not_true, Bool.not_false, cond_true, cond_false]; done) | (repeat (first | rw [g59] | rw [g60] | rw [g61] | rw [g62] | rw [g63] | rw [g64] | rw [g65])) <;> simp only [Bool.true_or, Bool.or_true, Bool.false_or, Bool.or_false, Bool.true_and, Bool.and_true, Bool.false_and, Bool.and_false, Bool.not_true, Bool.not_false, cond_true, cond_false])).symm.trans b58)) rfl (met rfl rfl rfl g65) rfl ca9 rfl rfl .nil rfl rfl rfl rfl rfl ?_
            refine .v rfl rfl (O.pickT g65 rfl rfl rfl) ?_
            refine .a rfl rfl rfl rfl ?_
            refine .nil ?_
            exact toN (Gives.mkR [] (.c rfl (sbb (by first | (simp only [g59, g60, g61, g62, g63, g64, g65, Bool.true_or, Bool.or_true, Bool.false_or, Bool.or_false, Bool.true_and, Bool.and_true, Bool.false_and, Bool.and_false, Bool.not_true, Bool.not_false, cond_true, cond_false]; done) | (repeat (first | rw [g59] | rw [g60] | rw [g61] | rw [g62] | rw [g63] | rw [g64] | rw [g65])) <;> simp only [Bool.true_or, Bool.or_true, Bool.false_or, Bool.or_false, Bool.true_and, Bool.and_true, Bool.false_and, Bool.and_false, Bool.not_true, Bool.not_false, cond_true, cond_false])) rfl .n) .n rfl rfl rfl)
           ·refine W.pk ?_
            refine .v rfl rfl (O.fld fld48_0 rfl rfl rfl) ?_
            refine .v rfl rfl (O.ldN ty46 rfl rfl rfl) ?_
            refine .v rfl rfl (O.fld fld50_0 rfl rfl rfl) ?_
            refine .v rfl rfl (O.ldN ty46 rfl rfl rfl) ?_
            refine .v rfl rfl (O.eqS (r := ((t51.1.Lot.ISIN == t53.1.Lot.ISIN) && (t51.1.Lot.Qty == t53.1.Lot.Qty))) fl46 rfl rfl rfl rfl rfl rfl) ?_
            refine .m rfl rfl rfl rfl ?_
            refine .v rfl (met rfl rfl rfl g59) (O.fld fld48_1 rfl rfl rfl) ?_
            refine .v rfl (met rfl rfl rfl g59) (O.ldN ty38 rfl rfl rfl) ?_
            refine .v rfl (met rfl rfl rfl g59) (O.fld fld50_1 rfl rfl rfl) ?_
            refine .v rfl (met rfl rfl rfl g59) (O.ldN ty38 rfl rfl rfl) ?_
            refine .v rfl (met rfl rfl rfl g59) (O.eqS (r := ((t51.1.Asset.ISIN == t53.1.Asset.ISIN) && ((t51.1.Asset.Issuer == t53.1.Asset.Issuer) && ((t51.1.Asset.Rating == t53.1.Asset.Rating) && ((t51.1.Asset.Maturity == t53.1.Asset.Maturity) && (t51.1.Asset.Currency == t53.1.Asset.Currency)))))) fl38 rfl rfl rfl rfl rfl rfl) ?_
            refine .v rfl rfl (O.pickT g59 rfl rfl rfl) ?_
            refine .m rfl rfl rfl rfl ?_
            refine .v rfl (met rfl rfl rfl g60) (O.fld fld48_2 rfl rfl rfl) ?_
            refine .v rfl (met rfl rfl rfl g60) (O.ld (y := .i t51.1.Price) ty3 rfl rfl rfl) ?_
            refine .v rfl (met rfl rfl rfl g60) (O.fld fld50_2 rfl rfl rfl) ?_
            refine .v rfl (met rfl rfl rfl g60) (O.ld (y := .i t53.1.Price) ty3 rfl rfl rfl) ?_
            refine .v rfl (met rfl rfl rfl g60) (OpL.binI rfl rfl rfl rfl) ?_
            refine .v rfl rfl (O.pickT g60 rfl rfl rfl) ?_
            refine .m rfl rfl rfl rfl ?_
            refine .v rfl (met rfl rfl rfl g61) (O.fld fld48_3 rfl rfl rfl) ?_
            refine .v rfl (met rfl rfl rfl g61) (O.ld (y := .i t51.1.Cut) ty3 rfl rfl rfl) ?_
            refine .v rfl (met rfl rfl rfl g61) (O.fld fld50_3 rfl rfl rfl) ?_
            refine .v rfl (met rfl rfl rfl g61) (O.ld (y := .i t53.1.Cut) ty3 rfl rfl rfl) ?_
            refine .v rfl (met rfl rfl rfl g61) (OpL.binI rfl rfl rfl rfl) ?_
            refine .v rfl rfl (O.pickT g61 rfl rfl rfl) ?_
            refine .m rfl rfl rfl rfl ?_
            refine .m rfl (met rfl rfl rfl g62) rfl rfl ?_
            refine .m rfl (met rfl rfl rfl g62) rfl rfl ?_
            refine .v rfl (met rfl rfl rfl g62) (OpL.binI rfl rfl rfl rfl) ?_
            refine .v rfl rfl (O.pickT g62 rfl rfl rfl) ?_
            refine .m rfl rfl rfl rfl ?_
            refine .v rfl (met rfl rfl rfl g63) (O.ldN ty48 rfl rfl rfl) ?_
            refine .v rfl (met rfl rfl rfl g63) (O.build (out := [.s [], .i 0, .s [], .i 0, .i 0, .i 0, .s [], .i 0, .i 0]) bl48 rfl rfl rfl rfl (by kernel_rfl)) ?_
            refine .v rfl (met rfl rfl rfl g63) (O.eqD (r := ((t55.1.Lot.ISIN == []) && ((t55.1.Lot.Qty == 0) && ((t55.1.Asset.ISIN == []) && ((t55.1.Asset.Issuer == 0) && ((t55.1.Asset.Rating == 0) && ((t55.1.Asset.Maturity == 0) && ((t55.1.Asset.Currency == []) && ((t55.1.Price == 0) && (t55.1.Cut == 0)))))))))) fl48 rfl rfl rfl rfl rfl rfl) ?_
            refine .v rfl rfl (O.pickT g63 rfl rfl rfl) ?_
            refine .m rfl rfl rfl rfl ?_
            refine .m rfl (met rfl rfl rfl g64) rfl rfl ?_
            refine .v rfl (met rfl rfl rfl g64) (OpL.binI rfl rfl rfl rfl) ?_
            refine .v rfl rfl (O.pickT g64 rfl rfl rfl) ?_
            refine .m rfl rfl rfl rfl ?_
            refine .x rfl (unmet rfl rfl rfl g65) ?_
            refine .v rfl rfl (O.pickF g65 rfl rfl rfl) ?_
            refine .a rfl rfl rfl rfl ?_
            refine .nil ?_
            exact toN (Gives.mkR [] (.c rfl (sbb (by first | (simp only [g59, g60, g61, g62, g63, g64, g65, Bool.true_or, Bool.or_true, Bool.false_or, Bool.or_false, Bool.true_and, Bool.and_true, Bool.false_and, Bool.and_false, Bool.not_true, Bool.not_false, cond_true, cond_false]; done) | (repeat (first | rw [g59] | rw [g60] | rw [g61] | rw [g62] | rw [g63] | rw [g64] | rw [g65])) <;> simp only [Bool.true_or, Bool.or_true, Bool.false_or, Bool.or_false, Bool.true_and, Bool.and_true, Bool.false_and, Bool.and_false, Bool.not_true, Bool.not_false, cond_true, cond_false])) rfl .n) .n rfl rfl rfl)
          ·refine W.pk ?_
           refine .v rfl rfl (O.fld fld48_0 rfl rfl rfl) ?_
           refine .v rfl rfl (O.ldN ty46 rfl rfl rfl) ?_
           refine .v rfl rfl (O.fld fld50_0 rfl rfl rfl) ?_
           refine .v rfl rfl (O.ldN ty46 rfl rfl rfl) ?_
           refine .v rfl rfl (O.eqS (r := ((t51.1.Lot.ISIN == t53.1.Lot.ISIN) && (t51.1.Lot.Qty == t53.1.Lot.Qty))) fl46 rfl rfl rfl rfl rfl rfl) ?_
           refine .m rfl rfl rfl rfl ?_
           refine .v rfl (met rfl rfl rfl g59) (O.fld fld48_1 rfl rfl rfl) ?_
           refine .v rfl (met rfl rfl rfl g59) (O.ldN ty38 rfl rfl rfl) ?_
           refine .v rfl (met rfl rfl rfl g59) (O.fld fld50_1 rfl rfl rfl) ?_
           refine .v rfl (met rfl rfl rfl g59) (O.ldN ty38 rfl rfl rfl) ?_
           refine .v rfl (met rfl rfl rfl g59) (O.eqS (r := ((t51.1.Asset.ISIN == t53.1.Asset.ISIN) && ((t51.1.Asset.Issuer == t53.1.Asset.Issuer) && ((t51.1.Asset.Rating == t53.1.Asset.Rating) && ((t51.1.Asset.Maturity == t53.1.Asset.Maturity) && (t51.1.Asset.Currency == t53.1.Asset.Currency)))))) fl38 rfl rfl rfl rfl rfl rfl) ?_
           refine .v rfl rfl (O.pickT g59 rfl rfl rfl) ?_
           refine .m rfl rfl rfl rfl ?_
           refine .v rfl (met rfl rfl rfl g60) (O.fld fld48_2 rfl rfl rfl) ?_
           refine .v rfl (met rfl rfl rfl g60) (O.ld (y := .i t51.1.Price) ty3 rfl rfl rfl) ?_
           refine .v rfl (met rfl rfl rfl g60) (O.fld fld50_2 rfl rfl rfl) ?_
           refine .v rfl (met rfl rfl rfl g60) (O.ld (y := .i t53.1.Price) ty3 rfl rfl rfl) ?_
           refine .v rfl (met rfl rfl rfl g60) (OpL.binI rfl rfl rfl rfl) ?_
           refine .v rfl rfl (O.pickT g60 rfl rfl rfl) ?_
           refine .m rfl rfl rfl rfl ?_
           refine .v rfl (met rfl rfl rfl g61) (O.fld fld48_3 rfl rfl rfl) ?_
           refine .v rfl (met rfl rfl rfl g61) (O.ld (y := .i t51.1.Cut) ty3 rfl rfl rfl) ?_
           refine .v rfl (met rfl rfl rfl g61) (O.fld fld50_3 rfl rfl rfl) ?_
           refine .v rfl (met rfl rfl rfl g61) (O.ld (y := .i t53.1.Cut) ty3 rfl rfl rfl) ?_
           refine .v rfl (met rfl rfl rfl g61) (OpL.binI rfl rfl rfl rfl) ?_
           refine .v rfl rfl (O.pickT g61 rfl rfl rfl) ?_
           refine .m rfl rfl rfl rfl ?_
           refine .m rfl (met rfl rfl rfl g62) rfl rfl ?_
           refine .m rfl (met rfl rfl rfl g62) rfl rfl ?_
           refine .v rfl (met rfl rfl rfl g62) (OpL.binI rfl rfl rfl rfl) ?_
           refine .v rfl rfl (O.pickT g62 rfl rfl rfl) ?_
           refine .m rfl rfl rfl rfl ?_
           refine .v rfl (met rfl rfl rfl g63) (O.ldN ty48 rfl rfl rfl) ?_
           refine .v rfl (met rfl rfl rfl g63) (O.build (out := [.s [], .i 0, .s [], .i 0, .i 0, .i 0, .s [], .i 0, .i 0]) bl48 rfl rfl rfl rfl (by kernel_rfl)) ?_
           refine .v rfl (met rfl rfl rfl g63) (O.eqD (r := ((t55.1.Lot.ISIN == []) && ((t55.1.Lot.Qty == 0) && ((t55.1.Asset.ISIN == []) && ((t55.1.Asset.Issuer == 0) && ((t55.1.Asset.Rating == 0) && ((t55.1.Asset.Maturity == 0) && ((t55.1.Asset.Currency == []) && ((t55.1.Price == 0) && (t55.1.Cut == 0)))))))))) fl48 rfl rfl rfl rfl rfl rfl) ?_
           refine .v rfl rfl (O.pickT g63 rfl rfl rfl) ?_
           refine .m rfl rfl rfl rfl ?_
           refine .x rfl (unmet rfl rfl rfl g64) ?_
           refine .x rfl (unmet rfl rfl rfl g64) ?_
           refine .v rfl rfl (O.pickF g64 rfl rfl rfl) ?_
           refine .m rfl rfl rfl rfl ?_
           refine .x rfl (unmet rfl rfl rfl rfl) ?_
           refine .v rfl rfl (O.pickF rfl rfl rfl rfl) ?_
           refine .a rfl rfl rfl rfl ?_
           refine .nil ?_
           exact toN (Gives.mkR [] (.c rfl (sbb (by first | (simp only [g59, g60, g61, g62, g63, g64, Bool.true_or, Bool.or_true, Bool.false_or, Bool.or_false, Bool.true_and, Bool.and_true, Bool.false_and, Bool.and_false, Bool.not_true, Bool.not_false, cond_true, cond_false]; done) | (repeat (first | rw [g59] | rw [g60] | rw [g61] | rw [g62] | rw [g63] | rw [g64])) <;> simp only [Bool.true_or, Bool.or_true, Bool.false_or, Bool.or_false, Bool.true_and, Bool.and_true, Bool.false_and, Bool.and_false, Bool.not_true, Bool.not_false, cond_true, cond_false])) rfl .n) .n rfl rfl rfl)
         ·refine W.pk ?_
          refine .v rfl rfl (O.fld fld48_0 rfl rfl rfl) ?_
          refine .v rfl rfl (O.ldN ty46 rfl rfl rfl) ?_
          refine .v rfl rfl (O.fld fld50_0 rfl rfl rfl) ?_
          refine .v rfl rfl (O.ldN ty46 rfl rfl rfl) ?_
          refine .v rfl rfl (O.eqS (r := ((t51.1.Lot.ISIN == t53.1.Lot.ISIN) && (t51.1.Lot.Qty == t53.1.Lot.Qty))) fl46 rfl rfl rfl rfl rfl rfl) ?_
          refine .m rfl rfl rfl rfl ?_
          refine .v rfl (met rfl rfl rfl g59) (O.fld fld48_1 rfl rfl rfl) ?_
          refine .v rfl (met rfl rfl rfl g59) (O.ldN ty38 rfl rfl rfl) ?_
          refine .v rfl (met rfl rfl rfl g59) (O.fld fld50_1 rfl rfl rfl) ?_
          refine .v rfl (met rfl rfl rfl g59) (O.ldN ty38 rfl rfl rfl) ?_
          refine .v rfl (met rfl rfl rfl g59) (O.eqS (r := ((t51.1.Asset.ISIN == t53.1.Asset.ISIN) && ((t51.1.Asset.Issuer == t53.1.Asset.Issuer) && ((t51.1.Asset.Rating == t53.1.Asset.Rating) && ((t51.1.Asset.Maturity == t53.1.Asset.Maturity) && (t51.1.Asset.Currency == t53.1.Asset.Currency)))))) fl38 rfl rfl rfl rfl rfl rfl) ?_
          refine .v rfl rfl (O.pickT g59 rfl rfl rfl) ?_
          refine .m rfl rfl rfl rfl ?_
          refine .v rfl (met rfl rfl rfl g60) (O.fld fld48_2 rfl rfl rfl) ?_
          refine .v rfl (met rfl rfl rfl g60) (O.ld (y := .i t51.1.Price) ty3 rfl rfl rfl) ?_
          refine .v rfl (met rfl rfl rfl g60) (O.fld fld50_2 rfl rfl rfl) ?_
          refine .v rfl (met rfl rfl rfl g60) (O.ld (y := .i t53.1.Price) ty3 rfl rfl rfl) ?_
          refine .v rfl (met rfl rfl rfl g60) (OpL.binI rfl rfl rfl rfl) ?_
          refine .v rfl rfl (O.pickT g60 rfl rfl rfl) ?_
          refine .m rfl rfl rfl rfl ?_
          refine .v rfl (met rfl rfl rfl g61) (O.fld fld48_3 rfl rfl rfl) ?_
          refine .v rfl (met rfl rfl rfl g61) (O.ld (y := .i t51.1.Cut) ty3 rfl rfl rfl) ?_
          refine .v rfl (met rfl rfl rfl g61) (O.fld fld50_3 rfl rfl rfl) ?_
          refine .v rfl (met rfl rfl rfl g61) (O.ld (y := .i t53.1.Cut) ty3 rfl rfl rfl) ?_
          refine .v rfl (met rfl rfl rfl g61) (OpL.binI rfl rfl rfl rfl) ?_
          refine .v rfl rfl (O.pickT g61 rfl rfl rfl) ?_
          refine .m rfl rfl rfl rfl ?_
          refine .m rfl (met rfl rfl rfl g62) rfl rfl ?_
          refine .m rfl (met rfl rfl rfl g62) rfl rfl ?_
          refine .v rfl (met rfl rfl rfl g62) (OpL.binI rfl rfl rfl rfl) ?_
          refine .v rfl rfl (O.pickT g62 rfl rfl rfl) ?_
          refine .m rfl rfl rfl rfl ?_
          refine .x rfl (unmet rfl rfl rfl g63) ?_
          refine .x rfl (unmet rfl rfl rfl g63) ?_
          refine .x rfl (unmet rfl rfl rfl g63) ?_
          refine .v rfl rfl (O.pickF g63 rfl rfl rfl) ?_
          refine .m rfl rfl rfl rfl ?_
          refine .x rfl (unmet rfl rfl rfl rfl) ?_
          refine .x rfl (unmet rfl rfl rfl rfl) ?_
          refine .v rfl rfl (O.pickF rfl rfl rfl rfl) ?_
          refine .m rfl rfl rfl rfl ?_
          refine .x rfl (unmet rfl rfl rfl rfl) ?_
          refine .v rfl rfl (O.pickF rfl rfl rfl rfl) ?_
          refine .a rfl rfl rfl rfl ?_
          refine .nil ?_
          exact toN (Gives.mkR [] (.c rfl (sbb (by first | (simp only [g59, g60, g61, g62, g63, Bool.true_or, Bool.or_true, Bool.false_or, Bool.or_false, Bool.true_and, Bool.and_true, Bool.false_and, Bool.and_false, Bool.not_true, Bool.not_false, cond_true, cond_false]; done) | (repeat (first | rw [g59] | rw [g60] | rw [g61] | rw [g62] | rw [g63])) <;> simp only [Bool.true_or, Bool.or_true, Bool.false_or, Bool.or_false, Bool.true_and, Bool.and_true, Bool.false_and, Bool.and_false, Bool.not_true, Bool.not_false, cond_true, cond_false])) rfl .n) .n rfl rfl rfl)
        ·refine W.pk ?_
         refine .v rfl rfl (O.fld fld48_0 rfl rfl rfl) ?_
         refine .v rfl rfl (O.ldN ty46 rfl rfl rfl) ?_
         refine .v rfl rfl (O.fld fld50_0 rfl rfl rfl) ?_
         refine .v rfl rfl (O.ldN ty46 rfl rfl rfl) ?_
         refine .v rfl rfl (O.eqS (r := ((t51.1.Lot.ISIN == t53.1.Lot.ISIN) && (t51.1.Lot.Qty == t53.1.Lot.Qty))) fl46 rfl rfl rfl rfl rfl rfl) ?_
         refine .m rfl rfl rfl rfl ?_
         refine .v rfl (met rfl rfl rfl g59) (O.fld fld48_1 rfl rfl rfl) ?_
         refine .v rfl (met rfl rfl rfl g59) (O.ldN ty38 rfl rfl rfl) ?_
         refine .v rfl (met rfl rfl rfl g59) (O.fld fld50_1 rfl rfl rfl) ?_
         refine .v rfl (met rfl rfl rfl g59) (O.ldN ty38 rfl rfl rfl) ?_
         refine .v rfl (met rfl rfl rfl g59) (O.eqS (r := ((t51.1.Asset.ISIN == t53.1.Asset.ISIN) && ((t51.1.Asset.Issuer == t53.1.Asset.Issuer) && ((t51.1.Asset.Rating == t53.1.Asset.Rating) && ((t51.1.Asset.Maturity == t53.1.Asset.Maturity) && (t51.1.Asset.Currency == t53.1.Asset.Currency)))))) fl38 rfl rfl rfl rfl rfl rfl) ?_
         refine .v rfl rfl (O.pickT g59 rfl rfl rfl) ?_
         refine .m rfl rfl rfl rfl ?_
         refine .v rfl (met rfl rfl rfl g60) (O.fld fld48_2 rfl rfl rfl) ?_
         refine .v rfl (met rfl rfl rfl g60) (O.ld (y := .i t51.1.Price) ty3 rfl rfl rfl) ?_
         refine .v rfl (met rfl rfl rfl g60) (O.fld fld50_2 rfl rfl rfl) ?_
         refine .v rfl (met rfl rfl rfl g60) (O.ld (y := .i t53.1.Price) ty3 rfl rfl rfl) ?_
         refine .v rfl (met rfl rfl rfl g60) (OpL.binI rfl rfl rfl rfl) ?_
         refine .v rfl rfl (O.pickT g60 rfl rfl rfl) ?_
         refine .m rfl rfl rfl rfl ?_
         refine .v rfl (met rfl rfl rfl g61) (O.fld fld48_3 rfl rfl rfl) ?_
         refine .v rfl (met rfl rfl rfl g61) (O.ld (y := .i t51.1.Cut) ty3 rfl rfl rfl) ?_
         refine .v rfl (met rfl rfl rfl g61) (O.fld fld50_3 rfl rfl rfl) ?_
         refine .v rfl (met rfl rfl rfl g61) (O.ld (y := .i t53.1.Cut) ty3 rfl rfl rfl) ?_
         refine .v rfl (met rfl rfl rfl g61) (OpL.binI rfl rfl rfl rfl) ?_
         refine .v rfl rfl (O.pickT g61 rfl rfl rfl) ?_
         refine .m rfl rfl rfl rfl ?_
         refine .x rfl (unmet rfl rfl rfl g62) ?_
         refine .x rfl (unmet rfl rfl rfl g62) ?_
         refine .x rfl (unmet rfl rfl rfl g62) ?_
         refine .v rfl rfl (O.pickF g62 rfl rfl rfl) ?_
         refine .m rfl rfl rfl rfl ?_
         refine .x rfl (unmet rfl rfl rfl rfl) ?_
         refine .x rfl (unmet rfl rfl rfl rfl) ?_
         refine .x rfl (unmet rfl rfl rfl rfl) ?_
         refine .v rfl rfl (O.pickF rfl rfl rfl rfl) ?_
         refine .m rfl rfl rfl rfl ?_
         refine .x rfl (unmet rfl rfl rfl rfl) ?_
         refine .x rfl (unmet rfl rfl rfl rfl) ?_
         refine .v rfl rfl (O.pickF rfl rfl rfl rfl) ?_
         refine .m rfl rfl rfl rfl ?_
         refine .x rfl (unmet rfl rfl rfl rfl) ?_
         refine .v rfl rfl (O.pickF rfl rfl rfl rfl) ?_
         refine .a rfl rfl rfl rfl ?_
         refine .nil ?_
         exact toN (Gives.mkR [] (.c rfl (sbb (by first | (simp only [g59, g60, g61, g62, Bool.true_or, Bool.or_true, Bool.false_or, Bool.or_false, Bool.true_and, Bool.and_true, Bool.false_and, Bool.and_false, Bool.not_true, Bool.not_false, cond_true, cond_false]; done) | (repeat (first | rw [g59] | rw [g60] | rw [g61] | rw [g62])) <;> simp only [Bool.true_or, Bool.or_true, Bool.false_or, Bool.or_false, Bool.true_and, Bool.and_true, Bool.false_and, Bool.and_false, Bool.not_true, Bool.not_false, cond_true, cond_false])) rfl .n) .n rfl rfl rfl)
       ·refine W.pk ?_
        refine .v rfl rfl (O.fld fld48_0 rfl rfl rfl) ?_
        refine .v rfl rfl (O.ldN ty46 rfl rfl rfl) ?_
        refine .v rfl rfl (O.fld fld50_0 rfl rfl rfl) ?_
        refine .v rfl rfl (O.ldN ty46 rfl rfl rfl) ?_
        refine .v rfl rfl (O.eqS (r := ((t51.1.Lot.ISIN == t53.1.Lot.ISIN) && (t51.1.Lot.Qty == t53.1.Lot.Qty))) fl46 rfl rfl rfl rfl rfl rfl) ?_
        refine .m rfl rfl rfl rfl ?_
        refine .v rfl (met rfl rfl rfl g59) (O.fld fld48_1 rfl rfl rfl) ?_
        refine .v rfl (met rfl rfl rfl g59) (O.ldN ty38 rfl rfl rfl) ?_
        refine .v rfl (met rfl rfl rfl g59) (O.fld fld50_1 rfl rfl rfl) ?_
        refine .v rfl (met rfl rfl rfl g59) (O.ldN ty38 rfl rfl rfl) ?_
        refine .v rfl (met rfl rfl rfl g59) (O.eqS (r := ((t51.1.Asset.ISIN == t53.1.Asset.ISIN) && ((t51.1.Asset.Issuer == t53.1.Asset.Issuer) && ((t51.1.Asset.Rating == t53.1.Asset.Rating) && ((t51.1.Asset.Maturity == t53.1.Asset.Maturity) && (t51.1.Asset.Currency == t53.1.Asset.Currency)))))) fl38 rfl rfl rfl rfl rfl rfl) ?_
        refine .v rfl rfl (O.pickT g59 rfl rfl rfl) ?_
        refine .m rfl rfl rfl rfl ?_
        refine .v rfl (met rfl rfl rfl g60) (O.fld fld48_2 rfl rfl rfl) ?_
        refine .v rfl (met rfl rfl rfl g60) (O.ld (y := .i t51.1.Price) ty3 rfl rfl rfl) ?_
        refine .v rfl (met rfl rfl rfl g60) (O.fld fld50_2 rfl rfl rfl) ?_
        refine .v rfl (met rfl rfl rfl g60) (O.ld (y := .i t53.1.Price) ty3 rfl rfl rfl) ?_
        refine .v rfl (met rfl rfl rfl g60) (OpL.binI rfl rfl rfl rfl) ?_
        refine .v rfl rfl (O.pickT g60 rfl rfl rfl) ?_
        refine .m rfl rfl rfl rfl ?_
        refine .x rfl (unmet rfl rfl rfl g61) ?_
        refine .x rfl (unmet rfl rfl rfl g61) ?_
        refine .x rfl (unmet rfl rfl rfl g61) ?_
        refine .x rfl (unmet rfl rfl rfl g61) ?_
        refine .x rfl (unmet rfl rfl rfl g61) ?_
        refine .v rfl rfl (O.pickF g61 rfl rfl rfl) ?_
        refine .m rfl rfl rfl rfl ?_
        refine .x rfl (unmet rfl rfl rfl rfl) ?_
        refine .x rfl (unmet rfl rfl rfl rfl) ?_
        refine .x rfl (unmet rfl rfl rfl rfl) ?_
        refine .v rfl rfl (O.pickF rfl rfl rfl rfl) ?_
        refine .m rfl rfl rfl rfl ?_
        refine .x rfl (unmet rfl rfl rfl rfl) ?_
        refine .x rfl (unmet rfl rfl rfl rfl) ?_
        refine .x rfl (unmet rfl rfl rfl rfl) ?_
        refine .v rfl rfl (O.pickF rfl rfl rfl rfl) ?_
        refine .m rfl rfl rfl rfl ?_
        refine .x rfl (unmet rfl rfl rfl rfl) ?_
        refine .x rfl (unmet rfl rfl rfl rfl) ?_
        refine .v rfl rfl (O.pickF rfl rfl rfl rfl) ?_
        refine .m rfl rfl rfl rfl ?_
        refine .x rfl (unmet rfl rfl rfl rfl) ?_
        refine .v rfl rfl (O.pickF rfl rfl rfl rfl) ?_
        refine .a rfl rfl rfl rfl ?_
        refine .nil ?_
        exact toN (Gives.mkR [] (.c rfl (sbb (by first | (simp only [g59, g60, g61, Bool.true_or, Bool.or_true, Bool.false_or, Bool.or_false, Bool.true_and, Bool.and_true, Bool.false_and, Bool.and_false, Bool.not_true, Bool.not_false, cond_true, cond_false]; done) | (repeat (first | rw [g59] | rw [g60] | rw [g61])) <;> simp only [Bool.true_or, Bool.or_true, Bool.false_or, Bool.or_false, Bool.true_and, Bool.and_true, Bool.false_and, Bool.and_false, Bool.not_true, Bool.not_false, cond_true, cond_false])) rfl .n) .n rfl rfl rfl)
      ·refine W.pk ?_
       refine .v rfl rfl (O.fld fld48_0 rfl rfl rfl) ?_
       refine .v rfl rfl (O.ldN ty46 rfl rfl rfl) ?_
       refine .v rfl rfl (O.fld fld50_0 rfl rfl rfl) ?_
       refine .v rfl rfl (O.ldN ty46 rfl rfl rfl) ?_
       refine .v rfl rfl (O.eqS (r := ((t51.1.Lot.ISIN == t53.1.Lot.ISIN) && (t51.1.Lot.Qty == t53.1.Lot.Qty))) fl46 rfl rfl rfl rfl rfl rfl) ?_
       refine .m rfl rfl rfl rfl ?_
       refine .v rfl (met rfl rfl rfl g59) (O.fld fld48_1 rfl rfl rfl) ?_
       refine .v rfl (met rfl rfl rfl g59) (O.ldN ty38 rfl rfl rfl) ?_
       refine .v rfl (met rfl rfl rfl g59) (O.fld fld50_1 rfl rfl rfl) ?_
       refine .v rfl (met rfl rfl rfl g59) (O.ldN ty38 rfl rfl rfl) ?_
       refine .v rfl (met rfl rfl rfl g59) (O.eqS (r := ((t51.1.Asset.ISIN == t53.1.Asset.ISIN) && ((t51.1.Asset.Issuer == t53.1.Asset.Issuer) && ((t51.1.Asset.Rating == t53.1.Asset.Rating) && ((t51.1.Asset.Maturity == t53.1.Asset.Maturity) && (t51.1.Asset.Currency == t53.1.Asset.Currency)))))) fl38 rfl rfl rfl rfl rfl rfl) ?_
       refine .v rfl rfl (O.pickT g59 rfl rfl rfl) ?_
       refine .m rfl rfl rfl rfl ?_
       refine .x rfl (unmet rfl rfl rfl g60) ?_
       refine .x rfl (unmet rfl rfl rfl g60) ?_
       refine .x rfl (unmet rfl rfl rfl g60) ?_
       refine .x rfl (unmet rfl rfl rfl g60) ?_
       refine .x rfl (unmet rfl rfl rfl g60) ?_
       refine .v rfl rfl (O.pickF g60 rfl rfl rfl) ?_
       refine .m rfl rfl rfl rfl ?_
       refine .x rfl (unmet rfl rfl rfl rfl) ?_
       refine .x rfl (unmet rfl rfl rfl rfl) ?_
       refine .x rfl (unmet rfl rfl rfl rfl) ?_
       refine .x rfl (unmet rfl rfl rfl rfl) ?_
       refine .x rfl (unmet rfl rfl rfl rfl) ?_
       refine .v rfl rfl (O.pickF rfl rfl rfl rfl) ?_
       refine .m rfl rfl rfl rfl ?_
       refine .x rfl (unmet rfl rfl rfl rfl) ?_
       refine .x rfl (unmet rfl rfl rfl rfl) ?_
       refine .x rfl (unmet rfl rfl rfl rfl) ?_
       refine .v rfl rfl (O.pickF rfl rfl rfl rfl) ?_
       refine .m rfl rfl rfl rfl ?_
       refine .x rfl (unmet rfl rfl rfl rfl) ?_
       refine .x rfl (unmet rfl rfl rfl rfl) ?_
       refine .x rfl (unmet rfl rfl rfl rfl) ?_
       refine .v rfl rfl (O.pickF rfl rfl rfl rfl) ?_
       refine .m rfl rfl rfl rfl ?_
       refine .x rfl (unmet rfl rfl rfl rfl) ?_
       refine .x rfl (unmet rfl rfl rfl rfl) ?_
       refine .v rfl rfl (O.pickF rfl rfl rfl rfl) ?_
       refine .m rfl rfl rfl rfl ?_
       refine .x rfl (unmet rfl rfl rfl rfl) ?_
       refine .v rfl rfl (O.pickF rfl rfl rfl rfl) ?_
       refine .a rfl rfl rfl rfl ?_
       refine .nil ?_
       exact toN (Gives.mkR [] (.c rfl (sbb (by first | (simp only [g59, g60, Bool.true_or, Bool.or_true, Bool.false_or, Bool.or_false, Bool.true_and, Bool.and_true, Bool.false_and, Bool.and_false, Bool.not_true, Bool.not_false, cond_true, cond_false]; done) | (repeat (first | rw [g59] | rw [g60])) <;> simp only [Bool.true_or, Bool.or_true, Bool.false_or, Bool.or_false, Bool.true_and, Bool.and_true, Bool.false_and, Bool.and_false, Bool.not_true, Bool.not_false, cond_true, cond_false])) rfl .n) .n rfl rfl rfl)
     ·refine W.pk ?_
      refine .v rfl rfl (O.fld fld48_0 rfl rfl rfl) ?_
      refine .v rfl rfl (O.ldN ty46 rfl rfl rfl) ?_
      refine .v rfl rfl (O.fld fld50_0 rfl rfl rfl) ?_
      refine .v rfl rfl (O.ldN ty46 rfl rfl rfl) ?_
      refine .v rfl rfl (O.eqS (r := ((t51.1.Lot.ISIN == t53.1.Lot.ISIN) && (t51.1.Lot.Qty == t53.1.Lot.Qty))) fl46 rfl rfl rfl rfl rfl rfl) ?_
      refine .m rfl rfl rfl rfl ?_
      refine .x rfl (unmet rfl rfl rfl g59) ?_
      refine .x rfl (unmet rfl rfl rfl g59) ?_
      refine .x rfl (unmet rfl rfl rfl g59) ?_
      refine .x rfl (unmet rfl rfl rfl g59) ?_
      refine .x rfl (unmet rfl rfl rfl g59) ?_
      refine .v rfl rfl (O.pickF g59 rfl rfl rfl) ?_
      refine .m rfl rfl rfl rfl ?_
      refine .x rfl (unmet rfl rfl rfl rfl) ?_
      refine .x rfl (unmet rfl rfl rfl rfl) ?_
      refine .x rfl (unmet rfl rfl rfl rfl) ?_
      refine .x rfl (unmet rfl rfl rfl rfl) ?_
      refine .x rfl (unmet rfl rfl rfl rfl) ?_
      refine .v rfl rfl (O.pickF rfl rfl rfl rfl) ?_
      refine .m rfl rfl rfl rfl ?_
      refine .x rfl (unmet rfl rfl rfl rfl) ?_
      refine .x rfl (unmet rfl rfl rfl rfl) ?_
      refine .x rfl (unmet rfl rfl rfl rfl) ?_
      refine .x rfl (unmet rfl rfl rfl rfl) ?_
      refine .x rfl (unmet rfl rfl rfl rfl) ?_
      refine .v rfl rfl (O.pickF rfl rfl rfl rfl) ?_
      refine .m rfl rfl rfl rfl ?_
      refine .x rfl (unmet rfl rfl rfl rfl) ?_
      refine .x rfl (unmet rfl rfl rfl rfl) ?_
      refine .x rfl (unmet rfl rfl rfl rfl) ?_
      refine .v rfl rfl (O.pickF rfl rfl rfl rfl) ?_
      refine .m rfl rfl rfl rfl ?_
      refine .x rfl (unmet rfl rfl rfl rfl) ?_
      refine .x rfl (unmet rfl rfl rfl rfl) ?_
      refine .x rfl (unmet rfl rfl rfl rfl) ?_
      refine .v rfl rfl (O.pickF rfl rfl rfl rfl) ?_
      refine .m rfl rfl rfl rfl ?_
      refine .x rfl (unmet rfl rfl rfl rfl) ?_
      refine .x rfl (unmet rfl rfl rfl rfl) ?_
      refine .v rfl rfl (O.pickF rfl rfl rfl rfl) ?_
      refine .m rfl rfl rfl rfl ?_
      refine .x rfl (unmet rfl rfl rfl rfl) ?_
      refine .v rfl rfl (O.pickF rfl rfl rfl rfl) ?_
      refine .a rfl rfl rfl rfl ?_
      refine .nil ?_
      exact toN (Gives.mkR [] (.c rfl (sbb (by simp only [g59, Bool.true_or, Bool.or_true, Bool.false_or, Bool.or_false, Bool.true_and, Bool.and_true, Bool.false_and, Bool.and_false, Bool.not_true, Bool.not_false, cond_true, cond_false])) rfl .n) .n rfl rfl rfl)
   ·clear h
    refine W.block ?_
    refine W.loopF (fun (s_ : (List lombardref13_Known) × Int × Bool × (List api_Asset) × (List Int)) => mkSt [(0, some (.imm (.row 5 (List.map api_Asset.enc x0)))), (1, some (.imm (.row 2 (List.map api_Price.enc x1)))), (4, some (.i x4)), (7, some (.ptr 1000 0)), (8, some (.ptr 1001 0)), (11, some (.ptr 1002 0)), (12, some (.imm (.row 6 (List.map lombardref13_Known.enc s_.1)))), (13, some (.i s_.2.1))] [(1000, some (.box [.i x2.ID, .i x2.Version, .s x2.Currency, .i x2.Rating, .i x2.Least, .i x2.Most, .imm (.row 3 (List.map api_Cut.enc x2.Cuts)), .i x2.Issuer, .i x2.Asset, .imm (.row 1 (List.map (encI .i64) x2.Barred))])), (1001, some (.box [.s x3.ISIN, .i x3.Qty])), (1002, some (.box [.own 1003, .own 1004, .b s_.2.2.1])), (1003, some (.rows 38 5 (List.map api_Asset.enc s_.2.2.2.1) false)), (1004, some (.rows 3 1 (List.map (encI .i64) s_.2.2.2.2) false))] 1005) b38 (Gives.mkR [] (.r rfl rfl (.r rfl rfl (.r rfl rfl (.r rfl rfl (.r rfl rfl (.r rfl rfl (.c rfl (.nil _) rfl (.r rfl rfl .n)))))))) (.r rfl rfl rfl (.r rfl rfl rfl (.r rfl rfl rfl (.r rfl rfl rfl (.r rfl rfl rfl .n))))) rfl rfl rfl) ?_
    rintro ⟨v17, v18, v19, v20, v21⟩ s_ hr
    have h : lombardlaw15_HaircutFinds.b0 x0 v17 v18 v19 v20 v21 = some s_ := hr
    unfold lombardlaw15_HaircutFinds.b0 at h
    refine W.seq ?_
    refine W.seq ?_
    refine W.pk ?_
    refine .m rfl rfl rfl rfl ?_
    refine .m rfl rfl rfl rfl ?_
    refine .v rfl rfl (O.lenR sl56 rfl rfl) ?_
    refine .v rfl rfl (OpL.binI rfl rfl rfl rfl) ?_
    refine .nil ?_
    refine W.cond rfl (fun q40 => ?_) (fun q40 => ?_)
    ·have h := ifT q40 h
     refine W.skip ?_
     refine W.seq ?_
     refine W.block ?_
     refine W.seq ?_
     obtain ⟨c41, h⟩ := chk h
     obtain ⟨t42, b43, h⟩ := bnd1 h
     refine W.pk ?_
     refine .m rfl rfl rfl rfl ?_
     refine .m rfl rfl rfl rfl ?_
     refine .m rfl rfl rfl rfl ?_
     refine .v rfl rfl (O.idx sl56 c41 rfl rfl rfl) ?_
     refine .v rfl rfl (O.ldN ty38 rfl rfl rfl) ?_
     refine .call (.i t42.1) [(1002, some (.box [.own 1005, .own 1006, .b t42.2.made])), (1005, some (.rows 38 5 (List.map api_Asset.enc t42.2.l) false)), (1006, some (.rows 3 1 (List.map (encI .i64) t42.2.prices) false)), (1002, none), (1003, none), (1004, none)] 2 (asset_Book_Add.ok b43) rfl rfl rfl ca27 rfl rfl (cC (.ptr _ _ _ _ _ rfl (cC (.own _ _ _ _ rfl) (cC (.own _ _ _ _ rfl) (cC (.imm _) .nil)))) (cC (.agg _ _ _ _ (cC (.imm _) (cC (.imm _) (cC (.imm _) (cC (.imm _) (cC (.imm _) .nil)))))) .nil)) rfl rfl rfl rfl rfl ?_
     refine .nil ?_
     obtain ⟨c44, h⟩ := chk h
     obtain ⟨t45, b46, h⟩ := bnd1 h
     refine W.pk ?_
     refine .m rfl rfl rfl rfl ?_
     refine .m rfl rfl rfl rfl ?_
     refine .m rfl rfl rfl rfl ?_
     refine .v rfl rfl (O.idx sl56 c44 rfl rfl rfl) ?_
     refine .v rfl rfl (O.ldN ty38 rfl rfl rfl) ?_
     refine .call (.tup [.imm (.row 6 (List.map lombardref13_Known.enc t45.1)), .i t45.2]) [] 0 (lombardref13_Add.ok b46) rfl rfl rfl ca28 rfl rfl (cC (.imm _) (cC (.agg _ _ _ _ (cC (.imm _) (cC (.imm _) (cC (.imm _) (cC (.imm _) (cC (.imm _) .nil)))))) .nil)) rfl rfl rfl rfl rfl ?_
     refine .m rfl rfl rfl rfl ?_
     refine .v rfl rfl (OpL.extract rfl rfl rfl) ?_
     refine .v rfl rfl (OpL.extract rfl rfl rfl) ?_
     refine .a rfl rfl rfl rfl ?_
     refine .nil ?_
     refine W.pk ?_
     refine .m rfl rfl rfl rfl ?_
     refine .v rfl rfl (OpL.binI rfl rfl rfl rfl) ?_
     refine .a rfl rfl rfl rfl ?_
     refine .nil ?_
     cases h
     exact rdN (Gives.mkR [(1003, 1005), (1004, 1006)] (.r rfl rfl (.r rfl rfl (.r rfl rfl (.r rfl rfl (.r rfl rfl (.r rfl rfl (.r rfl rfl (.r rfl rfl .n)))))))) (.r rfl rfl rfl (.r rfl rfl rfl (.r rfl rfl rfl (.r rfl rfl rfl (.r rfl rfl rfl .n))))) rfl rfl rfl)
    ·have h := ifF q40 h
     refine W.exit ?_
     cases h
     refine rdX fun e_ => ?_
     subst e_
     repeat with_reducible refine thru ?_
     refine hit ?_
     exact toN (Gives.mkR [] (.r rfl rfl (.r rfl rfl (.r rfl rfl (.r rfl rfl (.r rfl rfl (.r rfl rfl .n)))))) (.r rfl rfl rfl (.r rfl rfl rfl (.r rfl rfl rfl (.r rfl rfl rfl (.r rfl rfl rfl .n))))) rfl rfl rfl)
 ·clear h
  rcases tf (t1 != 0) with g3 | g3
  ·refine W.pk ?_
   refine .v rfl rfl (O.ldN ty36 rfl rfl rfl) ?_
   refine .call (.i t1) [] 0 (lombardref10_Basket.ok b2) rfl rfl rfl ca16 rfl rfl (cC (.agg _ _ _ _ (cC (.imm _) (cC (.imm _) (cC (.imm _) (cC (.imm _) (cC (.imm _) (cC (.imm _) (cC (.imm _) (cC (.imm _) (cC (.imm _) (cC (.imm _) .nil))))))))))) .nil) rfl rfl rfl rfl rfl ?_
   refine .v rfl rfl (OpL.binI rfl rfl rfl rfl) ?_
   refine .m rfl rfl rfl rfl ?_
   refine .x rfl (unmet rfl rfl rfl g3) ?_
   refine .x rfl (unmet rfl rfl rfl g3) ?_
   refine .x rfl (unmet rfl rfl rfl g3) ?_
   refine .v rfl rfl (O.pickT g3 rfl rfl rfl) ?_
   refine .m rfl rfl rfl rfl ?_
   refine .x rfl (unmet rfl rfl rfl rfl) ?_
   refine .x rfl (unmet rfl rfl rfl rfl) ?_
   refine .x rfl (unmet rfl rfl rfl rfl) ?_
   refine .v rfl rfl (O.pickT rfl rfl rfl rfl) ?_
   refine .nil ?_
   exact toN (Gives.mkR [] (.r rfl rfl (.r rfl rfl (.r rfl rfl (.r rfl rfl (.r rfl rfl (.c rfl (sbb (by simp only [g3, Bool.true_or, Bool.or_true, Bool.false_or, Bool.or_false, Bool.true_and, Bool.and_true, Bool.false_and, Bool.and_false, Bool.not_true, Bool.not_false, cond_true, cond_false])) rfl .n)))))) (.r rfl rfl rfl (.r rfl rfl rfl .n)) rfl rfl rfl)
  ·rcases tf (decide ((List.length x0 : Int) > 40)) with g4 | g4
   ·refine W.pk ?_
    refine .v rfl rfl (O.ldN ty36 rfl rfl rfl) ?_
    refine .call (.i t1) [] 0 (lombardref10_Basket.ok b2) rfl rfl rfl ca16 rfl rfl (cC (.agg _ _ _ _ (cC (.imm _) (cC (.imm _) (cC (.imm _) (cC (.imm _) (cC (.imm _) (cC (.imm _) (cC (.imm _) (cC (.imm _) (cC (.imm _) (cC (.imm _) .nil))))))))))) .nil) rfl rfl rfl rfl rfl ?_
    refine .v rfl rfl (OpL.binI rfl rfl rfl rfl) ?_
    refine .m rfl rfl rfl rfl ?_
    refine .m rfl (met rfl rfl rfl g3) rfl rfl ?_
    refine .v rfl (met rfl rfl rfl g3) (O.lenR sl56 rfl rfl) ?_
    refine .v rfl (met rfl rfl rfl g3) (OpL.binI rfl rfl rfl rfl) ?_
    refine .v rfl rfl (O.pickF g3 rfl rfl rfl) ?_
    refine .m rfl rfl rfl rfl ?_
    refine .x rfl (unmet rfl rfl rfl g4) ?_
    refine .x rfl (unmet rfl rfl rfl g4) ?_
    refine .x rfl (unmet rfl rfl rfl g4) ?_
    refine .v rfl rfl (O.pickT g4 rfl rfl rfl) ?_
    refine .nil ?_
    exact toN (Gives.mkR [] (.r rfl rfl (.r rfl rfl (.r rfl rfl (.r rfl rfl (.r rfl rfl (.c rfl (sbb (by first | (simp only [g3, g4, Bool.true_or, Bool.or_true, Bool.false_or, Bool.or_false, Bool.true_and, Bool.and_true, Bool.false_and, Bool.and_false, Bool.not_true, Bool.not_false, cond_true, cond_false]; done) | (repeat (first | rw [g3] | rw [g4])) <;> simp only [Bool.true_or, Bool.or_true, Bool.false_or, Bool.or_false, Bool.true_and, Bool.and_true, Bool.false_and, Bool.and_false, Bool.not_true, Bool.not_false, cond_true, cond_false])) rfl .n)))))) (.r rfl rfl rfl (.r rfl rfl rfl .n)) rfl rfl rfl)
   ·refine W.pk ?_
    refine .v rfl rfl (O.ldN ty36 rfl rfl rfl) ?_
    refine .call (.i t1) [] 0 (lombardref10_Basket.ok b2) rfl rfl rfl ca16 rfl rfl (cC (.agg _ _ _ _ (cC (.imm _) (cC (.imm _) (cC (.imm _) (cC (.imm _) (cC (.imm _) (cC (.imm _) (cC (.imm _) (cC (.imm _) (cC (.imm _) (cC (.imm _) .nil))))))))))) .nil) rfl rfl rfl rfl rfl ?_
    refine .v rfl rfl (OpL.binI rfl rfl rfl rfl) ?_
    refine .m rfl rfl rfl rfl ?_
    refine .m rfl (met rfl rfl rfl g3) rfl rfl ?_
    refine .v rfl (met rfl rfl rfl g3) (O.lenR sl56 rfl rfl) ?_
    refine .v rfl (met rfl rfl rfl g3) (OpL.binI rfl rfl rfl rfl) ?_
    refine .v rfl rfl (O.pickF g3 rfl rfl rfl) ?_
    refine .m rfl rfl rfl rfl ?_
    refine .m rfl (met rfl rfl rfl g4) rfl rfl ?_
    refine .v rfl (met rfl rfl rfl g4) (O.lenR sl57 rfl rfl) ?_
    refine .v rfl (met rfl rfl rfl g4) (OpL.binI rfl rfl rfl rfl) ?_
    refine .v rfl rfl (O.pickF g4 rfl rfl rfl) ?_
    refine .nil ?_
    exact toN (Gives.mkR [] (.r rfl rfl (.r rfl rfl (.r rfl rfl (.r rfl rfl (.r rfl rfl (.c rfl (sbb (by first | (simp only [g3, g4, Bool.true_or, Bool.or_true, Bool.false_or, Bool.or_false, Bool.true_and, Bool.and_true, Bool.false_and, Bool.and_false, Bool.not_true, Bool.not_false, cond_true, cond_false]; done) | (repeat (first | rw [g3] | rw [g4])) <;> simp only [Bool.true_or, Bool.or_true, Bool.false_or, Bool.or_false, Bool.true_and, Bool.and_true, Bool.false_and, Bool.and_false, Bool.not_true, Bool.not_false, cond_true, cond_false])) rfl .n)))))) (.r rfl rfl rfl (.r rfl rfl rfl .n)) rfl rfl rfl)
end Go.Proofs.Ytdcpdnfalnelkaa
