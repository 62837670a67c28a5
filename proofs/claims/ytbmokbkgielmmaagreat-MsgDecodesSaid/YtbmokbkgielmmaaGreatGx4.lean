/- Shows what functions of the program come to, each as a plain function: written by a program of the author's for this claim. -/
import Derived.Test.YtbmokbkgielmmaaGreatGx3
namespace Go.Proofs.YtbmokbkgielmmaaGreat
open Go Go.Pm
set_option linter.unusedVariables false
set_option maxRecDepth 100000
set_option maxHeartbeats 4000000
set_option linter.unusedSimpArgs false
noncomputable def lombardref10_read.b0 (t110 : lombardref09_Reader × (List api_Lot)) (v121 : Int) (v122 : List api_Price) : Option ((Int × (List api_Price)) ⊕ (List api_Price)) :=
 if (decide (v121 < (List.length t110.2 : Int))) = true then
 if (0 : Int) ≤ v121 ∧ v121 < (List.length t110.2 : Int) then
 if (0 : Int) ≤ v121 ∧ v121 < (List.length t110.2 : Int) then
 if (List.length v122 + List.length [(⟨(nth t110.2 v121).ISIN, (nth t110.2 v121).Qty⟩ : api_Price)]) * 24 ≤ 140737488355328 then
 some (.inl ((IntKind.wrap .i64 (v121 + 1)), (v122 ++ [(⟨(nth t110.2 v121).ISIN, (nth t110.2 v121).Qty⟩ : api_Price)])))
 else none
 else none
 else none
 else some (.inr v122)
noncomputable def lombardref10_read.r0 (t110 : lombardref09_Reader × (List api_Lot)) (s : Int × (List api_Price)) : Option ((Int × (List api_Price)) ⊕ (List api_Price)) := lombardref10_read.b0 t110 s.1 s.2
noncomputable def lombardref10_read.f (x0 : lombardref09_Reader) (x1 : lombardref10_Msg) : Option (lombardref09_Reader × lombardref10_Msg) :=
 ((
 if (x1.Kind == 1) = true then
 (lombardref09_Reader_Int.f x0).bind fun t14 =>
 (lombardref09_Reader_Text.f t14.1 160).bind fun t16 =>
 some (t16.1.S, t16.1.At, t16.1.E, t14.2, t16.2)
 else some (x0.S, x0.At, x0.E, x1.Member, x1.Name) : Option (Bs × Int × Int × Int × Bs))).bind fun o11 =>
 ((
 if (x1.Kind == 2) = true then
 (lombardref09_Reader_Text.f (⟨o11.1, o11.2.1, o11.2.2.1⟩ : lombardref09_Reader) 12).bind fun t39 =>
 (lombardref10_nums.f t39.1 3).bind fun t41 =>
 if (0 : Int) ≤ 0 ∧ 0 < (List.length t41.2 : Int) then
 if (0 : Int) ≤ 1 ∧ 1 < (List.length t41.2 : Int) then
 if (0 : Int) ≤ 2 ∧ 2 < (List.length t41.2 : Int) then
 (lombardref09_Reader_Text.f t41.1 12).bind fun t46 =>
 some (t46.1.S, t46.1.At, t46.1.E, t39.2, (nth t41.2 0), (nth t41.2 1), (nth t41.2 2), t46.2)
 else none
 else none
 else none
 else some (o11.1, o11.2.1, o11.2.2.1, x1.Asset.ISIN, x1.Asset.Issuer, x1.Asset.Rating, x1.Asset.Maturity, x1.Asset.Currency) : Option (Bs × Int × Int × Bs × Int × Int × Int × Bs))).bind fun o36 =>
 ((
 if (x1.Kind == 3) = true then
 (lombardref10_basket.f (⟨o36.1, o36.2.1, o36.2.2.1⟩ : lombardref09_Reader)).bind fun t67 =>
 some (t67.1.S, t67.1.At, t67.1.E, t67.2.ID, t67.2.Version, t67.2.Currency, t67.2.Rating, t67.2.Least, t67.2.Most, t67.2.Cuts, t67.2.Issuer, t67.2.Asset, t67.2.Barred)
 else some (o36.1, o36.2.1, o36.2.2.1, x1.Basket.ID, x1.Basket.Version, x1.Basket.Currency, x1.Basket.Rating, x1.Basket.Least, x1.Basket.Most, [], x1.Basket.Issuer, x1.Basket.Asset, []) : Option (Bs × Int × Int × Int × Int × Bs × Int × Int × Int × (List api_Cut) × Int × Int × (List Int)))).bind fun o64 =>
 ((
 if (x1.Kind == 4) = true then
 (lombardref09_Reader_Count.f (⟨o64.1, o64.2.1, o64.2.2.1⟩ : lombardref09_Reader) 64).bind fun t108 =>
 (lombardref10_lots.f t108.1 t108.2).bind fun t110 =>
 (loop (lombardref10_read.r0 t110) (0, [])).bind fun o132 =>
 some (t110.1.S, t110.1.At, t110.1.E, o132)
 else some (o64.1, o64.2.1, o64.2.2.1, []) : Option (Bs × Int × Int × (List api_Price)))).bind fun o105 =>
 ((
 if (x1.Kind == 5) = true then
 (lombardref09_Reader_Int.f (⟨o105.1, o105.2.1, o105.2.2.1⟩ : lombardref09_Reader)).bind fun t149 =>
 some (t149.1.S, t149.1.At, t149.1.E, t149.2)
 else some (o105.1, o105.2.1, o105.2.2.1, x1.Day) : Option (Bs × Int × Int × Int))).bind fun o146 =>
 ((
 if ((x1.Kind == 6) || (x1.Kind == 7)) = true then
 (lombardref10_nums.f (⟨o146.1, o146.2.1, o146.2.2.1⟩ : lombardref09_Reader) 2).bind fun t168 =>
 if (0 : Int) ≤ 0 ∧ 0 < (List.length t168.2 : Int) then
 if (0 : Int) ≤ 1 ∧ 1 < (List.length t168.2 : Int) then
 (lombardref09_Reader_Text.f t168.1 12).bind fun t172 =>
 some (t172.1.S, t172.1.At, t172.1.E, (nth t168.2 0), t172.2, (nth t168.2 1))
 else none
 else none
 else some (o146.1, o146.2.1, o146.2.2.1, o11.2.2.2.1, x1.Text, x1.N) : Option (Bs × Int × Int × Int × Bs × Int))).bind fun o165 =>
 if (x1.Kind == 8) = true then
 (lombardref10_nums.f (⟨o165.1, o165.2.1, o165.2.2.1⟩ : lombardref09_Reader) 8).bind fun t175 =>
 if (0 : Int) ≤ 0 ∧ 0 < (List.length t175.2 : Int) then
 if (0 : Int) ≤ 1 ∧ 1 < (List.length t175.2 : Int) then
 if (0 : Int) ≤ 2 ∧ 2 < (List.length t175.2 : Int) then
 if (0 : Int) ≤ 3 ∧ 3 < (List.length t175.2 : Int) then
 if (0 : Int) ≤ 4 ∧ 4 < (List.length t175.2 : Int) then
 if (0 : Int) ≤ 5 ∧ 5 < (List.length t175.2 : Int) then
 if (0 : Int) ≤ 6 ∧ 6 < (List.length t175.2 : Int) then
 if (0 : Int) ≤ 7 ∧ 7 < (List.length t175.2 : Int) then
 (lombardref10_more.f t175.1 (⟨x1.Kind, o165.2.2.2.1, o11.2.2.2.2, (⟨o36.2.2.2.1, o36.2.2.2.2.1, o36.2.2.2.2.2.1, o36.2.2.2.2.2.2.1, o36.2.2.2.2.2.2.2⟩ : api_Asset), (⟨o64.2.2.2.1, o64.2.2.2.2.1, o64.2.2.2.2.2.1, o64.2.2.2.2.2.2.1, o64.2.2.2.2.2.2.2.1, o64.2.2.2.2.2.2.2.2.1, o64.2.2.2.2.2.2.2.2.2.1, o64.2.2.2.2.2.2.2.2.2.2.1, o64.2.2.2.2.2.2.2.2.2.2.2.1, o64.2.2.2.2.2.2.2.2.2.2.2.2⟩ : api_Basket), o105.2.2.2, o146.2.2.2, o165.2.2.2.2.1, o165.2.2.2.2.2, (⟨(nth t175.2 0), (nth t175.2 1), (nth t175.2 2), (nth t175.2 3), (nth t175.2 4), (nth t175.2 5), (nth t175.2 6), (nth t175.2 7)⟩ : api_Quote), x1.Out, [], x1.Trade, x1.Done, x1.Rate⟩ : lombardref10_Msg)).bind fun t185 =>
 some (t185.1, t185.2)
 else none
 else none
 else none
 else none
 else none
 else none
 else none
 else none
 else (lombardref10_more.f (⟨o165.1, o165.2.1, o165.2.2.1⟩ : lombardref09_Reader) (⟨x1.Kind, o165.2.2.2.1, o11.2.2.2.2, (⟨o36.2.2.2.1, o36.2.2.2.2.1, o36.2.2.2.2.2.1, o36.2.2.2.2.2.2.1, o36.2.2.2.2.2.2.2⟩ : api_Asset), (⟨o64.2.2.2.1, o64.2.2.2.2.1, o64.2.2.2.2.2.1, o64.2.2.2.2.2.2.1, o64.2.2.2.2.2.2.2.1, o64.2.2.2.2.2.2.2.2.1, o64.2.2.2.2.2.2.2.2.2.1, o64.2.2.2.2.2.2.2.2.2.2.1, o64.2.2.2.2.2.2.2.2.2.2.2.1, o64.2.2.2.2.2.2.2.2.2.2.2.2⟩ : api_Basket), o105.2.2.2, o146.2.2.2, o165.2.2.2.2.1, o165.2.2.2.2.2, x1.Quote, x1.Out, [], x1.Trade, x1.Done, x1.Rate⟩ : lombardref10_Msg)).bind fun t187 =>
 some (t187.1, t187.2)
theorem lombardref10_read.ok {x0 : lombardref09_Reader} {x1 : lombardref10_Msg} {r : lombardref09_Reader × lombardref10_Msg} (h : lombardref10_read.f x0 x1 = some r) : Pm.Spec prog 36 [.agg (im (lombardref09_Reader.enc x0)), .agg [.imm (.val (.int .i64 x1.Kind)), .imm (.val (.int .i64 x1.Member)), .imm (.val (.string (tx x1.Name))), .imm (.val (.string (tx x1.Asset.ISIN))), .imm (.val (.int .i64 x1.Asset.Issuer)), .imm (.val (.int .i64 x1.Asset.Rating)), .imm (.val (.int .i64 x1.Asset.Maturity)), .imm (.val (.string (tx x1.Asset.Currency))), .imm (.val (.int .i64 x1.Basket.ID)), .imm (.val (.int .i64 x1.Basket.Version)), .imm (.val (.string (tx x1.Basket.Currency))), .imm (.val (.int .i64 x1.Basket.Rating)), .imm (.val (.int .i64 x1.Basket.Least)), .imm (.val (.int .i64 x1.Basket.Most)), .imm (.val (.slice none 0 0)), .imm (.val (.int .i64 x1.Basket.Issuer)), .imm (.val (.int .i64 x1.Basket.Asset)), .imm (.val (.slice none 0 0)), .imm (.val (.slice none 0 0)), .imm (.val (.int .i64 x1.Day)), .imm (.val (.string (tx x1.Text))), .imm (.val (.int .i64 x1.N)), .imm (.val (.int .i64 x1.Quote.ID)), .imm (.val (.int .i64 x1.Quote.Member)), .imm (.val (.int .i64 x1.Quote.Side)), .imm (.val (.int .i64 x1.Quote.Basket)), .imm (.val (.int .i64 x1.Quote.Amount)), .imm (.val (.int .i64 x1.Quote.Rate)), .imm (.val (.int .i64 x1.Quote.Start)), .imm (.val (.int .i64 x1.Quote.End)), .imm (.val (.string (tx x1.Out.ISIN))), .imm (.val (.int .i64 x1.Out.Qty)), .imm (.val (.slice none 0 0)), .imm (.val (.int .i64 x1.Trade)), .imm (.val (.bool x1.Done)), .imm (.val (.int .i64 x1.Rate))]] (.tup [.agg (im (lombardref09_Reader.enc r.1)), .agg (im (lombardref10_Msg.enc r.2))]) [none, none] := by
 unfold lombardref10_read.f at h; refine Pm.Spec.of_body Tryz.func36 Z (by kernel_rfl) (L Z) (L Z) ?_; refine W.ghost (σ' := (mkSt [(0, some (.agg (lombardref09_Reader.av x0))), (1, some (.agg (List.take 14 (lombardref10_Msg.av x1) ++ (.imm (.val (.slice none 0 0)) :: .i x1.Basket.Issuer :: .i x1.Basket.Asset :: .imm (.val (.slice none 0 0)) :: .imm (.val (.slice none 0 0)) :: List.take 13 (List.drop 19 (lombardref10_Msg.av x1)) ++ (.imm (.val (.slice none 0 0)) :: .i x1.Trade :: .b x1.Done :: [.i x1.Rate])))))] [] 1000)) (Gives.entry (.c Z (.c Z .n)) .n) (W.seq (W.pk ?_)); (iterate 2 refine .t Z Z (O.box Z Z Z Z Z) ?_); refine .t Z Z (O.alloc z114 Z) (.t Z Z (O.alloc z35 Z) (.nil (W.seq (W.pk (.A Z (.nil (W.seq (W.pk (.A Z (.nil (W.seq ?_))))))))))); refine W.seq (W.pk (.F fld35_0 Z (.V Z (O.ld (y := .i x1.Kind) ty3 Z Z Z) (.B Z (.nil ?_))))); obtain ⟨o11, b12, h⟩ := bnd1 h; refine W.fork (mkSt [(2, some (.ptr 1000 0)), (3, some (.ptr 1001 0)), (4, some (.ptr 1002 0)), (5, some (.ptr 1003 0))] [(1000, some (.box [.s o11.1, .i o11.2.1, .i o11.2.2.1])), (1001, some (.box (.i x1.Kind :: .i o11.2.2.2.1 :: .s o11.2.2.2.2 :: List.take 11 (List.drop 3 (lombardref10_Msg.av x1)) ++ (.imm (.val (.slice none 0 0)) :: .i x1.Basket.Issuer :: .i x1.Basket.Asset :: .imm (.val (.slice none 0 0)) :: .imm (.val (.slice none 0 0)) :: List.take 13 (List.drop 19 (lombardref10_Msg.av x1)) ++ (.imm (.val (.slice none 0 0)) :: .i x1.Trade :: .b x1.Done :: [.i x1.Rate]))))), (1002, some (.box [.s [], .i 0, .i 0])), (1003, some (.box (zl36)))] 1004) ?_ ?_
 ·refine W.seq (W.seq (W.pk (.F fld35_0 Z (.V Z (O.ld (y := .i x1.Kind) ty3 Z Z Z) (.B Z (.nil ?_)))))); obtain ⟨o36, b37, h⟩ := bnd1 h; refine W.fork (mkSt [(2, some (.ptr 1000 0)), (3, some (.ptr 1001 0)), (4, some (.ptr 1002 0)), (5, some (.ptr 1003 0))] [(1000, some (.box [.s o36.1, .i o36.2.1, .i o36.2.2.1])), (1001, some (.box (.i x1.Kind :: .i o11.2.2.2.1 :: .s o11.2.2.2.2 :: .s o36.2.2.2.1 :: .i o36.2.2.2.2.1 :: .i o36.2.2.2.2.2.1 :: .i o36.2.2.2.2.2.2.1 :: .s o36.2.2.2.2.2.2.2 :: List.take 6 (api_Basket.av x1.Basket) ++ (.imm (.val (.slice none 0 0)) :: .i x1.Basket.Issuer :: .i x1.Basket.Asset :: .imm (.val (.slice none 0 0)) :: .imm (.val (.slice none 0 0)) :: List.take 13 (List.drop 19 (lombardref10_Msg.av x1)) ++ (.imm (.val (.slice none 0 0)) :: .i x1.Trade :: .b x1.Done :: [.i x1.Rate]))))), (1002, some (.box [.s [], .i 0, .i 0])), (1003, some (.box (zl36)))] 1005) ?_ ?_
  ·refine W.seq (W.seq (W.pk (.F fld35_0 Z (.V Z (O.ld (y := .i x1.Kind) ty3 Z Z Z) (.B Z (.nil ?_)))))); obtain ⟨o64, b65, h⟩ := bnd1 h; refine W.fork (mkSt [(2, some (.ptr 1000 0)), (3, some (.ptr 1001 0)), (4, some (.ptr 1002 0)), (5, some (.ptr 1003 0))] [(1000, some (.box [.s o64.1, .i o64.2.1, .i o64.2.2.1])), (1001, some (.box (.i x1.Kind :: .i o11.2.2.2.1 :: .s o11.2.2.2.2 :: .s o36.2.2.2.1 :: .i o36.2.2.2.2.1 :: .i o36.2.2.2.2.2.1 :: .i o36.2.2.2.2.2.2.1 :: .s o36.2.2.2.2.2.2.2 :: .i o64.2.2.2.1 :: .i o64.2.2.2.2.1 :: .s o64.2.2.2.2.2.1 :: .i o64.2.2.2.2.2.2.1 :: .i o64.2.2.2.2.2.2.2.1 :: .i o64.2.2.2.2.2.2.2.2.1 :: .imm (.row 3 (List.map api_Cut.enc o64.2.2.2.2.2.2.2.2.2.1)) :: .i o64.2.2.2.2.2.2.2.2.2.2.1 :: .i o64.2.2.2.2.2.2.2.2.2.2.2.1 :: .imm (.row 1 (List.map (encI .i64) o64.2.2.2.2.2.2.2.2.2.2.2.2)) :: .imm (.val (.slice none 0 0)) :: List.take 13 (List.drop 19 (lombardref10_Msg.av x1)) ++ (.imm (.val (.slice none 0 0)) :: .i x1.Trade :: .b x1.Done :: [.i x1.Rate])))), (1002, some (.box [.s [], .i 0, .i 0])), (1003, some (.box (zl36)))] 1005) ?_ ?_
   ·refine W.seq (W.seq (W.pk (.F fld35_0 Z (.V Z (O.ld (y := .i x1.Kind) ty3 Z Z Z) (.B Z (.nil ?_)))))); obtain ⟨o105, b106, h⟩ := bnd1 h; refine W.fork (mkSt [(2, some (.ptr 1000 0)), (3, some (.ptr 1001 0)), (4, some (.ptr 1002 0)), (5, some (.ptr 1003 0))] [(1000, some (.box [.s o105.1, .i o105.2.1, .i o105.2.2.1])), (1001, some (.box (.i x1.Kind :: .i o11.2.2.2.1 :: .s o11.2.2.2.2 :: .s o36.2.2.2.1 :: .i o36.2.2.2.2.1 :: .i o36.2.2.2.2.2.1 :: .i o36.2.2.2.2.2.2.1 :: .s o36.2.2.2.2.2.2.2 :: .i o64.2.2.2.1 :: .i o64.2.2.2.2.1 :: .s o64.2.2.2.2.2.1 :: .i o64.2.2.2.2.2.2.1 :: .i o64.2.2.2.2.2.2.2.1 :: .i o64.2.2.2.2.2.2.2.2.1 :: .imm (.row 3 (List.map api_Cut.enc o64.2.2.2.2.2.2.2.2.2.1)) :: .i o64.2.2.2.2.2.2.2.2.2.2.1 :: .i o64.2.2.2.2.2.2.2.2.2.2.2.1 :: .imm (.row 1 (List.map (encI .i64) o64.2.2.2.2.2.2.2.2.2.2.2.2)) :: .own 1008 :: List.take 13 (List.drop 19 (lombardref10_Msg.av x1)) ++ (.imm (.val (.slice none 0 0)) :: .i x1.Trade :: .b x1.Done :: [.i x1.Rate])))), (1002, some (.box [.s [], .i 0, .i 0])), (1003, some (.box (zl36))), (1008, some (.rows 105 2 (List.map api_Price.enc o105.2.2.2) false))] 1009) ?_ ?_
    ·refine W.seq (W.seq (W.pk (.F fld35_0 Z (.V Z (O.ld (y := .i x1.Kind) ty3 Z Z Z) (.B Z (.nil ?_)))))); obtain ⟨o146, b147, h⟩ := bnd1 h; refine W.fork (mkSt [(2, some (.ptr 1000 0)), (3, some (.ptr 1001 0)), (4, some (.ptr 1002 0)), (5, some (.ptr 1003 0))] [(1000, some (.box [.s o146.1, .i o146.2.1, .i o146.2.2.1])), (1001, some (.box (.i x1.Kind :: .i o11.2.2.2.1 :: .s o11.2.2.2.2 :: .s o36.2.2.2.1 :: .i o36.2.2.2.2.1 :: .i o36.2.2.2.2.2.1 :: .i o36.2.2.2.2.2.2.1 :: .s o36.2.2.2.2.2.2.2 :: .i o64.2.2.2.1 :: .i o64.2.2.2.2.1 :: .s o64.2.2.2.2.2.1 :: .i o64.2.2.2.2.2.2.1 :: .i o64.2.2.2.2.2.2.2.1 :: .i o64.2.2.2.2.2.2.2.2.1 :: .imm (.row 3 (List.map api_Cut.enc o64.2.2.2.2.2.2.2.2.2.1)) :: .i o64.2.2.2.2.2.2.2.2.2.2.1 :: .i o64.2.2.2.2.2.2.2.2.2.2.2.1 :: .imm (.row 1 (List.map (encI .i64) o64.2.2.2.2.2.2.2.2.2.2.2.2)) :: .own 1008 :: .i o146.2.2.2 :: List.take 12 (List.drop 20 (lombardref10_Msg.av x1)) ++ (.imm (.val (.slice none 0 0)) :: .i x1.Trade :: .b x1.Done :: [.i x1.Rate])))), (1002, some (.box [.s [], .i 0, .i 0])), (1003, some (.box (zl36))), (1008, some (.rows 105 2 (List.map api_Price.enc o105.2.2.2) false))] 1009) ?_ ?_
     ·refine W.seq (W.seq (W.fork (mkSt [(2, some (.ptr 1000 0)), (3, some (.ptr 1001 0)), (4, some (.ptr 1002 0)), (5, some (.ptr 1003 0)), (125, some (.b ((x1.Kind == 6) || (x1.Kind == 7))))] [(1000, some (.box [.s o146.1, .i o146.2.1, .i o146.2.2.1])), (1001, some (.box (.i x1.Kind :: .i o11.2.2.2.1 :: .s o11.2.2.2.2 :: .s o36.2.2.2.1 :: .i o36.2.2.2.2.1 :: .i o36.2.2.2.2.2.1 :: .i o36.2.2.2.2.2.2.1 :: .s o36.2.2.2.2.2.2.2 :: .i o64.2.2.2.1 :: .i o64.2.2.2.2.1 :: .s o64.2.2.2.2.2.1 :: .i o64.2.2.2.2.2.2.1 :: .i o64.2.2.2.2.2.2.2.1 :: .i o64.2.2.2.2.2.2.2.2.1 :: .imm (.row 3 (List.map api_Cut.enc o64.2.2.2.2.2.2.2.2.2.1)) :: .i o64.2.2.2.2.2.2.2.2.2.2.1 :: .i o64.2.2.2.2.2.2.2.2.2.2.2.1 :: .imm (.row 1 (List.map (encI .i64) o64.2.2.2.2.2.2.2.2.2.2.2.2)) :: .own 1008 :: .i o146.2.2.2 :: List.take 12 (List.drop 20 (lombardref10_Msg.av x1)) ++ (.imm (.val (.slice none 0 0)) :: .i x1.Trade :: .b x1.Done :: [.i x1.Rate])))), (1002, some (.box [.s [], .i 0, .i 0])), (1003, some (.box (zl36))), (1008, some (.rows 105 2 (List.map api_Price.enc o105.2.2.2) false))] 1009) ?_ ?_))
      ·obtain ⟨o165, b166, h⟩ := bnd1 h; refine W.fork (mkSt [(2, some (.ptr 1000 0)), (3, some (.ptr 1001 0)), (4, some (.ptr 1002 0)), (5, some (.ptr 1003 0))] [(1000, some (.box [.s o165.1, .i o165.2.1, .i o165.2.2.1])), (1001, some (.box (.i x1.Kind :: .i o165.2.2.2.1 :: .s o11.2.2.2.2 :: .s o36.2.2.2.1 :: .i o36.2.2.2.2.1 :: .i o36.2.2.2.2.2.1 :: .i o36.2.2.2.2.2.2.1 :: .s o36.2.2.2.2.2.2.2 :: .i o64.2.2.2.1 :: .i o64.2.2.2.2.1 :: .s o64.2.2.2.2.2.1 :: .i o64.2.2.2.2.2.2.1 :: .i o64.2.2.2.2.2.2.2.1 :: .i o64.2.2.2.2.2.2.2.2.1 :: .imm (.row 3 (List.map api_Cut.enc o64.2.2.2.2.2.2.2.2.2.1)) :: .i o64.2.2.2.2.2.2.2.2.2.2.1 :: .i o64.2.2.2.2.2.2.2.2.2.2.2.1 :: .imm (.row 1 (List.map (encI .i64) o64.2.2.2.2.2.2.2.2.2.2.2.2)) :: .own 1008 :: .i o146.2.2.2 :: .s o165.2.2.2.2.1 :: .i o165.2.2.2.2.2 :: List.take 10 (List.drop 22 (lombardref10_Msg.av x1)) ++ (.imm (.val (.slice none 0 0)) :: .i x1.Trade :: .b x1.Done :: [.i x1.Rate])))), (1002, some (.box [.s [], .i 0, .i 0])), (1003, some (.box (zl36))), (1008, some (.rows 105 2 (List.map api_Price.enc o105.2.2.2) false))] 1010) ?_ ?_
       ·refine W.seq (W.seq (W.pk (.F fld35_0 Z (.V Z (O.ld (y := .i x1.Kind) ty3 Z Z Z) (.B Z (.nil (W.cnd Z h (fun q174 h => ?_) (fun q174 h => ?_))))))))
        ·refine W.seq ?_; obtain ⟨t175, b176, h⟩ := bnd1 h; refine W.pk (.V Z (O.ldN ty114 Z Z Z) (.C (.tup [.agg (lombardref09_Reader.av t175.1), .own 1010]) [(1010, some (.rows 3 1 (List.map (encI .i64) t175.2) false))] 1 (lombardref10_nums.ok b176) ca82 Z (cC (.agg _ _ _ _ (cI (cI (cI .nil)))) (cI .nil)) Z ?_)); refine .M Z ?_; (iterate 2 refine .V Z (OpL.extract Z Z Z) ?_); refine .S ty114 Z [.s t175.1.S, .i t175.1.At, .i t175.1.E] Z (.A Z (.nil ?_)); obtain ⟨c177, h⟩ := chk h; obtain ⟨c178, h⟩ := chk h; obtain ⟨c179, h⟩ := chk h; obtain ⟨c180, h⟩ := chk h; obtain ⟨c181, h⟩ := chk h; obtain ⟨c182, h⟩ := chk h; obtain ⟨c183, h⟩ := chk h; obtain ⟨c184, h⟩ := chk h; refine W.dk (unm 27 [0, 1, 3, 0, 8, 24, 0, 64, 192, 0, 512, 1536, 0, 4096, 12288, 0, 32768, 98304, 0, 262144, 786432, 0, 2097152, 6291456, 16777215, 33554431, 67108863]) Z (by kernel_rfl) ?_; refine .M Z (.V Z (O.idxO sl25 c177 Z Z Z Z) (.V Z (O.ldE (c := (.val (.int .i64 (nth t175.2 0)))) ty3 c177 Z Z Z Z Z) (.M Z (.V Z (O.idxO sl25 c178 Z Z Z Z) (.V Z (O.ldE (c := (.val (.int .i64 (nth t175.2 1)))) ty3 c178 Z Z Z Z Z) (.M Z (.V Z (O.idxO sl25 c179 Z Z Z Z) (.V Z (O.ldE (c := (.val (.int .i64 (nth t175.2 2)))) ty3 c179 Z Z Z Z Z) (.M Z (.V Z (O.idxO sl25 c180 Z Z Z Z) (.V Z (O.ldE (c := (.val (.int .i64 (nth t175.2 3)))) ty3 c180 Z Z Z Z Z) ?_))))))))))); refine .M Z (.V Z (O.idxO sl25 c181 Z Z Z Z) (.V Z (O.ldE (c := (.val (.int .i64 (nth t175.2 4)))) ty3 c181 Z Z Z Z Z) (.M Z (.V Z (O.idxO sl25 c182 Z Z Z Z) (.V Z (O.ldE (c := (.val (.int .i64 (nth t175.2 5)))) ty3 c182 Z Z Z Z Z) (.M Z (.V Z (O.idxO sl25 c183 Z Z Z Z) (.V Z (O.ldE (c := (.val (.int .i64 (nth t175.2 6)))) ty3 c183 Z Z Z Z Z) (.M Z (.V Z (O.idxO sl25 c184 Z Z Z Z) (.V Z (O.ldE (c := (.val (.int .i64 (nth t175.2 7)))) ty3 c184 Z Z Z Z Z) ?_))))))))))); refine .V Z (O.build (out := [.i (nth t175.2 0), .i (nth t175.2 1), .i (nth t175.2 2), .i (nth t175.2 3), .i (nth t175.2 4), .i (nth t175.2 5), .i (nth t175.2 6), .i (nth t175.2 7)]) bl30 Z Z Z Z (by kernel_rfl)) ?_; refine .F fld35_9 Z (.S ty30 Z [.i x1.Kind, .i o165.2.2.2.1, .s o11.2.2.2.2, .s o36.2.2.2.1, .i o36.2.2.2.2.1, .i o36.2.2.2.2.2.1, .i o36.2.2.2.2.2.2.1, .s o36.2.2.2.2.2.2.2, .i o64.2.2.2.1, .i o64.2.2.2.2.1, .s o64.2.2.2.2.2.1, .i o64.2.2.2.2.2.2.1, .i o64.2.2.2.2.2.2.2.1, .i o64.2.2.2.2.2.2.2.2.1, .imm (.row 3 (List.map api_Cut.enc o64.2.2.2.2.2.2.2.2.2.1)), .i o64.2.2.2.2.2.2.2.2.2.2.1, .i o64.2.2.2.2.2.2.2.2.2.2.2.1, .imm (.row 1 (List.map (encI .i64) o64.2.2.2.2.2.2.2.2.2.2.2.2)), .own 1008, .i o146.2.2.2, .s o165.2.2.2.2.1, .i o165.2.2.2.2.2, .i (nth t175.2 0), .i (nth t175.2 1), .i (nth t175.2 2), .i (nth t175.2 3), .i (nth t175.2 4), .i (nth t175.2 5), .i (nth t175.2 6), .i (nth t175.2 7), .s x1.Out.ISIN, .i x1.Out.Qty, .imm (.val (.slice none 0 0)), .i x1.Trade, .b x1.Done, .i x1.Rate] Z (.nil ?_)); refine ⟨by kernel_rfl, by kernel_rfl, ?_⟩; refine W.seq ?_; obtain ⟨t185, b186, h⟩ := bnd1 h; refine W.pk (.V Z (O.ldN ty114 Z Z Z) (.V Z (O.ldN ty35 Z Z Z) (.C (.tup [.agg (lombardref09_Reader.av t185.1), .agg (lombardref10_Msg.av t185.2)]) [(1008, some (.rows 105 2 (List.map api_Price.enc o105.2.2.2) true))] 0 (lombardref10_more.ok b186) ca86 Z (cC (.agg _ _ _ _ (cI (cI (cI .nil)))) (cC (.agg _ _ _ _ (cI (cI (cI (cI (cI (cI (cI (cI (cI (cI (cI (cI (cI (cI (cI (cI (cI (cI (cC (.lend _ _ _ _ _ Z) (cI (cI (cI (cI (cI (cI (cI (cI (cI (cI (cI (cI (cI (cC (.nilrow _) (cI (cI (cI .nil))))))))))))))))))))))))))))))))))))) .nil)) Z ?_))); (iterate 2 refine .V Z (OpL.extract Z Z Z) ?_); refine .S ty114 Z [.s t185.1.S, .i t185.1.At, .i t185.1.E] Z (.S ty35 Z (lombardref10_Msg.av t185.2) Z (.nil (W.ret ?_))); cases h; exact leaves (.inr Z) Z (.tup _ _ _ _ (cC (.agg _ _ _ _ (cI (cI (cI .nil)))) (cC (.agg _ _ _ _ (cI (cI (cI (cI (cI (cI (cI (cI (cI (cI (cI (cI (cI (cI (cI (cI (cI (cI (cI (cI (cI (cI (cI (cI (cI (cI (cI (cI (cI (cI (cI (cI (cI (cI (cI (cI .nil))))))))))))))))))))))))))))))))))))) .nil))) (cN (cN .nil)) Z Z
        ·refine W.skip (W.seq ?_); obtain ⟨t187, b188, h⟩ := bnd1 h; refine W.pk (.V Z (O.ldN ty114 Z Z Z) (.V Z (O.ldN ty35 Z Z Z) (.C (.tup [.agg (lombardref09_Reader.av t187.1), .agg (lombardref10_Msg.av t187.2)]) [(1008, some (.rows 105 2 (List.map api_Price.enc o105.2.2.2) true))] 0 (lombardref10_more.ok b188) ca86 Z (cC (.agg _ _ _ _ (cI (cI (cI .nil)))) (cC (.agg _ _ _ _ (cI (cI (cI (cI (cI (cI (cI (cI (cI (cI (cI (cI (cI (cI (cI (cI (cI (cI (cC (.lend _ _ _ _ _ Z) (cI (cI (cI (cI (cI (cI (cI (cI (cI (cI (cI (cI (cI (cC (.nilrow _) (cI (cI (cI .nil))))))))))))))))))))))))))))))))))))) .nil)) Z ?_))); (iterate 2 refine .V Z (OpL.extract Z Z Z) ?_); refine .S ty114 Z [.s t187.1.S, .i t187.1.At, .i t187.1.E] Z (.S ty35 Z (lombardref10_Msg.av t187.2) Z (.nil (W.ret ?_))); cases h; exact leaves (.inr Z) Z (.tup _ _ _ _ (cC (.agg _ _ _ _ (cI (cI (cI .nil)))) (cC (.agg _ _ _ _ (cI (cI (cI (cI (cI (cI (cI (cI (cI (cI (cI (cI (cI (cI (cI (cI (cI (cI (cI (cI (cI (cI (cI (cI (cI (cI (cI (cI (cI (cI (cI (cI (cI (cI (cI (cI .nil))))))))))))))))))))))))))))))))))))) .nil))) (cN (cN .nil)) Z Z
       ·clear h; have h := b166; refine W.cnd Z h (fun q167 h => ?_) (fun q167 h => ?_)
        ·refine W.seq ?_; obtain ⟨t168, b169, h⟩ := bnd1 h; refine W.pk (.V Z (O.ldN ty114 Z Z Z) (.C (.tup [.agg (lombardref09_Reader.av t168.1), .own 1009]) [(1009, some (.rows 3 1 (List.map (encI .i64) t168.2) false))] 1 (lombardref10_nums.ok b169) ca82 Z (cC (.agg _ _ _ _ (cI (cI (cI .nil)))) (cI .nil)) Z ?_)); refine .M Z ?_; (iterate 2 refine .V Z (OpL.extract Z Z Z) ?_); refine .S ty114 Z [.s t168.1.S, .i t168.1.At, .i t168.1.E] Z (.A Z (.nil (W.seq ?_))); obtain ⟨c170, h⟩ := chk h; obtain ⟨c171, h⟩ := chk h; refine W.dk (unm 10 [0, 1, 3, 0, 8, 24, 7, 71, 255, 511]) Z (by kernel_rfl) ?_; refine .M Z (.V Z (O.idxO sl25 c170 Z Z Z Z) (.V Z (O.ldE (c := (.val (.int .i64 (nth t168.2 0)))) ty3 c170 Z Z Z Z Z) (.M Z (.V Z (O.idxO sl25 c171 Z Z Z Z) (.V Z (O.ldE (c := (.val (.int .i64 (nth t168.2 1)))) ty3 c171 Z Z Z Z Z) (.F fld35_1 Z (.S ty3 Z (.i x1.Kind :: .i (nth t168.2 0) :: .s o11.2.2.2.2 :: .s o36.2.2.2.1 :: .i o36.2.2.2.2.1 :: .i o36.2.2.2.2.2.1 :: .i o36.2.2.2.2.2.2.1 :: .s o36.2.2.2.2.2.2.2 :: .i o64.2.2.2.1 :: .i o64.2.2.2.2.1 :: .s o64.2.2.2.2.2.1 :: .i o64.2.2.2.2.2.2.1 :: .i o64.2.2.2.2.2.2.2.1 :: .i o64.2.2.2.2.2.2.2.2.1 :: .imm (.row 3 (List.map api_Cut.enc o64.2.2.2.2.2.2.2.2.2.1)) :: .i o64.2.2.2.2.2.2.2.2.2.2.1 :: .i o64.2.2.2.2.2.2.2.2.2.2.2.1 :: .imm (.row 1 (List.map (encI .i64) o64.2.2.2.2.2.2.2.2.2.2.2.2)) :: .own 1008 :: .i o146.2.2.2 :: List.take 12 (List.drop 20 (lombardref10_Msg.av x1)) ++ (.imm (.val (.slice none 0 0)) :: .i x1.Trade :: .b x1.Done :: [.i x1.Rate])) Z (.F fld35_8 Z (.S ty3 Z (.i x1.Kind :: .i (nth t168.2 0) :: .s o11.2.2.2.2 :: .s o36.2.2.2.1 :: .i o36.2.2.2.2.1 :: .i o36.2.2.2.2.2.1 :: .i o36.2.2.2.2.2.2.1 :: .s o36.2.2.2.2.2.2.2 :: .i o64.2.2.2.1 :: .i o64.2.2.2.2.1 :: .s o64.2.2.2.2.2.1 :: .i o64.2.2.2.2.2.2.1 :: .i o64.2.2.2.2.2.2.2.1 :: .i o64.2.2.2.2.2.2.2.2.1 :: .imm (.row 3 (List.map api_Cut.enc o64.2.2.2.2.2.2.2.2.2.1)) :: .i o64.2.2.2.2.2.2.2.2.2.2.1 :: .i o64.2.2.2.2.2.2.2.2.2.2.2.1 :: .imm (.row 1 (List.map (encI .i64) o64.2.2.2.2.2.2.2.2.2.2.2.2)) :: .own 1008 :: .i o146.2.2.2 :: .s x1.Text :: .i (nth t168.2 1) :: List.take 10 (List.drop 22 (lombardref10_Msg.av x1)) ++ (.imm (.val (.slice none 0 0)) :: .i x1.Trade :: .b x1.Done :: [.i x1.Rate])) Z (.nil ?_)))))))))); refine ⟨by kernel_rfl, by kernel_rfl, ?_⟩; obtain ⟨t172, b173, h⟩ := bnd1 h; refine W.pk (.V Z (O.ldN ty114 Z Z Z) (.C (.tup [.agg (lombardref09_Reader.av t172.1), .s t172.2]) [] 0 (lombardref09_Reader_Text.ok b173) ca81 Z (cC (.agg _ _ _ _ (cI (cI (cI .nil)))) (cI .nil)) Z ?_)); refine .M Z ?_; (iterate 2 refine .V Z (OpL.extract Z Z Z) ?_); refine .S ty114 Z [.s t172.1.S, .i t172.1.At, .i t172.1.E] Z (.F fld35_7 Z (.S ty9 Z (.i x1.Kind :: .i (nth t168.2 0) :: .s o11.2.2.2.2 :: .s o36.2.2.2.1 :: .i o36.2.2.2.2.1 :: .i o36.2.2.2.2.2.1 :: .i o36.2.2.2.2.2.2.1 :: .s o36.2.2.2.2.2.2.2 :: .i o64.2.2.2.1 :: .i o64.2.2.2.2.1 :: .s o64.2.2.2.2.2.1 :: .i o64.2.2.2.2.2.2.1 :: .i o64.2.2.2.2.2.2.2.1 :: .i o64.2.2.2.2.2.2.2.2.1 :: .imm (.row 3 (List.map api_Cut.enc o64.2.2.2.2.2.2.2.2.2.1)) :: .i o64.2.2.2.2.2.2.2.2.2.2.1 :: .i o64.2.2.2.2.2.2.2.2.2.2.2.1 :: .imm (.row 1 (List.map (encI .i64) o64.2.2.2.2.2.2.2.2.2.2.2.2)) :: .own 1008 :: .i o146.2.2.2 :: .s t172.2 :: .i (nth t168.2 1) :: List.take 10 (List.drop 22 (lombardref10_Msg.av x1)) ++ (.imm (.val (.slice none 0 0)) :: .i x1.Trade :: .b x1.Done :: [.i x1.Rate])) Z (.nil ?_))); cases h; exact toN (Gm [] (.e Z Z) (.e Z Z) Z)
        ·refine W.skip ?_; cases h; exact toN (Gm [] (.e Z Z) (.e Z Z) Z)
      ·clear h; refine W.pk (.F fld35_0 Z (.V Z (O.ld (y := .i x1.Kind) ty3 Z Z Z) (.B Z (.M Z ?_)))); rcases tf (x1.Kind == 6) with g151 | g151
       ·(iterate 3 refine .X Z g151 ?_); exact .T g151 Z (.nil (toN (Gm [] (.r Z Z (.r Z Z (.r Z Z (.r Z Z (.c Z (sbb (by simp only [g151, BL])) Z .n))))) (.e Z Z) Z)))
       ·exact .H fld35_0 Z g151 Z (.U Z g151 (O.ld (y := .i x1.Kind) ty3 Z Z Z) (.G Z g151 Z (.E g151 Z (.nil (toN (Gm [] (.r Z Z (.r Z Z (.r Z Z (.r Z Z (.c Z (sbb (by simp only [g151, BL])) Z .n))))) (.e Z Z) Z))))))
     ·clear h; have h := b147; refine W.cnd Z h (fun q148 h => ?_) (fun q148 h => ?_)
      ·obtain ⟨t149, b150, h⟩ := bnd1 h; refine W.pk (.V Z (O.ldN ty114 Z Z Z) (.C (.tup [.agg (lombardref09_Reader.av t149.1), .i t149.2]) [] 0 (lombardref09_Reader_Int.ok b150) ca35 Z (cC (.agg _ _ _ _ (cI (cI (cI .nil)))) .nil) Z ?_)); refine .M Z ?_; (iterate 2 refine .V Z (OpL.extract Z Z Z) ?_); refine .S ty114 Z [.s t149.1.S, .i t149.1.At, .i t149.1.E] Z (.F fld35_6 Z (.S ty3 Z (.i x1.Kind :: .i o11.2.2.2.1 :: .s o11.2.2.2.2 :: .s o36.2.2.2.1 :: .i o36.2.2.2.2.1 :: .i o36.2.2.2.2.2.1 :: .i o36.2.2.2.2.2.2.1 :: .s o36.2.2.2.2.2.2.2 :: .i o64.2.2.2.1 :: .i o64.2.2.2.2.1 :: .s o64.2.2.2.2.2.1 :: .i o64.2.2.2.2.2.2.1 :: .i o64.2.2.2.2.2.2.2.1 :: .i o64.2.2.2.2.2.2.2.2.1 :: .imm (.row 3 (List.map api_Cut.enc o64.2.2.2.2.2.2.2.2.2.1)) :: .i o64.2.2.2.2.2.2.2.2.2.2.1 :: .i o64.2.2.2.2.2.2.2.2.2.2.2.1 :: .imm (.row 1 (List.map (encI .i64) o64.2.2.2.2.2.2.2.2.2.2.2.2)) :: .own 1008 :: .i t149.2 :: List.take 12 (List.drop 20 (lombardref10_Msg.av x1)) ++ (.imm (.val (.slice none 0 0)) :: .i x1.Trade :: .b x1.Done :: [.i x1.Rate])) Z (.nil ?_))); cases h; exact toN (Gm [] (.e Z Z) (.e Z Z) Z)
      ·refine W.skip ?_; cases h; exact toN (Gm [] (.e Z Z) (.e Z Z) Z)
    ·clear h; have h := b106; refine W.cnd Z h (fun q107 h => ?_) (fun q107 h => ?_)
     ·refine W.seq ?_; obtain ⟨t108, b109, h⟩ := bnd1 h; refine W.pk (.V Z (O.ldN ty114 Z Z Z) (.C (.tup [.agg (lombardref09_Reader.av t108.1), .i t108.2]) [] 0 (lombardref09_Reader_Count.ok b109) ca84 Z (cC (.agg _ _ _ _ (cI (cI (cI .nil)))) (cI .nil)) Z ?_)); refine .M Z ?_; (iterate 2 refine .V Z (OpL.extract Z Z Z) ?_); refine .S ty114 Z [.s t108.1.S, .i t108.1.At, .i t108.1.E] Z (.A Z (.nil (W.seq ?_))); obtain ⟨t110, b111, h⟩ := bnd1 h; refine W.pk (.V Z (O.ldN ty114 Z Z Z) (.M Z (.C (.tup [.agg (lombardref09_Reader.av t110.1), .own 1005]) [(1005, some (.rows 32 2 (List.map api_Lot.enc t110.2) false))] 1 (lombardref10_lots.ok b111) ca85 Z (cC (.agg _ _ _ _ (cI (cI (cI .nil)))) (cI .nil)) Z ?_))); refine .M Z ?_; (iterate 2 refine .V Z (OpL.extract Z Z Z) ?_); refine .t Z Z (O.alloc z114 Z) (.S ty114 Z [.s t110.1.S, .i t110.1.At, .i t110.1.E] Z (.A Z (.nil (W.seq (W.pk (.V Z (O.ldN ty114 Z Z Z) (.S ty114 Z [.s t110.1.S, .i t110.1.At, .i t110.1.E] Z (.nil (W.seq (W.pk (.A Z ?_))))))))))); refine .nil (W.ghost (Gives.mintB 1001 18 105 2 Z Z) ?_); obtain ⟨o132, b133, h⟩ := bnd1 h; refine W.fork (mkSt [(2, some (.ptr 1000 0)), (3, some (.ptr 1001 0)), (4, some (.ptr 1002 0)), (5, some (.ptr 1003 0))] [(1000, some (.box [.s t110.1.S, .i t110.1.At, .i t110.1.E])), (1001, some (.box (.i x1.Kind :: .i o11.2.2.2.1 :: .s o11.2.2.2.2 :: .s o36.2.2.2.1 :: .i o36.2.2.2.2.1 :: .i o36.2.2.2.2.2.1 :: .i o36.2.2.2.2.2.2.1 :: .s o36.2.2.2.2.2.2.2 :: .i o64.2.2.2.1 :: .i o64.2.2.2.2.1 :: .s o64.2.2.2.2.2.1 :: .i o64.2.2.2.2.2.2.1 :: .i o64.2.2.2.2.2.2.2.1 :: .i o64.2.2.2.2.2.2.2.2.1 :: .imm (.row 3 (List.map api_Cut.enc o64.2.2.2.2.2.2.2.2.2.1)) :: .i o64.2.2.2.2.2.2.2.2.2.2.1 :: .i o64.2.2.2.2.2.2.2.2.2.2.2.1 :: .imm (.row 1 (List.map (encI .i64) o64.2.2.2.2.2.2.2.2.2.2.2.2)) :: .own 1007 :: List.take 13 (List.drop 19 (lombardref10_Msg.av x1)) ++ (.imm (.val (.slice none 0 0)) :: .i x1.Trade :: .b x1.Done :: [.i x1.Rate])))), (1002, some (.box [.s [], .i 0, .i 0])), (1003, some (.box (zl36))), (1007, some (.rows 105 2 (List.map api_Price.enc o132) false))] 1008) ?_ ?_
      ·cases h; exact toN (Gm [(1008, 1007)] (.e Z Z) (.e Z Z) Z)
      ·clear h; refine W.block (W.loopF (fun (s_ : Int × (List api_Price)) => mkSt [(2, some (.ptr 1000 0)), (3, some (.ptr 1001 0)), (4, some (.ptr 1002 0)), (5, some (.ptr 1003 0)), (9, some (.own 1005)), (10, some (.i s_.1))] [(1000, some (.box [.s t110.1.S, .i t110.1.At, .i t110.1.E])), (1001, some (.box (.i x1.Kind :: .i o11.2.2.2.1 :: .s o11.2.2.2.2 :: .s o36.2.2.2.1 :: .i o36.2.2.2.2.1 :: .i o36.2.2.2.2.2.1 :: .i o36.2.2.2.2.2.2.1 :: .s o36.2.2.2.2.2.2.2 :: .i o64.2.2.2.1 :: .i o64.2.2.2.2.1 :: .s o64.2.2.2.2.2.1 :: .i o64.2.2.2.2.2.2.1 :: .i o64.2.2.2.2.2.2.2.1 :: .i o64.2.2.2.2.2.2.2.2.1 :: .imm (.row 3 (List.map api_Cut.enc o64.2.2.2.2.2.2.2.2.2.1)) :: .i o64.2.2.2.2.2.2.2.2.2.2.1 :: .i o64.2.2.2.2.2.2.2.2.2.2.2.1 :: .imm (.row 1 (List.map (encI .i64) o64.2.2.2.2.2.2.2.2.2.2.2.2)) :: .own 1007 :: List.take 13 (List.drop 19 (lombardref10_Msg.av x1)) ++ (.imm (.val (.slice none 0 0)) :: .i x1.Trade :: .b x1.Done :: [.i x1.Rate])))), (1002, some (.box [.s [], .i 0, .i 0])), (1003, some (.box (zl36))), (1005, some (.rows 32 2 (List.map api_Lot.enc t110.2) false)), (1007, some (.rows 105 2 (List.map api_Price.enc s_.2) false))] 1008) b133 (Gm [] (.e Z Z) (.e Z Z) Z) ?_); rintro ⟨v121, v122⟩ s_ hr; have h : lombardref10_read.b0 t110 v121 v122 = some s_ := hr; unfold lombardref10_read.b0 at h; refine W.seq (W.seq (W.pk (.M Z (.M Z (.V Z (O.lenO sl33 Z Z Z) (.B Z (.nil (W.cnd Z h (fun q135 h => ?_) (fun q135 h => ?_)))))))))
       ·refine W.skip (W.seq (W.block ?_)); obtain ⟨c136, h⟩ := chk h; obtain ⟨c137, h⟩ := chk h; obtain ⟨c138, h⟩ := chk h; refine W.dk (unm 17 [0, 1, 0, 0, 12, 28, 60, 0, 0, 384, 896, 1920, 4092, 8188, 16383, 32767, 65535]) Z (by kernel_rfl) ?_; refine .F fld35_5 Z (.V Z (O.ld (y := .own 1007) ty28 Z Z Z) (.M Z (.M Z (.V Z (O.idxO sl33 c136 Z Z Z Z) (.F fld32_0 Z (.V Z (O.ldE (c := (.val (.string (tx ((nth t110.2 v121).ISIN))))) ty9 c136 Z Z Z Z Z) (.M Z (.M Z (.V Z (O.idxO sl33 c137 Z Z Z Z) (.F fld32_1 Z (.V Z (O.ldE (c := (.val (.int .i64 ((nth t110.2 v121).Qty)))) ty3 c137 Z Z Z Z Z) ?_))))))))))); refine .V Z (O.build (out := [.s ((nth t110.2 v121).ISIN), .i ((nth t110.2 v121).Qty)]) bl105 Z Z Z Z (by kernel_rfl)) ?_; refine .t Z Z (O.lit (enc := api_Price.enc) (l := [(⟨(nth t110.2 v121).ISIN, (nth t110.2 v121).Qty⟩ : api_Price)]) sl28 Z Z Z Z Z Z Z Z Z) (.t Z Z (O.appO sl28 api_Price.ok c138 Z Z Z Z Z) (.F fld35_5 Z (.S ty28 Z (.i x1.Kind :: .i o11.2.2.2.1 :: .s o11.2.2.2.2 :: .s o36.2.2.2.1 :: .i o36.2.2.2.2.1 :: .i o36.2.2.2.2.2.1 :: .i o36.2.2.2.2.2.2.1 :: .s o36.2.2.2.2.2.2.2 :: .i o64.2.2.2.1 :: .i o64.2.2.2.2.1 :: .s o64.2.2.2.2.2.1 :: .i o64.2.2.2.2.2.2.1 :: .i o64.2.2.2.2.2.2.2.1 :: .i o64.2.2.2.2.2.2.2.2.1 :: .imm (.row 3 (List.map api_Cut.enc o64.2.2.2.2.2.2.2.2.2.1)) :: .i o64.2.2.2.2.2.2.2.2.2.2.1 :: .i o64.2.2.2.2.2.2.2.2.2.2.2.1 :: .imm (.row 1 (List.map (encI .i64) o64.2.2.2.2.2.2.2.2.2.2.2.2)) :: .own 1009 :: List.take 13 (List.drop 19 (lombardref10_Msg.av x1)) ++ (.imm (.val (.slice none 0 0)) :: .i x1.Trade :: .b x1.Done :: [.i x1.Rate])) Z (.nil ?_)))); refine ⟨by kernel_rfl, by kernel_rfl, ?_⟩; refine W.pk (.M Z (.B Z (.A Z (.nil ?_)))); cases h; exact rdN (Gm [(1007, 1009)] (.e Z Z) (.e Z Z) Z)
       ·refine W.exit ?_; cases h; refine rdX fun e_ => ?_; subst e_; (repeat with_reducible refine thru ?_); exact hit (toN (Gm [] (.e Z Z) (.e Z Z) Z))
     ·refine W.skip ?_; cases h; exact toN ((Gives.mintB 1001 18 105 2 Z Z).trans (Gm [(1008, 1005)] (.e Z Z) (.e Z Z) Z))
   ·clear h; have h := b65; refine W.cnd Z h (fun q66 h => ?_) (fun q66 h => ?_)
    ·obtain ⟨t67, b68, h⟩ := bnd1 h; refine W.pk (.V Z (O.ldN ty114 Z Z Z) (.C (.tup [.agg (lombardref09_Reader.av t67.1), .agg (api_Basket.av t67.2)]) [] 0 (lombardref10_basket.ok b68) ca83 Z (cC (.agg _ _ _ _ (cI (cI (cI .nil)))) .nil) Z ?_)); refine .M Z ?_; (iterate 2 refine .V Z (OpL.extract Z Z Z) ?_); refine .S ty114 Z [.s t67.1.S, .i t67.1.At, .i t67.1.E] Z (.F fld35_4 Z (.S ty27 Z (.i x1.Kind :: .i o11.2.2.2.1 :: .s o11.2.2.2.2 :: .s o36.2.2.2.1 :: .i o36.2.2.2.2.1 :: .i o36.2.2.2.2.2.1 :: .i o36.2.2.2.2.2.2.1 :: .s o36.2.2.2.2.2.2.2 :: api_Basket.av t67.2 ++ (.imm (.val (.slice none 0 0)) :: List.take 13 (List.drop 19 (lombardref10_Msg.av x1)) ++ (.imm (.val (.slice none 0 0)) :: .i x1.Trade :: .b x1.Done :: [.i x1.Rate]))) Z (.nil ?_))); cases h; exact toN (Gm [] (.e Z Z) (.e Z Z) Z)
    ·refine W.skip ?_; cases h; exact toN (Gm [] (.e Z Z) (.r Z Z Z (.c Z (.box (.cons (.rfl _) (.cons (.rfl _) (.cons (.rfl _) (.cons (.rfl _) (.cons (.rfl _) (.cons (.rfl _) (.cons (.rfl _) (.cons (.rfl _) (.cons (.rfl _) (.cons (.rfl _) (.cons (.rfl _) (.cons (.rfl _) (.cons (.rfl _) (.cons (.rfl _) (.cons (.nil _) (.cons (.rfl _) (.cons (.rfl _) (.cons (.nil _) (.cons (.rfl _) (.cons (.rfl _) (.cons (.rfl _) (.cons (.rfl _) (.cons (.rfl _) (.cons (.rfl _) (.cons (.rfl _) (.cons (.rfl _) (.cons (.rfl _) (.cons (.rfl _) (.cons (.rfl _) (.cons (.rfl _) (.cons (.rfl _) (.cons (.rfl _) (.cons (.rfl _) (.cons (.rfl _) (.cons (.rfl _) (.cons (.rfl _) .nil))))))))))))))))))))))))))))))))))))) Z Z (.r Z Z Z (.r Z Z Z .n)))) Z)
  ·clear h; have h := b37; refine W.cnd Z h (fun q38 h => ?_) (fun q38 h => ?_)
   ·refine W.seq ?_; obtain ⟨t39, b40, h⟩ := bnd1 h; refine W.pk (.V Z (O.ldN ty114 Z Z Z) (.C (.tup [.agg (lombardref09_Reader.av t39.1), .s t39.2]) [] 0 (lombardref09_Reader_Text.ok b40) ca81 Z (cC (.agg _ _ _ _ (cI (cI (cI .nil)))) (cI .nil)) Z ?_)); refine .M Z ?_; (iterate 2 refine .V Z (OpL.extract Z Z Z) ?_); refine .S ty114 Z [.s t39.1.S, .i t39.1.At, .i t39.1.E] Z (.F fld35_3 Z (.F fld23_0 Z (.S ty9 Z (.i x1.Kind :: .i o11.2.2.2.1 :: .s o11.2.2.2.2 :: .s t39.2 :: List.take 10 (List.drop 4 (lombardref10_Msg.av x1)) ++ (.imm (.val (.slice none 0 0)) :: .i x1.Basket.Issuer :: .i x1.Basket.Asset :: .imm (.val (.slice none 0 0)) :: .imm (.val (.slice none 0 0)) :: List.take 13 (List.drop 19 (lombardref10_Msg.av x1)) ++ (.imm (.val (.slice none 0 0)) :: .i x1.Trade :: .b x1.Done :: [.i x1.Rate]))) Z (.nil (W.seq ?_))))); obtain ⟨t41, b42, h⟩ := bnd1 h; refine W.pk (.V Z (O.ldN ty114 Z Z Z) (.C (.tup [.agg (lombardref09_Reader.av t41.1), .own 1004]) [(1004, some (.rows 3 1 (List.map (encI .i64) t41.2) false))] 1 (lombardref10_nums.ok b42) ca82 Z (cC (.agg _ _ _ _ (cI (cI (cI .nil)))) (cI .nil)) Z ?_)); refine .M Z ?_; (iterate 2 refine .V Z (OpL.extract Z Z Z) ?_); refine .S ty114 Z [.s t41.1.S, .i t41.1.At, .i t41.1.E] Z (.A Z (.nil (W.seq ?_))); obtain ⟨c43, h⟩ := chk h; obtain ⟨c44, h⟩ := chk h; obtain ⟨c45, h⟩ := chk h; refine W.dk (unm 18 [0, 1, 3, 0, 8, 24, 0, 64, 192, 7, 519, 1543, 3647, 7743, 15935, 32767, 65535, 131071]) Z (by kernel_rfl) ?_; refine .M Z (.V Z (O.idxO sl25 c43 Z Z Z Z) (.V Z (O.ldE (c := (.val (.int .i64 (nth t41.2 0)))) ty3 c43 Z Z Z Z Z) (.M Z (.V Z (O.idxO sl25 c44 Z Z Z Z) (.V Z (O.ldE (c := (.val (.int .i64 (nth t41.2 1)))) ty3 c44 Z Z Z Z Z) (.M Z (.V Z (O.idxO sl25 c45 Z Z Z Z) (.V Z (O.ldE (c := (.val (.int .i64 (nth t41.2 2)))) ty3 c45 Z Z Z Z Z) (.F fld35_3 Z (.F fld23_1 Z (.S ty3 Z (.i x1.Kind :: .i o11.2.2.2.1 :: .s o11.2.2.2.2 :: .s t39.2 :: .i (nth t41.2 0) :: List.take 9 (List.drop 5 (lombardref10_Msg.av x1)) ++ (.imm (.val (.slice none 0 0)) :: .i x1.Basket.Issuer :: .i x1.Basket.Asset :: .imm (.val (.slice none 0 0)) :: .imm (.val (.slice none 0 0)) :: List.take 13 (List.drop 19 (lombardref10_Msg.av x1)) ++ (.imm (.val (.slice none 0 0)) :: .i x1.Trade :: .b x1.Done :: [.i x1.Rate]))) Z ?_))))))))))); refine .F fld35_3 Z (.F fld23_2 Z (.S ty3 Z (.i x1.Kind :: .i o11.2.2.2.1 :: .s o11.2.2.2.2 :: .s t39.2 :: .i (nth t41.2 0) :: .i (nth t41.2 1) :: List.take 8 (List.drop 6 (lombardref10_Msg.av x1)) ++ (.imm (.val (.slice none 0 0)) :: .i x1.Basket.Issuer :: .i x1.Basket.Asset :: .imm (.val (.slice none 0 0)) :: .imm (.val (.slice none 0 0)) :: List.take 13 (List.drop 19 (lombardref10_Msg.av x1)) ++ (.imm (.val (.slice none 0 0)) :: .i x1.Trade :: .b x1.Done :: [.i x1.Rate]))) Z (.F fld35_3 Z (.F fld23_3 Z (.S ty3 Z (.i x1.Kind :: .i o11.2.2.2.1 :: .s o11.2.2.2.2 :: .s t39.2 :: .i (nth t41.2 0) :: .i (nth t41.2 1) :: .i (nth t41.2 2) :: List.take 7 (List.drop 7 (lombardref10_Msg.av x1)) ++ (.imm (.val (.slice none 0 0)) :: .i x1.Basket.Issuer :: .i x1.Basket.Asset :: .imm (.val (.slice none 0 0)) :: .imm (.val (.slice none 0 0)) :: List.take 13 (List.drop 19 (lombardref10_Msg.av x1)) ++ (.imm (.val (.slice none 0 0)) :: .i x1.Trade :: .b x1.Done :: [.i x1.Rate]))) Z (.nil ?_)))))); refine ⟨by kernel_rfl, by kernel_rfl, ?_⟩; obtain ⟨t46, b47, h⟩ := bnd1 h; refine W.pk (.V Z (O.ldN ty114 Z Z Z) (.C (.tup [.agg (lombardref09_Reader.av t46.1), .s t46.2]) [] 0 (lombardref09_Reader_Text.ok b47) ca81 Z (cC (.agg _ _ _ _ (cI (cI (cI .nil)))) (cI .nil)) Z ?_)); refine .M Z ?_; (iterate 2 refine .V Z (OpL.extract Z Z Z) ?_); refine .S ty114 Z [.s t46.1.S, .i t46.1.At, .i t46.1.E] Z (.F fld35_3 Z (.F fld23_4 Z (.S ty9 Z (.i x1.Kind :: .i o11.2.2.2.1 :: .s o11.2.2.2.2 :: .s t39.2 :: .i (nth t41.2 0) :: .i (nth t41.2 1) :: .i (nth t41.2 2) :: .s t46.2 :: List.take 6 (api_Basket.av x1.Basket) ++ (.imm (.val (.slice none 0 0)) :: .i x1.Basket.Issuer :: .i x1.Basket.Asset :: .imm (.val (.slice none 0 0)) :: .imm (.val (.slice none 0 0)) :: List.take 13 (List.drop 19 (lombardref10_Msg.av x1)) ++ (.imm (.val (.slice none 0 0)) :: .i x1.Trade :: .b x1.Done :: [.i x1.Rate]))) Z (.nil ?_)))); cases h; exact toN (Gm [] (.e Z Z) (.e Z Z) Z)
   ·refine W.skip ?_; cases h; exact toN (Gm [] (.e Z Z) (.e Z Z) Z)
 ·clear h; have h := b12; refine W.cnd Z h (fun q13 h => ?_) (fun q13 h => ?_)
  ·refine W.seq ?_; obtain ⟨t14, b15, h⟩ := bnd1 h; refine W.pk (.V Z (O.ldN ty114 Z Z Z) (.C (.tup [.agg (lombardref09_Reader.av t14.1), .i t14.2]) [] 0 (lombardref09_Reader_Int.ok b15) ca35 Z (cC (.agg _ _ _ _ (cI (cI (cI .nil)))) .nil) Z ?_)); refine .M Z ?_; (iterate 2 refine .V Z (OpL.extract Z Z Z) ?_); refine .S ty114 Z [.s t14.1.S, .i t14.1.At, .i t14.1.E] Z (.F fld35_1 Z (.S ty3 Z (.i x1.Kind :: .i t14.2 :: List.take 12 (List.drop 2 (lombardref10_Msg.av x1)) ++ (.imm (.val (.slice none 0 0)) :: .i x1.Basket.Issuer :: .i x1.Basket.Asset :: .imm (.val (.slice none 0 0)) :: .imm (.val (.slice none 0 0)) :: List.take 13 (List.drop 19 (lombardref10_Msg.av x1)) ++ (.imm (.val (.slice none 0 0)) :: .i x1.Trade :: .b x1.Done :: [.i x1.Rate]))) Z (.nil ?_))); obtain ⟨t16, b17, h⟩ := bnd1 h; refine W.pk (.V Z (O.ldN ty114 Z Z Z) (.C (.tup [.agg (lombardref09_Reader.av t16.1), .s t16.2]) [] 0 (lombardref09_Reader_Text.ok b17) ca81 Z (cC (.agg _ _ _ _ (cI (cI (cI .nil)))) (cI .nil)) Z ?_)); refine .M Z ?_; (iterate 2 refine .V Z (OpL.extract Z Z Z) ?_); refine .S ty114 Z [.s t16.1.S, .i t16.1.At, .i t16.1.E] Z (.F fld35_2 Z (.S ty9 Z (.i x1.Kind :: .i t14.2 :: .s t16.2 :: List.take 11 (List.drop 3 (lombardref10_Msg.av x1)) ++ (.imm (.val (.slice none 0 0)) :: .i x1.Basket.Issuer :: .i x1.Basket.Asset :: .imm (.val (.slice none 0 0)) :: .imm (.val (.slice none 0 0)) :: List.take 13 (List.drop 19 (lombardref10_Msg.av x1)) ++ (.imm (.val (.slice none 0 0)) :: .i x1.Trade :: .b x1.Done :: [.i x1.Rate]))) Z (.nil ?_))); cases h; exact toN (Gm [] (.e Z Z) (.e Z Z) Z)
  ·refine W.skip ?_; cases h; exact toN (Gm [] (.e Z Z) (.e Z Z) Z)
noncomputable def lombardref09_Reader_End.f (x0 : lombardref09_Reader) : Option (lombardref09_Reader × Bool) :=
 if (decide (x0.At < (List.length x0.S : Int))) = true then
 (lombardref09_Reader_fail.f x0 16).bind fun t2 =>
 some (t2, (t2.E == 0))
 else some (x0, (x0.E == 0))
theorem lombardref09_Reader_End.ok {x0 : lombardref09_Reader} {r : lombardref09_Reader × Bool} (h : lombardref09_Reader_End.f x0 = some r) : Pm.Spec prog 37 [.agg (im (lombardref09_Reader.enc x0))] (.tup [.agg (im (lombardref09_Reader.enc r.1)), .imm (.val (.bool r.2))]) [none] := by
 unfold lombardref09_Reader_End.f at h; refine Pm.Spec.of_body Tryz.func37 Z (by kernel_rfl) (L Z) (L Z) ?_; refine W.ghost (σ' := (mkSt [(0, some (.agg (lombardref09_Reader.av x0)))] [] 1000)) (Gives.entry (.c Z .n) .n) (W.seq (W.pk (.t Z Z (O.box Z Z Z Z Z) (.t Z Z (O.alloc z114 Z) (.A Z (.nil (W.seq (W.seq (W.pk (.F fld114_1 Z (.V Z (O.ld (y := .i x0.At) ty3 Z Z Z) ?_))))))))))); refine .F fld114_0 Z (.V Z (O.ld (y := .s x0.S) ty9 Z Z Z) (.V Z (O.lenS u9 Z Z) (.B Z (.nil (W.cnd Z h (fun q1 h => ?_) (fun q1 h => ?_))))))
 ·obtain ⟨t2, b3, h⟩ := bnd1 h; refine W.pk (.V Z (O.ldN ty114 Z Z Z) (.C (.agg (lombardref09_Reader.av t2)) [] 0 (lombardref09_Reader_fail.ok b3) ca87 Z (cC (.agg _ _ _ _ (cI (cI (cI .nil)))) (cI .nil)) Z ?_)); refine .S ty114 Z [.s t2.S, .i t2.At, .i t2.E] Z (.nil (W.seq (W.dk (unm 6 [0, 0, 2, 6, 1, 31]) Z (by kernel_rfl) ?_))); refine .V Z (O.ldN ty114 Z Z Z) (.F fld114_2 Z (.V Z (O.ld (y := .i t2.E) ty3 Z Z Z) (.B Z (.S ty114 Z [.s t2.S, .i t2.At, .i t2.E] Z (.A Z (.nil ?_)))))); refine ⟨by kernel_rfl, by kernel_rfl, ?_⟩; refine W.ret ?_; cases h; exact leaves (.inr Z) Z (.tup _ _ _ _ (cC (.agg _ _ _ _ (cI (cI (cI .nil)))) (cI .nil))) (cN .nil) Z Z
 ·refine W.skip (W.seq (W.dk (unm 6 [0, 0, 2, 6, 1, 31]) Z (by kernel_rfl) ?_)); refine .V Z (O.ldN ty114 Z Z Z) (.F fld114_2 Z (.V Z (O.ld (y := .i x0.E) ty3 Z Z Z) (.B Z (.S ty114 Z [.s x0.S, .i x0.At, .i x0.E] Z (.A Z (.nil ?_)))))); refine ⟨by kernel_rfl, by kernel_rfl, ?_⟩; refine W.ret ?_; cases h; exact leaves (.inr Z) Z (.tup _ _ _ _ (cC (.agg _ _ _ _ (cI (cI (cI .nil)))) (cI .nil))) (cN .nil) Z Z
noncomputable def lombardref05_digits.b0 (x0 : Bs) (v18 : Int) (v19 : List Int) : Option ((Int × (List Int)) ⊕ (((List Int) × Bool) ⊕ (List Int))) :=
 if (decide (v18 < (List.length x0 : Int))) = true then
 if (0 : Int) ≤ v18 ∧ v18 < (List.length x0 : Int) then
 if ((decide ((IntKind.wrap .i64 (byte x0 v18)) ≥ 48)) && (decide ((IntKind.wrap .i64 (byte x0 v18)) ≤ 57))) = true then
 if (List.length v19 + List.length [(IntKind.wrap .i64 ((IntKind.wrap .i64 (byte x0 v18)) - 48))]) * 8 ≤ 140737488355328 then
 some (.inl ((IntKind.wrap .i64 (v18 + 1)), (v19 ++ [(IntKind.wrap .i64 ((IntKind.wrap .i64 (byte x0 v18)) - 48))])))
 else none
 else if ((decide ((IntKind.wrap .i64 (byte x0 v18)) ≥ 65)) && (decide ((IntKind.wrap .i64 (byte x0 v18)) ≤ 90))) = true then
 if (List.length v19 + List.length [(IntKind.wrap .i64 (Int.tdiv (IntKind.wrap .i64 ((IntKind.wrap .i64 ((IntKind.wrap .i64 (byte x0 v18)) - 65)) + 10)) 10)), (Int.tmod (IntKind.wrap .i64 ((IntKind.wrap .i64 ((IntKind.wrap .i64 (byte x0 v18)) - 65)) + 10)) 10)]) * 8 ≤ 140737488355328 then
 some (.inl ((IntKind.wrap .i64 (v18 + 1)), (v19 ++ [(IntKind.wrap .i64 (Int.tdiv (IntKind.wrap .i64 ((IntKind.wrap .i64 ((IntKind.wrap .i64 (byte x0 v18)) - 65)) + 10)) 10)), (Int.tmod (IntKind.wrap .i64 ((IntKind.wrap .i64 ((IntKind.wrap .i64 (byte x0 v18)) - 65)) + 10)) 10)])))
 else none
 else some (.inr (.inl ([], false)))
 else none
 else some (.inr (.inr v19))
noncomputable def lombardref05_digits.r0 (x0 : Bs) (s : Int × (List Int)) : Option ((Int × (List Int)) ⊕ (((List Int) × Bool) ⊕ (List Int))) := lombardref05_digits.b0 x0 s.1 s.2
noncomputable def lombardref05_digits.f (x0 : Bs) : Option ((List Int) × Bool) :=
 (loop (lombardref05_digits.r0 x0) (0, [])).bind fun o37 =>
 match o37 with
 | .inl r48 => some r48
 | .inr w36 =>
 some (w36, true)
theorem lombardref05_digits.ok {x0 : Bs} {r : (List Int) × Bool} (h : lombardref05_digits.f x0 = some r) : Pm.Spec prog 121 [.imm (.val (.string (tx x0)))] (.tup [.xown 3 1 (List.map (encI .i64) r.1), .imm (.val (.bool r.2))]) [none] := by
 unfold lombardref05_digits.f at h; refine Pm.Spec.of_body Tryz.func121 Z (by kernel_rfl) (L Z) (L Z) ?_; refine W.ghost (σ' := (mkSt [(0, some (.s x0))] [] 1000)) (Gives.entry (.c Z .n) .n) (W.seq (W.pk (.A Z (.A Z (.nil (W.seq (W.pk (.A Z (.nil (W.seq (W.seq ?_))))))))))); refine W.pk (.A Z (.nil (W.ghost (Gives.mintS 4 3 1 Z) ?_))); obtain ⟨o37, b38, z39⟩ := bnd1 h; refine W.fork2 (out := o37) (fun (w36 : List Int) => mkSt [(4, some (.own 1000))] [(1000, some (.rows 3 1 (List.map (encI .i64) w36) false))] 1001) ?_ ?_
 ·clear h; refine W.block (W.loopF (fun (s_ : Int × (List Int)) => mkSt [(0, some (.s x0)), (4, some (.own 1000)), (5, some (.i s_.1))] [(1000, some (.rows 3 1 (List.map (encI .i64) s_.2) false))] 1001) b38 (Gm [] (.e Z Z) (.r Z Z Z .n) Z) ?_); rintro ⟨v18, v19⟩ s_ hr; have h : lombardref05_digits.b0 x0 v18 v19 = some s_ := hr; unfold lombardref05_digits.b0 at h; refine W.seq (W.seq (W.pk (.M Z (.M Z (.V Z (O.lenS u9 Z Z) (.B Z (.nil (W.cnd Z h (fun q40 h => ?_) (fun q40 h => ?_)))))))))
  ·refine W.skip (W.seq (W.block (W.seq ?_))); obtain ⟨c41, h⟩ := chk h; refine W.pk (.M Z (.M Z (.V Z (O.idxS u9 c41 Z Z Z) (.V Z (O.conv h5 u3 Z Z) (.A Z (.nil (W.seq (W.fork (mkSt [(0, some (.s x0)), (4, some (.own 1000)), (5, some (.i v18)), (6, some (.i (IntKind.wrap .i64 (byte x0 v18)))), (22, some (.b ((decide ((IntKind.wrap .i64 (byte x0 v18)) ≥ 48)) && (decide ((IntKind.wrap .i64 (byte x0 v18)) ≤ 57)))))] [(1000, some (.rows 3 1 (List.map (encI .i64) v19) false))] 1001) ?_ ?_))))))))
   ·refine W.cnd Z h (fun q43 h => ?_) (fun q43 h => ?_)
    ·obtain ⟨c44, h⟩ := chk h; refine W.pk (.M Z (.M Z (.B Z (.t Z Z (O.lit (enc := (encI .i64)) (l := [(IntKind.wrap .i64 ((IntKind.wrap .i64 (byte x0 v18)) - 48))]) sl25 Z Z Z Z Z Z Z Z Z) (.t Z Z (O.appO sl25 (EncOk.int .i64) c44 Z Z Z Z Z) (.A Z (.nil (W.pk (.M Z (.B Z (.A Z ?_))))))))))); refine .nil ?_; cases h; exact rdN (Gm [(1000, 1002)] (.e Z Z) (.r Z Z Z .n) Z)
    ·refine W.seq (W.fork (mkSt [(0, some (.s x0)), (4, some (.own 1000)), (5, some (.i v18)), (6, some (.i (IntKind.wrap .i64 (byte x0 v18)))), (33, some (.b ((decide ((IntKind.wrap .i64 (byte x0 v18)) ≥ 65)) && (decide ((IntKind.wrap .i64 (byte x0 v18)) ≤ 90)))))] [(1000, some (.rows 3 1 (List.map (encI .i64) v19) false))] 1001) ?_ ?_)
     ·refine W.cnd Z h (fun q46 h => ?_) (fun q46 h => ?_)
      ·obtain ⟨c47, h⟩ := chk h; refine W.pk (.M Z (.M Z (.B Z (.B Z (.V Z (O.quo Z Z Z (by decide)) ?_))))); refine .M Z (.B Z (.B Z (.V Z (O.rem Z Z Z (by decide)) ?_))); refine .t Z Z (O.lit (enc := (encI .i64)) (l := [(IntKind.wrap .i64 (Int.tdiv (IntKind.wrap .i64 ((IntKind.wrap .i64 ((IntKind.wrap .i64 (byte x0 v18)) - 65)) + 10)) 10)), (Int.tmod (IntKind.wrap .i64 ((IntKind.wrap .i64 ((IntKind.wrap .i64 (byte x0 v18)) - 65)) + 10)) 10)]) sl25 Z Z Z Z Z Z Z Z Z) (.t Z Z (O.appO sl25 (EncOk.int .i64) c47 Z Z Z Z Z) (.A Z (.nil (W.pk (.M Z (.B Z (.A Z (.nil ?_)))))))); cases h; exact rdN (Gm [(1000, 1002)] (.e Z Z) (.r Z Z Z .n) Z)
      ·refine W.seq (W.pk (.A Z (.A Z (.nil (W.ret ?_))))); cases h; refine rdR fun e_ => ?_; subst e_; have h := z39; dsimp only at h; refine fkR ?_; cases h; exact leaves (.inr Z) Z (.tup _ _ _ _ (cC (.nilown _ _) (cI .nil))) (cN .nil) Z Z
     ·clear h; refine W.pk (.M Z (.B Z (.M Z ?_))); rcases tf (decide ((IntKind.wrap .i64 (byte x0 v18)) ≥ 65)) with g45 | g45
      ·exact .N Z g45 (.G Z g45 Z (.T g45 Z (.nil (toN (Gm [] (.r Z Z (.r Z Z (.r Z Z (.r Z Z (.c Z (sbb (by simp only [g45, BL])) Z .n))))) (.r Z Z Z .n) Z)))))
      ·exact .X Z g45 (.X Z g45 (.E g45 Z (.nil (toN (Gm [] (.r Z Z (.r Z Z (.r Z Z (.r Z Z (.c Z (sbb (by simp only [g45, BL])) Z .n))))) (.r Z Z Z .n) Z)))))
   ·clear h; refine W.pk (.M Z (.B Z (.M Z ?_))); rcases tf (decide ((IntKind.wrap .i64 (byte x0 v18)) ≥ 48)) with g42 | g42
    ·exact .N Z g42 (.G Z g42 Z (.T g42 Z (.nil (toN (Gm [] (.r Z Z (.r Z Z (.r Z Z (.r Z Z (.c Z (sbb (by simp only [g42, BL])) Z .n))))) (.r Z Z Z .n) Z)))))
    ·exact .X Z g42 (.X Z g42 (.E g42 Z (.nil (toN (Gm [] (.r Z Z (.r Z Z (.r Z Z (.r Z Z (.c Z (sbb (by simp only [g42, BL])) Z .n))))) (.r Z Z Z .n) Z)))))
  ·refine W.exit ?_; cases h; refine rdX fun e_ => ?_; subst e_; (repeat with_reducible refine thru ?_); exact hit (fkN (Gm [] (.r Z Z .n) (.r Z Z Z .n) Z))
 ·intro w36 e_; subst e_; clear h; have h := z39; dsimp only at h; refine W.seq (W.pk (.M Z (.A Z (.A Z (.nil (W.ret ?_)))))); cases h; exact leaves (.inr Z) Z (.tup _ _ _ _ (cC (.own _ _ _ _ Z) (cI .nil))) (cN .nil) Z Z
noncomputable def lombardref05_shaped.f (x0 : Bs) : Option (Bool) :=
 (lombardref05_digits.f x0).bind fun t1 =>
 if ((t1.2 && ((List.length x0 : Int) == 11)) = true → (0 : Int) ≤ 0 ∧ 0 < (List.length x0 : Int)) then
 if (((t1.2 && ((List.length x0 : Int) == 11)) && (decide ((byte x0 0) ≥ 65))) = true → (0 : Int) ≤ 1 ∧ 1 < (List.length x0 : Int)) then
 some (((t1.2 && ((List.length x0 : Int) == 11)) && (decide ((byte x0 0) ≥ 65))) && (decide ((byte x0 1) ≥ 65)))
 else none
 else none
theorem lombardref05_shaped.ok {x0 : Bs} {r : Bool} (h : lombardref05_shaped.f x0 = some r) : Pm.Spec prog 113 [.imm (.val (.string (tx x0)))] (.imm (.val (.bool r))) [none] := by
 unfold lombardref05_shaped.f at h; refine Pm.Spec.of_body Tryz.func113 Z (by kernel_rfl) (L Z) (L Z) ?_; refine W.ghost (σ' := (mkSt [(0, some (.s x0))] [] 1000)) (Gives.entry (.c Z .n) .n) (W.seq (W.pk (.A Z (.nil (W.seq ?_))))); obtain ⟨t1, b2, h⟩ := bnd1 h; refine W.pk (.M Z (.C (.tup [.own 1000, .b t1.2]) [(1000, some (.rows 3 1 (List.map (encI .i64) t1.1) false))] 1 (lombardref05_digits.ok b2) ca121 Z (cI .nil) Z ?_)); refine .M Z ?_; (iterate 2 refine .V Z (OpL.extract Z Z Z) ?_); refine .A Z (.A Z (.nil (W.seq ?_))); obtain ⟨c3, h⟩ := chk h; obtain ⟨c4, h⟩ := chk h; refine W.fork (mkSt [(2, some (.b (((t1.2 && ((List.length x0 : Int) == 11)) && (decide ((byte x0 0) ≥ 65))) && (decide ((byte x0 1) ≥ 65)))))] [] 1001) ?_ ?_
 ·refine W.ret ?_; cases h; exact lv Z Z
 ·clear h; refine W.pk (.M Z (.M Z ?_)); rcases tf t1.2 with g5 | g5
  ·refine .N Z g5 (.U Z g5 (O.lenS u9 Z Z) (.G Z g5 Z (.T g5 Z (.M Z ?_)))); rcases tf ((List.length x0 : Int) == 11) with g6 | g6
   ·refine .N Z g6 (.U Z g6 (O.idxS u9 (c3 (by simp only [g5, g6, BL])) Z Z Z) ?_); refine .G Z g6 Z (.T g6 Z (.M Z ?_)); rcases tf (decide ((byte x0 0) ≥ 65)) with g7 | g7
    ·refine .N Z g7 (.U Z g7 (O.idxS u9 (c4 (by simp only [g5, g6, g7, BL])) Z Z Z) ?_); exact .G Z g7 Z (.T g7 Z (.A Z (.nil (toN (Gm [] (.c Z (sbb (by simp only [g5, g6, g7, BL])) Z .n) .n Z)))))
    ·exact .X Z g7 (.X Z g7 (.X Z g7 (.E g7 Z (.A Z (.nil (toN (Gm [] (.c Z (sbb (by simp only [g5, g6, g7, BL])) Z .n) .n Z)))))))
   ·exact .X Z g6 (.X Z g6 (.X Z g6 (.E g6 Z (.M Z (.X Z Z (.X Z Z (.X Z Z (.E Z Z (.A Z (.nil (toN (Gm [] (.c Z (sbb (by simp only [g5, g6, BL])) Z .n) .n Z))))))))))))
  ·refine .X Z g5 (.X Z g5 (.X Z g5 (.E g5 Z (.M Z (.X Z Z (.X Z Z (.X Z Z (.E Z Z (.M Z (.X Z Z (.X Z Z ?_))))))))))); exact .X Z Z (.E Z Z (.A Z (.nil (toN (Gm [] (.c Z (sbb (by simp only [g5, BL])) Z .n) .n Z)))))
noncomputable def lombardref05_right.b0 (t1 : (List Int) × Bool) (v10 : Int) (v11 : Int) : Option ((Int × Int) ⊕ Int) :=
 if (decide (v11 < (List.length t1.1 : Int))) = true then
 if (0 : Int) ≤ (IntKind.wrap .i64 ((IntKind.wrap .i64 ((List.length t1.1 : Int) - 1)) - v11)) ∧ (IntKind.wrap .i64 ((IntKind.wrap .i64 ((List.length t1.1 : Int) - 1)) - v11)) < (List.length t1.1 : Int) then
 ((
 if ((Int.tmod v11 2) == 1) = true then
 some (IntKind.wrap .i64 (2 * (nth t1.1 (IntKind.wrap .i64 ((IntKind.wrap .i64 ((List.length t1.1 : Int) - 1)) - v11)))))
 else some (nth t1.1 (IntKind.wrap .i64 ((IntKind.wrap .i64 ((List.length t1.1 : Int) - 1)) - v11))) : Option (Int))).bind fun o34 =>
 some (.inl ((IntKind.wrap .i64 ((IntKind.wrap .i64 (v10 + (IntKind.wrap .i64 (Int.tdiv o34 10)))) + (Int.tmod o34 10))), (IntKind.wrap .i64 (v11 + 1))))
 else none
 else some (.inr v10)
noncomputable def lombardref05_right.r0 (t1 : (List Int) × Bool) (s : Int × Int) : Option ((Int × Int) ⊕ Int) := lombardref05_right.b0 t1 s.1 s.2
noncomputable def lombardref05_right.f (x0 : Bs) : Option (Bool) :=
 (lombardref05_digits.f x0).bind fun t1 =>
 (loop (lombardref05_right.r0 t1) (0, 0)).bind fun o27 =>
 some (t1.2 && ((Int.tmod o27 10) == 0))
theorem lombardref05_right.ok {x0 : Bs} {r : Bool} (h : lombardref05_right.f x0 = some r) : Pm.Spec prog 114 [.imm (.val (.string (tx x0)))] (.imm (.val (.bool r))) [none] := by
 unfold lombardref05_right.f at h; refine Pm.Spec.of_body Tryz.func114 Z (by kernel_rfl) (L Z) (L Z) ?_; refine W.ghost (σ' := (mkSt [(0, some (.s x0))] [] 1000)) (Gives.entry (.c Z .n) .n) (W.seq (W.pk (.A Z (.nil (W.seq ?_))))); obtain ⟨t1, b2, h⟩ := bnd1 h; refine W.pk (.M Z (.C (.tup [.own 1000, .b t1.2]) [(1000, some (.rows 3 1 (List.map (encI .i64) t1.1) false))] 1 (lombardref05_digits.ok b2) ca121 Z (cI .nil) Z ?_)); refine .M Z ?_; (iterate 2 refine .V Z (OpL.extract Z Z Z) ?_); refine .A Z (.A Z (.nil (W.seq (W.pk (.A Z (.nil (W.seq (W.seq (W.pk (.A Z (.nil ?_))))))))))); obtain ⟨o27, b28, h⟩ := bnd1 h; refine W.fork (mkSt [(4, some (.b t1.2)), (5, some (.i o27))] [] 1001) ?_ ?_
 ·refine W.seq (W.fork (mkSt [(2, some (.b (t1.2 && ((Int.tmod o27 10) == 0))))] [] 1001) ?_ ?_)
  ·refine W.ret ?_; cases h; exact lv Z Z
  ·clear h; refine W.pk (.M Z (.M Z ?_)); rcases tf t1.2 with g37 | g37
   ·refine .N Z g37 (.U Z g37 (O.rem Z Z Z (by decide)) ?_); exact .G Z g37 Z (.T g37 Z (.A Z (.nil (toN (Gm [] (.c Z (sbb (by simp only [g37, BL])) Z .n) .n Z)))))
   ·(iterate 3 refine .X Z g37 ?_); exact .E g37 Z (.A Z (.nil (toN (Gm [] (.c Z (sbb (by simp only [g37, BL])) Z .n) .n Z))))
 ·clear h; refine W.block (W.loopF (fun (s_ : Int × Int) => mkSt [(3, some (.own 1000)), (4, some (.b t1.2)), (5, some (.i s_.1)), (6, some (.i s_.2))] [(1000, some (.rows 3 1 (List.map (encI .i64) t1.1) false))] 1001) b28 (Gm [] (.e Z Z) (.r Z Z Z .n) Z) ?_); rintro ⟨v10, v11⟩ s_ hr; have h : lombardref05_right.b0 t1 v10 v11 = some s_ := hr; unfold lombardref05_right.b0 at h; refine W.seq (W.seq (W.pk (.M Z (.M Z (.V Z (O.lenO sl25 Z Z Z) (.B Z (.nil (W.cnd Z h (fun q30 h => ?_) (fun q30 h => ?_)))))))))
  ·refine W.skip (W.seq (W.block (W.seq ?_))); obtain ⟨c31, h⟩ := chk h; refine W.pk (.M Z (.M Z (.V Z (O.lenO sl25 Z Z Z) (.B Z (.M Z (.B Z (.V Z (O.idxO sl25 c31 Z Z Z Z) (.V Z (O.ldE (c := (.val (.int .i64 (nth t1.1 (IntKind.wrap .i64 ((IntKind.wrap .i64 ((List.length t1.1 : Int) - 1)) - v11)))))) ty3 c31 Z Z Z Z Z) (.A Z (.nil (W.seq ?_))))))))))); refine W.seq (W.pk (.M Z (.V Z (O.rem Z Z Z (by decide)) ?_))); refine .B Z (.nil ?_); obtain ⟨o34, b35, h⟩ := bnd1 h; refine W.fork (mkSt [(3, some (.own 1000)), (4, some (.b t1.2)), (5, some (.i v10)), (6, some (.i v11)), (7, some (.i o34))] [(1000, some (.rows 3 1 (List.map (encI .i64) t1.1) false))] 1001) ?_ ?_
   ·refine W.pk (.M Z (.M Z (.V Z (O.quo Z Z Z (by decide)) ?_))); refine .B Z (.M Z (.V Z (O.rem Z Z Z (by decide)) ?_)); refine .B Z (.A Z (.nil (W.pk (.M Z (.B Z (.A Z (.nil ?_))))))); cases h; exact rdN (Gm [] (.e Z Z) (.r Z Z Z .n) Z)
   ·clear h; have h := b35; refine W.cnd Z h (fun q36 h => ?_) (fun q36 h => ?_)
    ·refine W.pk (.M Z (.B Z (.A Z (.nil ?_)))); cases h; exact toN (Gm [] (.e Z Z) (.r Z Z Z .n) Z)
    ·refine W.skip ?_; cases h; exact toN (Gm [] (.e Z Z) (.r Z Z Z .n) Z)
  ·refine W.exit ?_; cases h; refine rdX fun e_ => ?_; subst e_; (repeat with_reducible refine thru ?_); exact hit (toN (Gm [] (.e Z Z) .n Z))
noncomputable def lombardref05_Check.f (x0 : Bs) : Option (Int) :=
 if (((List.length x0 : Int) != 12) = false → (0 : Int) ≤ 11 ∧ 11 < (List.length x0 : Int)) then
 if ((((List.length x0 : Int) != 12) || (decide ((byte x0 11) < 48))) = false → (0 : Int) ≤ 11 ∧ 11 < (List.length x0 : Int)) then
 if (((((List.length x0 : Int) != 12) || (decide ((byte x0 11) < 48))) || (decide ((byte x0 11) > 57))) = false → (0 : Int) ≤ 0 ∧ (0 : Int) ≤ 11 ∧ 11 ≤ (List.length x0 : Int)) then
 (if ((((List.length x0 : Int) != 12) || (decide ((byte x0 11) < 48))) || (decide ((byte x0 11) > 57))) = false then lombardref05_shaped.f (List.take (Int.toNat 11 - Int.toNat 0) (List.drop (Int.toNat 0) x0)) else some default).bind fun t4 =>
 if (((((List.length x0 : Int) != 12) || (decide ((byte x0 11) < 48))) || (decide ((byte x0 11) > 57))) || (!t4)) = true then
 some 11
 else (lombardref05_right.f x0).bind fun t10 =>
 if (!t10) = true then
 some 12
 else some 0
 else none
 else none
 else none
theorem lombardref05_Check.ok {x0 : Bs} {r : Int} (h : lombardref05_Check.f x0 = some r) : Pm.Spec prog 96 [.imm (.val (.string (tx x0)))] (.imm (.val (.int .i64 r))) [none] := by
 unfold lombardref05_Check.f at h; refine Pm.Spec.of_body Tryz.func96 Z (by kernel_rfl) (L Z) (L Z) ?_; refine W.ghost (σ' := (mkSt [(0, some (.s x0))] [] 1000)) (Gives.entry (.c Z .n) .n) (W.seq (W.pk (.A Z (.nil (W.seq (W.seq ?_)))))); obtain ⟨c1, h⟩ := chk h; obtain ⟨c2, h⟩ := chk h; obtain ⟨c3, h⟩ := chk h; obtain ⟨t4, b5, h⟩ := bnd1 h; refine W.fork (mkSt [(0, some (.s x0)), (21, some (.b (((((List.length x0 : Int) != 12) || (decide ((byte x0 11) < 48))) || (decide ((byte x0 11) > 57))) || (!t4))))] [] 1000) ?_ ?_
 ·refine W.cnd Z h (fun q9 h => ?_) (fun q9 h => ?_)
  ·refine W.seq (W.pk (.A Z (.nil (W.ret ?_)))); cases h; exact lv Z Z
  ·refine W.skip (W.seq (W.seq ?_)); obtain ⟨t10, b11, h⟩ := bnd1 h; refine W.pk (.M Z (.C (.b t10) [] 0 (lombardref05_right.ok b11) ca114 Z (cI .nil) Z ?_)); refine .V Z (OpL.unV Z Z Z) (.nil (W.cnd Z h (fun q12 h => ?_) (fun q12 h => ?_)))
   ·refine W.seq (W.pk (.A Z (.nil (W.ret ?_)))); cases h; exact lv Z Z
   ·refine W.skip (W.seq (W.pk (.A Z (.nil (W.ret ?_))))); cases h; exact lv Z Z
 ·clear h; refine W.pk (.M Z (.V Z (O.lenS u9 Z Z) (.B Z (.M Z ?_)))); rcases tf ((List.length x0 : Int) != 12) with g6 | g6
  ·refine .X Z g6 (.X Z g6 (.X Z g6 (.T g6 Z (.M Z (.X Z Z (.X Z Z (.X Z Z (.T Z Z (.M Z ?_))))))))); (iterate 4 refine .X Z Z ?_); exact .T Z Z (.nil (toN (Gm [] (.r Z Z (.c Z (sbb (by simp only [g6, BL])) Z .n)) .n Z)))
  ·refine .N Z g6 (.U Z g6 (O.idxS u9 (c1 (by simp only [g6, BL])) Z Z Z) ?_); refine .G Z g6 Z (.E g6 Z (.M Z ?_)); rcases tf (decide ((byte x0 11) < 48)) with g7 | g7
   ·refine .X Z g7 (.X Z g7 (.X Z g7 (.T g7 Z (.M Z ?_)))); (iterate 4 refine .X Z Z ?_); exact .T Z Z (.nil (toN (Gm [] (.r Z Z (.c Z (sbb (by simp only [g6, g7, BL])) Z .n)) .n Z)))
   ·refine .N Z g7 (.U Z g7 (O.idxS u9 (c2 (by simp only [g6, g7, BL])) Z Z Z) ?_); refine .G Z g7 Z (.E g7 Z (.M Z ?_)); rcases tf (decide ((byte x0 11) > 57)) with g8 | g8
    ·(iterate 4 refine .X Z g8 ?_); exact .T g8 Z (.nil (toN (Gm [] (.r Z Z (.c Z (sbb (by simp only [g6, g7, g8, BL])) Z .n)) .n Z)))
    ·refine .N Z g8 (.U Z g8 (O.partS u9 (c3 (by simp only [g6, g7, g8, BL])) Z Z Z Z) ?_); refine .call (.b t4) [] 0 (lombardref05_shaped.ok ((if_pos (by simp only [g6, g7, g8, BL])).symm.trans b5)) Z (met Z Z Z g8) Z ca113 Z Z (cI .nil) Z Z Z Z Z ?_; exact .U Z g8 (OpL.unV Z Z Z) (.E g8 Z (.nil (toN (Gm [] (.r Z Z (.c Z (sbb (by simp only [g6, g7, g8, BL])) Z .n)) .n Z))))
noncomputable def lombardref05_Currency.b0 (x0 : Bs) (v4 : Int) : Option (Int ⊕ (Bool ⊕ Unit)) :=
 if (decide (v4 < 32)) = true then
 if (0 : Int) ≤ v4 ∧ v4 ≤ (IntKind.wrap .i64 (v4 + 3)) ∧ (IntKind.wrap .i64 (v4 + 3)) ≤ (List.length [69, 85, 82, 32, 85, 83, 68, 32, 71, 66, 80, 32, 67, 72, 70, 32, 74, 80, 89, 32, 83, 69, 75, 32, 78, 79, 75, 32, 68, 75, 75, 32] : Int) then
 if ((List.take (Int.toNat (IntKind.wrap .i64 (v4 + 3)) - Int.toNat v4) (List.drop (Int.toNat v4) [69, 85, 82, 32, 85, 83, 68, 32, 71, 66, 80, 32, 67, 72, 70, 32, 74, 80, 89, 32, 83, 69, 75, 32, 78, 79, 75, 32, 68, 75, 75, 32])) == x0) = true then
 some (.inr (.inl true))
 else some (.inl (IntKind.wrap .i64 (v4 + 4)))
 else none
 else some (.inr (.inr ()))
noncomputable def lombardref05_Currency.r0 (x0 : Bs) (s : Int) : Option (Int ⊕ (Bool ⊕ Unit)) := lombardref05_Currency.b0 x0 s
noncomputable def lombardref05_Currency.f (x0 : Bs) : Option (Bool) :=
 (loop (lombardref05_Currency.r0 x0) 0).bind fun o12 =>
 match o12 with
 | .inl r18 => some r18
 | .inr w11 =>
 some false
theorem lombardref05_Currency.ok {x0 : Bs} {r : Bool} (h : lombardref05_Currency.f x0 = some r) : Pm.Spec prog 56 [.imm (.val (.string (tx x0)))] (.imm (.val (.bool r))) [none] := by
 unfold lombardref05_Currency.f at h; refine Pm.Spec.of_body Tryz.func56 Z (by kernel_rfl) (L Z) (L Z) ?_; refine W.ghost (σ' := (mkSt [(0, some (.s x0))] [] 1000)) (Gives.entry (.c Z .n) .n) (W.seq (W.pk (.A Z (.nil (W.seq (W.seq (W.pk (.A Z (.nil ?_))))))))); obtain ⟨o12, b13, z14⟩ := bnd1 h; refine W.fork2 (out := o12) (fun (w11 : Unit) => mkSt [] [] 1000) ?_ ?_
 ·clear h; refine W.block (W.loopF (fun (s_ : Int) => mkSt [(0, some (.s x0)), (3, some (.i s_))] [] 1000) b13 (Gm [] (.e Z Z) .n Z) ?_); rintro v4 s_ hr; have h : lombardref05_Currency.b0 x0 v4 = some s_ := hr; unfold lombardref05_Currency.b0 at h; refine W.seq (W.seq (W.pk (.M Z (.B Z (.nil (W.cnd Z h (fun q15 h => ?_) (fun q15 h => ?_)))))))
  ·refine W.skip (W.seq (W.block (W.seq ?_))); obtain ⟨c16, h⟩ := chk h; refine W.pk (.M Z (.M Z (.B Z (.V Z (O.partS u9 c16 Z Z Z Z) (.M Z (.V Z (O.cmpS Z Z Z Z) (.nil (W.cnd Z h (fun q17 h => ?_) (fun q17 h => ?_)))))))))
   ·refine W.seq (W.pk (.A Z (.nil (W.ret ?_)))); cases h; refine rdR fun e_ => ?_; subst e_; have h := z14; dsimp only at h; refine fkR ?_; cases h; exact lv Z Z
   ·refine W.skip (W.pk (.M Z (.B Z (.A Z (.nil ?_))))); cases h; exact rdN (Gm [] (.e Z Z) .n Z)
  ·refine W.exit ?_; cases h; refine rdX fun e_ => ?_; subst e_; (repeat with_reducible refine thru ?_); exact hit (fkN (Gm [] .n .n Z))
 ·intro w11 e_; subst e_; clear h; have h := z14; dsimp only at h; refine W.seq (W.pk (.A Z (.nil (W.ret ?_)))); cases h; exact lv Z Z
noncomputable def lombardref05_Asset.f (x0 : api_Asset) : Option (Int) :=
 (lombardref05_Check.f x0.ISIN).bind fun t1 =>
 if (t1 != 0) = true then
 (lombardref05_Check.f x0.ISIN).bind fun t4 =>
 some t4
 else (lombardref05_Currency.f x0.Currency).bind fun t6 =>
 if (!t6) = true then
 some 11
 else if ((((decide (x0.Issuer < 0)) || (decide (x0.Issuer > 9999))) || (decide (x0.Rating < 0))) || (decide (x0.Rating > 20))) = true then
 some 1
 else if ((decide (x0.Maturity < 0)) || (decide (x0.Maturity > 200000))) = true then
 some 10
 else some 0
theorem lombardref05_Asset.ok {x0 : api_Asset} {r : Int} (h : lombardref05_Asset.f x0 = some r) : Pm.Spec prog 52 [.agg (im (api_Asset.enc x0))] (.imm (.val (.int .i64 r))) [none] := by
 unfold lombardref05_Asset.f at h; refine Pm.Spec.of_body Tryz.func52 Z (by kernel_rfl) (L Z) (L Z) ?_; refine W.ghost (σ' := (mkSt [(0, some (.agg (api_Asset.av x0)))] [] 1000)) (Gives.entry (.c Z .n) .n) (W.seq (W.pk (.t Z Z (O.box Z Z Z Z Z) (.A Z (.nil (W.seq (W.seq ?_))))))); obtain ⟨t1, b2, h⟩ := bnd1 h; refine W.pk (.F fld23_0 Z (.V Z (O.ld (y := .s x0.ISIN) ty9 Z Z Z) (.C (.i t1) [] 0 (lombardref05_Check.ok b2) ca96 Z (cI .nil) Z ?_))); refine .B Z (.nil (W.cnd Z h (fun q3 h => ?_) (fun q3 h => ?_)))
 ·refine W.seq ?_; obtain ⟨t4, b5, h⟩ := bnd1 h; refine W.pk (.F fld23_0 Z (.V Z (O.ld (y := .s x0.ISIN) ty9 Z Z Z) (.C (.i t4) [] 0 (lombardref05_Check.ok b5) ca96 Z (cI .nil) Z ?_))); refine .A Z (.nil (W.ret ?_)); cases h; exact lv Z Z
 ·refine W.skip (W.seq (W.seq ?_)); obtain ⟨t6, b7, h⟩ := bnd1 h; refine W.pk (.F fld23_4 Z (.V Z (O.ld (y := .s x0.Currency) ty9 Z Z Z) (.C (.b t6) [] 0 (lombardref05_Currency.ok b7) ca56 Z (cI .nil) Z ?_))); refine .V Z (OpL.unV Z Z Z) (.nil (W.cnd Z h (fun q8 h => ?_) (fun q8 h => ?_)))
  ·refine W.seq (W.pk (.A Z (.nil (W.ret ?_)))); cases h; exact lv Z Z
  ·refine W.skip (W.seq (W.seq (W.fork (mkSt [(1, some (.ptr 1000 0)), (31, some (.b ((((decide (x0.Issuer < 0)) || (decide (x0.Issuer > 9999))) || (decide (x0.Rating < 0))) || (decide (x0.Rating > 20)))))] [(1000, some (.box (api_Asset.av x0)))] 1001) ?_ ?_)))
   ·refine W.cnd Z h (fun q12 h => ?_) (fun q12 h => ?_)
    ·refine W.seq (W.pk (.A Z (.nil (W.ret ?_)))); cases h; exact lv Z Z
    ·refine W.skip (W.seq (W.seq (W.fork (mkSt [(39, some (.b ((decide (x0.Maturity < 0)) || (decide (x0.Maturity > 200000)))))] [] 1001) ?_ ?_)))
     ·refine W.cnd Z h (fun q14 h => ?_) (fun q14 h => ?_)
      ·refine W.seq (W.pk (.A Z (.nil (W.ret ?_)))); cases h; exact lv Z Z
      ·refine W.skip (W.seq (W.pk (.A Z (.nil (W.ret ?_))))); cases h; exact lv Z Z
     ·clear h; refine W.pk (.F fld23_3 Z (.V Z (O.ld (y := .i x0.Maturity) ty3 Z Z Z) (.B Z (.M Z ?_)))); rcases tf (decide (x0.Maturity < 0)) with g13 | g13
      ·(iterate 3 refine .X Z g13 ?_); exact .T g13 Z (.nil (toN (Gm [] (.c Z (sbb (by simp only [g13, BL])) Z .n) .n Z)))
      ·exact .H fld23_3 Z g13 Z (.U Z g13 (O.ld (y := .i x0.Maturity) ty3 Z Z Z) (.G Z g13 Z (.E g13 Z (.nil (toN (Gm [] (.c Z (sbb (by simp only [g13, BL])) Z .n) .n Z))))))
   ·clear h; refine W.pk (.F fld23_1 Z (.V Z (O.ld (y := .i x0.Issuer) ty3 Z Z Z) (.B Z (.M Z ?_)))); rcases tf (decide (x0.Issuer < 0)) with g9 | g9
    ·refine .X Z g9 (.X Z g9 (.X Z g9 (.T g9 Z (.M Z (.X Z Z (.X Z Z (.X Z Z (.T Z Z (.M Z (.X Z Z (.X Z Z ?_))))))))))); exact .X Z Z (.T Z Z (.nil (toN (Gm [] (.r Z Z (.c Z (sbb (by simp only [g9, BL])) Z .n)) (.r Z Z Z .n) Z))))
    ·refine .H fld23_1 Z g9 Z (.U Z g9 (O.ld (y := .i x0.Issuer) ty3 Z Z Z) (.G Z g9 Z (.E g9 Z (.M Z ?_)))); rcases tf (decide (x0.Issuer > 9999)) with g10 | g10
     ·(iterate 3 refine .X Z g10 ?_); exact .T g10 Z (.M Z (.X Z Z (.X Z Z (.X Z Z (.T Z Z (.nil (toN (Gm [] (.r Z Z (.c Z (sbb (by simp only [g9, g10, BL])) Z .n)) (.r Z Z Z .n) Z))))))))
     ·refine .H fld23_2 Z g10 Z (.U Z g10 (O.ld (y := .i x0.Rating) ty3 Z Z Z) (.G Z g10 Z (.E g10 Z (.M Z ?_)))); rcases tf (decide (x0.Rating < 0)) with g11 | g11
      ·(iterate 3 refine .X Z g11 ?_); exact .T g11 Z (.nil (toN (Gm [] (.r Z Z (.c Z (sbb (by simp only [g9, g10, g11, BL])) Z .n)) (.r Z Z Z .n) Z)))
      ·exact .H fld23_2 Z g11 Z (.U Z g11 (O.ld (y := .i x0.Rating) ty3 Z Z Z) (.G Z g11 Z (.E g11 Z (.nil (toN (Gm [] (.r Z Z (.c Z (sbb (by simp only [g9, g10, g11, BL])) Z .n)) (.r Z Z Z .n) Z))))))
noncomputable def lombardref10_in.f (x0 : Int) (x1 : Int) (x2 : Int) : Option (Bool) :=
 some ((decide (x0 ≥ x1)) && (decide (x0 ≤ x2)))
theorem lombardref10_in.ok {x0 : Int} {x1 : Int} {x2 : Int} {r : Bool} (h : lombardref10_in.f x0 x1 x2 = some r) : Pm.Spec prog 97 [.imm (.val (.int .i64 x0)), .imm (.val (.int .i64 x1)), .imm (.val (.int .i64 x2))] (.imm (.val (.bool r))) [none, none, none] := by
 unfold lombardref10_in.f at h; refine Pm.Spec.of_body Tryz.func97 Z (by kernel_rfl) (L Z) (L Z) ?_; refine W.ghost (σ' := (mkSt [(0, some (.i x0)), (1, some (.i x1)), (2, some (.i x2))] [] 1000)) (Gives.entry (.c Z (.c Z (.c Z .n))) .n) (W.seq (W.pk (.A Z (.nil (W.seq (W.fork (mkSt [(6, some (.b ((decide (x0 ≥ x1)) && (decide (x0 ≤ x2)))))] [] 1000) ?_ ?_))))))
 ·refine W.ret ?_; cases h; exact leaves (.inr Z) Z (.imm _) (cN (cN (cN .nil))) Z Z
 ·clear h; refine W.pk (.M Z (.M Z (.B Z (.M Z ?_)))); rcases tf (decide (x0 ≥ x1)) with g1 | g1
  ·exact .N Z g1 (.N Z g1 (.G Z g1 Z (.T g1 Z (.A Z (.nil (toN (Gm [] (.c Z (sbb (by simp only [g1, BL])) Z .n) .n Z)))))))
  ·exact .X Z g1 (.X Z g1 (.X Z g1 (.E g1 Z (.A Z (.nil (toN (Gm [] (.c Z (sbb (by simp only [g1, BL])) Z .n) .n Z)))))))
noncomputable def lombardref10_Amount.f (x0 : Int) : Option (Bool) :=
 some ((decide (x0 ≥ 1)) && (decide (x0 ≤ 1125899906842624)))
theorem lombardref10_Amount.ok {x0 : Int} {r : Bool} (h : lombardref10_Amount.f x0 = some r) : Pm.Spec prog 98 [.imm (.val (.int .i64 x0))] (.imm (.val (.bool r))) [none] := by
 unfold lombardref10_Amount.f at h; refine Pm.Spec.of_body Tryz.func98 Z (by kernel_rfl) (L Z) (L Z) ?_; refine W.ghost (σ' := (mkSt [(0, some (.i x0))] [] 1000)) (Gives.entry (.c Z .n) .n) (W.seq (W.pk (.A Z (.nil (W.seq (W.fork (mkSt [(2, some (.b ((decide (x0 ≥ 1)) && (decide (x0 ≤ 1125899906842624)))))] [] 1000) ?_ ?_))))))
 ·refine W.ret ?_; cases h; exact lv Z Z
 ·clear h; refine W.pk (.M Z (.B Z (.M Z ?_))); rcases tf (decide (x0 ≥ 1)) with g1 | g1
  ·exact .N Z g1 (.G Z g1 Z (.T g1 Z (.A Z (.nil (toN (Gm [] (.c Z (sbb (by simp only [g1, BL])) Z .n) .n Z))))))
  ·exact .X Z g1 (.X Z g1 (.E g1 Z (.A Z (.nil (toN (Gm [] (.c Z (sbb (by simp only [g1, BL])) Z .n) .n Z))))))
noncomputable def lombardref10_Basket.b0 (x0 : api_Basket) (v40 : Int) : Option (Int ⊕ (Int ⊕ Unit)) :=
 if (decide (v40 < (List.length x0.Cuts : Int))) = true then
 if (0 : Int) ≤ v40 ∧ v40 < (List.length x0.Cuts : Int) then
 (lombardref10_in.f ((nth x0.Cuts v40).Days) 0 200000).bind fun t73 =>
 if ((!t73) = false → (0 : Int) ≤ v40 ∧ v40 < (List.length x0.Cuts : Int)) then
 (if (!t73) = false then lombardref10_in.f ((nth x0.Cuts v40).Rating) 0 20 else some default).bind fun t76 =>
 if (((!t73) || (!t76)) = false → (0 : Int) ≤ v40 ∧ v40 < (List.length x0.Cuts : Int)) then
 (if ((!t73) || (!t76)) = false then lombardref10_in.f ((nth x0.Cuts v40).Cut) 0 999999 else some default).bind fun t79 =>
 if (((!t73) || (!t76)) || (!t79)) = true then
 some (.inr (.inl 1))
 else some (.inl (IntKind.wrap .i64 (v40 + 1)))
 else none
 else none
 else none
 else some (.inr (.inr ()))
noncomputable def lombardref10_Basket.r0 (x0 : api_Basket) (s : Int) : Option (Int ⊕ (Int ⊕ Unit)) := lombardref10_Basket.b0 x0 s
noncomputable def lombardref10_Basket.b1 (x0 : api_Basket) (v94 : Int) : Option (Int ⊕ (Int ⊕ Unit)) :=
 if (decide (v94 < (List.length x0.Barred : Int))) = true then
 if (0 : Int) ≤ v94 ∧ v94 < (List.length x0.Barred : Int) then
 (lombardref10_in.f (nth x0.Barred v94) 0 9999).bind fun t119 =>
 if ((!t119) = false ∧ (decide (v94 > 0)) = true → (0 : Int) ≤ v94 ∧ v94 < (List.length x0.Barred : Int)) then
 if ((!t119) = false ∧ (decide (v94 > 0)) = true → (0 : Int) ≤ (IntKind.wrap .i64 (v94 - 1)) ∧ (IntKind.wrap .i64 (v94 - 1)) < (List.length x0.Barred : Int)) then
 if ((!t119) || ((decide (v94 > 0)) && (decide ((nth x0.Barred v94) ≤ (nth x0.Barred (IntKind.wrap .i64 (v94 - 1))))))) = true then
 some (.inr (.inl 1))
 else some (.inl (IntKind.wrap .i64 (v94 + 1)))
 else none
 else none
 else none
 else some (.inr (.inr ()))
noncomputable def lombardref10_Basket.r1 (x0 : api_Basket) (s : Int) : Option (Int ⊕ (Int ⊕ Unit)) := lombardref10_Basket.b1 x0 s
noncomputable def lombardref10_Basket.f (x0 : api_Basket) : Option (Int) :=
 (lombardref10_in.f x0.ID 1 64).bind fun t1 =>
 (if (!t1) = false then lombardref10_Amount.f x0.Version else some default).bind fun t3 =>
 (if ((!t1) || (!t3)) = false then lombardref10_in.f x0.Rating 0 20 else some default).bind fun t5 =>
 (if (((!t1) || (!t3)) || (!t5)) = false then lombardref10_in.f x0.Issuer 0 1000000 else some default).bind fun t7 =>
 (if ((((!t1) || (!t3)) || (!t5)) || (!t7)) = false then lombardref10_in.f x0.Asset 0 1000000 else some default).bind fun t9 =>
 (if (((((!t1) || (!t3)) || (!t5)) || (!t7)) || (!t9)) = false then lombardref10_in.f (List.length x0.Cuts : Int) 1 64 else some default).bind fun t11 =>
 if (((((((!t1) || (!t3)) || (!t5)) || (!t7)) || (!t9)) || (!t11)) || (decide ((List.length x0.Barred : Int) > 64))) = true then
 some 1
 else (if (decide (x0.Least < 0)) = false then lombardref10_in.f x0.Most x0.Least 200000 else some default).bind fun t20 =>
 if ((decide (x0.Least < 0)) || (!t20)) = true then
 some 10
 else (lombardref05_Currency.f x0.Currency).bind fun t24 =>
 if (!t24) = true then
 some 11
 else (loop (lombardref10_Basket.r0 x0) 0).bind fun o68 =>
 match o68 with
 | .inl r84 => some r84
 | .inr w67 =>
 (loop (lombardref10_Basket.r1 x0) 0).bind fun o114 =>
 match o114 with
 | .inl r126 => some r126
 | .inr w113 =>
 some 0
theorem lombardref10_Basket.ok {x0 : api_Basket} {r : Int} (h : lombardref10_Basket.f x0 = some r) : Pm.Spec prog 53 [.agg (im (api_Basket.enc x0))] (.imm (.val (.int .i64 r))) [none] := by
 unfold lombardref10_Basket.f at h; refine Pm.Spec.of_body Tryz.func53 Z (by kernel_rfl) (L Z) (L Z) ?_; refine W.ghost (σ' := (mkSt [(0, some (.agg (api_Basket.av x0)))] [] 1000)) (Gives.entry (.c Z .n) .n) (W.seq (W.pk (.t Z Z (O.box Z Z Z Z Z) (.A Z (.nil (W.seq (W.seq ?_))))))); obtain ⟨t1, b2, h⟩ := bnd1 h; obtain ⟨t3, b4, h⟩ := bnd1 h; obtain ⟨t5, b6, h⟩ := bnd1 h; obtain ⟨t7, b8, h⟩ := bnd1 h; obtain ⟨t9, b10, h⟩ := bnd1 h; obtain ⟨t11, b12, h⟩ := bnd1 h; refine W.fork (mkSt [(1, some (.ptr 1000 0)), (45, some (.b (((((((!t1) || (!t3)) || (!t5)) || (!t7)) || (!t9)) || (!t11)) || (decide ((List.length x0.Barred : Int) > 64)))))] [(1000, some (.box (api_Basket.av x0)))] 1001) ?_ ?_
 ·refine W.cnd Z h (fun q19 h => ?_) (fun q19 h => ?_)
  ·refine W.seq (W.pk (.A Z (.nil (W.ret ?_)))); cases h; exact lv Z Z
  ·refine W.skip (W.seq (W.seq ?_)); obtain ⟨t20, b21, h⟩ := bnd1 h; refine W.fork (mkSt [(1, some (.ptr 1000 0)), (56, some (.b ((decide (x0.Least < 0)) || (!t20))))] [(1000, some (.box (api_Basket.av x0)))] 1001) ?_ ?_
   ·refine W.cnd Z h (fun q23 h => ?_) (fun q23 h => ?_)
    ·refine W.seq (W.pk (.A Z (.nil (W.ret ?_)))); cases h; exact lv Z Z
    ·refine W.skip (W.seq (W.seq ?_)); obtain ⟨t24, b25, h⟩ := bnd1 h; refine W.pk (.F fld27_2 Z (.V Z (O.ld (y := .s x0.Currency) ty9 Z Z Z) (.C (.b t24) [] 0 (lombardref05_Currency.ok b25) ca56 Z (cI .nil) Z ?_))); refine .V Z (OpL.unV Z Z Z) (.nil (W.cnd Z h (fun q26 h => ?_) (fun q26 h => ?_)))
     ·refine W.seq (W.pk (.A Z (.nil (W.ret ?_)))); cases h; exact lv Z Z
     ·refine W.skip (W.seq (W.seq (W.pk (.A Z (.nil ?_))))); obtain ⟨o68, b69, z70⟩ := bnd1 h; refine W.fork2 (out := o68) (fun (w67 : Unit) => mkSt [(1, some (.ptr 1000 0))] [(1000, some (.box (api_Basket.av x0)))] 1001) ?_ ?_
      ·clear h; refine W.block (W.loopF (fun (s_ : Int) => mkSt [(1, some (.ptr 1000 0)), (3, some (.i s_))] [(1000, some (.box (api_Basket.av x0)))] 1001) b69 (Gm [] (.e Z Z) (.r Z Z Z .n) Z) ?_); rintro v40 s_ hr; have h : lombardref10_Basket.b0 x0 v40 = some s_ := hr; unfold lombardref10_Basket.b0 at h; refine W.seq (W.seq (W.pk (.M Z (.F fld27_6 Z (.V Z (O.ld (y := .imm (.row 3 (List.map api_Cut.enc x0.Cuts))) ty24 Z Z Z) (.V Z (O.lenR sl24 Z Z) (.B Z (.nil (W.cnd Z h (fun q71 h => ?_) (fun q71 h => ?_))))))))))
       ·refine W.skip (W.seq (W.block (W.seq ?_))); obtain ⟨c72, h⟩ := chk h; obtain ⟨t73, b74, h⟩ := bnd1 h; obtain ⟨c75, h⟩ := chk h; obtain ⟨t76, b77, h⟩ := bnd1 h; obtain ⟨c78, h⟩ := chk h; obtain ⟨t79, b80, h⟩ := bnd1 h; refine W.fork (mkSt [(1, some (.ptr 1000 0)), (3, some (.i v40)), (95, some (.b (((!t73) || (!t76)) || (!t79))))] [(1000, some (.box (api_Basket.av x0)))] 1001) ?_ ?_
        ·refine W.cnd Z h (fun q83 h => ?_) (fun q83 h => ?_)
         ·refine W.seq (W.pk (.A Z (.nil (W.ret ?_)))); cases h; refine rdR fun e_ => ?_; subst e_; have h := z70; dsimp only at h; refine fkR ?_; cases h; exact lv Z Z
         ·refine W.skip (W.pk (.M Z (.B Z (.A Z (.nil ?_))))); cases h; exact rdN (Gm [] (.e Z Z) (.r Z Z Z .n) Z)
        ·clear h; refine W.pk (.F fld27_6 Z (.V Z (O.ld (y := .imm (.row 3 (List.map api_Cut.enc x0.Cuts))) ty24 Z Z Z) (.M Z (.V Z (O.idx sl24 c72 Z Z Z) (.F fld103_0 Z (.V Z (O.ld (y := .i ((nth x0.Cuts v40).Days)) ty3 Z Z Z) (.C (.b t73) [] 0 (lombardref10_in.ok b74) ca97 Z (cI (cI (cI .nil))) Z ?_))))))); refine .V Z (OpL.unV Z Z Z) (.M Z ?_); rcases tf t73 with g81 | g81
         ·refine .H fld27_6 Z (notT g81) Z (.U Z (notT g81) (O.ld (y := .imm (.row 3 (List.map api_Cut.enc x0.Cuts))) ty24 Z Z Z) (.N Z (notT g81) (.U Z (notT g81) (O.idx sl24 (c75 (by simp only [g81, BL])) Z Z Z) ?_))); refine .H fld103_1 Z (notT g81) Z (.U Z (notT g81) (O.ld (y := .i ((nth x0.Cuts v40).Rating)) ty3 Z Z Z) (.call (.b t76) [] 0 (lombardref10_in.ok ((if_pos (by simp only [g81, BL])).symm.trans b77)) Z (met Z Z Z (notT g81)) Z ca97 Z Z (cI (cI (cI .nil))) Z Z Z Z Z ?_)); refine .U Z (notT g81) (OpL.unV Z Z Z) (.E (notT g81) Z (.M Z ?_)); rcases tf t76 with g82 | g82
          ·refine .H fld27_6 Z (notT g82) Z (.U Z (notT g82) (O.ld (y := .imm (.row 3 (List.map api_Cut.enc x0.Cuts))) ty24 Z Z Z) (.N Z (notT g82) (.U Z (notT g82) (O.idx sl24 (c78 (by simp only [g81, g82, BL])) Z Z Z) ?_))); refine .H fld103_2 Z (notT g82) Z (.U Z (notT g82) (O.ld (y := .i ((nth x0.Cuts v40).Cut)) ty3 Z Z Z) (.call (.b t79) [] 0 (lombardref10_in.ok ((if_pos (by simp only [g81, g82, BL])).symm.trans b80)) Z (met Z Z Z (notT g82)) Z ca97 Z Z (cI (cI (cI .nil))) Z Z Z Z Z ?_)); exact .U Z (notT g82) (OpL.unV Z Z Z) (.E (notT g82) Z (.nil (toN (Gm [] (.r Z Z (.r Z Z (.c Z (sbb (by simp only [g81, g82, BL])) Z .n))) (.r Z Z Z .n) Z))))
          ·(iterate 8 refine .X Z (notF g82) ?_); exact .T (notF g82) Z (.nil (toN (Gm [] (.r Z Z (.r Z Z (.c Z (sbb (by simp only [g81, g82, BL])) Z .n))) (.r Z Z Z .n) Z)))
         ·(iterate 8 refine .X Z (notF g81) ?_); refine .T (notF g81) Z (.M Z ?_); (iterate 8 refine .X Z Z ?_); exact .T Z Z (.nil (toN (Gm [] (.r Z Z (.r Z Z (.c Z (sbb (by simp only [g81, BL])) Z .n))) (.r Z Z Z .n) Z)))
       ·refine W.exit ?_; cases h; refine rdX fun e_ => ?_; subst e_; (repeat with_reducible refine thru ?_); exact hit (fkN (Gm [] (.r Z Z .n) (.r Z Z Z .n) Z))
      ·intro w67 e_; subst e_; clear h; have h := z70; dsimp only at h; refine W.seq (W.seq (W.pk (.A Z (.nil ?_)))); obtain ⟨o114, b115, z116⟩ := bnd1 h; refine W.fork2 (out := o114) (fun (w113 : Unit) => mkSt [] [] 1001) ?_ ?_
       ·clear h; refine W.block (W.loopF (fun (s_ : Int) => mkSt [(1, some (.ptr 1000 0)), (4, some (.i s_))] [(1000, some (.box (api_Basket.av x0)))] 1001) b115 (Gm [] (.e Z Z) (.r Z Z Z .n) Z) ?_); rintro v94 s_ hr; have h : lombardref10_Basket.b1 x0 v94 = some s_ := hr; unfold lombardref10_Basket.b1 at h; refine W.seq (W.seq (W.pk (.M Z (.F fld27_9 Z (.V Z (O.ld (y := .imm (.row 1 (List.map (encI .i64) x0.Barred))) ty25 Z Z Z) (.V Z (O.lenR sl25 Z Z) (.B Z (.nil (W.cnd Z h (fun q117 h => ?_) (fun q117 h => ?_))))))))))
        ·refine W.skip (W.seq (W.block (W.seq ?_))); obtain ⟨c118, h⟩ := chk h; obtain ⟨t119, b120, h⟩ := bnd1 h; obtain ⟨c121, h⟩ := chk h; obtain ⟨c122, h⟩ := chk h; refine W.fork (mkSt [(1, some (.ptr 1000 0)), (4, some (.i v94)), (127, some (.b ((!t119) || ((decide (v94 > 0)) && (decide ((nth x0.Barred v94) ≤ (nth x0.Barred (IntKind.wrap .i64 (v94 - 1)))))))))] [(1000, some (.box (api_Basket.av x0)))] 1001) ?_ ?_
         ·refine W.cnd Z h (fun q125 h => ?_) (fun q125 h => ?_)
          ·refine W.seq (W.pk (.A Z (.nil (W.ret ?_)))); cases h; refine rdR fun e_ => ?_; subst e_; have h := z116; dsimp only at h; refine fkR ?_; cases h; exact lv Z Z
          ·refine W.skip (W.pk (.M Z (.B Z (.A Z (.nil ?_))))); cases h; exact rdN (Gm [] (.e Z Z) (.r Z Z Z .n) Z)
         ·clear h; refine W.dk (unm 25 [0, 1, 0, 7, 15, 31, 63, 127, 255, 511, 1023, 2047, 4095, 2047, 16383, 32767, 2047, 67583, 2047, 264191, 985087, 2033663, 4194303, 8388607, 16777215]) Z (by kernel_rfl) ?_; refine .F fld27_9 Z (.V Z (O.ld (y := .imm (.row 1 (List.map (encI .i64) x0.Barred))) ty25 Z Z Z) (.M Z (.V Z (O.idx sl25 c118 Z Z Z) (.V Z (O.ld (y := .i (nth x0.Barred v94)) ty3 Z Z Z) (.C (.b t119) [] 0 (lombardref10_in.ok b120) ca97 Z (cI (cI (cI .nil))) Z ?_))))); refine .V Z (OpL.unV Z Z Z) (.M Z ?_); rcases tf t119 with g123 | g123
          ·refine .N Z (notT g123) (.G Z (notT g123) Z (.N Z (notT g123) ?_)); rcases tf (decide (v94 > 0)) with g124 | g124
           ·refine .H fld27_9 Z g124 Z (.U Z g124 (O.ld (y := .imm (.row 1 (List.map (encI .i64) x0.Barred))) ty25 Z Z Z) (.N Z g124 (.U Z g124 (O.idx sl25 (c121 ⟨(by simp only [g123, g124, BL]), (by simp only [g123, g124, BL])⟩) Z Z Z) ?_))); refine .U Z g124 (O.ld (y := .i (nth x0.Barred v94)) ty3 Z Z Z) (.H fld27_9 Z g124 Z (.U Z g124 (O.ld (y := .imm (.row 1 (List.map (encI .i64) x0.Barred))) ty25 Z Z Z) (.N Z g124 (.G Z g124 Z (.U Z g124 (O.idx sl25 (c122 ⟨(by simp only [g123, g124, BL]), (by simp only [g123, g124, BL])⟩) Z Z Z) ?_))))); refine .U Z g124 (O.ld (y := .i (nth x0.Barred (IntKind.wrap .i64 (v94 - 1)))) ty3 Z Z Z) (.G Z g124 Z (.U Z (notT g123) (O.pickT g124 Z Z Z) (.E (notT g123) Z (.nil ?_)))); refine ⟨by kernel_rfl, by kernel_rfl, ?_⟩; exact toN (Gm [] (.r Z Z (.r Z Z (.c Z (sbb (by simp only [g123, g124, BL])) Z .n))) (.r Z Z Z .n) Z)
           ·(iterate 12 refine .X Z g124 ?_); refine .U Z (notT g123) (O.pickF g124 Z Z Z) (.E (notT g123) Z (.nil ?_)); refine ⟨by kernel_rfl, by kernel_rfl, ?_⟩; exact toN (Gm [] (.r Z Z (.r Z Z (.c Z (sbb (by simp only [g123, g124, BL])) Z .n))) (.r Z Z Z .n) Z)
          ·(iterate 3 refine .X Z (notF g123) ?_); (iterate 12 refine .x Z (unmetU Z Z Z) ?_); refine .X Z (notF g123) (.T (notF g123) Z (.nil ?_)); refine ⟨by kernel_rfl, by kernel_rfl, ?_⟩; exact toN (Gm [] (.r Z Z (.r Z Z (.c Z (sbb (by simp only [g123, BL])) Z .n))) (.r Z Z Z .n) Z)
        ·refine W.exit ?_; cases h; refine rdX fun e_ => ?_; subst e_; (repeat with_reducible refine thru ?_); exact hit (fkN (Gm [] .n .n Z))
       ·intro w113 e_; subst e_; clear h; have h := z116; dsimp only at h; refine W.seq (W.pk (.A Z (.nil (W.ret ?_)))); cases h; exact lv Z Z
   ·clear h; refine W.pk (.F fld27_4 Z (.V Z (O.ld (y := .i x0.Least) ty3 Z Z Z) (.B Z (.M Z ?_)))); rcases tf (decide (x0.Least < 0)) with g22 | g22
    ·(iterate 6 refine .X Z g22 ?_); exact .T g22 Z (.nil (toN (Gm [] (.r Z Z (.c Z (sbb (by simp only [g22, BL])) Z .n)) (.r Z Z Z .n) Z)))
    ·refine .H fld27_5 Z g22 Z (.U Z g22 (O.ld (y := .i x0.Most) ty3 Z Z Z) (.H fld27_4 Z g22 Z (.U Z g22 (O.ld (y := .i x0.Least) ty3 Z Z Z) (.call (.b t20) [] 0 (lombardref10_in.ok ((if_pos (by simp only [g22, BL])).symm.trans b21)) Z (met Z Z Z g22) Z ca97 Z Z (cI (cI (cI .nil))) Z Z Z Z Z ?_)))); exact .U Z g22 (OpL.unV Z Z Z) (.E g22 Z (.nil (toN (Gm [] (.r Z Z (.c Z (sbb (by simp only [g22, BL])) Z .n)) (.r Z Z Z .n) Z))))
 ·clear h; refine W.pk (.F fld27_0 Z (.V Z (O.ld (y := .i x0.ID) ty3 Z Z Z) (.C (.b t1) [] 0 (lombardref10_in.ok b2) ca97 Z (cI (cI (cI .nil))) Z ?_))); refine .V Z (OpL.unV Z Z Z) (.M Z ?_); rcases tf t1 with g13 | g13
  ·refine .H fld27_1 Z (notT g13) Z (.U Z (notT g13) (O.ld (y := .i x0.Version) ty3 Z Z Z) (.call (.b t3) [] 0 (lombardref10_Amount.ok ((if_pos (by simp only [g13, BL])).symm.trans b4)) Z (met Z Z Z (notT g13)) Z ca98 Z Z (cI .nil) Z Z Z Z Z ?_)); refine .U Z (notT g13) (OpL.unV Z Z Z) (.E (notT g13) Z (.M Z ?_)); rcases tf t3 with g14 | g14
   ·refine .H fld27_3 Z (notT g14) Z (.U Z (notT g14) (O.ld (y := .i x0.Rating) ty3 Z Z Z) (.call (.b t5) [] 0 (lombardref10_in.ok ((if_pos (by simp only [g13, g14, BL])).symm.trans b6)) Z (met Z Z Z (notT g14)) Z ca97 Z Z (cI (cI (cI .nil))) Z Z Z Z Z ?_)); refine .U Z (notT g14) (OpL.unV Z Z Z) (.E (notT g14) Z (.M Z ?_)); rcases tf t5 with g15 | g15
    ·refine .H fld27_7 Z (notT g15) Z (.U Z (notT g15) (O.ld (y := .i x0.Issuer) ty3 Z Z Z) (.call (.b t7) [] 0 (lombardref10_in.ok ((if_pos (by simp only [g13, g14, g15, BL])).symm.trans b8)) Z (met Z Z Z (notT g15)) Z ca97 Z Z (cI (cI (cI .nil))) Z Z Z Z Z ?_)); refine .U Z (notT g15) (OpL.unV Z Z Z) (.E (notT g15) Z (.M Z ?_)); rcases tf t7 with g16 | g16
     ·refine .H fld27_8 Z (notT g16) Z (.U Z (notT g16) (O.ld (y := .i x0.Asset) ty3 Z Z Z) (.call (.b t9) [] 0 (lombardref10_in.ok ((if_pos (by simp only [g13, g14, g15, g16, BL])).symm.trans b10)) Z (met Z Z Z (notT g16)) Z ca97 Z Z (cI (cI (cI .nil))) Z Z Z Z Z ?_)); refine .U Z (notT g16) (OpL.unV Z Z Z) (.E (notT g16) Z (.M Z ?_)); rcases tf t9 with g17 | g17
      ·refine .H fld27_6 Z (notT g17) Z (.U Z (notT g17) (O.ld (y := .imm (.row 3 (List.map api_Cut.enc x0.Cuts))) ty24 Z Z Z) (.U Z (notT g17) (O.lenR sl24 Z Z) (.call (.b t11) [] 0 (lombardref10_in.ok ((if_pos (by simp only [g13, g14, g15, g16, g17, BL])).symm.trans b12)) Z (met Z Z Z (notT g17)) Z ca97 Z Z (cI (cI (cI .nil))) Z Z Z Z Z ?_))); refine .U Z (notT g17) (OpL.unV Z Z Z) (.E (notT g17) Z (.M Z ?_)); rcases tf t11 with g18 | g18
       ·exact .H fld27_9 Z (notT g18) Z (.U Z (notT g18) (O.ld (y := .imm (.row 1 (List.map (encI .i64) x0.Barred))) ty25 Z Z Z) (.U Z (notT g18) (O.lenR sl25 Z Z) (.G Z (notT g18) Z (.E (notT g18) Z (.nil (toN (Gm [] (.r Z Z (.c Z (sbb (by simp only [g13, g14, g15, g16, g17, g18, BL])) Z .n)) (.r Z Z Z .n) Z)))))))
       ·(iterate 4 refine .X Z (notF g18) ?_); exact .T (notF g18) Z (.nil (toN (Gm [] (.r Z Z (.c Z (sbb (by simp only [g13, g14, g15, g16, g17, g18, BL])) Z .n)) (.r Z Z Z .n) Z)))
      ·(iterate 5 refine .X Z (notF g17) ?_); refine .T (notF g17) Z (.M Z ?_); (iterate 4 refine .X Z Z ?_); exact .T Z Z (.nil (toN (Gm [] (.r Z Z (.c Z (sbb (by simp only [g13, g14, g15, g16, g17, BL])) Z .n)) (.r Z Z Z .n) Z)))
     ·(iterate 4 refine .X Z (notF g16) ?_); refine .T (notF g16) Z (.M Z ?_); (iterate 5 refine .X Z Z ?_); refine .T Z Z (.M Z ?_); (iterate 4 refine .X Z Z ?_); exact .T Z Z (.nil (toN (Gm [] (.r Z Z (.c Z (sbb (by simp only [g13, g14, g15, g16, BL])) Z .n)) (.r Z Z Z .n) Z)))
    ·(iterate 4 refine .X Z (notF g15) ?_); refine .T (notF g15) Z (.M Z ?_); (iterate 4 refine .X Z Z ?_); refine .T Z Z (.M Z ?_); (iterate 5 refine .X Z Z ?_); refine .T Z Z (.M Z ?_); (iterate 4 refine .X Z Z ?_); exact .T Z Z (.nil (toN (Gm [] (.r Z Z (.c Z (sbb (by simp only [g13, g14, g15, BL])) Z .n)) (.r Z Z Z .n) Z)))
   ·(iterate 4 refine .X Z (notF g14) ?_); refine .T (notF g14) Z (.M Z ?_); (iterate 4 refine .X Z Z ?_); refine .T Z Z (.M Z ?_); (iterate 4 refine .X Z Z ?_); refine .T Z Z (.M Z ?_); (iterate 5 refine .X Z Z ?_); refine .T Z Z (.M Z ?_); (iterate 4 refine .X Z Z ?_); exact .T Z Z (.nil (toN (Gm [] (.r Z Z (.c Z (sbb (by simp only [g13, g14, BL])) Z .n)) (.r Z Z Z .n) Z)))
  ·(iterate 4 refine .X Z (notF g13) ?_); refine .T (notF g13) Z (.M Z ?_); (iterate 4 refine .X Z Z ?_); refine .T Z Z (.M Z ?_); (iterate 4 refine .X Z Z ?_); refine .T Z Z (.M Z ?_); (iterate 4 refine .X Z Z ?_); refine .T Z Z (.M Z ?_); (iterate 5 refine .X Z Z ?_); refine .T Z Z (.M Z ?_); (iterate 4 refine .X Z Z ?_); exact .T Z Z (.nil (toN (Gm [] (.r Z Z (.c Z (sbb (by simp only [g13, BL])) Z .n)) (.r Z Z Z .n) Z)))
noncomputable def lombardref10_prices.b0 (x0 : List api_Price) (v19 : Int) : Option (Int ⊕ (Int ⊕ Unit)) :=
 if (decide (v19 < (List.length x0 : Int))) = true then
 if (0 : Int) ≤ v19 ∧ v19 < (List.length x0 : Int) then
 (lombardref05_Check.f ((nth x0 v19).ISIN)).bind fun t58 =>
 if (t58 != 0) = true then
 if (0 : Int) ≤ v19 ∧ v19 < (List.length x0 : Int) then
 (lombardref05_Check.f ((nth x0 v19).ISIN)).bind fun t62 =>
 some (.inr (.inl t62))
 else none
 else if (0 : Int) ≤ v19 ∧ v19 < (List.length x0 : Int) then
 (lombardref10_in.f ((nth x0 v19).Price) 1 4294967296).bind fun t65 =>
 if ((!t65) = false ∧ (decide (v19 > 0)) = true → (0 : Int) ≤ v19 ∧ v19 < (List.length x0 : Int)) then
 if ((!t65) = false ∧ (decide (v19 > 0)) = true → (0 : Int) ≤ (IntKind.wrap .i64 (v19 - 1)) ∧ (IntKind.wrap .i64 (v19 - 1)) < (List.length x0 : Int)) then
 if ((!t65) || ((decide (v19 > 0)) && (Go.Op.bytesLess ((nth x0 v19).ISIN) ((nth x0 (IntKind.wrap .i64 (v19 - 1))).ISIN) || ((nth x0 v19).ISIN) == ((nth x0 (IntKind.wrap .i64 (v19 - 1))).ISIN)))) = true then
 some (.inr (.inl 31))
 else some (.inl (IntKind.wrap .i64 (v19 + 1)))
 else none
 else none
 else none
 else none
 else some (.inr (.inr ()))
noncomputable def lombardref10_prices.r0 (x0 : List api_Price) (s : Int) : Option (Int ⊕ (Int ⊕ Unit)) := lombardref10_prices.b0 x0 s
noncomputable def lombardref10_prices.f (x0 : List api_Price) : Option (Int) :=
 if (((List.length x0 : Int) == 0) || (decide ((List.length x0 : Int) > 64))) = true then
 some 2
 else (loop (lombardref10_prices.r0 x0) 0).bind fun o53 =>
 match o53 with
 | .inl r72 => some r72
 | .inr w52 =>
 some 0
theorem lombardref10_prices.ok {x0 : List api_Price} {r : Int} (h : lombardref10_prices.f x0 = some r) : Pm.Spec prog 54 [.imm (.row 2 (List.map api_Price.enc x0))] (.imm (.val (.int .i64 r))) [none] := by
 unfold lombardref10_prices.f at h; refine Pm.Spec.of_body Tryz.func54 Z (by kernel_rfl) (L Z) (L Z) ?_; refine W.ghost (σ' := (mkSt [(0, some (.imm (.row 2 (List.map api_Price.enc x0))))] [] 1000)) (Gives.entry (.c Z .n) .n) (W.seq (W.pk (.A Z (.nil (W.seq (W.seq (W.fork (mkSt [(0, some (.imm (.row 2 (List.map api_Price.enc x0)))), (11, some (.b (((List.length x0 : Int) == 0) || (decide ((List.length x0 : Int) > 64)))))] [] 1000) ?_ ?_)))))))
 ·refine W.cnd Z h (fun q2 h => ?_) (fun q2 h => ?_)
  ·refine W.seq (W.pk (.A Z (.nil (W.ret ?_)))); cases h; exact lv Z Z
  ·refine W.skip (W.seq (W.seq (W.pk (.A Z (.nil ?_))))); obtain ⟨o53, b54, z55⟩ := bnd1 h; refine W.fork2 (out := o53) (fun (w52 : Unit) => mkSt [] [] 1000) ?_ ?_
   ·clear h; refine W.block (W.loopF (fun (s_ : Int) => mkSt [(0, some (.imm (.row 2 (List.map api_Price.enc x0)))), (3, some (.i s_))] [] 1000) b54 (Gm [] (.e Z Z) .n Z) ?_); rintro v19 s_ hr; have h : lombardref10_prices.b0 x0 v19 = some s_ := hr; unfold lombardref10_prices.b0 at h; refine W.seq (W.seq (W.pk (.M Z (.M Z (.V Z (O.lenR sl28 Z Z) (.B Z (.nil (W.cnd Z h (fun q56 h => ?_) (fun q56 h => ?_)))))))))
    ·refine W.skip (W.seq (W.block (W.seq (W.seq ?_)))); obtain ⟨c57, h⟩ := chk h; obtain ⟨t58, b59, h⟩ := bnd1 h; refine W.pk (.M Z (.M Z (.V Z (O.idx sl28 c57 Z Z Z) (.F fld105_0 Z (.V Z (O.ld (y := .s ((nth x0 v19).ISIN)) ty9 Z Z Z) (.C (.i t58) [] 0 (lombardref05_Check.ok b59) ca96 Z (cI .nil) Z ?_)))))); refine .B Z (.nil (W.cnd Z h (fun q60 h => ?_) (fun q60 h => ?_)))
     ·refine W.seq ?_; obtain ⟨c61, h⟩ := chk h; obtain ⟨t62, b63, h⟩ := bnd1 h; refine W.pk (.M Z (.M Z (.V Z (O.idx sl28 c61 Z Z Z) (.F fld105_0 Z (.V Z (O.ld (y := .s ((nth x0 v19).ISIN)) ty9 Z Z Z) (.C (.i t62) [] 0 (lombardref05_Check.ok b63) ca96 Z (cI .nil) Z ?_)))))); refine .A Z (.nil (W.ret ?_)); cases h; refine rdR fun e_ => ?_; subst e_; have h := z55; dsimp only at h; refine fkR ?_; cases h; exact lv Z Z
     ·refine W.skip (W.seq ?_); obtain ⟨c64, h⟩ := chk h; obtain ⟨t65, b66, h⟩ := bnd1 h; obtain ⟨c67, h⟩ := chk h; obtain ⟨c68, h⟩ := chk h; refine W.fork (mkSt [(0, some (.imm (.row 2 (List.map api_Price.enc x0)))), (3, some (.i v19)), (55, some (.b ((!t65) || ((decide (v19 > 0)) && (Go.Op.bytesLess ((nth x0 v19).ISIN) ((nth x0 (IntKind.wrap .i64 (v19 - 1))).ISIN) || ((nth x0 v19).ISIN) == ((nth x0 (IntKind.wrap .i64 (v19 - 1))).ISIN))))))] [] 1000) ?_ ?_
      ·refine W.cnd Z h (fun q71 h => ?_) (fun q71 h => ?_)
       ·refine W.seq (W.pk (.A Z (.nil (W.ret ?_)))); cases h; refine rdR fun e_ => ?_; subst e_; have h := z55; dsimp only at h; refine fkR ?_; cases h; exact lv Z Z
       ·refine W.skip (W.pk (.M Z (.B Z (.A Z (.nil ?_))))); cases h; exact rdN (Gm [] (.e Z Z) .n Z)
      ·clear h; refine W.dk (unm 25 [0, 0, 3, 7, 15, 31, 63, 127, 255, 511, 1023, 2047, 2047, 8191, 16383, 32767, 2047, 2047, 133119, 460799, 985087, 2033663, 4194303, 8388607, 16777215]) Z (by kernel_rfl) ?_; refine .M Z (.M Z (.V Z (O.idx sl28 c64 Z Z Z) (.F fld105_1 Z (.V Z (O.ld (y := .i ((nth x0 v19).Price)) ty3 Z Z Z) (.C (.b t65) [] 0 (lombardref10_in.ok b66) ca97 Z (cI (cI (cI .nil))) Z ?_))))); refine .V Z (OpL.unV Z Z Z) (.M Z ?_); rcases tf t65 with g69 | g69
       ·refine .N Z (notT g69) (.G Z (notT g69) Z (.N Z (notT g69) ?_)); rcases tf (decide (v19 > 0)) with g70 | g70
        ·refine .N Z g70 (.N Z g70 (.U Z g70 (O.idx sl28 (c67 ⟨(by simp only [g69, g70, BL]), (by simp only [g69, g70, BL])⟩) Z Z Z) ?_)); refine .H fld105_0 Z g70 Z (.U Z g70 (O.ld (y := .s ((nth x0 v19).ISIN)) ty9 Z Z Z) (.N Z g70 (.N Z g70 (.G Z g70 Z (.U Z g70 (O.idx sl28 (c68 ⟨(by simp only [g69, g70, BL]), (by simp only [g69, g70, BL])⟩) Z Z Z) ?_))))); refine .H fld105_0 Z g70 Z (.U Z g70 (O.ld (y := .s ((nth x0 (IntKind.wrap .i64 (v19 - 1))).ISIN)) ty9 Z Z Z) (.U Z g70 (O.cmpS Z Z Z Z) (.U Z (notT g69) (O.pickT g70 Z Z Z) (.E (notT g69) Z (.nil ?_))))); refine ⟨by kernel_rfl, by kernel_rfl, ?_⟩; exact toN (Gm [] (.r Z Z (.r Z Z (.c Z (sbb (by simp only [g69, g70, BL])) Z .n))) .n Z)
        ·(iterate 12 refine .X Z g70 ?_); refine .U Z (notT g69) (O.pickF g70 Z Z Z) (.E (notT g69) Z (.nil ?_)); refine ⟨by kernel_rfl, by kernel_rfl, ?_⟩; exact toN (Gm [] (.r Z Z (.r Z Z (.c Z (sbb (by simp only [g69, g70, BL])) Z .n))) .n Z)
       ·(iterate 3 refine .X Z (notF g69) ?_); (iterate 12 refine .x Z (unmetU Z Z Z) ?_); refine .X Z (notF g69) (.T (notF g69) Z (.nil ?_)); refine ⟨by kernel_rfl, by kernel_rfl, ?_⟩; exact toN (Gm [] (.r Z Z (.r Z Z (.c Z (sbb (by simp only [g69, BL])) Z .n))) .n Z)
    ·refine W.exit ?_; cases h; refine rdX fun e_ => ?_; subst e_; (repeat with_reducible refine thru ?_); exact hit (fkN (Gm [] .n .n Z))
   ·intro w52 e_; subst e_; clear h; have h := z55; dsimp only at h; refine W.seq (W.pk (.A Z (.nil (W.ret ?_)))); cases h; exact lv Z Z
 ·clear h; refine W.pk (.M Z (.V Z (O.lenR sl28 Z Z) (.B Z (.M Z ?_)))); rcases tf ((List.length x0 : Int) == 0) with g1 | g1
  ·exact .X Z g1 (.X Z g1 (.X Z g1 (.T g1 Z (.nil (toN (Gm [] (.r Z Z (.c Z (sbb (by simp only [g1, BL])) Z .n)) .n Z))))))
  ·exact .N Z g1 (.U Z g1 (O.lenR sl28 Z Z) (.G Z g1 Z (.E g1 Z (.nil (toN (Gm [] (.r Z Z (.c Z (sbb (by simp only [g1, BL])) Z .n)) .n Z))))))
noncomputable def lombardref02_Good.f (x0 : Int) : Option (Bool) :=
 some ((decide (x0 ≥ 0)) && (decide (x0 ≤ 200000)))
theorem lombardref02_Good.ok {x0 : Int} {r : Bool} (h : lombardref02_Good.f x0 = some r) : Pm.Spec prog 99 [.imm (.val (.int .i64 x0))] (.imm (.val (.bool r))) [none] := by
 unfold lombardref02_Good.f at h; refine Pm.Spec.of_body Tryz.func99 Z (by kernel_rfl) (L Z) (L Z) ?_; refine W.ghost (σ' := (mkSt [(0, some (.i x0))] [] 1000)) (Gives.entry (.c Z .n) .n) (W.seq (W.pk (.A Z (.nil (W.seq (W.fork (mkSt [(2, some (.b ((decide (x0 ≥ 0)) && (decide (x0 ≤ 200000)))))] [] 1000) ?_ ?_))))))
 ·refine W.ret ?_; cases h; exact lv Z Z
 ·clear h; refine W.pk (.M Z (.B Z (.M Z ?_))); rcases tf (decide (x0 ≥ 0)) with g1 | g1
  ·exact .N Z g1 (.G Z g1 Z (.T g1 Z (.A Z (.nil (toN (Gm [] (.c Z (sbb (by simp only [g1, BL])) Z .n) .n Z))))))
  ·exact .X Z g1 (.X Z g1 (.E g1 Z (.A Z (.nil (toN (Gm [] (.c Z (sbb (by simp only [g1, BL])) Z .n) .n Z))))))
noncomputable def lombardref10_day.f (x0 : Int) : Option (Int) :=
 (lombardref02_Good.f x0).bind fun t1 =>
 if (!t1) = true then
 some 10
 else some 0
theorem lombardref10_day.ok {x0 : Int} {r : Int} (h : lombardref10_day.f x0 = some r) : Pm.Spec prog 55 [.imm (.val (.int .i64 x0))] (.imm (.val (.int .i64 r))) [none] := by
 unfold lombardref10_day.f at h; refine Pm.Spec.of_body Tryz.func55 Z (by kernel_rfl) (L Z) (L Z) ?_; refine W.ghost (σ' := (mkSt [(0, some (.i x0))] [] 1000)) (Gives.entry (.c Z .n) .n) (W.seq (W.pk (.A Z (.nil (W.seq (W.seq ?_)))))); obtain ⟨t1, b2, h⟩ := bnd1 h; refine W.pk (.M Z (.C (.b t1) [] 0 (lombardref02_Good.ok b2) ca99 Z (cI .nil) Z ?_)); refine .V Z (OpL.unV Z Z Z) (.nil (W.cnd Z h (fun q3 h => ?_) (fun q3 h => ?_)))
 ·refine W.seq (W.pk (.A Z (.nil (W.ret ?_)))); cases h; exact lv Z Z
 ·refine W.skip (W.seq (W.pk (.A Z (.nil (W.ret ?_))))); cases h; exact lv Z Z
noncomputable def lombardref10_Member.f (x0 : Int) : Option (Bool) :=
 some ((decide (x0 ≥ 1)) && (decide (x0 ≤ 32)))
theorem lombardref10_Member.ok {x0 : Int} {r : Bool} (h : lombardref10_Member.f x0 = some r) : Pm.Spec prog 57 [.imm (.val (.int .i64 x0))] (.imm (.val (.bool r))) [none] := by
 unfold lombardref10_Member.f at h; refine Pm.Spec.of_body Tryz.func57 Z (by kernel_rfl) (L Z) (L Z) ?_; refine W.ghost (σ' := (mkSt [(0, some (.i x0))] [] 1000)) (Gives.entry (.c Z .n) .n) (W.seq (W.pk (.A Z (.nil (W.seq (W.fork (mkSt [(2, some (.b ((decide (x0 ≥ 1)) && (decide (x0 ≤ 32)))))] [] 1000) ?_ ?_))))))
 ·refine W.ret ?_; cases h; exact lv Z Z
 ·clear h; refine W.pk (.M Z (.B Z (.M Z ?_))); rcases tf (decide (x0 ≥ 1)) with g1 | g1
  ·exact .N Z g1 (.G Z g1 Z (.T g1 Z (.A Z (.nil (toN (Gm [] (.c Z (sbb (by simp only [g1, BL])) Z .n) .n Z))))))
  ·exact .X Z g1 (.X Z g1 (.E g1 Z (.A Z (.nil (toN (Gm [] (.c Z (sbb (by simp only [g1, BL])) Z .n) .n Z))))))
noncomputable def lombardref10_Quote.f (x0 : api_Quote) : Option (Int) :=
 (lombardref10_Amount.f x0.ID).bind fun t1 =>
 (if (!t1) = false then lombardref10_in.f x0.Side 1 2 else some default).bind fun t3 =>
 (if ((!t1) || (!t3)) = false then lombardref10_in.f x0.Basket 1 64 else some default).bind fun t5 =>
 (if (((!t1) || (!t3)) || (!t5)) = false then lombardref10_Amount.f x0.Amount else some default).bind fun t7 =>
 (if ((((!t1) || (!t3)) || (!t5)) || (!t7)) = false then lombardref10_in.f x0.Rate (-1000000) 1000000 else some default).bind fun t9 =>
 if (((((!t1) || (!t3)) || (!t5)) || (!t7)) || (!t9)) = true then
 some 1
 else (lombardref02_Good.f x0.Start).bind fun t16 =>
 (if (!t16) = false ∧ (x0.End != 0) = true then lombardref02_Good.f x0.End else some default).bind fun t18 =>
 (if (!t16) = false ∧ (x0.End != 0) = true ∧ (!t18) = false then lombardref10_in.f (IntKind.wrap .i64 (x0.End - x0.Start)) 1 3660 else some default).bind fun t20 =>
 if ((!t16) || ((x0.End != 0) && ((!t18) || (!t20)))) = true then
 some 10
 else some 0
theorem lombardref10_Quote.ok {x0 : api_Quote} {r : Int} (h : lombardref10_Quote.f x0 = some r) : Pm.Spec prog 58 [.agg (im (api_Quote.enc x0))] (.imm (.val (.int .i64 r))) [none] := by
 unfold lombardref10_Quote.f at h; refine Pm.Spec.of_body Tryz.func58 Z (by kernel_rfl) (L Z) (L Z) ?_; refine W.ghost (σ' := (mkSt [(0, some (.agg (api_Quote.av x0)))] [] 1000)) (Gives.entry (.c Z .n) .n) (W.seq (W.pk (.t Z Z (O.box Z Z Z Z Z) (.A Z (.nil (W.seq (W.seq ?_))))))); obtain ⟨t1, b2, h⟩ := bnd1 h; obtain ⟨t3, b4, h⟩ := bnd1 h; obtain ⟨t5, b6, h⟩ := bnd1 h; obtain ⟨t7, b8, h⟩ := bnd1 h; obtain ⟨t9, b10, h⟩ := bnd1 h; refine W.fork (mkSt [(1, some (.ptr 1000 0)), (30, some (.b (((((!t1) || (!t3)) || (!t5)) || (!t7)) || (!t9))))] [(1000, some (.box (api_Quote.av x0)))] 1001) ?_ ?_
 ·refine W.cnd Z h (fun q15 h => ?_) (fun q15 h => ?_)
  ·refine W.seq (W.pk (.A Z (.nil (W.ret ?_)))); cases h; exact lv Z Z
  ·refine W.skip (W.seq (W.seq ?_)); obtain ⟨t16, b17, h⟩ := bnd1 h; obtain ⟨t18, b19, h⟩ := bnd1 h; obtain ⟨t20, b21, h⟩ := bnd1 h; refine W.fork (mkSt [(54, some (.b ((!t16) || ((x0.End != 0) && ((!t18) || (!t20))))))] [] 1001) ?_ ?_
   ·refine W.cnd Z h (fun q25 h => ?_) (fun q25 h => ?_)
    ·refine W.seq (W.pk (.A Z (.nil (W.ret ?_)))); cases h; exact lv Z Z
    ·refine W.skip (W.seq (W.pk (.A Z (.nil (W.ret ?_))))); cases h; exact lv Z Z
   ·clear h; refine W.pk (.F fld30_6 Z (.V Z (O.ld (y := .i x0.Start) ty3 Z Z Z) (.C (.b t16) [] 0 (lombardref02_Good.ok b17) ca99 Z (cI .nil) Z ?_))); refine .V Z (OpL.unV Z Z Z) (.M Z ?_); rcases tf t16 with g22 | g22
    ·refine .H fld30_7 Z (notT g22) Z (.U Z (notT g22) (O.ld (y := .i x0.End) ty3 Z Z Z) (.G Z (notT g22) Z (.N Z (notT g22) ?_))); rcases tf (x0.End != 0) with g23 | g23
     ·refine .H fld30_7 Z g23 Z (.U Z g23 (O.ld (y := .i x0.End) ty3 Z Z Z) (.call (.b t18) [] 0 (lombardref02_Good.ok ((if_pos ⟨(by simp only [g22, g23, BL]), (by simp only [g22, g23, BL])⟩).symm.trans b19)) Z (met Z Z Z g23) Z ca99 Z Z (cI .nil) Z Z Z Z Z ?_)); refine .U Z g23 (OpL.unV Z Z Z) (.N Z g23 ?_); rcases tf t18 with g24 | g24
      ·refine .H fld30_7 Z (notT g24) Z (.U Z (notT g24) (O.ld (y := .i x0.End) ty3 Z Z Z) (.H fld30_6 Z (notT g24) Z (.U Z (notT g24) (O.ld (y := .i x0.Start) ty3 Z Z Z) (.G Z (notT g24) Z (.call (.b t20) [] 0 (lombardref10_in.ok ((if_pos ⟨(by simp only [g22, g23, g24, BL]), (by simp only [g22, g23, g24, BL]), (by simp only [g22, g23, g24, BL])⟩).symm.trans b21)) Z (met Z Z Z (notT g24)) Z ca97 Z Z (cI (cI (cI .nil))) Z Z Z Z Z ?_))))); exact .U Z (notT g24) (OpL.unV Z Z Z) (.U Z g23 (O.pickF (notT g24) Z Z Z) (.U Z (notT g22) (O.pickT g23 Z Z Z) (.E (notT g22) Z (.nil (toN (Gm [] (.c Z (sbb (by simp only [g22, g23, g24, BL])) Z .n) .n Z))))))
      ·(iterate 7 refine .X Z (notF g24) ?_); exact .U Z g23 (O.pickT (notF g24) Z Z Z) (.U Z (notT g22) (O.pickT g23 Z Z Z) (.E (notT g22) Z (.nil (toN (Gm [] (.c Z (sbb (by simp only [g22, g23, g24, BL])) Z .n) .n Z)))))
     ·(iterate 5 refine .X Z g23 ?_); (iterate 7 refine .x Z (unmetU Z Z Z) ?_); exact .X Z g23 (.U Z (notT g22) (O.pickF g23 Z Z Z) (.E (notT g22) Z (.nil (toN (Gm [] (.c Z (sbb (by simp only [g22, g23, BL])) Z .n) .n Z)))))
    ·(iterate 4 refine .X Z (notF g22) ?_); (iterate 13 refine .x Z (unmetU Z Z Z) ?_); exact .X Z (notF g22) (.T (notF g22) Z (.nil (toN (Gm [] (.c Z (sbb (by simp only [g22, BL])) Z .n) .n Z))))
 ·clear h; refine W.pk (.F fld30_0 Z (.V Z (O.ld (y := .i x0.ID) ty3 Z Z Z) (.C (.b t1) [] 0 (lombardref10_Amount.ok b2) ca98 Z (cI .nil) Z ?_))); refine .V Z (OpL.unV Z Z Z) (.M Z ?_); rcases tf t1 with g11 | g11
  ·refine .H fld30_2 Z (notT g11) Z (.U Z (notT g11) (O.ld (y := .i x0.Side) ty3 Z Z Z) (.call (.b t3) [] 0 (lombardref10_in.ok ((if_pos (by simp only [g11, BL])).symm.trans b4)) Z (met Z Z Z (notT g11)) Z ca97 Z Z (cI (cI (cI .nil))) Z Z Z Z Z ?_)); refine .U Z (notT g11) (OpL.unV Z Z Z) (.E (notT g11) Z (.M Z ?_)); rcases tf t3 with g12 | g12
   ·refine .H fld30_3 Z (notT g12) Z (.U Z (notT g12) (O.ld (y := .i x0.Basket) ty3 Z Z Z) (.call (.b t5) [] 0 (lombardref10_in.ok ((if_pos (by simp only [g11, g12, BL])).symm.trans b6)) Z (met Z Z Z (notT g12)) Z ca97 Z Z (cI (cI (cI .nil))) Z Z Z Z Z ?_)); refine .U Z (notT g12) (OpL.unV Z Z Z) (.E (notT g12) Z (.M Z ?_)); rcases tf t5 with g13 | g13
    ·refine .H fld30_4 Z (notT g13) Z (.U Z (notT g13) (O.ld (y := .i x0.Amount) ty3 Z Z Z) (.call (.b t7) [] 0 (lombardref10_Amount.ok ((if_pos (by simp only [g11, g12, g13, BL])).symm.trans b8)) Z (met Z Z Z (notT g13)) Z ca98 Z Z (cI .nil) Z Z Z Z Z ?_)); refine .U Z (notT g13) (OpL.unV Z Z Z) (.E (notT g13) Z (.M Z ?_)); rcases tf t7 with g14 | g14
     ·refine .H fld30_5 Z (notT g14) Z (.U Z (notT g14) (O.ld (y := .i x0.Rate) ty3 Z Z Z) (.call (.b t9) [] 0 (lombardref10_in.ok ((if_pos (by simp only [g11, g12, g13, g14, BL])).symm.trans b10)) Z (met Z Z Z (notT g14)) Z ca97 Z Z (cI (cI (cI .nil))) Z Z Z Z Z ?_)); exact .U Z (notT g14) (OpL.unV Z Z Z) (.E (notT g14) Z (.nil (toN (Gm [] (.r Z Z (.c Z (sbb (by simp only [g11, g12, g13, g14, BL])) Z .n)) (.r Z Z Z .n) Z))))
     ·(iterate 4 refine .X Z (notF g14) ?_); exact .T (notF g14) Z (.nil (toN (Gm [] (.r Z Z (.c Z (sbb (by simp only [g11, g12, g13, g14, BL])) Z .n)) (.r Z Z Z .n) Z)))
    ·(iterate 4 refine .X Z (notF g13) ?_); refine .T (notF g13) Z (.M Z ?_); (iterate 4 refine .X Z Z ?_); exact .T Z Z (.nil (toN (Gm [] (.r Z Z (.c Z (sbb (by simp only [g11, g12, g13, BL])) Z .n)) (.r Z Z Z .n) Z)))
   ·(iterate 4 refine .X Z (notF g12) ?_); refine .T (notF g12) Z (.M Z ?_); (iterate 4 refine .X Z Z ?_); refine .T Z Z (.M Z ?_); (iterate 4 refine .X Z Z ?_); exact .T Z Z (.nil (toN (Gm [] (.r Z Z (.c Z (sbb (by simp only [g11, g12, BL])) Z .n)) (.r Z Z Z .n) Z)))
  ·(iterate 4 refine .X Z (notF g11) ?_); refine .T (notF g11) Z (.M Z ?_); (iterate 4 refine .X Z Z ?_); refine .T Z Z (.M Z ?_); (iterate 4 refine .X Z Z ?_); refine .T Z Z (.M Z ?_); (iterate 4 refine .X Z Z ?_); exact .T Z Z (.nil (toN (Gm [] (.r Z Z (.c Z (sbb (by simp only [g11, BL])) Z .n)) (.r Z Z Z .n) Z)))
noncomputable def lombardref04_at.f (x0 : Bs) (x1 : Int) : Option (Int) :=
 if (decide (x1 < (List.length x0 : Int))) = true then
 if (0 : Int) ≤ x1 ∧ x1 < (List.length x0 : Int) then
 some (IntKind.wrap .i64 (byte x0 x1))
 else none
 else some (-1)
theorem lombardref04_at.ok {x0 : Bs} {x1 : Int} {r : Int} (h : lombardref04_at.f x0 x1 = some r) : Pm.Spec prog 124 [.imm (.val (.string (tx x0))), .imm (.val (.int .i64 x1))] (.imm (.val (.int .i64 r))) [none, none] := by
 unfold lombardref04_at.f at h; refine Pm.Spec.of_body Tryz.func124 Z (by kernel_rfl) (L Z) (L Z) ?_; refine W.ghost (σ' := (mkSt [(0, some (.s x0)), (1, some (.i x1))] [] 1000)) (Gives.entry (.c Z (.c Z .n)) .n) (W.seq (W.pk (.A Z (.nil (W.seq (W.seq (W.pk (.M Z (.M Z (.V Z (O.lenS u9 Z Z) (.B Z ?_))))))))))); refine .nil (W.cnd Z h (fun q1 h => ?_) (fun q1 h => ?_))
 ·refine W.seq ?_; obtain ⟨c2, h⟩ := chk h; refine W.pk (.M Z (.M Z (.V Z (O.idxS u9 c2 Z Z Z) (.V Z (O.conv h5 u3 Z Z) (.A Z (.nil (W.ret ?_))))))); cases h; exact leaves (.inr Z) Z (.imm _) (cN (cN .nil)) Z Z
 ·refine W.skip (W.seq (W.pk (.A Z (.nil (W.ret ?_))))); cases h; exact leaves (.inr Z) Z (.imm _) (cN (cN .nil)) Z Z
noncomputable def lombardref04_tail.f (x0 : Int) : Option (Bool) :=
 some ((decide (x0 ≥ 128)) && (decide (x0 < 192)))
theorem lombardref04_tail.ok {x0 : Int} {r : Bool} (h : lombardref04_tail.f x0 = some r) : Pm.Spec prog 125 [.imm (.val (.int .i64 x0))] (.imm (.val (.bool r))) [none] := by
 unfold lombardref04_tail.f at h; refine Pm.Spec.of_body Tryz.func125 Z (by kernel_rfl) (L Z) (L Z) ?_; refine W.ghost (σ' := (mkSt [(0, some (.i x0))] [] 1000)) (Gives.entry (.c Z .n) .n) (W.seq (W.pk (.A Z (.nil (W.seq (W.fork (mkSt [(2, some (.b ((decide (x0 ≥ 128)) && (decide (x0 < 192)))))] [] 1000) ?_ ?_))))))
 ·refine W.ret ?_; cases h; exact lv Z Z
 ·clear h; refine W.pk (.M Z (.B Z (.M Z ?_))); rcases tf (decide (x0 ≥ 128)) with g1 | g1
  ·exact .N Z g1 (.G Z g1 Z (.T g1 Z (.A Z (.nil (toN (Gm [] (.c Z (sbb (by simp only [g1, BL])) Z .n) .n Z))))))
  ·exact .X Z g1 (.X Z g1 (.E g1 Z (.A Z (.nil (toN (Gm [] (.c Z (sbb (by simp only [g1, BL])) Z .n) .n Z))))))
end Go.Proofs.YtbmokbkgielmmaaGreat
