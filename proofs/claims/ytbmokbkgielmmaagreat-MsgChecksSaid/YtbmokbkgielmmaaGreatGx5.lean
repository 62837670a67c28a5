/- Shows what functions of the program come to, each as a plain function: written by a program of the author's for this claim. -/
import Derived.Test.YtbmokbkgielmmaaGreatGx4
namespace Go.Proofs.YtbmokbkgielmmaaGreat
open Go Go.Pm
set_option linter.unusedVariables false
set_option maxRecDepth 100000
set_option maxHeartbeats 4000000
set_option linter.unusedSimpArgs false
noncomputable def lombardref10_behind.b0 (x0 : lombardref10_Msg) (v29 : Bs) (v30 : Int) : Option ((Bs × Int) ⊕ Bs) :=
 if (decide (v30 < (List.length x0.In : Int))) = true then
 if (0 : Int) ≤ v30 ∧ v30 < (List.length x0.In : Int) then
 (lombardref09_Text.f ((nth x0.In v30).ISIN)).bind fun t55 =>
 if (v29.length : Int) + t55.length ≤ 9223372036854775807 then
 if (0 : Int) ≤ v30 ∧ v30 < (List.length x0.In : Int) then
 (lombardref09_Int.f ((nth x0.In v30).Qty)).bind fun t59 =>
 if ((v29 ++ t55).length : Int) + t59.length ≤ 9223372036854775807 then
 some (.inl (((v29 ++ t55) ++ t59), (IntKind.wrap .i64 (v30 + 1))))
 else none
 else none
 else none
 else none
 else some (.inr v29)
noncomputable def lombardref10_behind.r0 (x0 : lombardref10_Msg) (s : Bs × Int) : Option ((Bs × Int) ⊕ Bs) := lombardref10_behind.b0 x0 s.1 s.2
noncomputable def lombardref10_behind.f (x0 : lombardref10_Msg) : Option (Bs) :=
 if ((x0.Kind == 9) || (x0.Kind == 14)) = true then
 (lombardref10_ints.f [x0.Member, x0.N]).bind fun t3 =>
 some t3
 else if (x0.Kind == 10) = true then
 (lombardref10_ints.f [x0.Member, x0.Trade, x0.Day]).bind fun t6 =>
 some t6
 else if (x0.Kind == 11) = true then
 (lombardref10_ints.f [x0.Member, x0.Trade]).bind fun t9 =>
 (lombardref09_Text.f x0.Out.ISIN).bind fun t11 =>
 if (t9.length : Int) + t11.length ≤ 9223372036854775807 then
 (lombardref09_Int.f x0.Out.Qty).bind fun t14 =>
 if ((t9 ++ t11).length : Int) + t14.length ≤ 9223372036854775807 then
 (lombardref09_Uint.f (IntKind.wrap .u64 (List.length x0.In : Int))).bind fun t17 =>
 if (((t9 ++ t11) ++ t14).length : Int) + t17.length ≤ 9223372036854775807 then
 (loop (lombardref10_behind.r0 x0) ((((t9 ++ t11) ++ t14) ++ t17), 0)).bind fun o50 =>
 some o50
 else none
 else none
 else none
 else if (x0.Kind == 12) = true then
 (lombardref10_ints.f [x0.Member, x0.Day]).bind fun t63 =>
 (lombardref09_Bool.f x0.Done).bind fun t65 =>
 if (t63.length : Int) + t65.length ≤ 9223372036854775807 then
 some (t63 ++ t65)
 else none
 else if (x0.Kind == 13) = true then
 (lombardref09_Int.f x0.Member).bind fun t69 =>
 some t69
 else if (x0.Kind == 15) = true then
 (lombardref10_ints.f [x0.Trade, x0.Day, x0.Rate]).bind fun t72 =>
 some t72
 else some []
theorem lombardref10_behind.ok {x0 : lombardref10_Msg} {r : Bs} (h : lombardref10_behind.f x0 = some r) : Pm.Spec prog 28 [.agg (im (lombardref10_Msg.enc x0))] (.imm (.val (.string (tx r)))) [none] := by
 unfold lombardref10_behind.f at h; refine Pm.Spec.of_body Tryz.func28 Z (by kernel_rfl) (L Z) (L Z) ?_; refine W.ghost (σ' := (mkSt [(0, some (.agg (lombardref10_Msg.av x0)))] [] 1000)) (Gives.entry (.c Z .n) .n) (W.seq (W.pk (.t Z Z (O.box Z Z Z Z Z) (.A Z (.nil (W.seq (W.seq (W.fork (mkSt [(1, some (.ptr 1000 0)), (12, some (.b ((x0.Kind == 9) || (x0.Kind == 14))))] [(1000, some (.box (lombardref10_Msg.av x0)))] 1001) ?_ ?_))))))))
 ·refine W.cnd Z h (fun q2 h => ?_) (fun q2 h => ?_)
  ·refine W.seq ?_; obtain ⟨t3, b4, h⟩ := bnd1 h; refine W.pk (.F fld35_1 Z (.V Z (O.ld (y := .i x0.Member) ty3 Z Z Z) (.F fld35_8 Z (.V Z (O.ld (y := .i x0.N) ty3 Z Z Z) (.t Z Z (O.lit (enc := (encI .i64)) (l := [x0.Member, x0.N]) sl25 Z Z Z Z Z Z Z Z Z) (.C (.s t3) [(1001, some (.rows 3 1 (List.map (encI .i64) [x0.Member, x0.N]) false)), (1001, none)] 0 (lombardref10_ints.ok b4) ca25 Z (cC (.own _ _ _ _ Z) .nil) Z ?_)))))); refine .A Z (.nil (W.ret ?_)); cases h; exact leaves (.inr Z) Z (.imm _) (cN .nil) Z Z
  ·refine W.skip (W.seq (W.seq (W.pk (.F fld35_0 Z (.V Z (O.ld (y := .i x0.Kind) ty3 Z Z Z) (.B Z (.nil (W.cnd Z h (fun q5 h => ?_) (fun q5 h => ?_)))))))))
   ·refine W.seq ?_; obtain ⟨t6, b7, h⟩ := bnd1 h; refine W.pk (.F fld35_1 Z (.V Z (O.ld (y := .i x0.Member) ty3 Z Z Z) (.F fld35_12 Z (.V Z (O.ld (y := .i x0.Trade) ty3 Z Z Z) (.F fld35_6 Z (.V Z (O.ld (y := .i x0.Day) ty3 Z Z Z) (.t Z Z (O.lit (enc := (encI .i64)) (l := [x0.Member, x0.Trade, x0.Day]) sl25 Z Z Z Z Z Z Z Z Z) (.C (.s t6) [(1001, some (.rows 3 1 (List.map (encI .i64) [x0.Member, x0.Trade, x0.Day]) false)), (1001, none)] 0 (lombardref10_ints.ok b7) ca25 Z (cC (.own _ _ _ _ Z) .nil) Z ?_)))))))); refine .A Z (.nil (W.ret ?_)); cases h; exact leaves (.inr Z) Z (.imm _) (cN .nil) Z Z
   ·refine W.skip (W.seq (W.seq (W.pk (.F fld35_0 Z (.V Z (O.ld (y := .i x0.Kind) ty3 Z Z Z) (.B Z (.nil (W.cnd Z h (fun q8 h => ?_) (fun q8 h => ?_)))))))))
    ·refine W.seq ?_; obtain ⟨t9, b10, h⟩ := bnd1 h; obtain ⟨t11, b12, h⟩ := bnd1 h; obtain ⟨c13, h⟩ := chk h; obtain ⟨t14, b15, h⟩ := bnd1 h; obtain ⟨c16, h⟩ := chk h; obtain ⟨t17, b18, h⟩ := bnd1 h; obtain ⟨c19, h⟩ := chk h; refine W.dk (unm 23 [0, 1, 0, 4, 15, 31, 0, 64, 192, 511, 1023, 0, 2048, 6144, 15359, 32767, 0, 65536, 196608, 458752, 1014783, 2097151, 4194303]) Z (by kernel_rfl) ?_; refine .F fld35_1 Z (.V Z (O.ld (y := .i x0.Member) ty3 Z Z Z) (.F fld35_12 Z (.V Z (O.ld (y := .i x0.Trade) ty3 Z Z Z) (.t Z Z (O.lit (enc := (encI .i64)) (l := [x0.Member, x0.Trade]) sl25 Z Z Z Z Z Z Z Z Z) (.C (.s t9) [(1001, some (.rows 3 1 (List.map (encI .i64) [x0.Member, x0.Trade]) false)), (1001, none)] 0 (lombardref10_ints.ok b10) ca25 Z (cC (.own _ _ _ _ Z) .nil) Z ?_))))); refine .F fld35_10 Z (.F fld32_0 Z (.V Z (O.ld (y := .s x0.Out.ISIN) ty9 Z Z Z) (.C (.s t11) [] 0 (lombardref09_Text.ok b12) ca24 Z (cI .nil) Z ?_))); refine .V Z (O.catS c13 Z Z Z) (.F fld35_10 Z (.F fld32_1 Z (.V Z (O.ld (y := .i x0.Out.Qty) ty3 Z Z Z) (.C (.s t14) [] 0 (lombardref09_Int.ok b15) ca23 Z (cI .nil) Z ?_)))); refine .V Z (O.catS c16 Z Z Z) (.F fld35_11 Z (.V Z (O.ld (y := .imm (.row 2 (List.map api_Lot.enc x0.In))) ty33 Z Z Z) (.V Z (O.lenR sl33 Z Z) (.V Z (O.conv h3 u101 Z Z) (.C (.s t17) [] 0 (lombardref09_Uint.ok b18) ca26 Z (cI .nil) Z ?_))))); refine .V Z (O.catS c19 Z Z Z) (.A Z (.nil ?_)); refine ⟨by kernel_rfl, by kernel_rfl, ?_⟩; refine W.seq (W.seq (W.pk (.A Z (.nil ?_)))); obtain ⟨o50, b51, h⟩ := bnd1 h; refine W.fork (mkSt [(3, some (.s o50))] [] 1002) ?_ ?_
     ·refine W.seq (W.pk (.M Z (.A Z (.nil (W.ret ?_))))); cases h; exact leaves (.inr Z) Z (.imm _) (cN .nil) Z Z
     ·clear h; refine W.block (W.loopF (fun (s_ : Bs × Int) => mkSt [(1, some (.ptr 1000 0)), (3, some (.s s_.1)), (4, some (.i s_.2))] [(1000, some (.box (lombardref10_Msg.av x0)))] 1002) b51 (Gm [] (.e Z Z) (.r Z Z Z .n) Z) ?_); rintro ⟨v29, v30⟩ s_ hr; have h : lombardref10_behind.b0 x0 v29 v30 = some s_ := hr; unfold lombardref10_behind.b0 at h; refine W.seq (W.seq (W.pk (.M Z (.F fld35_11 Z (.V Z (O.ld (y := .imm (.row 2 (List.map api_Lot.enc x0.In))) ty33 Z Z Z) (.V Z (O.lenR sl33 Z Z) (.B Z (.nil (W.cnd Z h (fun q53 h => ?_) (fun q53 h => ?_))))))))))
      ·refine W.skip (W.seq (W.block ?_)); obtain ⟨c54, h⟩ := chk h; obtain ⟨t55, b56, h⟩ := bnd1 h; obtain ⟨c57, h⟩ := chk h; obtain ⟨c58, h⟩ := chk h; obtain ⟨t59, b60, h⟩ := bnd1 h; obtain ⟨c61, h⟩ := chk h; refine W.dk (unm 18 [0, 0, 2, 0, 14, 30, 62, 126, 255, 0, 512, 0, 3584, 7680, 15872, 32510, 65535, 131071]) Z (by kernel_rfl) ?_; refine .M Z (.F fld35_11 Z (.V Z (O.ld (y := .imm (.row 2 (List.map api_Lot.enc x0.In))) ty33 Z Z Z) (.M Z (.V Z (O.idx sl33 c54 Z Z Z) (.F fld32_0 Z (.V Z (O.ld (y := .s ((nth x0.In v30).ISIN)) ty9 Z Z Z) (.C (.s t55) [] 0 (lombardref09_Text.ok b56) ca24 Z (cI .nil) Z ?_))))))); refine .V Z (O.catS c57 Z Z Z) (.F fld35_11 Z (.V Z (O.ld (y := .imm (.row 2 (List.map api_Lot.enc x0.In))) ty33 Z Z Z) (.M Z (.V Z (O.idx sl33 c58 Z Z Z) (.F fld32_1 Z (.V Z (O.ld (y := .i ((nth x0.In v30).Qty)) ty3 Z Z Z) (.C (.s t59) [] 0 (lombardref09_Int.ok b60) ca23 Z (cI .nil) Z ?_))))))); refine .V Z (O.catS c61 Z Z Z) (.A Z (.nil ?_)); refine ⟨by kernel_rfl, by kernel_rfl, ?_⟩; refine W.pk (.M Z (.B Z (.A Z (.nil ?_)))); cases h; exact rdN (Gm [] (.e Z Z) (.r Z Z Z .n) Z)
      ·refine W.exit ?_; cases h; refine rdX fun e_ => ?_; subst e_; (repeat with_reducible refine thru ?_); exact hit (toN (Gm [] (.r Z Z .n) .n Z))
    ·refine W.skip (W.seq (W.seq (W.pk (.F fld35_0 Z (.V Z (O.ld (y := .i x0.Kind) ty3 Z Z Z) (.B Z (.nil (W.cnd Z h (fun q62 h => ?_) (fun q62 h => ?_)))))))))
     ·refine W.seq ?_; obtain ⟨t63, b64, h⟩ := bnd1 h; obtain ⟨t65, b66, h⟩ := bnd1 h; obtain ⟨c67, h⟩ := chk h; refine W.dk (unm 11 [0, 1, 0, 4, 15, 31, 0, 64, 255, 511, 1023]) Z (by kernel_rfl) ?_; refine .F fld35_1 Z (.V Z (O.ld (y := .i x0.Member) ty3 Z Z Z) (.F fld35_6 Z (.V Z (O.ld (y := .i x0.Day) ty3 Z Z Z) (.t Z Z (O.lit (enc := (encI .i64)) (l := [x0.Member, x0.Day]) sl25 Z Z Z Z Z Z Z Z Z) (.C (.s t63) [(1001, some (.rows 3 1 (List.map (encI .i64) [x0.Member, x0.Day]) false)), (1001, none)] 0 (lombardref10_ints.ok b64) ca25 Z (cC (.own _ _ _ _ Z) .nil) Z ?_))))); refine .F fld35_13 Z (.V Z (O.ld (y := .b x0.Done) ty4 Z Z Z) (.C (.s t65) [] 0 (lombardref09_Bool.ok b66) ca70 Z (cI .nil) Z ?_)); refine .V Z (O.catS c67 Z Z Z) (.A Z (.nil ?_)); refine ⟨by kernel_rfl, by kernel_rfl, ?_⟩; refine W.ret ?_; cases h; exact leaves (.inr Z) Z (.imm _) (cN .nil) Z Z
     ·refine W.skip (W.seq (W.seq (W.pk (.F fld35_0 Z (.V Z (O.ld (y := .i x0.Kind) ty3 Z Z Z) (.B Z (.nil (W.cnd Z h (fun q68 h => ?_) (fun q68 h => ?_)))))))))
      ·refine W.seq ?_; obtain ⟨t69, b70, h⟩ := bnd1 h; refine W.pk (.F fld35_1 Z (.V Z (O.ld (y := .i x0.Member) ty3 Z Z Z) (.C (.s t69) [] 0 (lombardref09_Int.ok b70) ca23 Z (cI .nil) Z ?_))); refine .A Z (.nil (W.ret ?_)); cases h; exact leaves (.inr Z) Z (.imm _) (cN .nil) Z Z
      ·refine W.skip (W.seq (W.seq (W.pk (.F fld35_0 Z (.V Z (O.ld (y := .i x0.Kind) ty3 Z Z Z) (.B Z (.nil (W.cnd Z h (fun q71 h => ?_) (fun q71 h => ?_)))))))))
       ·refine W.seq ?_; obtain ⟨t72, b73, h⟩ := bnd1 h; refine W.pk (.F fld35_12 Z (.V Z (O.ld (y := .i x0.Trade) ty3 Z Z Z) (.F fld35_6 Z (.V Z (O.ld (y := .i x0.Day) ty3 Z Z Z) (.F fld35_14 Z (.V Z (O.ld (y := .i x0.Rate) ty3 Z Z Z) (.t Z Z (O.lit (enc := (encI .i64)) (l := [x0.Trade, x0.Day, x0.Rate]) sl25 Z Z Z Z Z Z Z Z Z) (.C (.s t72) [(1001, some (.rows 3 1 (List.map (encI .i64) [x0.Trade, x0.Day, x0.Rate]) false)), (1001, none)] 0 (lombardref10_ints.ok b73) ca25 Z (cC (.own _ _ _ _ Z) .nil) Z ?_)))))))); refine .A Z (.nil (W.ret ?_)); cases h; exact leaves (.inr Z) Z (.imm _) (cN .nil) Z Z
       ·refine W.skip (W.seq (W.pk (.A Z (.nil (W.ret ?_))))); cases h; exact leaves (.inr Z) Z (.imm _) (cN .nil) Z Z
 ·clear h; refine W.pk (.F fld35_0 Z (.V Z (O.ld (y := .i x0.Kind) ty3 Z Z Z) (.B Z (.M Z ?_)))); rcases tf (x0.Kind == 9) with g1 | g1
  ·(iterate 3 refine .x Z (unmet Z Z Z g1) ?_); exact .V Z (O.pickT g1 Z Z Z) (.nil (toN (Gm [] (.r Z Z (.c Z (sbb (by simp only [g1, BL])) Z .n)) (.r Z Z Z .n) Z)))
  ·exact .v Z (met Z Z Z g1) (O.fld fld35_0 Z Z Z) (.v Z (met Z Z Z g1) (O.ld (y := .i x0.Kind) ty3 Z Z Z) (.v Z (met Z Z Z g1) (OpL.binI Z Z Z Z) (.V Z (O.pickF g1 Z Z Z) (.nil (toN (Gm [] (.r Z Z (.c Z (sbb (by simp only [g1, BL])) Z .n)) (.r Z Z Z .n) Z))))))
noncomputable def lombardref10_Encode.b0 (x0 : lombardref10_Msg) (v115 : Bs) (v116 : Int) : Option ((Bs × Int) ⊕ Bs) :=
 if (decide (v116 < (List.length x0.Basket.Cuts : Int))) = true then
 if (0 : Int) ≤ v116 ∧ v116 < (List.length x0.Basket.Cuts : Int) then
 if (0 : Int) ≤ v116 ∧ v116 < (List.length x0.Basket.Cuts : Int) then
 if (0 : Int) ≤ v116 ∧ v116 < (List.length x0.Basket.Cuts : Int) then
 (lombardref10_ints.f [(nth x0.Basket.Cuts v116).Days, (nth x0.Basket.Cuts v116).Rating, (nth x0.Basket.Cuts v116).Cut]).bind fun t139 =>
 if (v115.length : Int) + t139.length ≤ 9223372036854775807 then
 some (.inl ((v115 ++ t139), (IntKind.wrap .i64 (v116 + 1))))
 else none
 else none
 else none
 else none
 else some (.inr v115)
noncomputable def lombardref10_Encode.r0 (x0 : lombardref10_Msg) (s : Bs × Int) : Option ((Bs × Int) ⊕ Bs) := lombardref10_Encode.b0 x0 s.1 s.2
noncomputable def lombardref10_Encode.b1 (x0 : lombardref10_Msg) (v207 : Bs) (v208 : Int) : Option ((Bs × Int) ⊕ Bs) :=
 if (decide (v208 < (List.length x0.Prices : Int))) = true then
 if (0 : Int) ≤ v208 ∧ v208 < (List.length x0.Prices : Int) then
 (lombardref09_Text.f ((nth x0.Prices v208).ISIN)).bind fun t233 =>
 if (v207.length : Int) + t233.length ≤ 9223372036854775807 then
 if (0 : Int) ≤ v208 ∧ v208 < (List.length x0.Prices : Int) then
 (lombardref09_Int.f ((nth x0.Prices v208).Price)).bind fun t237 =>
 if ((v207 ++ t233).length : Int) + t237.length ≤ 9223372036854775807 then
 some (.inl (((v207 ++ t233) ++ t237), (IntKind.wrap .i64 (v208 + 1))))
 else none
 else none
 else none
 else none
 else some (.inr v207)
noncomputable def lombardref10_Encode.r1 (x0 : lombardref10_Msg) (s : Bs × Int) : Option ((Bs × Int) ⊕ Bs) := lombardref10_Encode.b1 x0 s.1 s.2
noncomputable def lombardref10_Encode.f (x0 : lombardref10_Msg) : Option (Bs × Int) :=
 (lombardref10_Check.f x0).bind fun t1 =>
 if (t1 != 0) = true then
 (lombardref10_Check.f x0).bind fun t4 =>
 some ([], t4)
 else (lombardref09_Int.f x0.Kind).bind fun t6 =>
 ((
 if (x0.Kind == 1) = true then
 (lombardref09_Int.f x0.Member).bind fun t19 =>
 if (t6.length : Int) + t19.length ≤ 9223372036854775807 then
 (lombardref09_Text.f x0.Name).bind fun t22 =>
 if ((t6 ++ t19).length : Int) + t22.length ≤ 9223372036854775807 then
 some ((t6 ++ t19) ++ t22)
 else none
 else none
 else some t6 : Option (Bs))).bind fun o16 =>
 ((
 if (x0.Kind == 2) = true then
 (lombardref09_Text.f x0.Asset.ISIN).bind fun t39 =>
 if (o16.length : Int) + t39.length ≤ 9223372036854775807 then
 (lombardref10_ints.f [x0.Asset.Issuer, x0.Asset.Rating, x0.Asset.Maturity]).bind fun t42 =>
 if ((o16 ++ t39).length : Int) + t42.length ≤ 9223372036854775807 then
 (lombardref09_Text.f x0.Asset.Currency).bind fun t45 =>
 if (((o16 ++ t39) ++ t42).length : Int) + t45.length ≤ 9223372036854775807 then
 some (((o16 ++ t39) ++ t42) ++ t45)
 else none
 else none
 else none
 else some o16 : Option (Bs))).bind fun o36 =>
 ((
 if (x0.Kind == 3) = true then
 (lombardref10_ints.f [x0.Basket.ID, x0.Basket.Version, x0.Basket.Rating, x0.Basket.Least, x0.Basket.Most, x0.Basket.Issuer, x0.Basket.Asset]).bind fun t99 =>
 if (o36.length : Int) + t99.length ≤ 9223372036854775807 then
 (lombardref09_Text.f x0.Basket.Currency).bind fun t102 =>
 if ((o36 ++ t99).length : Int) + t102.length ≤ 9223372036854775807 then
 (lombardref09_Uint.f (IntKind.wrap .u64 (List.length x0.Basket.Cuts : Int))).bind fun t105 =>
 if (((o36 ++ t99) ++ t102).length : Int) + t105.length ≤ 9223372036854775807 then
 (loop (lombardref10_Encode.r0 x0) ((((o36 ++ t99) ++ t102) ++ t105), 0)).bind fun o132 =>
 (lombardref09_Ints.f x0.Basket.Barred).bind fun t142 =>
 if (o132.length : Int) + t142.length ≤ 9223372036854775807 then
 some (o132 ++ t142)
 else none
 else none
 else none
 else none
 else some o36 : Option (Bs))).bind fun o96 =>
 ((
 if (x0.Kind == 4) = true then
 (lombardref09_Uint.f (IntKind.wrap .u64 (List.length x0.Prices : Int))).bind fun t195 =>
 if (o96.length : Int) + t195.length ≤ 9223372036854775807 then
 (loop (lombardref10_Encode.r1 x0) ((o96 ++ t195), 0)).bind fun o228 =>
 some o228
 else none
 else some o96 : Option (Bs))).bind fun o192 =>
 ((
 if (x0.Kind == 5) = true then
 (lombardref09_Int.f x0.Day).bind fun t248 =>
 if (o192.length : Int) + t248.length ≤ 9223372036854775807 then
 some (o192 ++ t248)
 else none
 else some o192 : Option (Bs))).bind fun o245 =>
 ((
 if ((x0.Kind == 6) || (x0.Kind == 7)) = true then
 (lombardref10_ints.f [x0.Member, x0.N]).bind fun t263 =>
 if (o245.length : Int) + t263.length ≤ 9223372036854775807 then
 (lombardref09_Text.f x0.Text).bind fun t266 =>
 if ((o245 ++ t263).length : Int) + t266.length ≤ 9223372036854775807 then
 some ((o245 ++ t263) ++ t266)
 else none
 else none
 else some o245 : Option (Bs))).bind fun o260 =>
 if (x0.Kind == 8) = true then
 (lombardref10_ints.f [x0.Quote.ID, x0.Quote.Member, x0.Quote.Side, x0.Quote.Basket, x0.Quote.Amount, x0.Quote.Rate, x0.Quote.Start, x0.Quote.End]).bind fun t270 =>
 if (o260.length : Int) + t270.length ≤ 9223372036854775807 then
 (lombardref10_behind.f x0).bind fun t273 =>
 if ((o260 ++ t270).length : Int) + t273.length ≤ 9223372036854775807 then
 some (((o260 ++ t270) ++ t273), 0)
 else none
 else none
 else (lombardref10_behind.f x0).bind fun t276 =>
 if (o260.length : Int) + t276.length ≤ 9223372036854775807 then
 some ((o260 ++ t276), 0)
 else none
theorem lombardref10_Encode.ok {x0 : lombardref10_Msg} {r : Bs × Int} (h : lombardref10_Encode.f x0 = some r) : Pm.Spec prog 10 [.agg (im (lombardref10_Msg.enc x0))] (.tup [.imm (.val (.string (tx r.1))), .imm (.val (.int .i64 r.2))]) [none] := by
 unfold lombardref10_Encode.f at h; refine Pm.Spec.of_body Tryz.func10 Z (by kernel_rfl) (L Z) (L Z) ?_; refine W.ghost (σ' := (mkSt [(0, some (.agg (lombardref10_Msg.av x0)))] [] 1000)) (Gives.entry (.c Z .n) .n) (W.seq (W.pk (.t Z Z (O.box Z Z Z Z Z) (.A Z (.A Z (.nil (W.seq (W.seq ?_)))))))); obtain ⟨t1, b2, h⟩ := bnd1 h; refine W.pk (.V Z (O.ldN ty35 Z Z Z) (.C (.i t1) [] 0 (lombardref10_Check.ok b2) ca17 Z (cC (.agg _ _ _ _ (cI (cI (cI (cI (cI (cI (cI (cI (cI (cI (cI (cI (cI (cI (cI (cI (cI (cI (cI (cI (cI (cI (cI (cI (cI (cI (cI (cI (cI (cI (cI (cI (cI (cI (cI (cI .nil))))))))))))))))))))))))))))))))))))) .nil) Z ?_)); refine .B Z (.nil (W.cnd Z h (fun q3 h => ?_) (fun q3 h => ?_)))
 ·refine W.seq ?_; obtain ⟨t4, b5, h⟩ := bnd1 h; refine W.pk (.V Z (O.ldN ty35 Z Z Z) (.C (.i t4) [] 0 (lombardref10_Check.ok b5) ca17 Z (cC (.agg _ _ _ _ (cI (cI (cI (cI (cI (cI (cI (cI (cI (cI (cI (cI (cI (cI (cI (cI (cI (cI (cI (cI (cI (cI (cI (cI (cI (cI (cI (cI (cI (cI (cI (cI (cI (cI (cI (cI .nil))))))))))))))))))))))))))))))))))))) .nil) Z ?_)); refine .A Z (.A Z (.nil (W.ret ?_))); cases h; exact leaves (.inr Z) Z (.tup _ _ _ _ (cI (cI .nil))) (cN .nil) Z Z
 ·refine W.skip (W.seq ?_); obtain ⟨t6, b7, h⟩ := bnd1 h; refine W.pk (.F fld35_0 Z (.V Z (O.ld (y := .i x0.Kind) ty3 Z Z Z) (.C (.s t6) [] 0 (lombardref09_Int.ok b7) ca23 Z (cI .nil) Z ?_))); refine .A Z (.nil (W.seq (W.dk (unm 12 [0, 1, 0, 4, 0, 16, 0, 0, 0, 451, 975, 2047]) Z (by kernel_rfl) ?_))); refine .F fld35_3 Z (.V Z (O.ldN ty23 Z Z Z) (.F fld35_4 Z (.V Z (O.ldN ty27 Z Z Z) (.F fld35_9 Z (.V Z (O.ldN ty30 Z Z Z) (.t Z Z (O.alloc z23 Z) (.t Z Z (O.alloc z27 Z) (.t Z Z (O.alloc z30 Z) (.S ty23 Z (api_Asset.av x0.Asset) Z (.S ty27 Z (api_Basket.av x0.Basket) Z (.S ty30 Z (api_Quote.av x0.Quote) Z ?_))))))))))); refine .nil ?_; refine ⟨by kernel_rfl, by kernel_rfl, ?_⟩; refine W.seq (W.seq (W.pk (.F fld35_0 Z (.V Z (O.ld (y := .i x0.Kind) ty3 Z Z Z) (.B Z (.nil ?_)))))); obtain ⟨o16, b17, h⟩ := bnd1 h; refine W.fork (mkSt [(1, some (.ptr 1000 0)), (4, some (.s o16)), (5, some (.ptr 1001 0)), (6, some (.ptr 1002 0)), (7, some (.ptr 1003 0))] [(1000, some (.box (lombardref10_Msg.av x0))), (1001, some (.box (api_Asset.av x0.Asset))), (1002, some (.box (api_Basket.av x0.Basket))), (1003, some (.box (api_Quote.av x0.Quote)))] 1004) ?_ ?_
  ·refine W.seq (W.seq (W.pk (.F fld35_0 Z (.V Z (O.ld (y := .i x0.Kind) ty3 Z Z Z) (.B Z (.nil ?_)))))); obtain ⟨o36, b37, h⟩ := bnd1 h; refine W.fork (mkSt [(1, some (.ptr 1000 0)), (4, some (.s o36)), (6, some (.ptr 1002 0)), (7, some (.ptr 1003 0))] [(1000, some (.box (lombardref10_Msg.av x0))), (1002, some (.box (api_Basket.av x0.Basket))), (1003, some (.box (api_Quote.av x0.Quote)))] 1005) ?_ ?_
   ·refine W.seq (W.seq (W.pk (.F fld35_0 Z (.V Z (O.ld (y := .i x0.Kind) ty3 Z Z Z) (.B Z (.nil ?_)))))); obtain ⟨o96, b97, h⟩ := bnd1 h; refine W.fork (mkSt [(1, some (.ptr 1000 0)), (4, some (.s o96)), (7, some (.ptr 1003 0))] [(1000, some (.box (lombardref10_Msg.av x0))), (1003, some (.box (api_Quote.av x0.Quote)))] 1006) ?_ ?_
    ·refine W.seq (W.seq (W.pk (.F fld35_0 Z (.V Z (O.ld (y := .i x0.Kind) ty3 Z Z Z) (.B Z (.nil ?_)))))); obtain ⟨o192, b193, h⟩ := bnd1 h; refine W.fork (mkSt [(1, some (.ptr 1000 0)), (4, some (.s o192)), (7, some (.ptr 1003 0))] [(1000, some (.box (lombardref10_Msg.av x0))), (1003, some (.box (api_Quote.av x0.Quote)))] 1006) ?_ ?_
     ·refine W.seq (W.seq (W.pk (.F fld35_0 Z (.V Z (O.ld (y := .i x0.Kind) ty3 Z Z Z) (.B Z (.nil ?_)))))); obtain ⟨o245, b246, h⟩ := bnd1 h; refine W.fork (mkSt [(1, some (.ptr 1000 0)), (4, some (.s o245)), (7, some (.ptr 1003 0))] [(1000, some (.box (lombardref10_Msg.av x0))), (1003, some (.box (api_Quote.av x0.Quote)))] 1006) ?_ ?_
      ·refine W.seq (W.seq (W.fork (mkSt [(1, some (.ptr 1000 0)), (4, some (.s o245)), (7, some (.ptr 1003 0)), (171, some (.b ((x0.Kind == 6) || (x0.Kind == 7))))] [(1000, some (.box (lombardref10_Msg.av x0))), (1003, some (.box (api_Quote.av x0.Quote)))] 1006) ?_ ?_))
       ·obtain ⟨o260, b261, h⟩ := bnd1 h; refine W.fork (mkSt [(1, some (.ptr 1000 0)), (4, some (.s o260)), (7, some (.ptr 1003 0))] [(1000, some (.box (lombardref10_Msg.av x0))), (1003, some (.box (api_Quote.av x0.Quote)))] 1007) ?_ ?_
        ·refine W.seq (W.seq (W.pk (.F fld35_0 Z (.V Z (O.ld (y := .i x0.Kind) ty3 Z Z Z) (.B Z (.nil (W.cnd Z h (fun q269 h => ?_) (fun q269 h => ?_))))))))
         ·obtain ⟨t270, b271, h⟩ := bnd1 h; obtain ⟨c272, h⟩ := chk h; refine W.pk (.M Z (.F fld30_0 Z (.V Z (O.ld (y := .i x0.Quote.ID) ty3 Z Z Z) (.F fld30_1 Z (.V Z (O.ld (y := .i x0.Quote.Member) ty3 Z Z Z) (.F fld30_2 Z (.V Z (O.ld (y := .i x0.Quote.Side) ty3 Z Z Z) (.F fld30_3 Z (.V Z (O.ld (y := .i x0.Quote.Basket) ty3 Z Z Z) (.F fld30_4 Z (.V Z (O.ld (y := .i x0.Quote.Amount) ty3 Z Z Z) ?_))))))))))); refine .F fld30_5 Z (.V Z (O.ld (y := .i x0.Quote.Rate) ty3 Z Z Z) (.F fld30_6 Z (.V Z (O.ld (y := .i x0.Quote.Start) ty3 Z Z Z) (.F fld30_7 Z (.V Z (O.ld (y := .i x0.Quote.End) ty3 Z Z Z) (.t Z Z (O.lit (enc := (encI .i64)) (l := [x0.Quote.ID, x0.Quote.Member, x0.Quote.Side, x0.Quote.Basket, x0.Quote.Amount, x0.Quote.Rate, x0.Quote.Start, x0.Quote.End]) sl25 Z Z Z Z Z Z Z Z Z) (.C (.s t270) [(1007, some (.rows 3 1 (List.map (encI .i64) [x0.Quote.ID, x0.Quote.Member, x0.Quote.Side, x0.Quote.Basket, x0.Quote.Amount, x0.Quote.Rate, x0.Quote.Start, x0.Quote.End]) false)), (1007, none)] 0 (lombardref10_ints.ok b271) ca25 Z (cC (.own _ _ _ _ Z) .nil) Z ?_))))))); refine .V Z (O.catS c272 Z Z Z) (.A Z (.nil (W.seq ?_))); obtain ⟨t273, b274, h⟩ := bnd1 h; obtain ⟨c275, h⟩ := chk h; refine W.pk (.M Z (.V Z (O.ldN ty35 Z Z Z) (.C (.s t273) [] 0 (lombardref10_behind.ok b274) ca28 Z (cC (.agg _ _ _ _ (cI (cI (cI (cI (cI (cI (cI (cI (cI (cI (cI (cI (cI (cI (cI (cI (cI (cI (cI (cI (cI (cI (cI (cI (cI (cI (cI (cI (cI (cI (cI (cI (cI (cI (cI (cI .nil))))))))))))))))))))))))))))))))))))) .nil) Z ?_))); refine .V Z (O.catS c275 Z Z Z) (.A Z (.A Z (.nil (W.ret ?_)))); cases h; exact leaves (.inr Z) Z (.tup _ _ _ _ (cI (cI .nil))) (cN .nil) Z Z
         ·refine W.skip (W.seq ?_); obtain ⟨t276, b277, h⟩ := bnd1 h; obtain ⟨c278, h⟩ := chk h; refine W.pk (.M Z (.V Z (O.ldN ty35 Z Z Z) (.C (.s t276) [] 0 (lombardref10_behind.ok b277) ca28 Z (cC (.agg _ _ _ _ (cI (cI (cI (cI (cI (cI (cI (cI (cI (cI (cI (cI (cI (cI (cI (cI (cI (cI (cI (cI (cI (cI (cI (cI (cI (cI (cI (cI (cI (cI (cI (cI (cI (cI (cI (cI .nil))))))))))))))))))))))))))))))))))))) .nil) Z ?_))); refine .V Z (O.catS c278 Z Z Z) (.A Z (.A Z (.nil (W.ret ?_)))); cases h; exact leaves (.inr Z) Z (.tup _ _ _ _ (cI (cI .nil))) (cN .nil) Z Z
        ·clear h; have h := b261; refine W.cnd Z h (fun q262 h => ?_) (fun q262 h => ?_)
         ·obtain ⟨t263, b264, h⟩ := bnd1 h; obtain ⟨c265, h⟩ := chk h; obtain ⟨t266, b267, h⟩ := bnd1 h; obtain ⟨c268, h⟩ := chk h; refine W.dk (unm 13 [0, 0, 2, 0, 8, 30, 62, 127, 0, 256, 894, 2047, 4095]) Z (by kernel_rfl) ?_; refine .M Z (.F fld35_1 Z (.V Z (O.ld (y := .i x0.Member) ty3 Z Z Z) (.F fld35_8 Z (.V Z (O.ld (y := .i x0.N) ty3 Z Z Z) (.t Z Z (O.lit (enc := (encI .i64)) (l := [x0.Member, x0.N]) sl25 Z Z Z Z Z Z Z Z Z) (.C (.s t263) [(1006, some (.rows 3 1 (List.map (encI .i64) [x0.Member, x0.N]) false)), (1006, none)] 0 (lombardref10_ints.ok b264) ca25 Z (cC (.own _ _ _ _ Z) .nil) Z ?_)))))); refine .V Z (O.catS c265 Z Z Z) (.F fld35_7 Z (.V Z (O.ld (y := .s x0.Text) ty9 Z Z Z) (.C (.s t266) [] 0 (lombardref09_Text.ok b267) ca24 Z (cI .nil) Z ?_))); refine .V Z (O.catS c268 Z Z Z) (.A Z (.nil ?_)); refine ⟨by kernel_rfl, by kernel_rfl, ?_⟩; cases h; exact toN (Gm [] (.e Z Z) (.e Z Z) Z)
         ·refine W.skip ?_; cases h; exact toN (Gm [] (.e Z Z) (.e Z Z) Z)
       ·clear h; refine W.pk (.F fld35_0 Z (.V Z (O.ld (y := .i x0.Kind) ty3 Z Z Z) (.B Z (.M Z ?_)))); rcases tf (x0.Kind == 6) with g251 | g251
        ·(iterate 3 refine .x Z (unmet Z Z Z g251) ?_); exact .V Z (O.pickT g251 Z Z Z) (.nil (toN (Gm [] (.r Z Z (.r Z Z (.r Z Z (.c Z (sbb (by simp only [g251, BL])) Z .n)))) (.e Z Z) Z)))
        ·exact .v Z (met Z Z Z g251) (O.fld fld35_0 Z Z Z) (.v Z (met Z Z Z g251) (O.ld (y := .i x0.Kind) ty3 Z Z Z) (.v Z (met Z Z Z g251) (OpL.binI Z Z Z Z) (.V Z (O.pickF g251 Z Z Z) (.nil (toN (Gm [] (.r Z Z (.r Z Z (.r Z Z (.c Z (sbb (by simp only [g251, BL])) Z .n)))) (.e Z Z) Z))))))
      ·clear h; have h := b246; refine W.cnd Z h (fun q247 h => ?_) (fun q247 h => ?_)
       ·obtain ⟨t248, b249, h⟩ := bnd1 h; obtain ⟨c250, h⟩ := chk h; refine W.pk (.M Z (.F fld35_6 Z (.V Z (O.ld (y := .i x0.Day) ty3 Z Z Z) (.C (.s t248) [] 0 (lombardref09_Int.ok b249) ca23 Z (cI .nil) Z ?_)))); refine .V Z (O.catS c250 Z Z Z) (.A Z (.nil ?_)); cases h; exact toN (Gm [] (.e Z Z) (.e Z Z) Z)
       ·refine W.skip ?_; cases h; exact toN (Gm [] (.e Z Z) (.e Z Z) Z)
     ·clear h; have h := b193; refine W.cnd Z h (fun q194 h => ?_) (fun q194 h => ?_)
      ·refine W.seq ?_; obtain ⟨t195, b196, h⟩ := bnd1 h; obtain ⟨c197, h⟩ := chk h; refine W.pk (.M Z (.F fld35_5 Z (.V Z (O.ld (y := .imm (.row 2 (List.map api_Price.enc x0.Prices))) ty28 Z Z Z) (.V Z (O.lenR sl28 Z Z) (.V Z (O.conv h3 u101 Z Z) (.C (.s t195) [] 0 (lombardref09_Uint.ok b196) ca26 Z (cI .nil) Z ?_)))))); refine .V Z (O.catS c197 Z Z Z) (.A Z (.nil (W.seq (W.pk (.A Z (.nil ?_)))))); obtain ⟨o228, b229, h⟩ := bnd1 h; refine W.fork (mkSt [(1, some (.ptr 1000 0)), (4, some (.s o228)), (7, some (.ptr 1003 0))] [(1000, some (.box (lombardref10_Msg.av x0))), (1003, some (.box (api_Quote.av x0.Quote)))] 1006) ?_ ?_
       ·cases h; exact toN (Gm [] (.e Z Z) (.e Z Z) Z)
       ·clear h; refine W.block (W.loopF (fun (s_ : Bs × Int) => mkSt [(1, some (.ptr 1000 0)), (4, some (.s s_.1)), (7, some (.ptr 1003 0)), (9, some (.i s_.2))] [(1000, some (.box (lombardref10_Msg.av x0))), (1003, some (.box (api_Quote.av x0.Quote)))] 1006) b229 (Gm [] (.e Z Z) (.e Z Z) Z) ?_); rintro ⟨v207, v208⟩ s_ hr; have h : lombardref10_Encode.b1 x0 v207 v208 = some s_ := hr; unfold lombardref10_Encode.b1 at h; refine W.seq (W.seq (W.pk (.M Z (.F fld35_5 Z (.V Z (O.ld (y := .imm (.row 2 (List.map api_Price.enc x0.Prices))) ty28 Z Z Z) (.V Z (O.lenR sl28 Z Z) (.B Z (.nil (W.cnd Z h (fun q231 h => ?_) (fun q231 h => ?_))))))))))
        ·refine W.skip (W.seq (W.block ?_)); obtain ⟨c232, h⟩ := chk h; obtain ⟨t233, b234, h⟩ := bnd1 h; obtain ⟨c235, h⟩ := chk h; obtain ⟨c236, h⟩ := chk h; obtain ⟨t237, b238, h⟩ := bnd1 h; obtain ⟨c239, h⟩ := chk h; refine W.dk (unm 18 [0, 0, 2, 0, 14, 30, 62, 126, 255, 0, 512, 0, 3584, 7680, 15872, 32510, 65535, 131071]) Z (by kernel_rfl) ?_; refine .M Z (.F fld35_5 Z (.V Z (O.ld (y := .imm (.row 2 (List.map api_Price.enc x0.Prices))) ty28 Z Z Z) (.M Z (.V Z (O.idx sl28 c232 Z Z Z) (.F fld105_0 Z (.V Z (O.ld (y := .s ((nth x0.Prices v208).ISIN)) ty9 Z Z Z) (.C (.s t233) [] 0 (lombardref09_Text.ok b234) ca24 Z (cI .nil) Z ?_))))))); refine .V Z (O.catS c235 Z Z Z) (.F fld35_5 Z (.V Z (O.ld (y := .imm (.row 2 (List.map api_Price.enc x0.Prices))) ty28 Z Z Z) (.M Z (.V Z (O.idx sl28 c236 Z Z Z) (.F fld105_1 Z (.V Z (O.ld (y := .i ((nth x0.Prices v208).Price)) ty3 Z Z Z) (.C (.s t237) [] 0 (lombardref09_Int.ok b238) ca23 Z (cI .nil) Z ?_))))))); refine .V Z (O.catS c239 Z Z Z) (.A Z (.nil ?_)); refine ⟨by kernel_rfl, by kernel_rfl, ?_⟩; refine W.pk (.M Z (.B Z (.A Z (.nil ?_)))); cases h; exact rdN (Gm [] (.e Z Z) (.e Z Z) Z)
        ·refine W.exit ?_; cases h; refine rdX fun e_ => ?_; subst e_; (repeat with_reducible refine thru ?_); exact hit (toN (Gm [] (.e Z Z) (.e Z Z) Z))
      ·refine W.skip ?_; cases h; exact toN (Gm [] (.e Z Z) (.e Z Z) Z)
    ·clear h; have h := b97; refine W.cnd Z h (fun q98 h => ?_) (fun q98 h => ?_)
     ·refine W.seq ?_; obtain ⟨t99, b100, h⟩ := bnd1 h; obtain ⟨c101, h⟩ := chk h; obtain ⟨t102, b103, h⟩ := bnd1 h; obtain ⟨c104, h⟩ := chk h; obtain ⟨t105, b106, h⟩ := bnd1 h; obtain ⟨c107, h⟩ := chk h; refine W.dk (unm 29 [0, 0, 2, 0, 8, 0, 32, 0, 128, 0, 512, 0, 2048, 0, 8192, 32766, 65534, 131071, 0, 262144, 917502, 2097151, 0, 4194304, 12582912, 29360128, 64880638, 134217727, 268435455]) Z (by kernel_rfl) ?_; refine .M Z (.F fld27_0 Z (.V Z (O.ld (y := .i x0.Basket.ID) ty3 Z Z Z) (.F fld27_1 Z (.V Z (O.ld (y := .i x0.Basket.Version) ty3 Z Z Z) (.F fld27_3 Z (.V Z (O.ld (y := .i x0.Basket.Rating) ty3 Z Z Z) (.F fld27_4 Z (.V Z (O.ld (y := .i x0.Basket.Least) ty3 Z Z Z) (.F fld27_5 Z (.V Z (O.ld (y := .i x0.Basket.Most) ty3 Z Z Z) (.F fld27_7 Z ?_))))))))))); refine .V Z (O.ld (y := .i x0.Basket.Issuer) ty3 Z Z Z) (.F fld27_8 Z (.V Z (O.ld (y := .i x0.Basket.Asset) ty3 Z Z Z) (.t Z Z (O.lit (enc := (encI .i64)) (l := [x0.Basket.ID, x0.Basket.Version, x0.Basket.Rating, x0.Basket.Least, x0.Basket.Most, x0.Basket.Issuer, x0.Basket.Asset]) sl25 Z Z Z Z Z Z Z Z Z) (.C (.s t99) [(1005, some (.rows 3 1 (List.map (encI .i64) [x0.Basket.ID, x0.Basket.Version, x0.Basket.Rating, x0.Basket.Least, x0.Basket.Most, x0.Basket.Issuer, x0.Basket.Asset]) false)), (1005, none)] 0 (lombardref10_ints.ok b100) ca25 Z (cC (.own _ _ _ _ Z) .nil) Z ?_)))); refine .V Z (O.catS c101 Z Z Z) (.F fld27_2 Z (.V Z (O.ld (y := .s x0.Basket.Currency) ty9 Z Z Z) (.C (.s t102) [] 0 (lombardref09_Text.ok b103) ca24 Z (cI .nil) Z ?_))); refine .V Z (O.catS c104 Z Z Z) (.F fld27_6 Z (.V Z (O.ld (y := .imm (.row 3 (List.map api_Cut.enc x0.Basket.Cuts))) ty24 Z Z Z) (.V Z (O.lenR sl24 Z Z) (.V Z (O.conv h3 u101 Z Z) (.C (.s t105) [] 0 (lombardref09_Uint.ok b106) ca26 Z (cI .nil) Z ?_))))); refine .V Z (O.catS c107 Z Z Z) (.A Z (.nil ?_)); refine ⟨by kernel_rfl, by kernel_rfl, ?_⟩; refine W.seq (W.seq (W.pk (.A Z (.nil ?_)))); obtain ⟨o132, b133, h⟩ := bnd1 h; refine W.fork (mkSt [(1, some (.ptr 1000 0)), (4, some (.s o132)), (6, some (.ptr 1002 0)), (7, some (.ptr 1003 0))] [(1000, some (.box (lombardref10_Msg.av x0))), (1002, some (.box (api_Basket.av x0.Basket))), (1003, some (.box (api_Quote.av x0.Quote)))] 1006) ?_ ?_
      ·obtain ⟨t142, b143, h⟩ := bnd1 h; obtain ⟨c144, h⟩ := chk h; refine W.pk (.M Z (.F fld27_9 Z (.V Z (O.ld (y := .imm (.row 1 (List.map (encI .i64) x0.Basket.Barred))) ty25 Z Z Z) (.C (.s t142) [] 0 (lombardref09_Ints.ok b143) ca27 Z (cI .nil) Z ?_)))); refine .V Z (O.catS c144 Z Z Z) (.A Z (.nil ?_)); cases h; exact toN (Gm [] (.e Z Z) (.e Z Z) Z)
      ·clear h; refine W.block (W.loopF (fun (s_ : Bs × Int) => mkSt [(1, some (.ptr 1000 0)), (4, some (.s s_.1)), (6, some (.ptr 1002 0)), (7, some (.ptr 1003 0)), (8, some (.i s_.2))] [(1000, some (.box (lombardref10_Msg.av x0))), (1002, some (.box (api_Basket.av x0.Basket))), (1003, some (.box (api_Quote.av x0.Quote)))] 1006) b133 (Gm [] (.e Z Z) (.e Z Z) Z) ?_); rintro ⟨v115, v116⟩ s_ hr; have h : lombardref10_Encode.b0 x0 v115 v116 = some s_ := hr; unfold lombardref10_Encode.b0 at h; refine W.seq (W.seq (W.pk (.M Z (.F fld27_6 Z (.V Z (O.ld (y := .imm (.row 3 (List.map api_Cut.enc x0.Basket.Cuts))) ty24 Z Z Z) (.V Z (O.lenR sl24 Z Z) (.B Z (.nil (W.cnd Z h (fun q135 h => ?_) (fun q135 h => ?_))))))))))
       ·refine W.skip (W.seq (W.block ?_)); obtain ⟨c136, h⟩ := chk h; obtain ⟨c137, h⟩ := chk h; obtain ⟨c138, h⟩ := chk h; obtain ⟨t139, b140, h⟩ := bnd1 h; obtain ⟨c141, h⟩ := chk h; refine W.dk (unm 23 [0, 0, 2, 0, 14, 30, 62, 0, 128, 0, 896, 1920, 3968, 0, 8192, 0, 57344, 122880, 253952, 524286, 1048574, 2097151, 4194303]) Z (by kernel_rfl) ?_; refine .M Z (.F fld27_6 Z (.V Z (O.ld (y := .imm (.row 3 (List.map api_Cut.enc x0.Basket.Cuts))) ty24 Z Z Z) (.M Z (.V Z (O.idx sl24 c136 Z Z Z) (.F fld103_0 Z (.V Z (O.ld (y := .i ((nth x0.Basket.Cuts v116).Days)) ty3 Z Z Z) (.F fld27_6 Z (.V Z (O.ld (y := .imm (.row 3 (List.map api_Cut.enc x0.Basket.Cuts))) ty24 Z Z Z) (.M Z (.V Z (O.idx sl24 c137 Z Z Z) (.F fld103_1 Z ?_))))))))))); refine .V Z (O.ld (y := .i ((nth x0.Basket.Cuts v116).Rating)) ty3 Z Z Z) (.F fld27_6 Z (.V Z (O.ld (y := .imm (.row 3 (List.map api_Cut.enc x0.Basket.Cuts))) ty24 Z Z Z) (.M Z (.V Z (O.idx sl24 c138 Z Z Z) (.F fld103_2 Z (.V Z (O.ld (y := .i ((nth x0.Basket.Cuts v116).Cut)) ty3 Z Z Z) (.t Z Z (O.lit (enc := (encI .i64)) (l := [(nth x0.Basket.Cuts v116).Days, (nth x0.Basket.Cuts v116).Rating, (nth x0.Basket.Cuts v116).Cut]) sl25 Z Z Z Z Z Z Z Z Z) (.C (.s t139) [(1006, some (.rows 3 1 (List.map (encI .i64) [(nth x0.Basket.Cuts v116).Days, (nth x0.Basket.Cuts v116).Rating, (nth x0.Basket.Cuts v116).Cut]) false)), (1006, none)] 0 (lombardref10_ints.ok b140) ca25 Z (cC (.own _ _ _ _ Z) .nil) Z ?_)))))))); refine .V Z (O.catS c141 Z Z Z) (.A Z (.nil ?_)); refine ⟨by kernel_rfl, by kernel_rfl, ?_⟩; refine W.pk (.M Z (.B Z (.A Z (.nil ?_)))); cases h; exact rdN (Gm [] (.e Z Z) (.e Z Z) Z)
       ·refine W.exit ?_; cases h; refine rdX fun e_ => ?_; subst e_; (repeat with_reducible refine thru ?_); exact hit (toN (Gm [] (.e Z Z) (.e Z Z) Z))
     ·refine W.skip ?_; cases h; exact toN (Gm [] (.e Z Z) (.e Z Z) Z)
   ·clear h; have h := b37; refine W.cnd Z h (fun q38 h => ?_) (fun q38 h => ?_)
    ·obtain ⟨t39, b40, h⟩ := bnd1 h; obtain ⟨c41, h⟩ := chk h; obtain ⟨t42, b43, h⟩ := bnd1 h; obtain ⟨c44, h⟩ := chk h; obtain ⟨t45, b46, h⟩ := bnd1 h; obtain ⟨c47, h⟩ := chk h; refine W.dk (unm 19 [0, 0, 2, 6, 15, 0, 32, 0, 128, 0, 512, 2016, 4078, 8191, 0, 16384, 57326, 131071, 262143]) Z (by kernel_rfl) ?_; refine .M Z (.F fld23_0 Z (.V Z (O.ld (y := .s x0.Asset.ISIN) ty9 Z Z Z) (.C (.s t39) [] 0 (lombardref09_Text.ok b40) ca24 Z (cI .nil) Z ?_))); refine .V Z (O.catS c41 Z Z Z) (.F fld23_1 Z (.V Z (O.ld (y := .i x0.Asset.Issuer) ty3 Z Z Z) (.F fld23_2 Z (.V Z (O.ld (y := .i x0.Asset.Rating) ty3 Z Z Z) (.F fld23_3 Z (.V Z (O.ld (y := .i x0.Asset.Maturity) ty3 Z Z Z) (.t Z Z (O.lit (enc := (encI .i64)) (l := [x0.Asset.Issuer, x0.Asset.Rating, x0.Asset.Maturity]) sl25 Z Z Z Z Z Z Z Z Z) (.C (.s t42) [(1004, some (.rows 3 1 (List.map (encI .i64) [x0.Asset.Issuer, x0.Asset.Rating, x0.Asset.Maturity]) false)), (1004, none)] 0 (lombardref10_ints.ok b43) ca25 Z (cC (.own _ _ _ _ Z) .nil) Z ?_)))))))); refine .V Z (O.catS c44 Z Z Z) (.F fld23_4 Z (.V Z (O.ld (y := .s x0.Asset.Currency) ty9 Z Z Z) (.C (.s t45) [] 0 (lombardref09_Text.ok b46) ca24 Z (cI .nil) Z ?_))); refine .V Z (O.catS c47 Z Z Z) (.A Z (.nil ?_)); refine ⟨by kernel_rfl, by kernel_rfl, ?_⟩; cases h; exact toN (Gm [] (.e Z Z) (.e Z Z) Z)
    ·refine W.skip ?_; cases h; exact toN (Gm [] (.e Z Z) (.e Z Z) Z)
  ·clear h; have h := b17; refine W.cnd Z h (fun q18 h => ?_) (fun q18 h => ?_)
   ·obtain ⟨t19, b20, h⟩ := bnd1 h; obtain ⟨c21, h⟩ := chk h; obtain ⟨t22, b23, h⟩ := bnd1 h; obtain ⟨c24, h⟩ := chk h; refine W.dk (unm 10 [0, 0, 2, 6, 15, 0, 32, 110, 255, 511]) Z (by kernel_rfl) ?_; refine .M Z (.F fld35_1 Z (.V Z (O.ld (y := .i x0.Member) ty3 Z Z Z) (.C (.s t19) [] 0 (lombardref09_Int.ok b20) ca23 Z (cI .nil) Z ?_))); refine .V Z (O.catS c21 Z Z Z) (.F fld35_2 Z (.V Z (O.ld (y := .s x0.Name) ty9 Z Z Z) (.C (.s t22) [] 0 (lombardref09_Text.ok b23) ca24 Z (cI .nil) Z ?_))); refine .V Z (O.catS c24 Z Z Z) (.A Z (.nil ?_)); refine ⟨by kernel_rfl, by kernel_rfl, ?_⟩; cases h; exact toN (Gm [] (.e Z Z) (.e Z Z) Z)
   ·refine W.skip ?_; cases h; exact toN (Gm [] (.e Z Z) (.e Z Z) Z)
noncomputable def lombardlaw10_MsgEncodes.f (x0 : lombardref10_Msg) : Option (Bool) :=
 (lombardref10_Small.f x0).bind fun t1 =>
 if (!t1) = true then
 (lombardlaw10_awake.f).bind fun t4 =>
 some t4
 else (lombardlaw10_Of.f x0).bind fun t6 =>
 (msg_Encode.f t6).bind fun t8 =>
 (lombardref10_Encode.f x0).bind fun t10 =>
 (if ((t8.1 == t10.1) && (t8.2 == t10.2)) = true then lombardlaw10_awake.f else some default).bind fun t12 =>
 some (((t8.1 == t10.1) && (t8.2 == t10.2)) && t12)
theorem lombardlaw10_MsgEncodes.ok {x0 : lombardref10_Msg} {r : Bool} (h : lombardlaw10_MsgEncodes.f x0 = some r) : Pm.Spec prog 3 [.agg (im (lombardref10_Msg.enc x0))] (.imm (.val (.bool r))) [none] := by
 unfold lombardlaw10_MsgEncodes.f at h; refine Pm.Spec.of_body Tryz.func3 Z (by kernel_rfl) (L Z) (L Z) ?_; refine W.ghost (σ' := (mkSt [(0, some (.agg (lombardref10_Msg.av x0)))] [] 1000)) (Gives.entry (.c Z .n) .n) (W.seq (W.pk (.t Z Z (O.box Z Z Z Z Z) (.A Z (.nil (W.seq (W.seq ?_))))))); obtain ⟨t1, b2, h⟩ := bnd1 h; refine W.pk (.V Z (O.ldN ty35 Z Z Z) (.C (.b t1) [] 0 (lombardref10_Small.ok b2) ca6 Z (cC (.agg _ _ _ _ (cI (cI (cI (cI (cI (cI (cI (cI (cI (cI (cI (cI (cI (cI (cI (cI (cI (cI (cI (cI (cI (cI (cI (cI (cI (cI (cI (cI (cI (cI (cI (cI (cI (cI (cI (cI .nil))))))))))))))))))))))))))))))))))))) .nil) Z ?_)); refine .V Z (OpL.unV Z Z Z) (.nil (W.cnd Z h (fun q3 h => ?_) (fun q3 h => ?_)))
 ·refine W.seq ?_; obtain ⟨t4, b5, h⟩ := bnd1 h; refine W.pk (.C (.b t4) [] 0 (lombardlaw10_awake.ok b5) ca7 Z .nil Z ?_); refine .A Z (.nil (W.ret ?_)); cases h; exact leaves (.inr Z) Z (.imm _) (cN .nil) Z Z
 ·refine W.skip (W.seq ?_); obtain ⟨t6, b7, h⟩ := bnd1 h; obtain ⟨t8, b9, h⟩ := bnd1 h; refine W.pk (.V Z (O.ldN ty35 Z Z Z) (.C (.imm (msg_Message.enc t6)) [] 0 (lombardlaw10_Of.ok b7) ca9 Z (cC (.agg _ _ _ _ (cI (cI (cI (cI (cI (cI (cI (cI (cI (cI (cI (cI (cI (cI (cI (cI (cI (cI (cI (cI (cI (cI (cI (cI (cI (cI (cI (cI (cI (cI (cI (cI (cI (cI (cI (cI .nil))))))))))))))))))))))))))))))))))))) .nil) Z ?_)); refine .C (.tup [.s t8.1, .i t8.2]) [] 0 (msg_Encode.ok b9) ca8 Z (cI .nil) Z ?_; refine .M Z ?_; (iterate 2 refine .V Z (OpL.extract Z Z Z) ?_); refine .A Z (.A Z (.nil (W.seq ?_))); obtain ⟨t10, b11, h⟩ := bnd1 h; refine W.pk (.V Z (O.ldN ty35 Z Z Z) (.C (.tup [.s t10.1, .i t10.2]) [] 0 (lombardref10_Encode.ok b11) ca10 Z (cC (.agg _ _ _ _ (cI (cI (cI (cI (cI (cI (cI (cI (cI (cI (cI (cI (cI (cI (cI (cI (cI (cI (cI (cI (cI (cI (cI (cI (cI (cI (cI (cI (cI (cI (cI (cI (cI (cI (cI (cI .nil))))))))))))))))))))))))))))))))))))) .nil) Z ?_)); refine .M Z ?_; (iterate 2 refine .V Z (OpL.extract Z Z Z) ?_); refine .A Z (.A Z (.nil (W.seq ?_))); obtain ⟨t12, b13, h⟩ := bnd1 h; refine W.fork (mkSt [(2, some (.b (((t8.1 == t10.1) && (t8.2 == t10.2)) && t12)))] [] 1001) ?_ ?_
  ·refine W.ret ?_; cases h; exact leaves (.inr Z) Z (.imm _) (cN .nil) Z Z
  ·clear h; refine W.pk (.M Z (.M Z (.V Z (O.cmpS Z Z Z Z) (.M Z ?_)))); rcases tf (t8.1 == t10.1) with g14 | g14
   ·(iterate 2 refine .m Z (met Z Z Z g14) Z Z ?_); refine .v Z (met Z Z Z g14) (OpL.binI Z Z Z Z) (.V Z (O.pickT g14 Z Z Z) (.M Z ?_)); rcases tf (t8.2 == t10.2) with g15 | g15
    ·refine .call (.b t12) [] 0 (lombardlaw10_awake.ok ((if_pos (by first | (simp only [g14, g15, BL]; done) | (repeat (first | rw [g14] | rw [g15])) <;> simp only [BL])).symm.trans b13)) Z (met Z Z Z g15) Z ca7 Z Z .nil Z Z Z Z Z ?_; exact .V Z (O.pickT g15 Z Z Z) (.A Z (.nil (toN (Gm [] (.c Z (sbb (by first | (simp only [g14, g15, BL]; done) | (repeat (first | rw [g14] | rw [g15])) <;> simp only [BL])) Z .n) .n Z))))
    ·exact .x Z (unmet Z Z Z g15) (.V Z (O.pickF g15 Z Z Z) (.A Z (.nil (toN (Gm [] (.c Z (sbb (by first | (simp only [g14, g15, BL]; done) | (repeat (first | rw [g14] | rw [g15])) <;> simp only [BL])) Z .n) .n Z)))))
   ·(iterate 3 refine .x Z (unmet Z Z Z g14) ?_); exact .V Z (O.pickF g14 Z Z Z) (.M Z (.x Z (unmet Z Z Z Z) (.V Z (O.pickF Z Z Z Z) (.A Z (.nil (toN (Gm [] (.c Z (sbb (by simp only [g14, BL])) Z .n) .n Z)))))))
end Go.Proofs.YtbmokbkgielmmaaGreat
