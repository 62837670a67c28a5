/- Shows what functions of the program come to, each as a plain function: written by a program of the author's for this claim. -/
import Derived.Test.YtbmokbkgielmmaaGreatGx5
namespace Go.Pm
open Go
section
variable {P : Program} {σ : St} {o : Oper} {cx : Cx} {g : Gh} {a : Act} {w : World}
theorem O.neI {t t' : TypeId} {x : Operand} {y : T} {b : Bool} (hp : ifcT P t = true) (h : IsN y b) (ho : o.op = .binOp .neq t x (.const .nilIface) t') (hx : rd σ x = some (.imm y)) : OpL P o σ [] ⟨some (.imm (.val (.bool (!b)))), [], []⟩ := by
  intro σ' hs _ _
  have hx' := (hs x (by simp [ho, Op.operands])).trans hx
  refine .of_value fun cx g a w hh => ?_
  have hr := rd_rep hh x _ hx'
  generalize hv : a.eval x = v at hr
  cases hr with
  | imm _ _ hr =>
    obtain ⟨u1, u2, u3, u4⟩ := isN_run hp h hr x
    have ec : a.eval (.const .nilIface) = .nilIface := rfl
    exact ⟨_, by simp [execOp, ho, hv, ec, u2, u4], .ofVal g w _⟩
end
end Go.Pm
namespace Go.Proofs.YtbmokbkgielmmaaGreat
open Go Go.Pm
set_option linter.unusedVariables false
set_option maxRecDepth 100000
set_option maxHeartbeats 4000000
set_option linter.unusedSimpArgs false
theorem ca18 : callOk prog 18 = true := by kernel_rfl
theorem ca19 : callOk prog 19 = true := by kernel_rfl
noncomputable def msg_Sender.f (x0 : msg_Message) : Option (Int) :=
 if (x0.ismsg_Offer) = true then
 some (((x0.asmsg_Offer).Quote).Member)
 else if (x0.ismsg_Cancel) = true then
 some ((x0.asmsg_Cancel).Member)
 else if (x0.ismsg_Notice) = true then
 some ((x0.asmsg_Notice).Member)
 else if (x0.ismsg_Swap) = true then
 some ((x0.asmsg_Swap).Member)
 else some 0
theorem msg_Sender.ok {x0 : msg_Message} {r : Int} (h : msg_Sender.f x0 = some r) : Pm.Spec prog 18 [.imm (msg_Message.enc x0)] (.imm (.val (.int .i64 r))) [none] := by
 unfold msg_Sender.f at h; refine Pm.Spec.of_body Tryz.func18 Z (by kernel_rfl) (L Z) (L Z) ?_; refine W.ghost (σ' := (mkSt [(0, some (.imm (msg_Message.enc x0)))] [] 1000)) (Gives.entry (.c Z .n) .n) (W.seq (W.pk (.A Z (.nil (W.seq (W.seq (W.pk (.M Z (.nil (W.block (W.seq ?_))))))))))); refine W.pk (.V Z (O.asOk (cs := [.i (((x0.asmsg_Offer).Quote).ID), .i (((x0.asmsg_Offer).Quote).Member), .i (((x0.asmsg_Offer).Quote).Side), .i (((x0.asmsg_Offer).Quote).Basket), .i (((x0.asmsg_Offer).Quote).Amount), .i (((x0.asmsg_Offer).Quote).Rate), .i (((x0.asmsg_Offer).Quote).Start), .i (((x0.asmsg_Offer).Quote).End)]) pl82 (msg_Message.atmsg_Offer x0) Z Z Z) ?_); (iterate 2 refine .V Z (OpL.extract Z Z Z) ?_); refine .nil (W.cnd Z h (fun q1 h => ?_) (fun q1 h => ?_))
 ·refine W.seq (W.pk (.t Z Z (O.alloc z82 Z) (.S ty82 Z [.i (((x0.asmsg_Offer).Quote).ID), .i (((x0.asmsg_Offer).Quote).Member), .i (((x0.asmsg_Offer).Quote).Side), .i (((x0.asmsg_Offer).Quote).Basket), .i (((x0.asmsg_Offer).Quote).Amount), .i (((x0.asmsg_Offer).Quote).Rate), .i (((x0.asmsg_Offer).Quote).Start), .i (((x0.asmsg_Offer).Quote).End)] Z (.nil (W.seq (W.pk (.F fld82_0 Z (.F fld30_1 Z (.V Z (O.ld (y := .i (((x0.asmsg_Offer).Quote).Member)) ty3 Z Z Z) (.A Z (.nil ?_))))))))))); refine W.ret ?_; cases h; exact leaves (.inr Z) Z (.imm _) (cN .nil) Z Z
 ·refine W.seq (W.pk (.V Z (O.asOk (cs := [.i ((x0.asmsg_Cancel).Member), .i ((x0.asmsg_Cancel).Quote)]) pl84 (msg_Message.atmsg_Cancel x0) Z Z Z) ?_)); (iterate 2 refine .V Z (OpL.extract Z Z Z) ?_); refine .nil (W.cnd Z h (fun q2 h => ?_) (fun q2 h => ?_))
  ·refine W.seq (W.pk (.t Z Z (O.alloc z84 Z) (.S ty84 Z [.i ((x0.asmsg_Cancel).Member), .i ((x0.asmsg_Cancel).Quote)] Z (.nil (W.seq (W.pk (.F fld84_0 Z (.V Z (O.ld (y := .i ((x0.asmsg_Cancel).Member)) ty3 Z Z Z) (.A Z (.nil (W.ret ?_))))))))))); cases h; exact leaves (.inr Z) Z (.imm _) (cN .nil) Z Z
  ·refine W.seq (W.pk (.V Z (O.asOk (cs := [.i ((x0.asmsg_Notice).Member), .i ((x0.asmsg_Notice).Trade), .i ((x0.asmsg_Notice).Day)]) pl86 (msg_Message.atmsg_Notice x0) Z Z Z) ?_)); (iterate 2 refine .V Z (OpL.extract Z Z Z) ?_); refine .nil (W.cnd Z h (fun q3 h => ?_) (fun q3 h => ?_))
   ·refine W.seq (W.pk (.t Z Z (O.alloc z86 Z) (.S ty86 Z [.i ((x0.asmsg_Notice).Member), .i ((x0.asmsg_Notice).Trade), .i ((x0.asmsg_Notice).Day)] Z (.nil (W.seq (W.pk (.F fld86_0 Z (.V Z (O.ld (y := .i ((x0.asmsg_Notice).Member)) ty3 Z Z Z) (.A Z (.nil (W.ret ?_))))))))))); cases h; exact leaves (.inr Z) Z (.imm _) (cN .nil) Z Z
   ·refine W.seq (W.pk (.V Z (O.asOk (cs := [.i ((x0.asmsg_Swap).Member), .i ((x0.asmsg_Swap).Trade), .s (((x0.asmsg_Swap).Out).ISIN), .i (((x0.asmsg_Swap).Out).Qty), .imm (.row 2 (List.map api_Lot.enc ((x0.asmsg_Swap).In)))]) pl88 (msg_Message.atmsg_Swap x0) Z Z Z) ?_)); (iterate 2 refine .V Z (OpL.extract Z Z Z) ?_); refine .nil (W.cnd Z h (fun q4 h => ?_) (fun q4 h => ?_))
    ·refine W.seq (W.pk (.t Z Z (O.alloc z88 Z) (.S ty88 Z [.i ((x0.asmsg_Swap).Member), .i ((x0.asmsg_Swap).Trade), .s (((x0.asmsg_Swap).Out).ISIN), .i (((x0.asmsg_Swap).Out).Qty), .imm (.row 2 (List.map api_Lot.enc ((x0.asmsg_Swap).In)))] Z (.nil (W.seq (W.pk (.F fld88_0 Z (.V Z (O.ld (y := .i ((x0.asmsg_Swap).Member)) ty3 Z Z Z) (.A Z (.nil (W.ret ?_))))))))))); cases h; exact leaves (.inr Z) Z (.imm _) (cN .nil) Z Z
    ·refine W.skip (W.seq (W.pk (.A Z (.nil (W.ret ?_))))); cases h; exact leaves (.inr Z) Z (.imm _) (cN .nil) Z Z

noncomputable def lombardref10_Sender.f (x0 : lombardref10_Msg) : Option (Int) :=
 if (x0.Kind == 8) = true then
 some x0.Quote.Member
 else if (((x0.Kind == 9) || (x0.Kind == 10)) || (x0.Kind == 11)) = true then
 some x0.Member
 else some 0
theorem lombardref10_Sender.ok {x0 : lombardref10_Msg} {r : Int} (h : lombardref10_Sender.f x0 = some r) : Pm.Spec prog 19 [.agg (im (lombardref10_Msg.enc x0))] (.imm (.val (.int .i64 r))) [none] := by
 unfold lombardref10_Sender.f at h; refine Pm.Spec.of_body Tryz.func19 Z (by kernel_rfl) (L Z) (L Z) ?_; refine W.ghost (σ' := (mkSt [(0, some (.agg (lombardref10_Msg.av x0)))] [] 1000)) (Gives.entry (.c Z .n) .n) (W.seq (W.pk (.t Z Z (O.box Z Z Z Z Z) (.A Z (.nil (W.seq (W.seq (W.pk (.F fld35_0 Z (.V Z (O.ld (y := .i x0.Kind) ty3 Z Z Z) (.B Z ?_))))))))))); refine .nil (W.cnd Z h (fun q1 h => ?_) (fun q1 h => ?_))
 ·refine W.seq (W.pk (.F fld35_9 Z (.F fld30_1 Z (.V Z (O.ld (y := .i x0.Quote.Member) ty3 Z Z Z) (.A Z (.nil (W.ret ?_))))))); cases h; exact leaves (.inr Z) Z (.imm _) (cN .nil) Z Z
 ·refine W.skip (W.seq (W.seq (W.fork (mkSt [(1, some (.ptr 1000 0)), (21, some (.b (((x0.Kind == 9) || (x0.Kind == 10)) || (x0.Kind == 11))))] [(1000, some (.box (lombardref10_Msg.av x0)))] 1001) ?_ ?_)))
  ·refine W.cnd Z h (fun q4 h => ?_) (fun q4 h => ?_)
   ·refine W.seq (W.pk (.F fld35_1 Z (.V Z (O.ld (y := .i x0.Member) ty3 Z Z Z) (.A Z (.nil (W.ret ?_)))))); cases h; exact leaves (.inr Z) Z (.imm _) (cN .nil) Z Z
   ·refine W.skip (W.seq (W.pk (.A Z (.nil (W.ret ?_))))); cases h; exact leaves (.inr Z) Z (.imm _) (cN .nil) Z Z
  ·clear h; refine W.pk (.F fld35_0 Z (.V Z (O.ld (y := .i x0.Kind) ty3 Z Z Z) (.B Z (.M Z ?_)))); rcases tf (x0.Kind == 9) with g2 | g2
   ·(iterate 3 refine .x Z (unmet Z Z Z g2) ?_); refine .V Z (O.pickT g2 Z Z Z) (.M Z ?_); (iterate 3 refine .x Z (unmet Z Z Z Z) ?_); exact .V Z (O.pickT Z Z Z Z) (.nil (toN (Gm [] (.r Z Z (.c Z (sbb (by simp only [g2, BL])) Z .n)) (.r Z Z Z .n) Z)))
   ·refine .v Z (met Z Z Z g2) (O.fld fld35_0 Z Z Z) (.v Z (met Z Z Z g2) (O.ld (y := .i x0.Kind) ty3 Z Z Z) (.v Z (met Z Z Z g2) (OpL.binI Z Z Z Z) (.V Z (O.pickF g2 Z Z Z) (.M Z ?_)))); rcases tf (x0.Kind == 10) with g3 | g3
    ·(iterate 3 refine .x Z (unmet Z Z Z g3) ?_); exact .V Z (O.pickT g3 Z Z Z) (.nil (toN (Gm [] (.r Z Z (.c Z (sbb (by first | (simp only [g2, g3, BL]; done) | (repeat (first | rw [g2] | rw [g3])) <;> simp only [BL])) Z .n)) (.r Z Z Z .n) Z)))
    ·exact .v Z (met Z Z Z g3) (O.fld fld35_0 Z Z Z) (.v Z (met Z Z Z g3) (O.ld (y := .i x0.Kind) ty3 Z Z Z) (.v Z (met Z Z Z g3) (OpL.binI Z Z Z Z) (.V Z (O.pickF g3 Z Z Z) (.nil (toN (Gm [] (.r Z Z (.c Z (sbb (by first | (simp only [g2, g3, BL]; done) | (repeat (first | rw [g2] | rw [g3])) <;> simp only [BL])) Z .n)) (.r Z Z Z .n) Z))))))

noncomputable def lombardlaw10_MsgChecks.f (x0 : lombardref10_Msg) : Option (Bool) :=
 (lombardref10_Small.f x0).bind fun t1 =>
 if (!t1) = true then
 (lombardlaw10_awake.f).bind fun t4 =>
 some t4
 else (lombardlaw10_Of.f x0).bind fun t6 =>
 (msg_Check.f t6).bind fun t8 =>
 (lombardref10_Check.f x0).bind fun t10 =>
 (if (t8 != t10) = false then msg_Sender.f t6 else some default).bind fun t12 =>
 (if (t8 != t10) = false then lombardref10_Sender.f x0 else some default).bind fun t14 =>
 if ((t8 != t10) || (t12 != t14)) = true then
 some false
 else (if ((decide (x0.Kind < 1)) || (decide (x0.Kind > 15))) = false ∧ (!t6.isNil) = true then msg_Message.mKind.f t6 else some default).bind fun t18 =>
 (if (((decide (x0.Kind < 1)) || (decide (x0.Kind > 15))) || ((!t6.isNil) && (t18 == x0.Kind))) = true then lombardlaw10_awake.f else some default).bind fun t20 =>
 some ((((decide (x0.Kind < 1)) || (decide (x0.Kind > 15))) || ((!t6.isNil) && (t18 == x0.Kind))) && t20)
theorem lombardlaw10_MsgChecks.ok {x0 : lombardref10_Msg} {r : Bool} (h : lombardlaw10_MsgChecks.f x0 = some r) : Pm.Spec prog 5 [.agg (im (lombardref10_Msg.enc x0))] (.imm (.val (.bool r))) [none] := by
 unfold lombardlaw10_MsgChecks.f at h; refine Pm.Spec.of_body Tryz.func5 Z (by kernel_rfl) (L Z) (L Z) ?_; refine W.ghost (σ' := (mkSt [(0, some (.agg (lombardref10_Msg.av x0)))] [] 1000)) (Gives.entry (.c Z .n) .n) (W.seq (W.pk (.t Z Z (O.box Z Z Z Z Z) (.A Z (.nil (W.seq (W.seq ?_))))))); obtain ⟨t1, b2, h⟩ := bnd1 h; refine W.pk (.V Z (O.ldN ty35 Z Z Z) (.C (.b t1) [] 0 (lombardref10_Small.ok b2) ca6 Z (cC (.agg _ _ _ _ (cI (cI (cI (cI (cI (cI (cI (cI (cI (cI (cI (cI (cI (cI (cI (cI (cI (cI (cI (cI (cI (cI (cI (cI (cI (cI (cI (cI (cI (cI (cI (cI (cI (cI (cI (cI .nil))))))))))))))))))))))))))))))))))))) .nil) Z ?_)); refine .V Z (OpL.unV Z Z Z) (.nil (W.cnd Z h (fun q3 h => ?_) (fun q3 h => ?_)))
 ·refine W.seq ?_; obtain ⟨t4, b5, h⟩ := bnd1 h; refine W.pk (.C (.b t4) [] 0 (lombardlaw10_awake.ok b5) ca7 Z .nil Z ?_); refine .A Z (.nil (W.ret ?_)); cases h; exact leaves (.inr Z) Z (.imm _) (cN .nil) Z Z
 ·refine W.skip (W.seq ?_); obtain ⟨t6, b7, h⟩ := bnd1 h; refine W.pk (.V Z (O.ldN ty35 Z Z Z) (.C (.imm (msg_Message.enc t6)) [] 0 (lombardlaw10_Of.ok b7) ca9 Z (cC (.agg _ _ _ _ (cI (cI (cI (cI (cI (cI (cI (cI (cI (cI (cI (cI (cI (cI (cI (cI (cI (cI (cI (cI (cI (cI (cI (cI (cI (cI (cI (cI (cI (cI (cI (cI (cI (cI (cI (cI .nil))))))))))))))))))))))))))))))))))))) .nil) Z ?_)); refine .A Z (.nil (W.seq (W.seq ?_))); obtain ⟨t8, b9, h⟩ := bnd1 h; obtain ⟨t10, b11, h⟩ := bnd1 h; obtain ⟨t12, b13, h⟩ := bnd1 h; obtain ⟨t14, b15, h⟩ := bnd1 h; refine W.fork (mkSt [(1, some (.ptr 1000 0)), (3, some (.imm (msg_Message.enc t6))), (21, some (.b ((t8 != t10) || (t12 != t14))))] [(1000, some (.box (lombardref10_Msg.av x0)))] 1001) ?_ ?_
  ·refine W.cnd Z h (fun q17 h => ?_) (fun q17 h => ?_)
   ·refine W.seq (W.pk (.A Z (.nil (W.ret ?_)))); cases h; exact leaves (.inr Z) Z (.imm _) (cN .nil) Z Z
   ·refine W.skip (W.seq ?_); obtain ⟨t18, b19, h⟩ := bnd1 h; obtain ⟨t20, b21, h⟩ := bnd1 h; refine W.fork (mkSt [(2, some (.b ((((decide (x0.Kind < 1)) || (decide (x0.Kind > 15))) || ((!t6.isNil) && (t18 == x0.Kind))) && t20)))] [] 1001) ?_ ?_
    ·refine W.ret ?_; cases h; exact leaves (.inr Z) Z (.imm _) (cN .nil) Z Z
    ·clear h; refine W.dk (unm 23 [0, 1, 3, 7, 15, 31, 63, 127, 255, 511, 1023, 2047, 4095, 8191, 4095, 20479, 65535, 131071, 262143, 524287, 1048575, 2097151, 4194303]) Z (by kernel_rfl) ?_; refine .F fld35_0 Z (.V Z (O.ld (y := .i x0.Kind) ty3 Z Z Z) (.B Z (.M Z ?_))); rcases tf (decide (x0.Kind < 1)) with g22 | g22
     ·(iterate 3 refine .x Z (unmet Z Z Z g22) ?_); refine .V Z (O.pickT g22 Z Z Z) (.M Z ?_); (iterate 3 refine .x Z (unmet Z Z Z Z) ?_); (iterate 5 refine .x Z (unmetU Z Z Z) ?_); refine .x Z (unmet Z Z Z Z) (.V Z (O.pickT Z Z Z Z) (.M Z (.call (.b t20) [] 0 (lombardlaw10_awake.ok ((if_pos (by simp only [g22, BL])).symm.trans b21)) Z (met Z Z Z Z) Z ca7 Z Z .nil Z Z Z Z Z ?_))); refine .V Z (O.pickT Z Z Z Z) (.A Z (.nil ?_)); refine ⟨by kernel_rfl, by kernel_rfl, ?_⟩; exact toN (Gm [] (.c Z (sbb (by simp only [g22, BL])) Z .n) .n Z)
     ·refine .v Z (met Z Z Z g22) (O.fld fld35_0 Z Z Z) (.v Z (met Z Z Z g22) (O.ld (y := .i x0.Kind) ty3 Z Z Z) (.v Z (met Z Z Z g22) (OpL.binI Z Z Z Z) (.V Z (O.pickF g22 Z Z Z) (.M Z ?_)))); rcases tf (decide (x0.Kind > 15)) with g23 | g23
      ·(iterate 3 refine .x Z (unmet Z Z Z g23) ?_); (iterate 5 refine .x Z (unmetU Z Z Z) ?_); refine .x Z (unmet Z Z Z g23) (.V Z (O.pickT g23 Z Z Z) (.M Z (.call (.b t20) [] 0 (lombardlaw10_awake.ok ((if_pos (by first | (simp only [g22, g23, BL]; done) | (repeat (first | rw [g22] | rw [g23])) <;> simp only [BL])).symm.trans b21)) Z (met Z Z Z Z) Z ca7 Z Z .nil Z Z Z Z Z ?_))); refine .V Z (O.pickT Z Z Z Z) (.A Z (.nil ?_)); refine ⟨by kernel_rfl, by kernel_rfl, ?_⟩; exact toN (Gm [] (.c Z (sbb (by first | (simp only [g22, g23, BL]; done) | (repeat (first | rw [g22] | rw [g23])) <;> simp only [BL])) Z .n) .n Z)
      ·refine .m Z (met Z Z Z g23) Z Z (.v Z (met Z Z Z g23) (O.neI if42 (msg_Message.atNil t6) Z Z) (.m Z (met Z Z Z g23) Z Z ?_)); rcases tf t6.isNil with g24 | g24
       ·(iterate 5 refine .x Z (unmet Z Z Z (notT g24)) ?_); refine .v Z (met Z Z Z g23) (O.pickF (notT g24) Z Z Z) (.V Z (O.pickF g23 Z Z Z) (.M Z (.x Z (unmet Z Z Z Z) (.V Z (O.pickF Z Z Z Z) (.A Z (.nil ?_)))))); refine ⟨by kernel_rfl, by kernel_rfl, ?_⟩; exact toN (Gm [] (.c Z (sbb (by first | (simp only [g22, g23, g24, BL]; done) | (repeat (first | rw [g22] | rw [g23] | rw [g24])) <;> simp only [BL])) Z .n) .n Z)
       ·refine .m Z (met Z Z Z (notF g24)) Z Z (.v Z (met Z Z Z (notF g24)) (O.meth (msg_Message.mKind.ok ((if_pos ⟨(by first | (simp only [g22, g23, g24, BL]; done) | (repeat (first | rw [g22] | rw [g23] | rw [g24])) <;> simp only [BL]), (by first | (simp only [g22, g23, g24, BL]; done) | (repeat (first | rw [g22] | rw [g23] | rw [g24])) <;> simp only [BL])⟩).symm.trans b19)) Z Z) ?_); refine .v Z (met Z Z Z (notF g24)) (O.fld fld35_0 Z Z Z) (.v Z (met Z Z Z (notF g24)) (O.ld (y := .i x0.Kind) ty3 Z Z Z) (.v Z (met Z Z Z (notF g24)) (OpL.binI Z Z Z Z) (.v Z (met Z Z Z g23) (O.pickT (notF g24) Z Z Z) (.V Z (O.pickF g23 Z Z Z) (.M Z ?_))))); rcases tf (t18 == x0.Kind) with g25 | g25
        ·refine .call (.b t20) [] 0 (lombardlaw10_awake.ok ((if_pos (by first | (simp only [g22, g23, g24, g25, BL]; done) | (repeat (first | rw [g22] | rw [g23] | rw [g24] | rw [g25])) <;> simp only [BL])).symm.trans b21)) Z (met Z Z Z g25) Z ca7 Z Z .nil Z Z Z Z Z ?_; refine .V Z (O.pickT g25 Z Z Z) (.A Z (.nil ?_)); refine ⟨by kernel_rfl, by kernel_rfl, ?_⟩; exact toN (Gm [] (.c Z (sbb (by first | (simp only [g22, g23, g24, g25, BL]; done) | (repeat (first | rw [g22] | rw [g23] | rw [g24] | rw [g25])) <;> simp only [BL])) Z .n) .n Z)
        ·refine .x Z (unmet Z Z Z g25) (.V Z (O.pickF g25 Z Z Z) (.A Z (.nil ?_))); refine ⟨by kernel_rfl, by kernel_rfl, ?_⟩; exact toN (Gm [] (.c Z (sbb (by first | (simp only [g22, g23, g24, g25, BL]; done) | (repeat (first | rw [g22] | rw [g23] | rw [g24] | rw [g25])) <;> simp only [BL])) Z .n) .n Z)
  ·clear h; refine W.dk (unm 12 [0, 1, 0, 7, 15, 31, 63, 127, 63, 511, 1023, 2047]) Z (by kernel_rfl) ?_; refine .M Z (.C (.i t8) [] 0 (msg_Check.ok b9) ca16 Z (cI .nil) Z ?_); refine .V Z (O.ldN ty35 Z Z Z) (.C (.i t10) [] 0 (lombardref10_Check.ok b11) ca17 Z (cC (.agg _ _ _ _ (cI (cI (cI (cI (cI (cI (cI (cI (cI (cI (cI (cI (cI (cI (cI (cI (cI (cI (cI (cI (cI (cI (cI (cI (cI (cI (cI (cI (cI (cI (cI (cI (cI (cI (cI (cI .nil))))))))))))))))))))))))))))))))))))) .nil) Z ?_); refine .B Z (.M Z ?_); rcases tf (t8 != t10) with g16 | g16
   ·(iterate 5 refine .x Z (unmet Z Z Z g16) ?_); refine .V Z (O.pickT g16 Z Z Z) (.nil ?_); refine ⟨by kernel_rfl, by kernel_rfl, ?_⟩; exact toN (Gm [] (.r Z Z (.r Z Z (.c Z (sbb (by simp only [g16, BL])) Z .n))) (.r Z Z Z .n) Z)
   ·refine .m Z (met Z Z Z g16) Z Z (.call (.i t12) [] 0 (msg_Sender.ok ((if_pos (by simp only [g16, BL])).symm.trans b13)) Z (met Z Z Z g16) Z ca18 Z Z (cI .nil) Z Z Z Z Z ?_); refine .v Z (met Z Z Z g16) (O.ldN ty35 Z Z Z) (.call (.i t14) [] 0 (lombardref10_Sender.ok ((if_pos (by simp only [g16, BL])).symm.trans b15)) Z (met Z Z Z g16) Z ca19 Z Z (cC (.agg _ _ _ _ (cI (cI (cI (cI (cI (cI (cI (cI (cI (cI (cI (cI (cI (cI (cI (cI (cI (cI (cI (cI (cI (cI (cI (cI (cI (cI (cI (cI (cI (cI (cI (cI (cI (cI (cI (cI .nil))))))))))))))))))))))))))))))))))))) .nil) Z Z Z Z Z ?_); refine .v Z (met Z Z Z g16) (OpL.binI Z Z Z Z) (.V Z (O.pickF g16 Z Z Z) (.nil ?_)); refine ⟨by kernel_rfl, by kernel_rfl, ?_⟩; exact toN (Gm [] (.r Z Z (.r Z Z (.c Z (sbb (by simp only [g16, BL])) Z .n))) (.r Z Z Z .n) Z)


end Go.Proofs.YtbmokbkgielmmaaGreat
