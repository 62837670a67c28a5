/- Shows what functions of the program come to, each as a plain function: written by a program of the author's for this claim. -/
import Derived.Test.YtjdkibnhlmgppaaGreatGx1
namespace Go.Proofs.YtjdkibnhlmgppaaGreat
open Go Go.Pm
set_option linter.unusedVariables false
set_option maxRecDepth 100000
set_option maxHeartbeats 4000000
set_option linter.unusedSimpArgs false
noncomputable def isin_Asset.f (x0 : api_Asset) : Option (Int) :=
 (isin_Check.f x0.ISIN).bind fun t1 =>
 if (t1 != 0) = true then
 some t1
 else (isin_Currency.f x0.Currency).bind fun t4 =>
 if (!t4) = true then
 some 11
 else if ((((decide (x0.Issuer < 0)) || (decide (x0.Issuer > 9999))) || (decide (x0.Rating < 0))) || (decide (x0.Rating > 20))) = true then
 some 1
 else if ((decide (x0.Maturity < 0)) || (decide (x0.Maturity > 200000))) = true then
 some 10
 else some 0
theorem isin_Asset.ok {x0 : api_Asset} {r : Int} (h : isin_Asset.f x0 = some r) : Pm.Spec prog 55 [.agg (im (api_Asset.enc x0))] (.imm (.val (.int .i64 r))) [none] := by
 unfold isin_Asset.f at h; refine Pm.Spec.of_body Tryz.func55 Z (by kernel_rfl) (L Z) (L Z) ?_; refine W.ghost (σ' := (mkSt [(0, some (.agg (api_Asset.av x0)))] [] 1000)) (Gives.entry (.c Z .n) .n) (W.seq (W.pk (.t Z Z (O.box Z Z Z Z Z) (.A Z (.nil (W.seq (W.seq ?_))))))); obtain ⟨t1, b2, h⟩ := bnd1 h; refine W.pk (.F fld52_0 Z (.V Z (O.ld (y := .s x0.ISIN) ty9 Z Z Z) (.C (.i t1) [] 0 (isin_Check.ok b2) ca62 Z (cI .nil) Z ?_))); refine .A Z (.nil (W.seq (W.pk (.M Z (.B Z (.nil (W.cnd Z h (fun q3 h => ?_) (fun q3 h => ?_))))))))
 ·refine W.seq (W.pk (.M Z (.A Z (.nil (W.ret ?_))))); cases h; exact lv Z Z
 ·refine W.skip (W.seq (W.block (W.seq ?_))); obtain ⟨t4, b5, h⟩ := bnd1 h; refine W.pk (.F fld52_4 Z (.V Z (O.ld (y := .s x0.Currency) ty9 Z Z Z) (.C (.b t4) [] 0 (isin_Currency.ok b5) ca60 Z (cI .nil) Z ?_))); refine .V Z (OpL.unV Z Z Z) (.A Z (.nil (W.cnd Z h (fun q6 h => ?_) (fun q6 h => ?_))))
  ·refine W.seq (W.pk (.A Z (.nil (W.ret ?_)))); cases h; exact lv Z Z
  ·refine W.seq (W.fork (mkSt [(1, some (.ptr 1000 0)), (15, some (.b ((((decide (x0.Issuer < 0)) || (decide (x0.Issuer > 9999))) || (decide (x0.Rating < 0))) || (decide (x0.Rating > 20)))))] [(1000, some (.box (api_Asset.av x0)))] 1001) ?_ ?_)
   ·refine W.cnd Z h (fun q10 h => ?_) (fun q10 h => ?_)
    ·refine W.seq (W.pk (.A Z (.nil (W.ret ?_)))); cases h; exact lv Z Z
    ·refine W.seq (W.fork (mkSt [(34, some (.b ((decide (x0.Maturity < 0)) || (decide (x0.Maturity > 200000)))))] [] 1001) ?_ ?_)
     ·refine W.cnd Z h (fun q12 h => ?_) (fun q12 h => ?_)
      ·refine W.seq (W.pk (.A Z (.nil (W.ret ?_)))); cases h; exact lv Z Z
      ·refine W.skip (W.seq (W.pk (.A Z (.nil (W.ret ?_))))); cases h; exact lv Z Z
     ·clear h; refine W.pk (.F fld52_3 Z (.V Z (O.ld (y := .i x0.Maturity) ty3 Z Z Z) (.B Z (.M Z ?_)))); rcases tf (decide (x0.Maturity < 0)) with g11 | g11
      ·(iterate 3 refine .X Z g11 ?_); exact .T g11 Z (.A Z (.nil (toN (Gm [] (.c Z (sbb (by simp only [g11, BL])) Z .n) .n Z))))
      ·exact .H fld52_3 Z g11 Z (.U Z g11 (O.ld (y := .i x0.Maturity) ty3 Z Z Z) (.G Z g11 Z (.E g11 Z (.A Z (.nil (toN (Gm [] (.c Z (sbb (by simp only [g11, BL])) Z .n) .n Z)))))))
   ·clear h; refine W.pk (.F fld52_1 Z (.V Z (O.ld (y := .i x0.Issuer) ty3 Z Z Z) (.B Z (.M Z ?_)))); rcases tf (decide (x0.Issuer < 0)) with g7 | g7
    ·refine .X Z g7 (.X Z g7 (.X Z g7 (.T g7 Z (.M Z (.X Z Z (.X Z Z (.X Z Z (.T Z Z (.M Z (.X Z Z (.X Z Z ?_))))))))))); exact .X Z Z (.T Z Z (.A Z (.nil (toN (Gm [] (.r Z Z (.c Z (sbb (by simp only [g7, BL])) Z .n)) (.r Z Z Z .n) Z)))))
    ·refine .H fld52_1 Z g7 Z (.U Z g7 (O.ld (y := .i x0.Issuer) ty3 Z Z Z) (.G Z g7 Z (.E g7 Z (.M Z ?_)))); rcases tf (decide (x0.Issuer > 9999)) with g8 | g8
     ·exact .X Z g8 (.X Z g8 (.X Z g8 (.T g8 Z (.M Z (.X Z Z (.X Z Z (.X Z Z (.T Z Z (.A Z (.nil (toN (Gm [] (.r Z Z (.c Z (sbb (by simp only [g7, g8, BL])) Z .n)) (.r Z Z Z .n) Z))))))))))))
     ·refine .H fld52_2 Z g8 Z (.U Z g8 (O.ld (y := .i x0.Rating) ty3 Z Z Z) (.G Z g8 Z (.E g8 Z (.M Z ?_)))); rcases tf (decide (x0.Rating < 0)) with g9 | g9
      ·exact .X Z g9 (.X Z g9 (.X Z g9 (.T g9 Z (.A Z (.nil (toN (Gm [] (.r Z Z (.c Z (sbb (by simp only [g7, g8, g9, BL])) Z .n)) (.r Z Z Z .n) Z)))))))
      ·exact .H fld52_2 Z g9 Z (.U Z g9 (O.ld (y := .i x0.Rating) ty3 Z Z Z) (.G Z g9 Z (.E g9 Z (.A Z (.nil (toN (Gm [] (.r Z Z (.c Z (sbb (by simp only [g7, g8, g9, BL])) Z .n)) (.r Z Z Z .n) Z)))))))

noncomputable def msg_Basket_1.f (x0 : Int) : Option (Bool) :=
 some ((decide (x0 ≥ 0)) && (decide (x0 ≤ 1000000)))
theorem msg_Basket_1.ok {x0 : Int} {r : Bool} (h : msg_Basket_1.f x0 = some r) : Pm.Spec prog 87 [.imm (.val (.int .i64 x0))] (.imm (.val (.bool r))) [none] := by
 unfold msg_Basket_1.f at h; refine Pm.Spec.of_body Tryz.func87 Z (by kernel_rfl) (L Z) (L Z) ?_; refine W.ghost (σ' := (mkSt [(0, some (.i x0))] [] 1000)) (Gives.entry (.c Z .n) .n) (W.seq (W.pk (.A Z (.nil (W.seq (W.fork (mkSt [(2, some (.b ((decide (x0 ≥ 0)) && (decide (x0 ≤ 1000000)))))] [] 1000) ?_ ?_))))))
 ·refine W.ret ?_; cases h; exact lv Z Z
 ·clear h; refine W.pk (.M Z (.B Z (.M Z ?_))); rcases tf (decide (x0 ≥ 0)) with g1 | g1
  ·exact .N Z g1 (.G Z g1 Z (.T g1 Z (.A Z (.nil (toN (Gm [] (.c Z (sbb (by simp only [g1, BL])) Z .n) .n Z))))))
  ·exact .X Z g1 (.X Z g1 (.E g1 Z (.A Z (.nil (toN (Gm [] (.c Z (sbb (by simp only [g1, BL])) Z .n) .n Z))))))

noncomputable def msg_Basket.b0 (x0 : api_Basket) (v30 : Int) : Option (Int ⊕ (Int ⊕ Unit)) :=
 if (decide (v30 < (List.length x0.Cuts : Int))) = true then
 if (0 : Int) ≤ v30 ∧ v30 < (List.length x0.Cuts : Int) then
 if ((((((decide (((nth x0.Cuts v30).Days) < 0)) || (decide (((nth x0.Cuts v30).Days) > 200000))) || (decide (((nth x0.Cuts v30).Rating) < 0))) || (decide (((nth x0.Cuts v30).Rating) > 20))) || (decide (((nth x0.Cuts v30).Cut) < 0))) || (decide (((nth x0.Cuts v30).Cut) ≥ 1000000))) = true then
 some (.inr (.inl 1))
 else some (.inl (IntKind.wrap .i64 (v30 + 1)))
 else none
 else some (.inr (.inr ()))
noncomputable def msg_Basket.r0 (x0 : api_Basket) (s : Int) : Option (Int ⊕ (Int ⊕ Unit)) := msg_Basket.b0 x0 s
noncomputable def msg_Basket.b1 (x0 : api_Basket) (v67 : Int) : Option (Int ⊕ (Int ⊕ Unit)) :=
 if (decide (v67 < (List.length x0.Barred : Int))) = true then
 if (0 : Int) ≤ v67 ∧ v67 < (List.length x0.Barred : Int) then
 if (((decide ((nth x0.Barred v67) < 0)) || (decide ((nth x0.Barred v67) > 9999))) = false ∧ (decide (v67 > 0)) = true → (0 : Int) ≤ (IntKind.wrap .i64 (v67 - 1)) ∧ (IntKind.wrap .i64 (v67 - 1)) < (List.length x0.Barred : Int)) then
 if (((decide ((nth x0.Barred v67) < 0)) || (decide ((nth x0.Barred v67) > 9999))) || ((decide (v67 > 0)) && (decide ((nth x0.Barred v67) ≤ (nth x0.Barred (IntKind.wrap .i64 (v67 - 1))))))) = true then
 some (.inr (.inl 1))
 else some (.inl (IntKind.wrap .i64 (v67 + 1)))
 else none
 else none
 else some (.inr (.inr ()))
noncomputable def msg_Basket.r1 (x0 : api_Basket) (s : Int) : Option (Int ⊕ (Int ⊕ Unit)) := msg_Basket.b1 x0 s
noncomputable def msg_Basket.f (x0 : api_Basket) : Option (Int) :=
 if ((((((decide (x0.ID < 1)) || (decide (x0.ID > 64))) || (decide (x0.Version < 1))) || (decide (x0.Version > 1125899906842624))) || (decide (x0.Rating < 0))) || (decide (x0.Rating > 20))) = true then
 some 1
 else (msg_Basket_1.f x0.Issuer).bind fun t7 =>
 (if (!t7) = false then msg_Basket_1.f x0.Asset else some default).bind fun t9 =>
 if (((((!t7) || (!t9)) || ((List.length x0.Cuts : Int) == 0)) || (decide ((List.length x0.Cuts : Int) > 64))) || (decide ((List.length x0.Barred : Int) > 64))) = true then
 some 1
 else if (((decide (x0.Least < 0)) || (decide (x0.Most < x0.Least))) || (decide (x0.Most > 200000))) = true then
 some 10
 else (isin_Currency.f x0.Currency).bind fun t19 =>
 if (!t19) = true then
 some 11
 else (loop (msg_Basket.r0 x0) 0).bind fun o48 =>
 match o48 with
 | .inl r59 => some r59
 | .inr w47 =>
 (loop (msg_Basket.r1 x0) 0).bind fun o83 =>
 match o83 with
 | .inl r93 => some r93
 | .inr w82 =>
 some 0
theorem msg_Basket.ok {x0 : api_Basket} {r : Int} (h : msg_Basket.f x0 = some r) : Pm.Spec prog 56 [.agg (im (api_Basket.enc x0))] (.imm (.val (.int .i64 r))) [none] := by
 unfold msg_Basket.f at h; refine Pm.Spec.of_body Tryz.func56 Z (by kernel_rfl) (L Z) (L Z) ?_; refine W.ghost (σ' := (mkSt [(0, some (.agg (api_Basket.av x0)))] [] 1000)) (Gives.entry (.c Z .n) .n) (W.seq (W.pk (.t Z Z (O.box Z Z Z Z Z) (.A Z (.nil (W.seq (W.pk (.A Z (.nil (W.seq (W.block ?_))))))))))); refine W.seq (W.fork (mkSt [(1, some (.ptr 1000 0)), (3, some (.fn 87 [])), (8, some (.b ((((((decide (x0.ID < 1)) || (decide (x0.ID > 64))) || (decide (x0.Version < 1))) || (decide (x0.Version > 1125899906842624))) || (decide (x0.Rating < 0))) || (decide (x0.Rating > 20)))))] [(1000, some (.box (api_Basket.av x0)))] 1001) ?_ ?_)
 ·refine W.cnd Z h (fun q6 h => ?_) (fun q6 h => ?_)
  ·refine W.seq (W.pk (.A Z (.nil (W.ret ?_)))); cases h; exact lv Z Z
  ·refine W.seq ?_; obtain ⟨t7, b8, h⟩ := bnd1 h; obtain ⟨t9, b10, h⟩ := bnd1 h; refine W.fork (mkSt [(1, some (.ptr 1000 0)), (37, some (.b (((((!t7) || (!t9)) || ((List.length x0.Cuts : Int) == 0)) || (decide ((List.length x0.Cuts : Int) > 64))) || (decide ((List.length x0.Barred : Int) > 64)))))] [(1000, some (.box (api_Basket.av x0)))] 1001) ?_ ?_
   ·refine W.cnd Z h (fun q15 h => ?_) (fun q15 h => ?_)
    ·refine W.seq (W.pk (.A Z (.nil (W.ret ?_)))); cases h; exact lv Z Z
    ·refine W.seq (W.fork (mkSt [(1, some (.ptr 1000 0)), (68, some (.b (((decide (x0.Least < 0)) || (decide (x0.Most < x0.Least))) || (decide (x0.Most > 200000)))))] [(1000, some (.box (api_Basket.av x0)))] 1001) ?_ ?_)
     ·refine W.cnd Z h (fun q18 h => ?_) (fun q18 h => ?_)
      ·refine W.seq (W.pk (.A Z (.nil (W.ret ?_)))); cases h; exact lv Z Z
      ·refine W.seq ?_; obtain ⟨t19, b20, h⟩ := bnd1 h; refine W.pk (.F fld56_2 Z (.V Z (O.ld (y := .s x0.Currency) ty9 Z Z Z) (.C (.b t19) [] 0 (isin_Currency.ok b20) ca60 Z (cI .nil) Z ?_))); refine .V Z (OpL.unV Z Z Z) (.A Z (.nil (W.cnd Z h (fun q21 h => ?_) (fun q21 h => ?_))))
       ·refine W.seq (W.pk (.A Z (.nil (W.ret ?_)))); cases h; exact lv Z Z
       ·refine W.skip (W.seq (W.seq (W.pk (.F fld56_6 Z (.V Z (O.ld (y := .imm (.row 3 (List.map api_Cut.enc x0.Cuts))) ty53 Z Z Z) (.V Z (O.lenR sl53 Z Z) (.M Z (.nil ?_)))))))); obtain ⟨o48, b49, z50⟩ := bnd1 h; refine W.fork2 (out := o48) (fun (w47 : Unit) => mkSt [(1, some (.ptr 1000 0))] [(1000, some (.box (api_Basket.av x0)))] 1001) ?_ ?_
        ·clear h; refine W.block (W.loopF (fun (s_ : Int) => mkSt [(1, some (.ptr 1000 0)), (90, some (.imm (.row 3 (List.map api_Cut.enc x0.Cuts)))), (91, some (.i (List.length x0.Cuts : Int))), (92, some (.i s_))] [(1000, some (.box (api_Basket.av x0)))] 1001) b49 (Gm [] (.e Z Z) (.r Z Z Z .n) Z) ?_); rintro v30 s_ hr; have h : msg_Basket.b0 x0 v30 = some s_ := hr; unfold msg_Basket.b0 at h; refine W.seq (W.pk (.B Z (.nil (W.seq (W.cnd Z h (fun q51 h => ?_) (fun q51 h => ?_))))))
         ·refine W.skip (W.seq (W.block (W.seq ?_))); obtain ⟨c52, h⟩ := chk h; refine W.pk (.V Z (O.idx sl53 c52 Z Z Z) (.V Z (O.ldN ty157 Z Z Z) (.t Z Z (O.alloc z157 Z) (.S ty157 Z [.i ((nth x0.Cuts v30).Days), .i ((nth x0.Cuts v30).Rating), .i ((nth x0.Cuts v30).Cut)] Z (.nil (W.seq (W.fork (mkSt [(1, some (.ptr 1000 0)), (90, some (.imm (.row 3 (List.map api_Cut.enc x0.Cuts)))), (91, some (.i (List.length x0.Cuts : Int))), (92, some (.i v30)), (123, some (.b ((((((decide (((nth x0.Cuts v30).Days) < 0)) || (decide (((nth x0.Cuts v30).Days) > 200000))) || (decide (((nth x0.Cuts v30).Rating) < 0))) || (decide (((nth x0.Cuts v30).Rating) > 20))) || (decide (((nth x0.Cuts v30).Cut) < 0))) || (decide (((nth x0.Cuts v30).Cut) ≥ 1000000)))))] [(1000, some (.box (api_Basket.av x0)))] 1002) ?_ ?_)))))))
          ·refine W.cnd Z h (fun q58 h => ?_) (fun q58 h => ?_)
           ·refine W.seq (W.pk (.A Z (.nil (W.ret ?_)))); cases h; refine rdR fun e_ => ?_; subst e_; have h := z50; dsimp only at h; refine fkR ?_; cases h; exact lv Z Z
           ·refine W.skip (W.pk (.B Z (.M Z (.nil ?_)))); cases h; exact rdN (Gm [] (.e Z Z) (.r Z Z Z .n) Z)
          ·clear h; refine W.pk (.F fld157_0 Z (.V Z (O.ld (y := .i ((nth x0.Cuts v30).Days)) ty3 Z Z Z) (.B Z (.M Z ?_)))); rcases tf (decide (((nth x0.Cuts v30).Days) < 0)) with g53 | g53
           ·(iterate 3 refine .X Z g53 ?_); refine .T g53 Z (.M Z (.X Z Z (.X Z Z (.X Z Z (.T Z Z (.M Z (.X Z Z (.X Z Z (.X Z Z (.T Z Z (.M Z ?_))))))))))); exact .X Z Z (.X Z Z (.X Z Z (.T Z Z (.M Z (.X Z Z (.X Z Z (.X Z Z (.T Z Z (.nil (toN (Gm [] (.r Z Z (.r Z Z (.r Z Z (.r Z Z (.c Z (sbb (by simp only [g53, BL])) Z .n))))) (.r Z Z Z .n) Z)))))))))))
           ·refine .H fld157_0 Z g53 Z (.U Z g53 (O.ld (y := .i ((nth x0.Cuts v30).Days)) ty3 Z Z Z) (.G Z g53 Z (.E g53 Z (.M Z ?_)))); rcases tf (decide (((nth x0.Cuts v30).Days) > 200000)) with g54 | g54
            ·(iterate 3 refine .X Z g54 ?_); refine .T g54 Z (.M Z (.X Z Z (.X Z Z (.X Z Z (.T Z Z (.M Z (.X Z Z (.X Z Z (.X Z Z (.T Z Z (.M Z ?_))))))))))); exact .X Z Z (.X Z Z (.X Z Z (.T Z Z (.nil (toN (Gm [] (.r Z Z (.r Z Z (.r Z Z (.r Z Z (.c Z (sbb (by simp only [g53, g54, BL])) Z .n))))) (.r Z Z Z .n) Z))))))
            ·refine .H fld157_1 Z g54 Z (.U Z g54 (O.ld (y := .i ((nth x0.Cuts v30).Rating)) ty3 Z Z Z) (.G Z g54 Z (.E g54 Z (.M Z ?_)))); rcases tf (decide (((nth x0.Cuts v30).Rating) < 0)) with g55 | g55
             ·(iterate 3 refine .X Z g55 ?_); refine .T g55 Z (.M Z (.X Z Z (.X Z Z (.X Z Z (.T Z Z (.M Z (.X Z Z (.X Z Z (.X Z Z (.T Z Z (.nil ?_))))))))))); exact toN (Gm [] (.r Z Z (.r Z Z (.r Z Z (.r Z Z (.c Z (sbb (by simp only [g53, g54, g55, BL])) Z .n))))) (.r Z Z Z .n) Z)
             ·refine .H fld157_1 Z g55 Z (.U Z g55 (O.ld (y := .i ((nth x0.Cuts v30).Rating)) ty3 Z Z Z) (.G Z g55 Z (.E g55 Z (.M Z ?_)))); rcases tf (decide (((nth x0.Cuts v30).Rating) > 20)) with g56 | g56
              ·(iterate 3 refine .X Z g56 ?_); exact .T g56 Z (.M Z (.X Z Z (.X Z Z (.X Z Z (.T Z Z (.nil (toN (Gm [] (.r Z Z (.r Z Z (.r Z Z (.r Z Z (.c Z (sbb (by simp only [g53, g54, g55, g56, BL])) Z .n))))) (.r Z Z Z .n) Z))))))))
              ·refine .H fld157_2 Z g56 Z (.U Z g56 (O.ld (y := .i ((nth x0.Cuts v30).Cut)) ty3 Z Z Z) (.G Z g56 Z (.E g56 Z (.M Z ?_)))); rcases tf (decide (((nth x0.Cuts v30).Cut) < 0)) with g57 | g57
               ·(iterate 3 refine .X Z g57 ?_); exact .T g57 Z (.nil (toN (Gm [] (.r Z Z (.r Z Z (.r Z Z (.r Z Z (.c Z (sbb (by simp only [g53, g54, g55, g56, g57, BL])) Z .n))))) (.r Z Z Z .n) Z)))
               ·exact .H fld157_2 Z g57 Z (.U Z g57 (O.ld (y := .i ((nth x0.Cuts v30).Cut)) ty3 Z Z Z) (.G Z g57 Z (.E g57 Z (.nil (toN (Gm [] (.r Z Z (.r Z Z (.r Z Z (.r Z Z (.c Z (sbb (by simp only [g53, g54, g55, g56, g57, BL])) Z .n))))) (.r Z Z Z .n) Z))))))
         ·refine W.exit ?_; cases h; refine rdX fun e_ => ?_; subst e_; (repeat with_reducible refine thru ?_); exact hit (fkN (Gm [] (.r Z Z .n) (.r Z Z Z .n) Z))
        ·intro w47 e_; subst e_; clear h; have h := z50; dsimp only at h; refine W.seq (W.seq (W.pk (.F fld56_9 Z (.V Z (O.ld (y := .imm (.row 1 (List.map (encI .i64) x0.Barred))) ty54 Z Z Z) (.V Z (O.lenR sl54 Z Z) (.M Z (.nil ?_))))))); obtain ⟨o83, b84, z85⟩ := bnd1 h; refine W.fork2 (out := o83) (fun (w82 : Unit) => mkSt [] [] 1001) ?_ ?_
         ·clear h; refine W.block (W.loopF (fun (s_ : Int) => mkSt [(1, some (.ptr 1000 0)), (126, some (.imm (.row 1 (List.map (encI .i64) x0.Barred)))), (127, some (.i (List.length x0.Barred : Int))), (128, some (.i s_))] [(1000, some (.box (api_Basket.av x0)))] 1001) b84 (Gm [] (.e Z Z) (.r Z Z Z .n) Z) ?_); rintro v67 s_ hr; have h : msg_Basket.b1 x0 v67 = some s_ := hr; unfold msg_Basket.b1 at h; refine W.seq (W.pk (.B Z (.nil (W.seq (W.cnd Z h (fun q86 h => ?_) (fun q86 h => ?_))))))
          ·refine W.skip (W.seq (W.block (W.seq ?_))); obtain ⟨c87, h⟩ := chk h; refine W.pk (.M Z (.V Z (O.idx sl54 c87 Z Z Z) (.V Z (O.ld (y := .i (nth x0.Barred v67)) ty3 Z Z Z) (.A Z (.A Z (.nil (W.seq ?_))))))); obtain ⟨c88, h⟩ := chk h; refine W.fork (mkSt [(1, some (.ptr 1000 0)), (126, some (.imm (.row 1 (List.map (encI .i64) x0.Barred)))), (127, some (.i (List.length x0.Barred : Int))), (128, some (.i v67)), (152, some (.b (((decide ((nth x0.Barred v67) < 0)) || (decide ((nth x0.Barred v67) > 9999))) || ((decide (v67 > 0)) && (decide ((nth x0.Barred v67) ≤ (nth x0.Barred (IntKind.wrap .i64 (v67 - 1)))))))))] [(1000, some (.box (api_Basket.av x0)))] 1001) ?_ ?_
           ·refine W.cnd Z h (fun q92 h => ?_) (fun q92 h => ?_)
            ·refine W.seq (W.pk (.A Z (.nil (W.ret ?_)))); cases h; refine rdR fun e_ => ?_; subst e_; have h := z85; dsimp only at h; refine fkR ?_; cases h; exact lv Z Z
            ·refine W.skip (W.pk (.B Z (.M Z (.nil ?_)))); cases h; exact rdN (Gm [] (.e Z Z) (.r Z Z Z .n) Z)
           ·clear h; refine W.pk (.M Z (.B Z (.M Z ?_))); rcases tf (decide ((nth x0.Barred v67) < 0)) with g89 | g89
            ·refine .X Z g89 (.X Z g89 (.T g89 Z (.M Z (.X Z Z (.X Z Z (.X Z Z ?_)))))); (iterate 8 refine .x Z (unmetU Z Z Z) ?_); exact .X Z Z (.T Z Z (.nil (toN (Gm [] (.r Z Z (.r Z Z (.r Z Z (.r Z Z (.c Z (sbb (by simp only [g89, BL])) Z .n))))) (.r Z Z Z .n) Z))))
            ·refine .N Z g89 (.G Z g89 Z (.E g89 Z (.M Z ?_))); rcases tf (decide ((nth x0.Barred v67) > 9999)) with g90 | g90
             ·(iterate 3 refine .X Z g90 ?_); (iterate 8 refine .x Z (unmetU Z Z Z) ?_); exact .X Z g90 (.T g90 Z (.nil (toN (Gm [] (.r Z Z (.r Z Z (.r Z Z (.r Z Z (.c Z (sbb (by simp only [g89, g90, BL])) Z .n))))) (.r Z Z Z .n) Z))))
             ·refine .N Z g90 (.G Z g90 Z (.N Z g90 ?_)); rcases tf (decide (v67 > 0)) with g91 | g91
              ·refine .N Z g91 (.H fld56_9 Z g91 Z (.U Z g91 (O.ld (y := .imm (.row 1 (List.map (encI .i64) x0.Barred))) ty54 Z Z Z) (.N Z g91 (.G Z g91 Z (.U Z g91 (O.idx sl54 (c88 ⟨(by simp only [g89, g90, g91, BL]), (by simp only [g89, g90, g91, BL])⟩) Z Z Z) ?_))))); exact .U Z g91 (O.ld (y := .i (nth x0.Barred (IntKind.wrap .i64 (v67 - 1)))) ty3 Z Z Z) (.G Z g91 Z (.U Z g90 (O.pickT g91 Z Z Z) (.E g90 Z (.nil (toN (Gm [] (.r Z Z (.r Z Z (.r Z Z (.r Z Z (.c Z (sbb (by simp only [g89, g90, g91, BL])) Z .n))))) (.r Z Z Z .n) Z))))))
              ·(iterate 8 refine .X Z g91 ?_); exact .U Z g90 (O.pickF g91 Z Z Z) (.E g90 Z (.nil (toN (Gm [] (.r Z Z (.r Z Z (.r Z Z (.r Z Z (.c Z (sbb (by simp only [g89, g90, g91, BL])) Z .n))))) (.r Z Z Z .n) Z))))
          ·refine W.exit ?_; cases h; refine rdX fun e_ => ?_; subst e_; (repeat with_reducible refine thru ?_); exact hit (fkN (Gm [] .n .n Z))
         ·intro w82 e_; subst e_; clear h; have h := z85; dsimp only at h; refine W.seq (W.pk (.A Z (.nil (W.ret ?_)))); cases h; exact lv Z Z
     ·clear h; refine W.pk (.F fld56_4 Z (.V Z (O.ld (y := .i x0.Least) ty3 Z Z Z) (.B Z (.M Z ?_)))); rcases tf (decide (x0.Least < 0)) with g16 | g16
      ·(iterate 5 refine .X Z g16 ?_); exact .T g16 Z (.M Z (.X Z Z (.X Z Z (.X Z Z (.T Z Z (.A Z (.nil (toN (Gm [] (.r Z Z (.c Z (sbb (by simp only [g16, BL])) Z .n)) (.r Z Z Z .n) Z)))))))))
      ·refine .H fld56_5 Z g16 Z (.U Z g16 (O.ld (y := .i x0.Most) ty3 Z Z Z) (.H fld56_4 Z g16 Z (.U Z g16 (O.ld (y := .i x0.Least) ty3 Z Z Z) (.G Z g16 Z (.E g16 Z (.M Z ?_)))))); rcases tf (decide (x0.Most < x0.Least)) with g17 | g17
       ·(iterate 3 refine .X Z g17 ?_); exact .T g17 Z (.A Z (.nil (toN (Gm [] (.r Z Z (.c Z (sbb (by simp only [g16, g17, BL])) Z .n)) (.r Z Z Z .n) Z))))
       ·exact .H fld56_5 Z g17 Z (.U Z g17 (O.ld (y := .i x0.Most) ty3 Z Z Z) (.G Z g17 Z (.E g17 Z (.A Z (.nil (toN (Gm [] (.r Z Z (.c Z (sbb (by simp only [g16, g17, BL])) Z .n)) (.r Z Z Z .n) Z)))))))
   ·clear h; refine W.pk (.M Z (.F fld56_7 Z (.V Z (O.ld (y := .i x0.Issuer) ty3 Z Z Z) (.C (.b t7) [] 0 (msg_Basket_1.ok b8) ca87 Z (cI .nil) Z ?_)))); refine .V Z (OpL.unV Z Z Z) (.M Z ?_); rcases tf t7 with g11 | g11
    ·refine .N Z (notT g11) (.H fld56_8 Z (notT g11) Z (.U Z (notT g11) (O.ld (y := .i x0.Asset) ty3 Z Z Z) (.call (.b t9) [] 0 (msg_Basket_1.ok ((if_pos (by simp only [g11, BL])).symm.trans b10)) Z (met Z Z Z (notT g11)) Z ca87 Z Z (cI .nil) Z Z Z Z Z ?_))); refine .U Z (notT g11) (OpL.unV Z Z Z) (.E (notT g11) Z (.M Z ?_)); rcases tf t9 with g12 | g12
     ·refine .H fld56_6 Z (notT g12) Z (.U Z (notT g12) (O.ld (y := .imm (.row 3 (List.map api_Cut.enc x0.Cuts))) ty53 Z Z Z) (.U Z (notT g12) (O.lenR sl53 Z Z) (.G Z (notT g12) Z (.E (notT g12) Z (.M Z ?_))))); rcases tf ((List.length x0.Cuts : Int) == 0) with g13 | g13
      ·(iterate 4 refine .X Z g13 ?_); refine .T g13 Z (.M Z ?_); (iterate 4 refine .X Z Z ?_); exact .T Z Z (.A Z (.nil (toN (Gm [] (.r Z Z (.c Z (sbb (by simp only [g11, g12, g13, BL])) Z .n)) (.r Z Z Z .n) Z))))
      ·refine .H fld56_6 Z g13 Z (.U Z g13 (O.ld (y := .imm (.row 3 (List.map api_Cut.enc x0.Cuts))) ty53 Z Z Z) (.U Z g13 (O.lenR sl53 Z Z) (.G Z g13 Z (.E g13 Z (.M Z ?_))))); rcases tf (decide ((List.length x0.Cuts : Int) > 64)) with g14 | g14
       ·(iterate 4 refine .X Z g14 ?_); exact .T g14 Z (.A Z (.nil (toN (Gm [] (.r Z Z (.c Z (sbb (by simp only [g11, g12, g13, g14, BL])) Z .n)) (.r Z Z Z .n) Z))))
       ·exact .H fld56_9 Z g14 Z (.U Z g14 (O.ld (y := .imm (.row 1 (List.map (encI .i64) x0.Barred))) ty54 Z Z Z) (.U Z g14 (O.lenR sl54 Z Z) (.G Z g14 Z (.E g14 Z (.A Z (.nil (toN (Gm [] (.r Z Z (.c Z (sbb (by simp only [g11, g12, g13, g14, BL])) Z .n)) (.r Z Z Z .n) Z))))))))
     ·(iterate 4 refine .X Z (notF g12) ?_); refine .T (notF g12) Z (.M Z ?_); (iterate 4 refine .X Z Z ?_); refine .T Z Z (.M Z ?_); (iterate 4 refine .X Z Z ?_); exact .T Z Z (.A Z (.nil (toN (Gm [] (.r Z Z (.c Z (sbb (by simp only [g11, g12, BL])) Z .n)) (.r Z Z Z .n) Z))))
    ·(iterate 5 refine .X Z (notF g11) ?_); refine .T (notF g11) Z (.M Z ?_); (iterate 4 refine .X Z Z ?_); refine .T Z Z (.M Z ?_); (iterate 4 refine .X Z Z ?_); refine .T Z Z (.M Z ?_); (iterate 4 refine .X Z Z ?_); exact .T Z Z (.A Z (.nil (toN (Gm [] (.r Z Z (.c Z (sbb (by simp only [g11, BL])) Z .n)) (.r Z Z Z .n) Z))))
 ·clear h; refine W.pk (.F fld56_0 Z (.V Z (O.ld (y := .i x0.ID) ty3 Z Z Z) (.B Z (.M Z ?_)))); rcases tf (decide (x0.ID < 1)) with g1 | g1
  ·refine .X Z g1 (.X Z g1 (.X Z g1 (.T g1 Z (.M Z (.X Z Z (.X Z Z (.X Z Z (.T Z Z (.M Z (.X Z Z (.X Z Z ?_))))))))))); refine .X Z Z (.T Z Z (.M Z (.X Z Z (.X Z Z (.X Z Z (.T Z Z (.M Z (.X Z Z (.X Z Z (.X Z Z (.T Z Z ?_))))))))))); exact .A Z (.nil (toN (Gm [] (.r Z Z (.r Z Z (.c Z (sbb (by simp only [g1, BL])) Z .n))) (.r Z Z Z .n) Z)))
  ·refine .H fld56_0 Z g1 Z (.U Z g1 (O.ld (y := .i x0.ID) ty3 Z Z Z) (.G Z g1 Z (.E g1 Z (.M Z ?_)))); rcases tf (decide (x0.ID > 64)) with g2 | g2
   ·refine .X Z g2 (.X Z g2 (.X Z g2 (.T g2 Z (.M Z (.X Z Z (.X Z Z (.X Z Z (.T Z Z (.M Z (.X Z Z (.X Z Z ?_))))))))))); exact .X Z Z (.T Z Z (.M Z (.X Z Z (.X Z Z (.X Z Z (.T Z Z (.A Z (.nil (toN (Gm [] (.r Z Z (.r Z Z (.c Z (sbb (by simp only [g1, g2, BL])) Z .n))) (.r Z Z Z .n) Z))))))))))
   ·refine .H fld56_1 Z g2 Z (.U Z g2 (O.ld (y := .i x0.Version) ty3 Z Z Z) (.G Z g2 Z (.E g2 Z (.M Z ?_)))); rcases tf (decide (x0.Version < 1)) with g3 | g3
    ·refine .X Z g3 (.X Z g3 (.X Z g3 (.T g3 Z (.M Z (.X Z Z (.X Z Z (.X Z Z (.T Z Z (.M Z (.X Z Z (.X Z Z ?_))))))))))); exact .X Z Z (.T Z Z (.A Z (.nil (toN (Gm [] (.r Z Z (.r Z Z (.c Z (sbb (by simp only [g1, g2, g3, BL])) Z .n))) (.r Z Z Z .n) Z)))))
    ·refine .H fld56_1 Z g3 Z (.U Z g3 (O.ld (y := .i x0.Version) ty3 Z Z Z) (.G Z g3 Z (.E g3 Z (.M Z ?_)))); rcases tf (decide (x0.Version > 1125899906842624)) with g4 | g4
     ·exact .X Z g4 (.X Z g4 (.X Z g4 (.T g4 Z (.M Z (.X Z Z (.X Z Z (.X Z Z (.T Z Z (.A Z (.nil (toN (Gm [] (.r Z Z (.r Z Z (.c Z (sbb (by simp only [g1, g2, g3, g4, BL])) Z .n))) (.r Z Z Z .n) Z))))))))))))
     ·refine .H fld56_3 Z g4 Z (.U Z g4 (O.ld (y := .i x0.Rating) ty3 Z Z Z) (.G Z g4 Z (.E g4 Z (.M Z ?_)))); rcases tf (decide (x0.Rating < 0)) with g5 | g5
      ·exact .X Z g5 (.X Z g5 (.X Z g5 (.T g5 Z (.A Z (.nil (toN (Gm [] (.r Z Z (.r Z Z (.c Z (sbb (by simp only [g1, g2, g3, g4, g5, BL])) Z .n))) (.r Z Z Z .n) Z)))))))
      ·exact .H fld56_3 Z g5 Z (.U Z g5 (O.ld (y := .i x0.Rating) ty3 Z Z Z) (.G Z g5 Z (.E g5 Z (.A Z (.nil (toN (Gm [] (.r Z Z (.r Z Z (.c Z (sbb (by simp only [g1, g2, g3, g4, g5, BL])) Z .n))) (.r Z Z Z .n) Z)))))))

noncomputable def msg_prices.b0 (x0 : List api_Price) (v13 : Int) : Option (Int ⊕ (Int ⊕ Unit)) :=
 if (decide (v13 < (List.length x0 : Int))) = true then
 if (0 : Int) ≤ v13 ∧ v13 < (List.length x0 : Int) then
 (isin_Check.f ((nth x0 v13).ISIN)).bind fun t40 =>
 if (t40 != 0) = true then
 some (.inr (.inl t40))
 else if (((decide (((nth x0 v13).Price) < 1)) || (decide (((nth x0 v13).Price) > 4294967296))) = false ∧ (decide (v13 > 0)) = true → (0 : Int) ≤ (IntKind.wrap .i64 (v13 - 1)) ∧ (IntKind.wrap .i64 (v13 - 1)) < (List.length x0 : Int)) then
 if (((decide (((nth x0 v13).Price) < 1)) || (decide (((nth x0 v13).Price) > 4294967296))) || ((decide (v13 > 0)) && (Go.Op.bytesLess ((nth x0 v13).ISIN) ((nth x0 (IntKind.wrap .i64 (v13 - 1))).ISIN) || ((nth x0 v13).ISIN) == ((nth x0 (IntKind.wrap .i64 (v13 - 1))).ISIN)))) = true then
 some (.inr (.inl 31))
 else some (.inl (IntKind.wrap .i64 (v13 + 1)))
 else none
 else none
 else some (.inr (.inr ()))
noncomputable def msg_prices.r0 (x0 : List api_Price) (s : Int) : Option (Int ⊕ (Int ⊕ Unit)) := msg_prices.b0 x0 s
noncomputable def msg_prices.f (x0 : List api_Price) : Option (Int) :=
 if (((List.length x0 : Int) == 0) || (decide ((List.length x0 : Int) > 64))) = true then
 some 2
 else (loop (msg_prices.r0 x0) 0).bind fun o35 =>
 match o35 with
 | .inl r48 => some r48
 | .inr w34 =>
 some 0
theorem msg_prices.ok {x0 : List api_Price} {r : Int} (h : msg_prices.f x0 = some r) : Pm.Spec prog 57 [.imm (.row 2 (List.map api_Price.enc x0))] (.imm (.val (.int .i64 r))) [none] := by
 unfold msg_prices.f at h; refine Pm.Spec.of_body Tryz.func57 Z (by kernel_rfl) (L Z) (L Z) ?_; refine W.ghost (σ' := (mkSt [(0, some (.imm (.row 2 (List.map api_Price.enc x0))))] [] 1000)) (Gives.entry (.c Z .n) .n) (W.seq (W.pk (.A Z (.nil (W.seq (W.seq (W.fork (mkSt [(0, some (.imm (.row 2 (List.map api_Price.enc x0)))), (13, some (.b (((List.length x0 : Int) == 0) || (decide ((List.length x0 : Int) > 64)))))] [] 1000) ?_ ?_)))))))
 ·refine W.cnd Z h (fun q2 h => ?_) (fun q2 h => ?_)
  ·refine W.seq (W.pk (.A Z (.nil (W.ret ?_)))); cases h; exact lv Z Z
  ·refine W.skip (W.seq (W.seq (W.pk (.M Z (.V Z (O.lenR sl57 Z Z) (.M Z (.nil ?_))))))); obtain ⟨o35, b36, z37⟩ := bnd1 h; refine W.fork2 (out := o35) (fun (w34 : Unit) => mkSt [] [] 1000) ?_ ?_
   ·clear h; refine W.block (W.loopF (fun (s_ : Int) => mkSt [(0, some (.imm (.row 2 (List.map api_Price.enc x0)))), (14, some (.imm (.row 2 (List.map api_Price.enc x0)))), (15, some (.i (List.length x0 : Int))), (16, some (.i s_))] [] 1000) b36 (Gm [] (.e Z Z) .n Z) ?_); rintro v13 s_ hr; have h : msg_prices.b0 x0 v13 = some s_ := hr; unfold msg_prices.b0 at h; refine W.seq (W.pk (.B Z (.nil (W.seq (W.cnd Z h (fun q38 h => ?_) (fun q38 h => ?_))))))
    ·refine W.skip (W.seq (W.block (W.seq ?_))); obtain ⟨c39, h⟩ := chk h; refine W.pk (.M Z (.V Z (O.idx sl57 c39 Z Z Z) (.V Z (O.ldN ty159 Z Z Z) (.t Z Z (O.alloc z159 Z) (.A Z (.S ty159 Z [.s ((nth x0 v13).ISIN), .i ((nth x0 v13).Price)] Z (.nil (W.seq (W.seq ?_))))))))); obtain ⟨t40, b41, h⟩ := bnd1 h; refine W.pk (.F fld159_0 Z (.V Z (O.ld (y := .s ((nth x0 v13).ISIN)) ty9 Z Z Z) (.C (.i t40) [] 0 (isin_Check.ok b41) ca62 Z (cI .nil) Z ?_))); refine .A Z (.nil (W.seq (W.pk (.M Z (.B Z (.nil (W.cnd Z h (fun q42 h => ?_) (fun q42 h => ?_))))))))
     ·refine W.seq (W.pk (.M Z (.A Z (.nil (W.ret ?_))))); cases h; refine rdR fun e_ => ?_; subst e_; have h := z37; dsimp only at h; refine fkR ?_; cases h; exact lv Z Z
     ·refine W.skip (W.seq ?_); obtain ⟨c43, h⟩ := chk h; refine W.fork (mkSt [(0, some (.imm (.row 2 (List.map api_Price.enc x0)))), (14, some (.imm (.row 2 (List.map api_Price.enc x0)))), (15, some (.i (List.length x0 : Int))), (16, some (.i v13)), (49, some (.b (((decide (((nth x0 v13).Price) < 1)) || (decide (((nth x0 v13).Price) > 4294967296))) || ((decide (v13 > 0)) && (Go.Op.bytesLess ((nth x0 v13).ISIN) ((nth x0 (IntKind.wrap .i64 (v13 - 1))).ISIN) || ((nth x0 v13).ISIN) == ((nth x0 (IntKind.wrap .i64 (v13 - 1))).ISIN))))))] [] 1001) ?_ ?_
      ·refine W.cnd Z h (fun q47 h => ?_) (fun q47 h => ?_)
       ·refine W.seq (W.pk (.A Z (.nil (W.ret ?_)))); cases h; refine rdR fun e_ => ?_; subst e_; have h := z37; dsimp only at h; refine fkR ?_; cases h; exact lv Z Z
       ·refine W.skip (W.pk (.B Z (.M Z (.nil ?_)))); cases h; exact rdN (Gm [] (.e Z Z) .n Z)
      ·clear h; refine W.dk (unm 23 [0, 1, 3, 7, 15, 31, 63, 127, 255, 511, 1023, 2047, 4095, 8191, 4095, 4095, 36863, 118783, 249855, 511999, 1048575, 2097151, 4194303]) Z (by kernel_rfl) ?_; refine .F fld159_1 Z (.V Z (O.ld (y := .i ((nth x0 v13).Price)) ty3 Z Z Z) (.B Z (.M Z ?_))); rcases tf (decide (((nth x0 v13).Price) < 1)) with g44 | g44
       ·(iterate 3 refine .X Z g44 ?_); refine .T g44 Z (.M Z (.X Z Z (.X Z Z (.X Z Z ?_)))); (iterate 9 refine .x Z (unmetU Z Z Z) ?_); refine .X Z Z (.T Z Z (.nil ?_)); refine ⟨by kernel_rfl, by kernel_rfl, ?_⟩; exact toN (Gm [] (.r Z Z (.r Z Z (.r Z Z (.r Z Z (.c Z (sbb (by simp only [g44, BL])) Z .n))))) .n Z)
       ·refine .H fld159_1 Z g44 Z (.U Z g44 (O.ld (y := .i ((nth x0 v13).Price)) ty3 Z Z Z) (.G Z g44 Z (.E g44 Z (.M Z ?_)))); rcases tf (decide (((nth x0 v13).Price) > 4294967296)) with g45 | g45
        ·(iterate 3 refine .X Z g45 ?_); (iterate 9 refine .x Z (unmetU Z Z Z) ?_); refine .X Z g45 (.T g45 Z (.nil ?_)); refine ⟨by kernel_rfl, by kernel_rfl, ?_⟩; exact toN (Gm [] (.r Z Z (.r Z Z (.r Z Z (.r Z Z (.c Z (sbb (by simp only [g44, g45, BL])) Z .n))))) .n Z)
        ·refine .N Z g45 (.G Z g45 Z (.N Z g45 ?_)); rcases tf (decide (v13 > 0)) with g46 | g46
         ·refine .H fld159_0 Z g46 Z (.U Z g46 (O.ld (y := .s ((nth x0 v13).ISIN)) ty9 Z Z Z) (.N Z g46 (.N Z g46 (.G Z g46 Z (.U Z g46 (O.idx sl57 (c43 ⟨(by simp only [g44, g45, g46, BL]), (by simp only [g44, g45, g46, BL])⟩) Z Z Z) ?_))))); refine .H fld159_0 Z g46 Z (.U Z g46 (O.ld (y := .s ((nth x0 (IntKind.wrap .i64 (v13 - 1))).ISIN)) ty9 Z Z Z) (.U Z g46 (O.cmpS Z Z Z Z) (.U Z g45 (O.pickT g46 Z Z Z) (.E g45 Z (.nil ?_))))); refine ⟨by kernel_rfl, by kernel_rfl, ?_⟩; exact toN (Gm [] (.r Z Z (.r Z Z (.r Z Z (.r Z Z (.c Z (sbb (by simp only [g44, g45, g46, BL])) Z .n))))) .n Z)
         ·(iterate 9 refine .X Z g46 ?_); refine .U Z g45 (O.pickF g46 Z Z Z) (.E g45 Z (.nil ?_)); refine ⟨by kernel_rfl, by kernel_rfl, ?_⟩; exact toN (Gm [] (.r Z Z (.r Z Z (.r Z Z (.r Z Z (.c Z (sbb (by simp only [g44, g45, g46, BL])) Z .n))))) .n Z)
    ·refine W.exit ?_; cases h; refine rdX fun e_ => ?_; subst e_; (repeat with_reducible refine thru ?_); exact hit (fkN (Gm [] .n .n Z))
   ·intro w34 e_; subst e_; clear h; have h := z37; dsimp only at h; refine W.seq (W.pk (.A Z (.nil (W.ret ?_)))); cases h; exact lv Z Z
 ·clear h; refine W.pk (.M Z (.V Z (O.lenR sl57 Z Z) (.B Z (.M Z ?_)))); rcases tf ((List.length x0 : Int) == 0) with g1 | g1
  ·exact .X Z g1 (.X Z g1 (.X Z g1 (.T g1 Z (.nil (toN (Gm [] (.r Z Z (.c Z (sbb (by simp only [g1, BL])) Z .n)) .n Z))))))
  ·exact .N Z g1 (.U Z g1 (O.lenR sl57 Z Z) (.G Z g1 Z (.E g1 Z (.nil (toN (Gm [] (.r Z Z (.c Z (sbb (by simp only [g1, BL])) Z .n)) .n Z))))))

noncomputable def calendar_Good.f (x0 : Int) : Option (Bool) :=
 some ((decide (x0 ≥ 0)) && (decide (x0 ≤ 200000)))
theorem calendar_Good.ok {x0 : Int} {r : Bool} (h : calendar_Good.f x0 = some r) : Pm.Spec prog 59 [.imm (.val (.int .i64 x0))] (.imm (.val (.bool r))) [none] := by
 unfold calendar_Good.f at h; refine Pm.Spec.of_body Tryz.func59 Z (by kernel_rfl) (L Z) (L Z) ?_; refine W.ghost (σ' := (mkSt [(0, some (.i x0))] [] 1000)) (Gives.entry (.c Z .n) .n) (W.seq (W.pk (.A Z (.nil (W.seq (W.fork (mkSt [(2, some (.b ((decide (x0 ≥ 0)) && (decide (x0 ≤ 200000)))))] [] 1000) ?_ ?_))))))
 ·refine W.ret ?_; cases h; exact lv Z Z
 ·clear h; refine W.pk (.M Z (.B Z (.M Z ?_))); rcases tf (decide (x0 ≥ 0)) with g1 | g1
  ·exact .N Z g1 (.G Z g1 Z (.T g1 Z (.A Z (.nil (toN (Gm [] (.c Z (sbb (by simp only [g1, BL])) Z .n) .n Z))))))
  ·exact .X Z g1 (.X Z g1 (.E g1 Z (.A Z (.nil (toN (Gm [] (.c Z (sbb (by simp only [g1, BL])) Z .n) .n Z))))))

noncomputable def msg_arg.f (x0 : Bool) (x1 : Int) : Option (Int) :=
 if x0 = true then
 some 0
 else some x1
theorem msg_arg.ok {x0 : Bool} {x1 : Int} {r : Int} (h : msg_arg.f x0 x1 = some r) : Pm.Spec prog 58 [.imm (.val (.bool x0)), .imm (.val (.int .i64 x1))] (.imm (.val (.int .i64 r))) [none, none] := by
 unfold msg_arg.f at h; refine Pm.Spec.of_body Tryz.func58 Z (by kernel_rfl) (L Z) (L Z) ?_; refine W.ghost (σ' := (mkSt [(0, some (.b x0)), (1, some (.i x1))] [] 1000)) (Gives.entry (.c Z (.c Z .n)) .n) (W.seq (W.pk (.A Z (.nil (W.seq (W.seq (W.pk (.M Z (.nil (W.cnd Z h (fun q1 h => ?_) (fun q1 h => ?_)))))))))))
 ·refine W.seq (W.pk (.A Z (.nil (W.ret ?_)))); cases h; exact leaves (.inr Z) Z (.imm _) (cN (cN .nil)) Z Z
 ·refine W.skip (W.seq (W.pk (.M Z (.A Z (.nil (W.ret ?_)))))); cases h; exact leaves (.inr Z) Z (.imm _) (cN (cN .nil)) Z Z

noncomputable def msg_amount.f (x0 : Int) : Option (Bool) :=
 some (((x0 != 0) && (decide (x0 ≥ (-1125899906842624)))) && (decide (x0 ≤ 1125899906842624)))
theorem msg_amount.ok {x0 : Int} {r : Bool} (h : msg_amount.f x0 = some r) : Pm.Spec prog 61 [.imm (.val (.int .i64 x0))] (.imm (.val (.bool r))) [none] := by
 unfold msg_amount.f at h; refine Pm.Spec.of_body Tryz.func61 Z (by kernel_rfl) (L Z) (L Z) ?_; refine W.ghost (σ' := (mkSt [(0, some (.i x0))] [] 1000)) (Gives.entry (.c Z .n) .n) (W.seq (W.pk (.A Z (.nil (W.seq (W.fork (mkSt [(2, some (.b (((x0 != 0) && (decide (x0 ≥ (-1125899906842624)))) && (decide (x0 ≤ 1125899906842624)))))] [] 1000) ?_ ?_))))))
 ·refine W.ret ?_; cases h; exact lv Z Z
 ·clear h; refine W.pk (.M Z (.B Z (.M Z ?_))); rcases tf (x0 != 0) with g1 | g1
  ·refine .N Z g1 (.G Z g1 Z (.T g1 Z (.M Z ?_))); rcases tf (decide (x0 ≥ (-1125899906842624))) with g2 | g2
   ·exact .N Z g2 (.G Z g2 Z (.T g2 Z (.A Z (.nil (toN (Gm [] (.c Z (sbb (by simp only [g1, g2, BL])) Z .n) .n Z))))))
   ·exact .X Z g2 (.X Z g2 (.E g2 Z (.A Z (.nil (toN (Gm [] (.c Z (sbb (by simp only [g1, g2, BL])) Z .n) .n Z))))))
  ·exact .X Z g1 (.X Z g1 (.E g1 Z (.M Z (.X Z Z (.X Z Z (.E Z Z (.A Z (.nil (toN (Gm [] (.c Z (sbb (by simp only [g1, BL])) Z .n) .n Z))))))))))

noncomputable def msg_quote.f (x0 : api_Quote) : Option (Int) :=
 if (((((decide (x0.ID < 1)) || (decide (x0.ID > 1125899906842624))) || ((x0.Side != 1) && (x0.Side != 2))) || (decide (x0.Basket < 1))) || (decide (x0.Basket > 64))) = true then
 some 1
 else if ((((decide (x0.Amount < 1)) || (decide (x0.Amount > 1125899906842624))) || (decide (x0.Rate < (-1000000)))) || (decide (x0.Rate > 1000000))) = true then
 some 1
 else (calendar_Good.f x0.Start).bind fun t12 =>
 (if (!t12) = false ∧ (x0.End != 0) = true then calendar_Good.f x0.End else some default).bind fun t14 =>
 if ((!t12) || ((x0.End != 0) && (((!t14) || (decide (x0.End ≤ x0.Start))) || (decide ((IntKind.wrap .i64 (x0.End - x0.Start)) > 3660))))) = true then
 some 10
 else some 0
theorem msg_quote.ok {x0 : api_Quote} {r : Int} (h : msg_quote.f x0 = some r) : Pm.Spec prog 63 [.agg (im (api_Quote.enc x0))] (.imm (.val (.int .i64 r))) [none] := by
 unfold msg_quote.f at h; refine Pm.Spec.of_body Tryz.func63 Z (by kernel_rfl) (L Z) (L Z) ?_; refine W.ghost (σ' := (mkSt [(0, some (.agg (api_Quote.av x0)))] [] 1000)) (Gives.entry (.c Z .n) .n) (W.seq (W.pk (.t Z Z (O.box Z Z Z Z Z) (.A Z (.nil (W.seq (W.block (W.seq (W.fork (mkSt [(1, some (.ptr 1000 0)), (3, some (.b (((((decide (x0.ID < 1)) || (decide (x0.ID > 1125899906842624))) || ((x0.Side != 1) && (x0.Side != 2))) || (decide (x0.Basket < 1))) || (decide (x0.Basket > 64)))))] [(1000, some (.box (api_Quote.av x0)))] 1001) ?_ ?_)))))))))
 ·refine W.cnd Z h (fun q7 h => ?_) (fun q7 h => ?_)
  ·refine W.seq (W.pk (.A Z (.nil (W.ret ?_)))); cases h; exact lv Z Z
  ·refine W.seq (W.fork (mkSt [(1, some (.ptr 1000 0)), (32, some (.b ((((decide (x0.Amount < 1)) || (decide (x0.Amount > 1125899906842624))) || (decide (x0.Rate < (-1000000)))) || (decide (x0.Rate > 1000000)))))] [(1000, some (.box (api_Quote.av x0)))] 1001) ?_ ?_)
   ·refine W.cnd Z h (fun q11 h => ?_) (fun q11 h => ?_)
    ·refine W.seq (W.pk (.A Z (.nil (W.ret ?_)))); cases h; exact lv Z Z
    ·refine W.seq ?_; obtain ⟨t12, b13, h⟩ := bnd1 h; obtain ⟨t14, b15, h⟩ := bnd1 h; refine W.fork (mkSt [(51, some (.b ((!t12) || ((x0.End != 0) && (((!t14) || (decide (x0.End ≤ x0.Start))) || (decide ((IntKind.wrap .i64 (x0.End - x0.Start)) > 3660)))))))] [] 1001) ?_ ?_
     ·refine W.cnd Z h (fun q20 h => ?_) (fun q20 h => ?_)
      ·refine W.seq (W.pk (.A Z (.nil (W.ret ?_)))); cases h; exact lv Z Z
      ·refine W.skip (W.seq (W.pk (.A Z (.nil (W.ret ?_))))); cases h; exact lv Z Z
     ·clear h; refine W.pk (.F fld59_6 Z (.V Z (O.ld (y := .i x0.Start) ty3 Z Z Z) (.C (.b t12) [] 0 (calendar_Good.ok b13) ca59 Z (cI .nil) Z ?_))); refine .V Z (OpL.unV Z Z Z) (.M Z ?_); rcases tf t12 with g16 | g16
      ·refine .H fld59_7 Z (notT g16) Z (.U Z (notT g16) (O.ld (y := .i x0.End) ty3 Z Z Z) (.G Z (notT g16) Z (.N Z (notT g16) ?_))); rcases tf (x0.End != 0) with g17 | g17
       ·refine .H fld59_7 Z g17 Z (.U Z g17 (O.ld (y := .i x0.End) ty3 Z Z Z) (.call (.b t14) [] 0 (calendar_Good.ok ((if_pos ⟨(by simp only [g16, g17, BL]), (by simp only [g16, g17, BL])⟩).symm.trans b15)) Z (met Z Z Z g17) Z ca59 Z Z (cI .nil) Z Z Z Z Z ?_)); refine .U Z g17 (OpL.unV Z Z Z) (.N Z g17 ?_); rcases tf t14 with g18 | g18
        ·refine .H fld59_7 Z (notT g18) Z (.U Z (notT g18) (O.ld (y := .i x0.End) ty3 Z Z Z) (.H fld59_6 Z (notT g18) Z (.U Z (notT g18) (O.ld (y := .i x0.Start) ty3 Z Z Z) (.G Z (notT g18) Z (.U Z g17 (O.pickF (notT g18) Z Z Z) (.N Z g17 ?_)))))); rcases tf (decide (x0.End ≤ x0.Start)) with g19 | g19
         ·(iterate 6 refine .X Z g19 ?_); exact .U Z g17 (O.pickT g19 Z Z Z) (.U Z (notT g16) (O.pickT g17 Z Z Z) (.E (notT g16) Z (.A Z (.nil (toN (Gm [] (.c Z (sbb (by simp only [g16, g17, g18, g19, BL])) Z .n) .n Z))))))
         ·exact .H fld59_7 Z g19 Z (.U Z g19 (O.ld (y := .i x0.End) ty3 Z Z Z) (.H fld59_6 Z g19 Z (.U Z g19 (O.ld (y := .i x0.Start) ty3 Z Z Z) (.G Z g19 Z (.G Z g19 Z (.U Z g17 (O.pickF g19 Z Z Z) (.U Z (notT g16) (O.pickT g17 Z Z Z) (.E (notT g16) Z (.A Z (.nil (toN (Gm [] (.c Z (sbb (by simp only [g16, g17, g18, g19, BL])) Z .n) .n Z))))))))))))
        ·(iterate 5 refine .X Z (notF g18) ?_); refine .U Z g17 (O.pickT (notF g18) Z Z Z) (.N Z g17 ?_); (iterate 6 refine .X Z Z ?_); exact .U Z g17 (O.pickT Z Z Z Z) (.U Z (notT g16) (O.pickT g17 Z Z Z) (.E (notT g16) Z (.A Z (.nil (toN (Gm [] (.c Z (sbb (by simp only [g16, g17, g18, BL])) Z .n) .n Z))))))
       ·(iterate 5 refine .X Z g17 ?_); (iterate 5 refine .x Z (unmetU Z Z Z) ?_); refine .X Z g17 (.X Z g17 ?_); (iterate 6 refine .x Z (unmetU Z Z Z) ?_); exact .X Z g17 (.U Z (notT g16) (O.pickF g17 Z Z Z) (.E (notT g16) Z (.A Z (.nil (toN (Gm [] (.c Z (sbb (by simp only [g16, g17, BL])) Z .n) .n Z))))))
      ·(iterate 4 refine .X Z (notF g16) ?_); (iterate 19 refine .x Z (unmetU Z Z Z) ?_); exact .X Z (notF g16) (.T (notF g16) Z (.A Z (.nil (toN (Gm [] (.c Z (sbb (by simp only [g16, BL])) Z .n) .n Z)))))
   ·clear h; refine W.pk (.F fld59_4 Z (.V Z (O.ld (y := .i x0.Amount) ty3 Z Z Z) (.B Z (.M Z ?_)))); rcases tf (decide (x0.Amount < 1)) with g8 | g8
    ·refine .X Z g8 (.X Z g8 (.X Z g8 (.T g8 Z (.M Z (.X Z Z (.X Z Z (.X Z Z (.T Z Z (.M Z (.X Z Z (.X Z Z ?_))))))))))); exact .X Z Z (.T Z Z (.A Z (.nil (toN (Gm [] (.r Z Z (.c Z (sbb (by simp only [g8, BL])) Z .n)) (.r Z Z Z .n) Z)))))
    ·refine .H fld59_4 Z g8 Z (.U Z g8 (O.ld (y := .i x0.Amount) ty3 Z Z Z) (.G Z g8 Z (.E g8 Z (.M Z ?_)))); rcases tf (decide (x0.Amount > 1125899906842624)) with g9 | g9
     ·exact .X Z g9 (.X Z g9 (.X Z g9 (.T g9 Z (.M Z (.X Z Z (.X Z Z (.X Z Z (.T Z Z (.A Z (.nil (toN (Gm [] (.r Z Z (.c Z (sbb (by simp only [g8, g9, BL])) Z .n)) (.r Z Z Z .n) Z))))))))))))
     ·refine .H fld59_5 Z g9 Z (.U Z g9 (O.ld (y := .i x0.Rate) ty3 Z Z Z) (.G Z g9 Z (.E g9 Z (.M Z ?_)))); rcases tf (decide (x0.Rate < (-1000000))) with g10 | g10
      ·(iterate 3 refine .X Z g10 ?_); exact .T g10 Z (.A Z (.nil (toN (Gm [] (.r Z Z (.c Z (sbb (by simp only [g8, g9, g10, BL])) Z .n)) (.r Z Z Z .n) Z))))
      ·exact .H fld59_5 Z g10 Z (.U Z g10 (O.ld (y := .i x0.Rate) ty3 Z Z Z) (.G Z g10 Z (.E g10 Z (.A Z (.nil (toN (Gm [] (.r Z Z (.c Z (sbb (by simp only [g8, g9, g10, BL])) Z .n)) (.r Z Z Z .n) Z)))))))
 ·clear h; refine W.pk (.F fld59_0 Z (.V Z (O.ld (y := .i x0.ID) ty3 Z Z Z) (.B Z (.M Z ?_)))); rcases tf (decide (x0.ID < 1)) with g1 | g1
  ·refine .X Z g1 (.X Z g1 (.X Z g1 (.T g1 Z (.M Z ?_)))); (iterate 4 refine .X Z Z ?_); (iterate 3 refine .x Z (unmetU Z Z Z) ?_); refine .X Z Z (.T Z Z (.M Z (.X Z Z (.X Z Z (.X Z Z (.T Z Z (.M Z (.X Z Z (.X Z Z (.X Z Z (.T Z Z ?_))))))))))); exact .A Z (.nil (toN (Gm [] (.r Z Z (.c Z (sbb (by simp only [g1, BL])) Z .n)) (.r Z Z Z .n) Z)))
  ·refine .H fld59_0 Z g1 Z (.U Z g1 (O.ld (y := .i x0.ID) ty3 Z Z Z) (.G Z g1 Z (.E g1 Z (.M Z ?_)))); rcases tf (decide (x0.ID > 1125899906842624)) with g2 | g2
   ·(iterate 4 refine .X Z g2 ?_); (iterate 3 refine .x Z (unmetU Z Z Z) ?_); refine .X Z g2 (.T g2 Z (.M Z (.X Z Z (.X Z Z (.X Z Z (.T Z Z (.M Z (.X Z Z (.X Z Z (.X Z Z (.T Z Z ?_))))))))))); exact .A Z (.nil (toN (Gm [] (.r Z Z (.c Z (sbb (by simp only [g1, g2, BL])) Z .n)) (.r Z Z Z .n) Z)))
   ·refine .H fld59_2 Z g2 Z (.U Z g2 (O.ld (y := .i x0.Side) ty3 Z Z Z) (.G Z g2 Z (.N Z g2 ?_))); rcases tf (x0.Side != 1) with g3 | g3
    ·refine .H fld59_2 Z g3 Z (.U Z g3 (O.ld (y := .i x0.Side) ty3 Z Z Z) (.G Z g3 Z (.U Z g2 (O.pickT g3 Z Z Z) (.E g2 Z (.M Z ?_))))); rcases tf (x0.Side != 2) with g4 | g4
     ·exact .X Z g4 (.X Z g4 (.X Z g4 (.T g4 Z (.M Z (.X Z Z (.X Z Z (.X Z Z (.T Z Z (.A Z (.nil (toN (Gm [] (.r Z Z (.c Z (sbb (by simp only [g1, g2, g3, g4, BL])) Z .n)) (.r Z Z Z .n) Z))))))))))))
     ·refine .H fld59_3 Z g4 Z (.U Z g4 (O.ld (y := .i x0.Basket) ty3 Z Z Z) (.G Z g4 Z (.E g4 Z (.M Z ?_)))); rcases tf (decide (x0.Basket < 1)) with g5 | g5
      ·exact .X Z g5 (.X Z g5 (.X Z g5 (.T g5 Z (.A Z (.nil (toN (Gm [] (.r Z Z (.c Z (sbb (by simp only [g1, g2, g3, g4, g5, BL])) Z .n)) (.r Z Z Z .n) Z)))))))
      ·exact .H fld59_3 Z g5 Z (.U Z g5 (O.ld (y := .i x0.Basket) ty3 Z Z Z) (.G Z g5 Z (.E g5 Z (.A Z (.nil (toN (Gm [] (.r Z Z (.c Z (sbb (by simp only [g1, g2, g3, g4, g5, BL])) Z .n)) (.r Z Z Z .n) Z)))))))
    ·refine .X Z g3 (.X Z g3 (.X Z g3 (.U Z g2 (O.pickF g3 Z Z Z) (.E g2 Z (.M Z (.H fld59_3 Z Z Z (.U Z Z (O.ld (y := .i x0.Basket) ty3 Z Z Z) (.G Z Z Z (.E Z Z (.M Z ?_)))))))))); rcases tf (decide (x0.Basket < 1)) with g6 | g6
     ·exact .X Z g6 (.X Z g6 (.X Z g6 (.T g6 Z (.A Z (.nil (toN (Gm [] (.r Z Z (.c Z (sbb (by simp only [g1, g2, g3, g6, BL])) Z .n)) (.r Z Z Z .n) Z)))))))
     ·exact .H fld59_3 Z g6 Z (.U Z g6 (O.ld (y := .i x0.Basket) ty3 Z Z Z) (.G Z g6 Z (.E g6 Z (.A Z (.nil (toN (Gm [] (.r Z Z (.c Z (sbb (by simp only [g1, g2, g3, g6, BL])) Z .n)) (.r Z Z Z .n) Z)))))))

noncomputable def msg_lot.f (x0 : api_Lot) : Option (Int) :=
 if ((decide (x0.Qty < 1)) || (decide (x0.Qty > 1125899906842624))) = true then
 some 1
 else (isin_Check.f x0.ISIN).bind fun t3 =>
 some t3
theorem msg_lot.ok {x0 : api_Lot} {r : Int} (h : msg_lot.f x0 = some r) : Pm.Spec prog 107 [.agg [.imm (.val (.string (tx x0.ISIN))), .imm (.val (.int .i64 x0.Qty))]] (.imm (.val (.int .i64 r))) [none] := by
 unfold msg_lot.f at h; refine Pm.Spec.of_body Tryz.func107 Z (by kernel_rfl) (L Z) (L Z) ?_; refine W.ghost (σ' := (mkSt [(0, some (.agg [.s x0.ISIN, .i x0.Qty]))] [] 1000)) (Gives.entry (.c Z .n) .n) (W.seq (W.pk (.t Z Z (O.box Z Z Z Z Z) (.A Z (.nil (W.seq (W.seq (W.fork (mkSt [(1, some (.ptr 1000 0)), (10, some (.b ((decide (x0.Qty < 1)) || (decide (x0.Qty > 1125899906842624)))))] [(1000, some (.box [.s x0.ISIN, .i x0.Qty]))] 1001) ?_ ?_))))))))
 ·refine W.cnd Z h (fun q2 h => ?_) (fun q2 h => ?_)
  ·refine W.seq (W.pk (.A Z (.nil (W.ret ?_)))); cases h; exact lv Z Z
  ·refine W.skip (W.seq ?_); obtain ⟨t3, b4, h⟩ := bnd1 h; refine W.pk (.F fld61_0 Z (.V Z (O.ld (y := .s x0.ISIN) ty9 Z Z Z) (.C (.i t3) [] 0 (isin_Check.ok b4) ca62 Z (cI .nil) Z ?_))); refine .A Z (.nil (W.ret ?_)); cases h; exact lv Z Z
 ·clear h; refine W.pk (.F fld61_1 Z (.V Z (O.ld (y := .i x0.Qty) ty3 Z Z Z) (.B Z (.M Z ?_)))); rcases tf (decide (x0.Qty < 1)) with g1 | g1
  ·exact .X Z g1 (.X Z g1 (.X Z g1 (.T g1 Z (.nil (toN (Gm [] (.r Z Z (.c Z (sbb (by simp only [g1, BL])) Z .n)) (.r Z Z Z .n) Z))))))
  ·exact .H fld61_1 Z g1 Z (.U Z g1 (O.ld (y := .i x0.Qty) ty3 Z Z Z) (.G Z g1 Z (.E g1 Z (.nil (toN (Gm [] (.r Z Z (.c Z (sbb (by simp only [g1, BL])) Z .n)) (.r Z Z Z .n) Z))))))

noncomputable def msg_swap.b0 (x0 : msg_Swap) (v15 : Int) : Option (Int ⊕ (Int ⊕ Unit)) :=
 if (decide (v15 < (List.length x0.In : Int))) = true then
 if (0 : Int) ≤ v15 ∧ v15 < (List.length x0.In : Int) then
 (msg_lot.f (nth x0.In v15)).bind fun t32 =>
 if (t32 != 0) = true then
 some (.inr (.inl t32))
 else some (.inl (IntKind.wrap .i64 (v15 + 1)))
 else none
 else some (.inr (.inr ()))
noncomputable def msg_swap.r0 (x0 : msg_Swap) (s : Int) : Option (Int ⊕ (Int ⊕ Unit)) := msg_swap.b0 x0 s
noncomputable def msg_swap.f (x0 : msg_Swap) : Option (Int) :=
 (msg_member.f x0.Member).bind fun t1 =>
 if ((((!t1) || (decide (x0.Trade < 1))) || (decide (x0.Trade > 1125899906842624))) || (decide ((List.length x0.In : Int) > 64))) = true then
 some 1
 else (msg_lot.f x0.Out).bind fun t7 =>
 if (t7 != 0) = true then
 some t7
 else (loop (msg_swap.r0 x0) 0).bind fun o27 =>
 match o27 with
 | .inl r35 => some r35
 | .inr w26 =>
 some 0
theorem msg_swap.ok {x0 : msg_Swap} {r : Int} (h : msg_swap.f x0 = some r) : Pm.Spec prog 90 [.agg (im (msg_Swap.enc x0))] (.imm (.val (.int .i64 r))) [none] := by
 unfold msg_swap.f at h; refine Pm.Spec.of_body Tryz.func90 Z (by kernel_rfl) (L Z) (L Z) ?_; refine W.ghost (σ' := (mkSt [(0, some (.agg (msg_Swap.av x0)))] [] 1000)) (Gives.entry (.c Z .n) .n) (W.seq (W.pk (.t Z Z (O.box Z Z Z Z Z) (.A Z (.nil (W.seq (W.seq ?_))))))); obtain ⟨t1, b2, h⟩ := bnd1 h; refine W.fork (mkSt [(1, some (.ptr 1000 0)), (26, some (.b ((((!t1) || (decide (x0.Trade < 1))) || (decide (x0.Trade > 1125899906842624))) || (decide ((List.length x0.In : Int) > 64)))))] [(1000, some (.box (msg_Swap.av x0)))] 1001) ?_ ?_
 ·refine W.cnd Z h (fun q6 h => ?_) (fun q6 h => ?_)
  ·refine W.seq (W.pk (.A Z (.nil (W.ret ?_)))); cases h; exact lv Z Z
  ·refine W.skip (W.seq (W.seq ?_)); obtain ⟨t7, b8, h⟩ := bnd1 h; refine W.pk (.F fld116_2 Z (.V Z (O.ldN ty61 Z Z Z) (.C (.i t7) [] 0 (msg_lot.ok b8) ca107 Z (cC (.agg _ _ _ _ (cI (cI .nil))) .nil) Z ?_))); refine .A Z (.nil (W.seq (W.pk (.M Z (.B Z (.nil (W.cnd Z h (fun q9 h => ?_) (fun q9 h => ?_))))))))
   ·refine W.seq (W.pk (.M Z (.A Z (.nil (W.ret ?_))))); cases h; exact lv Z Z
   ·refine W.skip (W.seq (W.seq (W.pk (.F fld116_3 Z (.V Z (O.ld (y := .imm (.row 2 (List.map api_Lot.enc x0.In))) ty62 Z Z Z) (.V Z (O.lenR sl62 Z Z) (.M Z (.nil ?_)))))))); obtain ⟨o27, b28, z29⟩ := bnd1 h; refine W.fork2 (out := o27) (fun (w26 : Unit) => mkSt [] [] 1001) ?_ ?_
    ·clear h; refine W.block (W.loopF (fun (s_ : Int) => mkSt [(34, some (.imm (.row 2 (List.map api_Lot.enc x0.In)))), (35, some (.i (List.length x0.In : Int))), (36, some (.i s_))] [] 1001) b28 (Gm [] (.e Z Z) .n Z) ?_); rintro v15 s_ hr; have h : msg_swap.b0 x0 v15 = some s_ := hr; unfold msg_swap.b0 at h; refine W.seq (W.pk (.B Z (.nil (W.seq (W.cnd Z h (fun q30 h => ?_) (fun q30 h => ?_))))))
     ·refine W.skip (W.seq (W.block (W.seq ?_))); obtain ⟨c31, h⟩ := chk h; refine W.pk (.V Z (O.idx sl62 c31 Z Z Z) (.V Z (O.ldN ty61 Z Z Z) (.t Z Z (O.alloc z61 Z) (.S ty61 Z [.s ((nth x0.In v15).ISIN), .i ((nth x0.In v15).Qty)] Z (.nil (W.seq ?_)))))); obtain ⟨t32, b33, h⟩ := bnd1 h; refine W.pk (.V Z (O.ldN ty61 Z Z Z) (.C (.i t32) [] 0 (msg_lot.ok b33) ca107 Z (cC (.agg _ _ _ _ (cI (cI .nil))) .nil) Z ?_)); refine .A Z (.nil (W.seq (W.pk (.M Z (.B Z (.nil (W.cnd Z h (fun q34 h => ?_) (fun q34 h => ?_))))))))
      ·refine W.seq (W.pk (.M Z (.A Z (.nil (W.ret ?_))))); cases h; refine rdR fun e_ => ?_; subst e_; have h := z29; dsimp only at h; refine fkR ?_; cases h; exact lv Z Z
      ·refine W.skip (W.pk (.B Z (.M Z (.nil ?_)))); cases h; exact rdN (Gm [] (.e Z Z) .n Z)
     ·refine W.exit ?_; cases h; refine rdX fun e_ => ?_; subst e_; (repeat with_reducible refine thru ?_); exact hit (fkN (Gm [] .n .n Z))
    ·intro w26 e_; subst e_; clear h; have h := z29; dsimp only at h; refine W.seq (W.pk (.A Z (.nil (W.ret ?_)))); cases h; exact lv Z Z
 ·clear h; refine W.pk (.F fld116_0 Z (.V Z (O.ld (y := .i x0.Member) ty3 Z Z Z) (.C (.b t1) [] 0 (msg_member.ok b2) ca54 Z (cI .nil) Z ?_))); refine .V Z (OpL.unV Z Z Z) (.M Z ?_); rcases tf t1 with g3 | g3
  ·refine .H fld116_1 Z (notT g3) Z (.U Z (notT g3) (O.ld (y := .i x0.Trade) ty3 Z Z Z) (.G Z (notT g3) Z (.E (notT g3) Z (.M Z ?_)))); rcases tf (decide (x0.Trade < 1)) with g4 | g4
   ·refine .X Z g4 (.X Z g4 (.X Z g4 (.T g4 Z (.M Z ?_)))); (iterate 4 refine .X Z Z ?_); exact .T Z Z (.nil (toN (Gm [] (.r Z Z (.c Z (sbb (by simp only [g3, g4, BL])) Z .n)) (.r Z Z Z .n) Z)))
   ·refine .H fld116_1 Z g4 Z (.U Z g4 (O.ld (y := .i x0.Trade) ty3 Z Z Z) (.G Z g4 Z (.E g4 Z (.M Z ?_)))); rcases tf (decide (x0.Trade > 1125899906842624)) with g5 | g5
    ·(iterate 4 refine .X Z g5 ?_); exact .T g5 Z (.nil (toN (Gm [] (.r Z Z (.c Z (sbb (by simp only [g3, g4, g5, BL])) Z .n)) (.r Z Z Z .n) Z)))
    ·exact .H fld116_3 Z g5 Z (.U Z g5 (O.ld (y := .imm (.row 2 (List.map api_Lot.enc x0.In))) ty62 Z Z Z) (.U Z g5 (O.lenR sl62 Z Z) (.G Z g5 Z (.E g5 Z (.nil (toN (Gm [] (.r Z Z (.c Z (sbb (by simp only [g3, g4, g5, BL])) Z .n)) (.r Z Z Z .n) Z)))))))
  ·(iterate 3 refine .X Z (notF g3) ?_); refine .T (notF g3) Z (.M Z (.X Z Z (.X Z Z (.X Z Z (.T Z Z (.M Z ?_)))))); (iterate 4 refine .X Z Z ?_); exact .T Z Z (.nil (toN (Gm [] (.r Z Z (.c Z (sbb (by simp only [g3, BL])) Z .n)) (.r Z Z Z .n) Z)))

noncomputable def msg_check.f (x0 : msg_Message) : Option (Int) :=
 if (x0.ismsg_Cancel) = true then
 (msg_member.f ((x0.asmsg_Cancel).Member)).bind fun t2 =>
 (msg_arg.f ((t2 && (decide (((x0.asmsg_Cancel).Quote) ≥ 1))) && (decide (((x0.asmsg_Cancel).Quote) ≤ 1125899906842624))) 1).bind fun t4 =>
 some t4
 else if (x0.ismsg_Notice) = true then
 (msg_member.f ((x0.asmsg_Notice).Member)).bind fun t9 =>
 if (((!t9) || (decide (((x0.asmsg_Notice).Trade) < 1))) || (decide (((x0.asmsg_Notice).Trade) > 1125899906842624))) = true then
 some 1
 else (calendar_Good.f ((x0.asmsg_Notice).Day)).bind fun t14 =>
 (msg_arg.f t14 10).bind fun t16 =>
 some t16
 else if (x0.ismsg_Swap) = true then
 (msg_swap.f (⟨(x0.asmsg_Swap).Member, (x0.asmsg_Swap).Trade, ((x0.asmsg_Swap).Out), (x0.asmsg_Swap).In⟩ : msg_Swap)).bind fun t19 =>
 some t19
 else if (x0.ismsg_Settle) = true then
 (msg_member.f ((x0.asmsg_Settle).Member)).bind fun t22 =>
 if (!t22) = true then
 some 1
 else (calendar_Good.f ((x0.asmsg_Settle).Day)).bind fun t25 =>
 (msg_arg.f t25 10).bind fun t27 =>
 some t27
 else if (x0.ismsg_Default) = true then
 (msg_member.f ((x0.asmsg_Default).Member)).bind fun t30 =>
 (msg_arg.f t30 1).bind fun t32 =>
 some t32
 else if (x0.ismsg_Bound) = true then
 (msg_member.f ((x0.asmsg_Bound).Member)).bind fun t35 =>
 (msg_arg.f ((t35 && (decide (((x0.asmsg_Bound).Amount) ≥ 0))) && (decide (((x0.asmsg_Bound).Amount) ≤ 1125899906842624))) 1).bind fun t37 =>
 some t37
 else if (x0.ismsg_Reset) = true then
 if ((((decide (((x0.asmsg_Reset).Trade) < 1)) || (decide (((x0.asmsg_Reset).Trade) > 1125899906842624))) || (decide (((x0.asmsg_Reset).Rate) < (-1000000)))) || (decide (((x0.asmsg_Reset).Rate) > 1000000))) = true then
 some 1
 else (calendar_Good.f ((x0.asmsg_Reset).Day)).bind fun t46 =>
 (msg_arg.f t46 10).bind fun t48 =>
 some t48
 else some 17
theorem msg_check.ok {x0 : msg_Message} {r : Int} (h : msg_check.f x0 = some r) : Pm.Spec prog 64 [.imm (msg_Message.enc x0)] (.imm (.val (.int .i64 r))) [none] := by
 unfold msg_check.f at h; refine Pm.Spec.of_body Tryz.func64 Z (by kernel_rfl) (L Z) (L Z) ?_; refine W.ghost (σ' := (mkSt [(0, some (.imm (msg_Message.enc x0)))] [] 1000)) (Gives.entry (.c Z .n) .n) (W.seq (W.pk (.A Z (.nil (W.seq (W.seq (W.pk (.M Z (.nil (W.block (W.seq ?_))))))))))); refine W.pk (.V Z (O.asOk (cs := [.i ((x0.asmsg_Cancel).Member), .i ((x0.asmsg_Cancel).Quote)]) pl112 (msg_Message.atmsg_Cancel x0) Z Z Z) ?_); (iterate 2 refine .V Z (OpL.extract Z Z Z) ?_); refine .nil (W.cnd Z h (fun q1 h => ?_) (fun q1 h => ?_))
 ·refine W.seq (W.pk (.t Z Z (O.alloc z112 Z) (.S ty112 Z [.i ((x0.asmsg_Cancel).Member), .i ((x0.asmsg_Cancel).Quote)] Z (.nil (W.seq ?_))))); obtain ⟨t2, b3, h⟩ := bnd1 h; obtain ⟨t4, b5, h⟩ := bnd1 h; refine W.fork (mkSt [(2, some (.i t4))] [] 1001) ?_ ?_
  ·refine W.ret ?_; cases h; exact lv Z Z
  ·clear h; refine W.pk (.F fld112_0 Z (.V Z (O.ld (y := .i ((x0.asmsg_Cancel).Member)) ty3 Z Z Z) (.C (.b t2) [] 0 (msg_member.ok b3) ca54 Z (cI .nil) Z ?_))); refine .M Z ?_; rcases tf t2 with g6 | g6
   ·refine .H fld112_1 Z g6 Z (.U Z g6 (O.ld (y := .i ((x0.asmsg_Cancel).Quote)) ty3 Z Z Z) (.G Z g6 Z (.T g6 Z (.M Z ?_)))); rcases tf (decide (((x0.asmsg_Cancel).Quote) ≥ 1)) with g7 | g7
    ·refine .H fld112_1 Z g7 Z (.U Z g7 (O.ld (y := .i ((x0.asmsg_Cancel).Quote)) ty3 Z Z Z) (.G Z g7 Z (.T g7 Z (.C (.i t4) [] 0 (msg_arg.ok ((show msg_arg.f (decide (((x0.asmsg_Cancel).Quote) ≤ 1125899906842624)) 1 = msg_arg.f ((t2 && (decide (((x0.asmsg_Cancel).Quote) ≥ 1))) && (decide (((x0.asmsg_Cancel).Quote) ≤ 1125899906842624))) 1 from by first | (simp only [g6, g7, BL]; done) | (repeat (first | rw [g6] | rw [g7])) <;> simp only [BL]).trans b5)) ca58 Z (cI (cI .nil)) Z ?_)))); exact .A Z (.nil (toN (Gm [] (.r Z Z .n) .n Z)))
    ·refine .X Z g7 (.X Z g7 (.X Z g7 (.E g7 Z (.C (.i t4) [] 0 (msg_arg.ok ((show msg_arg.f false 1 = msg_arg.f ((t2 && (decide (((x0.asmsg_Cancel).Quote) ≥ 1))) && (decide (((x0.asmsg_Cancel).Quote) ≤ 1125899906842624))) 1 from by first | (simp only [g6, g7, BL]; done) | (repeat (first | rw [g6] | rw [g7])) <;> simp only [BL]).trans b5)) ca58 Z (cI (cI .nil)) Z ?_)))); exact .A Z (.nil (toN (Gm [] (.r Z Z .n) .n Z)))
   ·refine .X Z g6 (.X Z g6 (.X Z g6 (.E g6 Z (.M Z (.X Z Z (.X Z Z (.X Z Z (.E Z Z (.C (.i t4) [] 0 (msg_arg.ok ((show msg_arg.f false 1 = msg_arg.f ((t2 && (decide (((x0.asmsg_Cancel).Quote) ≥ 1))) && (decide (((x0.asmsg_Cancel).Quote) ≤ 1125899906842624))) 1 from by simp only [g6, BL]).trans b5)) ca58 Z (cI (cI .nil)) Z ?_))))))))); exact .A Z (.nil (toN (Gm [] (.r Z Z .n) .n Z)))
 ·refine W.seq (W.pk (.V Z (O.asOk (cs := [.i ((x0.asmsg_Notice).Member), .i ((x0.asmsg_Notice).Trade), .i ((x0.asmsg_Notice).Day)]) pl114 (msg_Message.atmsg_Notice x0) Z Z Z) ?_)); (iterate 2 refine .V Z (OpL.extract Z Z Z) ?_); refine .nil (W.cnd Z h (fun q8 h => ?_) (fun q8 h => ?_))
  ·refine W.seq (W.pk (.t Z Z (O.alloc z114 Z) (.S ty114 Z [.i ((x0.asmsg_Notice).Member), .i ((x0.asmsg_Notice).Trade), .i ((x0.asmsg_Notice).Day)] Z (.nil (W.seq (W.seq ?_)))))); obtain ⟨t9, b10, h⟩ := bnd1 h; refine W.fork (mkSt [(4, some (.ptr 1000 0)), (44, some (.b (((!t9) || (decide (((x0.asmsg_Notice).Trade) < 1))) || (decide (((x0.asmsg_Notice).Trade) > 1125899906842624)))))] [(1000, some (.box [.i ((x0.asmsg_Notice).Member), .i ((x0.asmsg_Notice).Trade), .i ((x0.asmsg_Notice).Day)]))] 1001) ?_ ?_
   ·refine W.cnd Z h (fun q13 h => ?_) (fun q13 h => ?_)
    ·refine W.seq (W.pk (.A Z (.nil (W.ret ?_)))); cases h; exact lv Z Z
    ·refine W.skip (W.seq ?_); obtain ⟨t14, b15, h⟩ := bnd1 h; obtain ⟨t16, b17, h⟩ := bnd1 h; refine W.pk (.F fld114_2 Z (.V Z (O.ld (y := .i ((x0.asmsg_Notice).Day)) ty3 Z Z Z) (.C (.b t14) [] 0 (calendar_Good.ok b15) ca59 Z (cI .nil) Z ?_))); refine .C (.i t16) [] 0 (msg_arg.ok b17) ca58 Z (cI (cI .nil)) Z ?_; refine .A Z (.nil (W.ret ?_)); cases h; exact lv Z Z
   ·clear h; refine W.pk (.F fld114_0 Z (.V Z (O.ld (y := .i ((x0.asmsg_Notice).Member)) ty3 Z Z Z) (.C (.b t9) [] 0 (msg_member.ok b10) ca54 Z (cI .nil) Z ?_))); refine .V Z (OpL.unV Z Z Z) (.M Z ?_); rcases tf t9 with g11 | g11
    ·refine .H fld114_1 Z (notT g11) Z (.U Z (notT g11) (O.ld (y := .i ((x0.asmsg_Notice).Trade)) ty3 Z Z Z) (.G Z (notT g11) Z (.E (notT g11) Z (.M Z ?_)))); rcases tf (decide (((x0.asmsg_Notice).Trade) < 1)) with g12 | g12
     ·(iterate 3 refine .X Z g12 ?_); exact .T g12 Z (.nil (toN (Gm [] (.r Z Z (.c Z (sbb (by simp only [g11, g12, BL])) Z .n)) (.r Z Z Z .n) Z)))
     ·exact .H fld114_1 Z g12 Z (.U Z g12 (O.ld (y := .i ((x0.asmsg_Notice).Trade)) ty3 Z Z Z) (.G Z g12 Z (.E g12 Z (.nil (toN (Gm [] (.r Z Z (.c Z (sbb (by simp only [g11, g12, BL])) Z .n)) (.r Z Z Z .n) Z))))))
    ·(iterate 3 refine .X Z (notF g11) ?_); exact .T (notF g11) Z (.M Z (.X Z Z (.X Z Z (.X Z Z (.T Z Z (.nil (toN (Gm [] (.r Z Z (.c Z (sbb (by simp only [g11, BL])) Z .n)) (.r Z Z Z .n) Z))))))))
  ·refine W.seq (W.pk (.V Z (O.asOk (cs := [.i ((x0.asmsg_Swap).Member), .i ((x0.asmsg_Swap).Trade), .s (((x0.asmsg_Swap).Out).ISIN), .i (((x0.asmsg_Swap).Out).Qty), .imm (.row 2 (List.map api_Lot.enc ((x0.asmsg_Swap).In)))]) pl116 (msg_Message.atmsg_Swap x0) Z Z Z) ?_)); (iterate 2 refine .V Z (OpL.extract Z Z Z) ?_); refine .nil (W.cnd Z h (fun q18 h => ?_) (fun q18 h => ?_))
   ·refine W.seq (W.pk (.t Z Z (O.alloc z116 Z) (.S ty116 Z [.i ((x0.asmsg_Swap).Member), .i ((x0.asmsg_Swap).Trade), .s (((x0.asmsg_Swap).Out).ISIN), .i (((x0.asmsg_Swap).Out).Qty), .imm (.row 2 (List.map api_Lot.enc ((x0.asmsg_Swap).In)))] Z (.nil (W.seq ?_))))); obtain ⟨t19, b20, h⟩ := bnd1 h; refine W.pk (.V Z (O.ldN ty116 Z Z Z) (.C (.i t19) [] 0 (msg_swap.ok b20) ca90 Z (cC (.agg _ _ _ _ (cI (cI (cI (cI (cI .nil)))))) .nil) Z ?_)); refine .A Z (.nil (W.ret ?_)); cases h; exact lv Z Z
   ·refine W.seq (W.pk (.V Z (O.asOk (cs := [.i ((x0.asmsg_Settle).Member), .i ((x0.asmsg_Settle).Day), .b ((x0.asmsg_Settle).Done)]) pl118 (msg_Message.atmsg_Settle x0) Z Z Z) ?_)); (iterate 2 refine .V Z (OpL.extract Z Z Z) ?_); refine .nil (W.cnd Z h (fun q21 h => ?_) (fun q21 h => ?_))
    ·refine W.seq (W.pk (.t Z Z (O.alloc z118 Z) (.S ty118 Z [.i ((x0.asmsg_Settle).Member), .i ((x0.asmsg_Settle).Day), .b ((x0.asmsg_Settle).Done)] Z (.nil (W.seq (W.seq ?_)))))); obtain ⟨t22, b23, h⟩ := bnd1 h; refine W.pk (.F fld118_0 Z (.V Z (O.ld (y := .i ((x0.asmsg_Settle).Member)) ty3 Z Z Z) (.C (.b t22) [] 0 (msg_member.ok b23) ca54 Z (cI .nil) Z ?_))); refine .V Z (OpL.unV Z Z Z) (.nil (W.cnd Z h (fun q24 h => ?_) (fun q24 h => ?_)))
     ·refine W.seq (W.pk (.A Z (.nil (W.ret ?_)))); cases h; exact lv Z Z
     ·refine W.skip (W.seq ?_); obtain ⟨t25, b26, h⟩ := bnd1 h; obtain ⟨t27, b28, h⟩ := bnd1 h; refine W.pk (.F fld118_1 Z (.V Z (O.ld (y := .i ((x0.asmsg_Settle).Day)) ty3 Z Z Z) (.C (.b t25) [] 0 (calendar_Good.ok b26) ca59 Z (cI .nil) Z ?_))); refine .C (.i t27) [] 0 (msg_arg.ok b28) ca58 Z (cI (cI .nil)) Z ?_; refine .A Z (.nil (W.ret ?_)); cases h; exact lv Z Z
    ·refine W.seq (W.pk (.V Z (O.asOk (cs := [.i ((x0.asmsg_Default).Member)]) pl120 (msg_Message.atmsg_Default x0) Z Z Z) ?_)); (iterate 2 refine .V Z (OpL.extract Z Z Z) ?_); refine .nil (W.cnd Z h (fun q29 h => ?_) (fun q29 h => ?_))
     ·refine W.seq (W.pk (.t Z Z (O.alloc z120 Z) (.S ty120 Z [.i ((x0.asmsg_Default).Member)] Z (.nil (W.seq ?_))))); obtain ⟨t30, b31, h⟩ := bnd1 h; obtain ⟨t32, b33, h⟩ := bnd1 h; refine W.pk (.F fld120_0 Z (.V Z (O.ld (y := .i ((x0.asmsg_Default).Member)) ty3 Z Z Z) (.C (.b t30) [] 0 (msg_member.ok b31) ca54 Z (cI .nil) Z ?_))); refine .C (.i t32) [] 0 (msg_arg.ok b33) ca58 Z (cI (cI .nil)) Z ?_; refine .A Z (.nil (W.ret ?_)); cases h; exact lv Z Z
     ·refine W.seq (W.pk (.V Z (O.asOk (cs := [.i ((x0.asmsg_Bound).Member), .i ((x0.asmsg_Bound).Amount)]) pl122 (msg_Message.atmsg_Bound x0) Z Z Z) ?_)); (iterate 2 refine .V Z (OpL.extract Z Z Z) ?_); refine .nil (W.cnd Z h (fun q34 h => ?_) (fun q34 h => ?_))
      ·refine W.seq (W.pk (.t Z Z (O.alloc z122 Z) (.S ty122 Z [.i ((x0.asmsg_Bound).Member), .i ((x0.asmsg_Bound).Amount)] Z (.nil (W.seq ?_))))); obtain ⟨t35, b36, h⟩ := bnd1 h; obtain ⟨t37, b38, h⟩ := bnd1 h; refine W.fork (mkSt [(2, some (.i t37))] [] 1001) ?_ ?_
       ·refine W.ret ?_; cases h; exact lv Z Z
       ·clear h; refine W.pk (.F fld122_0 Z (.V Z (O.ld (y := .i ((x0.asmsg_Bound).Member)) ty3 Z Z Z) (.C (.b t35) [] 0 (msg_member.ok b36) ca54 Z (cI .nil) Z ?_))); refine .M Z ?_; rcases tf t35 with g39 | g39
        ·refine .H fld122_1 Z g39 Z (.U Z g39 (O.ld (y := .i ((x0.asmsg_Bound).Amount)) ty3 Z Z Z) (.G Z g39 Z (.T g39 Z (.M Z ?_)))); rcases tf (decide (((x0.asmsg_Bound).Amount) ≥ 0)) with g40 | g40
         ·refine .H fld122_1 Z g40 Z (.U Z g40 (O.ld (y := .i ((x0.asmsg_Bound).Amount)) ty3 Z Z Z) (.G Z g40 Z (.T g40 Z (.C (.i t37) [] 0 (msg_arg.ok ((show msg_arg.f (decide (((x0.asmsg_Bound).Amount) ≤ 1125899906842624)) 1 = msg_arg.f ((t35 && (decide (((x0.asmsg_Bound).Amount) ≥ 0))) && (decide (((x0.asmsg_Bound).Amount) ≤ 1125899906842624))) 1 from by first | (simp only [g39, g40, BL]; done) | (repeat (first | rw [g39] | rw [g40])) <;> simp only [BL]).trans b38)) ca58 Z (cI (cI .nil)) Z ?_)))); exact .A Z (.nil (toN (Gm [] (.r Z Z .n) .n Z)))
         ·(iterate 3 refine .X Z g40 ?_); refine .E g40 Z (.C (.i t37) [] 0 (msg_arg.ok ((show msg_arg.f false 1 = msg_arg.f ((t35 && (decide (((x0.asmsg_Bound).Amount) ≥ 0))) && (decide (((x0.asmsg_Bound).Amount) ≤ 1125899906842624))) 1 from by first | (simp only [g39, g40, BL]; done) | (repeat (first | rw [g39] | rw [g40])) <;> simp only [BL]).trans b38)) ca58 Z (cI (cI .nil)) Z ?_); exact .A Z (.nil (toN (Gm [] (.r Z Z .n) .n Z)))
        ·(iterate 3 refine .X Z g39 ?_); refine .E g39 Z (.M Z (.X Z Z (.X Z Z (.X Z Z (.E Z Z (.C (.i t37) [] 0 (msg_arg.ok ((show msg_arg.f false 1 = msg_arg.f ((t35 && (decide (((x0.asmsg_Bound).Amount) ≥ 0))) && (decide (((x0.asmsg_Bound).Amount) ≤ 1125899906842624))) 1 from by simp only [g39, BL]).trans b38)) ca58 Z (cI (cI .nil)) Z ?_)))))); exact .A Z (.nil (toN (Gm [] (.r Z Z .n) .n Z)))
      ·refine W.seq (W.pk (.V Z (O.asOk (cs := [.i ((x0.asmsg_Reset).Trade), .i ((x0.asmsg_Reset).Day), .i ((x0.asmsg_Reset).Rate)]) pl124 (msg_Message.atmsg_Reset x0) Z Z Z) ?_)); (iterate 2 refine .V Z (OpL.extract Z Z Z) ?_); refine .nil (W.cnd Z h (fun q41 h => ?_) (fun q41 h => ?_))
       ·refine W.seq (W.pk (.t Z Z (O.alloc z124 Z) (.S ty124 Z [.i ((x0.asmsg_Reset).Trade), .i ((x0.asmsg_Reset).Day), .i ((x0.asmsg_Reset).Rate)] Z (.nil (W.seq (W.seq (W.fork (mkSt [(9, some (.ptr 1000 0)), (109, some (.b ((((decide (((x0.asmsg_Reset).Trade) < 1)) || (decide (((x0.asmsg_Reset).Trade) > 1125899906842624))) || (decide (((x0.asmsg_Reset).Rate) < (-1000000)))) || (decide (((x0.asmsg_Reset).Rate) > 1000000)))))] [(1000, some (.box [.i ((x0.asmsg_Reset).Trade), .i ((x0.asmsg_Reset).Day), .i ((x0.asmsg_Reset).Rate)]))] 1001) ?_ ?_)))))))
        ·refine W.cnd Z h (fun q45 h => ?_) (fun q45 h => ?_)
         ·refine W.seq (W.pk (.A Z (.nil (W.ret ?_)))); cases h; exact lv Z Z
         ·refine W.skip (W.seq ?_); obtain ⟨t46, b47, h⟩ := bnd1 h; obtain ⟨t48, b49, h⟩ := bnd1 h; refine W.pk (.F fld124_1 Z (.V Z (O.ld (y := .i ((x0.asmsg_Reset).Day)) ty3 Z Z Z) (.C (.b t46) [] 0 (calendar_Good.ok b47) ca59 Z (cI .nil) Z ?_))); refine .C (.i t48) [] 0 (msg_arg.ok b49) ca58 Z (cI (cI .nil)) Z ?_; refine .A Z (.nil (W.ret ?_)); cases h; exact lv Z Z
        ·clear h; refine W.pk (.F fld124_0 Z (.V Z (O.ld (y := .i ((x0.asmsg_Reset).Trade)) ty3 Z Z Z) (.B Z (.M Z ?_)))); rcases tf (decide (((x0.asmsg_Reset).Trade) < 1)) with g42 | g42
         ·(iterate 3 refine .X Z g42 ?_); refine .T g42 Z (.M Z (.X Z Z (.X Z Z (.X Z Z (.T Z Z (.M Z (.X Z Z (.X Z Z (.X Z Z (.T Z Z (.nil ?_))))))))))); exact toN (Gm [] (.r Z Z (.c Z (sbb (by simp only [g42, BL])) Z .n)) (.r Z Z Z .n) Z)
         ·refine .H fld124_0 Z g42 Z (.U Z g42 (O.ld (y := .i ((x0.asmsg_Reset).Trade)) ty3 Z Z Z) (.G Z g42 Z (.E g42 Z (.M Z ?_)))); rcases tf (decide (((x0.asmsg_Reset).Trade) > 1125899906842624)) with g43 | g43
          ·(iterate 3 refine .X Z g43 ?_); exact .T g43 Z (.M Z (.X Z Z (.X Z Z (.X Z Z (.T Z Z (.nil (toN (Gm [] (.r Z Z (.c Z (sbb (by simp only [g42, g43, BL])) Z .n)) (.r Z Z Z .n) Z))))))))
          ·refine .H fld124_2 Z g43 Z (.U Z g43 (O.ld (y := .i ((x0.asmsg_Reset).Rate)) ty3 Z Z Z) (.G Z g43 Z (.E g43 Z (.M Z ?_)))); rcases tf (decide (((x0.asmsg_Reset).Rate) < (-1000000))) with g44 | g44
           ·(iterate 3 refine .X Z g44 ?_); exact .T g44 Z (.nil (toN (Gm [] (.r Z Z (.c Z (sbb (by simp only [g42, g43, g44, BL])) Z .n)) (.r Z Z Z .n) Z)))
           ·exact .H fld124_2 Z g44 Z (.U Z g44 (O.ld (y := .i ((x0.asmsg_Reset).Rate)) ty3 Z Z Z) (.G Z g44 Z (.E g44 Z (.nil (toN (Gm [] (.r Z Z (.c Z (sbb (by simp only [g42, g43, g44, BL])) Z .n)) (.r Z Z Z .n) Z))))))
       ·refine W.skip (W.seq (W.pk (.A Z (.nil (W.ret ?_))))); cases h; exact lv Z Z

noncomputable def msg_Check.f (x0 : msg_Message) : Option (Int) :=
 if (x0.ismsg_Join) = true then
 (name_Check.f ((x0.asmsg_Join).Name)).bind fun t2 =>
 (msg_member.f ((x0.asmsg_Join).Member)).bind fun t4 =>
 if t4 = true then
 some t2.2
 else some 1
 else if (x0.ismsg_List) = true then
 (isin_Asset.f ((x0.asmsg_List).Asset)).bind fun t8 =>
 some t8
 else if (x0.ismsg_Rules) = true then
 (msg_Basket.f ((x0.asmsg_Rules).Basket)).bind fun t11 =>
 some t11
 else if (x0.ismsg_Prices) = true then
 (msg_prices.f ((x0.asmsg_Prices).L)).bind fun t14 =>
 some t14
 else if (x0.ismsg_Roll) = true then
 (calendar_Good.f ((x0.asmsg_Roll).Day)).bind fun t17 =>
 (msg_arg.f t17 10).bind fun t19 =>
 some t19
 else if (x0.ismsg_Cash) = true then
 (isin_Currency.f ((x0.asmsg_Cash).Currency)).bind fun t22 =>
 if (!t22) = true then
 some 11
 else (msg_member.f ((x0.asmsg_Cash).Member)).bind fun t25 =>
 (if t25 = true then msg_amount.f ((x0.asmsg_Cash).Amount) else some default).bind fun t27 =>
 (msg_arg.f (t25 && t27) 1).bind fun t29 =>
 some t29
 else if (x0.ismsg_Move) = true then
 (msg_member.f ((x0.asmsg_Move).Member)).bind fun t33 =>
 (if (!t33) = false then msg_amount.f ((x0.asmsg_Move).Qty) else some default).bind fun t35 =>
 if ((!t33) || (!t35)) = true then
 some 1
 else (isin_Check.f ((x0.asmsg_Move).ISIN)).bind fun t39 =>
 some t39
 else if (x0.ismsg_Offer) = true then
 (msg_member.f (((x0.asmsg_Offer).Quote).Member)).bind fun t42 =>
 if (!t42) = true then
 some 1
 else (msg_quote.f ((x0.asmsg_Offer).Quote)).bind fun t45 =>
 some t45
 else (msg_check.f x0).bind fun t47 =>
 some t47
theorem msg_Check.ok {x0 : msg_Message} {r : Int} (h : msg_Check.f x0 = some r) : Pm.Spec prog 33 [.imm (msg_Message.enc x0)] (.imm (.val (.int .i64 r))) [none] := by
 unfold msg_Check.f at h; refine Pm.Spec.of_body Tryz.func33 Z (by kernel_rfl) (L Z) (L Z) ?_; refine W.ghost (σ' := (mkSt [(0, some (.imm (msg_Message.enc x0)))] [] 1000)) (Gives.entry (.c Z .n) .n) (W.seq (W.pk (.A Z (.nil (W.seq (W.seq (W.pk (.M Z (.nil (W.block (W.seq ?_))))))))))); refine W.pk (.V Z (O.asOk (cs := [.i ((x0.asmsg_Join).Member), .s ((x0.asmsg_Join).Name)]) pl84 (msg_Message.atmsg_Join x0) Z Z Z) ?_); (iterate 2 refine .V Z (OpL.extract Z Z Z) ?_); refine .nil (W.cnd Z h (fun q1 h => ?_) (fun q1 h => ?_))
 ·refine W.seq (W.pk (.t Z Z (O.alloc z84 Z) (.S ty84 Z [.i ((x0.asmsg_Join).Member), .s ((x0.asmsg_Join).Name)] Z (.nil (W.seq (W.seq ?_)))))); obtain ⟨t2, b3, h⟩ := bnd1 h; refine W.pk (.F fld84_1 Z (.V Z (O.ld (y := .s ((x0.asmsg_Join).Name)) ty9 Z Z Z) (.C (.tup [.i t2.1, .i t2.2]) [] 0 (name_Check.ok b3) ca53 Z (cI .nil) Z ?_))); refine .M Z ?_; (iterate 2 refine .V Z (OpL.extract Z Z Z) ?_); refine .A Z (.A Z (.nil (W.seq ?_))); obtain ⟨t4, b5, h⟩ := bnd1 h; refine W.pk (.F fld84_0 Z (.V Z (O.ld (y := .i ((x0.asmsg_Join).Member)) ty3 Z Z Z) (.C (.b t4) [] 0 (msg_member.ok b5) ca54 Z (cI .nil) Z ?_))); refine .nil (W.cnd Z h (fun q6 h => ?_) (fun q6 h => ?_))
  ·refine W.seq (W.pk (.M Z (.A Z (.nil (W.ret ?_))))); cases h; exact lv Z Z
  ·refine W.skip (W.seq (W.pk (.A Z (.nil (W.ret ?_))))); cases h; exact lv Z Z
 ·refine W.seq (W.pk (.V Z (O.asOk (cs := [.s (((x0.asmsg_List).Asset).ISIN), .i (((x0.asmsg_List).Asset).Issuer), .i (((x0.asmsg_List).Asset).Rating), .i (((x0.asmsg_List).Asset).Maturity), .s (((x0.asmsg_List).Asset).Currency)]) pl100 (msg_Message.atmsg_List x0) Z Z Z) ?_)); (iterate 2 refine .V Z (OpL.extract Z Z Z) ?_); refine .nil (W.cnd Z h (fun q7 h => ?_) (fun q7 h => ?_))
  ·refine W.seq (W.pk (.t Z Z (O.alloc z100 Z) (.S ty100 Z [.s (((x0.asmsg_List).Asset).ISIN), .i (((x0.asmsg_List).Asset).Issuer), .i (((x0.asmsg_List).Asset).Rating), .i (((x0.asmsg_List).Asset).Maturity), .s (((x0.asmsg_List).Asset).Currency)] Z (.nil (W.seq ?_))))); obtain ⟨t8, b9, h⟩ := bnd1 h; refine W.pk (.F fld100_0 Z (.V Z (O.ldN ty52 Z Z Z) (.C (.i t8) [] 0 (isin_Asset.ok b9) ca55 Z (cC (.agg _ _ _ _ (cI (cI (cI (cI (cI .nil)))))) .nil) Z ?_))); refine .A Z (.nil (W.ret ?_)); cases h; exact lv Z Z
  ·refine W.seq (W.pk (.V Z (O.asOk (cs := [.i (((x0.asmsg_Rules).Basket).ID), .i (((x0.asmsg_Rules).Basket).Version), .s (((x0.asmsg_Rules).Basket).Currency), .i (((x0.asmsg_Rules).Basket).Rating), .i (((x0.asmsg_Rules).Basket).Least), .i (((x0.asmsg_Rules).Basket).Most), .imm (.row 3 (List.map api_Cut.enc (((x0.asmsg_Rules).Basket).Cuts))), .i (((x0.asmsg_Rules).Basket).Issuer), .i (((x0.asmsg_Rules).Basket).Asset), .imm (.row 1 (List.map (encI .i64) (((x0.asmsg_Rules).Basket).Barred)))]) pl102 (msg_Message.atmsg_Rules x0) Z Z Z) ?_)); (iterate 2 refine .V Z (OpL.extract Z Z Z) ?_); refine .nil (W.cnd Z h (fun q10 h => ?_) (fun q10 h => ?_))
   ·refine W.seq (W.pk (.t Z Z (O.alloc z102 Z) (.S ty102 Z [.i (((x0.asmsg_Rules).Basket).ID), .i (((x0.asmsg_Rules).Basket).Version), .s (((x0.asmsg_Rules).Basket).Currency), .i (((x0.asmsg_Rules).Basket).Rating), .i (((x0.asmsg_Rules).Basket).Least), .i (((x0.asmsg_Rules).Basket).Most), .imm (.row 3 (List.map api_Cut.enc (((x0.asmsg_Rules).Basket).Cuts))), .i (((x0.asmsg_Rules).Basket).Issuer), .i (((x0.asmsg_Rules).Basket).Asset), .imm (.row 1 (List.map (encI .i64) (((x0.asmsg_Rules).Basket).Barred)))] Z (.nil (W.seq ?_))))); obtain ⟨t11, b12, h⟩ := bnd1 h; refine W.pk (.F fld102_0 Z (.V Z (O.ldN ty56 Z Z Z) (.C (.i t11) [] 0 (msg_Basket.ok b12) ca56 Z (cC (.agg _ _ _ _ (cI (cI (cI (cI (cI (cI (cI (cI (cI (cI .nil))))))))))) .nil) Z ?_))); refine .A Z (.nil (W.ret ?_)); cases h; exact lv Z Z
   ·refine W.seq (W.pk (.V Z (O.asOk (cs := [.imm (.row 2 (List.map api_Price.enc ((x0.asmsg_Prices).L)))]) pl104 (msg_Message.atmsg_Prices x0) Z Z Z) ?_)); (iterate 2 refine .V Z (OpL.extract Z Z Z) ?_); refine .nil (W.cnd Z h (fun q13 h => ?_) (fun q13 h => ?_))
    ·refine W.seq (W.pk (.t Z Z (O.alloc z104 Z) (.S ty104 Z [.imm (.row 2 (List.map api_Price.enc ((x0.asmsg_Prices).L)))] Z (.nil (W.seq ?_))))); obtain ⟨t14, b15, h⟩ := bnd1 h; refine W.pk (.F fld104_0 Z (.V Z (O.ld (y := .imm (.row 2 (List.map api_Price.enc ((x0.asmsg_Prices).L)))) ty57 Z Z Z) (.C (.i t14) [] 0 (msg_prices.ok b15) ca57 Z (cI .nil) Z ?_))); refine .A Z (.nil (W.ret ?_)); cases h; exact lv Z Z
    ·refine W.seq (W.pk (.V Z (O.asOk (cs := [.i ((x0.asmsg_Roll).Day)]) pl106 (msg_Message.atmsg_Roll x0) Z Z Z) ?_)); (iterate 2 refine .V Z (OpL.extract Z Z Z) ?_); refine .nil (W.cnd Z h (fun q16 h => ?_) (fun q16 h => ?_))
     ·refine W.seq (W.pk (.t Z Z (O.alloc z106 Z) (.S ty106 Z [.i ((x0.asmsg_Roll).Day)] Z (.nil (W.seq ?_))))); obtain ⟨t17, b18, h⟩ := bnd1 h; obtain ⟨t19, b20, h⟩ := bnd1 h; refine W.pk (.F fld106_0 Z (.V Z (O.ld (y := .i ((x0.asmsg_Roll).Day)) ty3 Z Z Z) (.C (.b t17) [] 0 (calendar_Good.ok b18) ca59 Z (cI .nil) Z ?_))); refine .C (.i t19) [] 0 (msg_arg.ok b20) ca58 Z (cI (cI .nil)) Z ?_; refine .A Z (.nil (W.ret ?_)); cases h; exact lv Z Z
     ·refine W.seq (W.pk (.V Z (O.asOk (cs := [.i ((x0.asmsg_Cash).Member), .s ((x0.asmsg_Cash).Currency), .i ((x0.asmsg_Cash).Amount)]) pl108 (msg_Message.atmsg_Cash x0) Z Z Z) ?_)); (iterate 2 refine .V Z (OpL.extract Z Z Z) ?_); refine .nil (W.cnd Z h (fun q21 h => ?_) (fun q21 h => ?_))
      ·refine W.seq (W.pk (.t Z Z (O.alloc z108 Z) (.S ty108 Z [.i ((x0.asmsg_Cash).Member), .s ((x0.asmsg_Cash).Currency), .i ((x0.asmsg_Cash).Amount)] Z (.nil (W.seq (W.seq ?_)))))); obtain ⟨t22, b23, h⟩ := bnd1 h; refine W.pk (.F fld108_1 Z (.V Z (O.ld (y := .s ((x0.asmsg_Cash).Currency)) ty9 Z Z Z) (.C (.b t22) [] 0 (isin_Currency.ok b23) ca60 Z (cI .nil) Z ?_))); refine .V Z (OpL.unV Z Z Z) (.nil (W.cnd Z h (fun q24 h => ?_) (fun q24 h => ?_)))
       ·refine W.seq (W.pk (.A Z (.nil (W.ret ?_)))); cases h; exact lv Z Z
       ·refine W.skip (W.seq ?_); obtain ⟨t25, b26, h⟩ := bnd1 h; obtain ⟨t27, b28, h⟩ := bnd1 h; obtain ⟨t29, b30, h⟩ := bnd1 h; refine W.fork (mkSt [(2, some (.i t29))] [] 1001) ?_ ?_
        ·refine W.ret ?_; cases h; exact lv Z Z
        ·clear h; refine W.pk (.F fld108_0 Z (.V Z (O.ld (y := .i ((x0.asmsg_Cash).Member)) ty3 Z Z Z) (.C (.b t25) [] 0 (msg_member.ok b26) ca54 Z (cI .nil) Z ?_))); refine .M Z ?_; rcases tf t25 with g31 | g31
         ·refine .H fld108_2 Z g31 Z (.U Z g31 (O.ld (y := .i ((x0.asmsg_Cash).Amount)) ty3 Z Z Z) (.call (.b t27) [] 0 (msg_amount.ok ((if_pos (by simp only [g31, BL])).symm.trans b28)) Z (met Z Z Z g31) Z ca61 Z Z (cI .nil) Z Z Z Z Z ?_)); refine .T g31 Z (.C (.i t29) [] 0 (msg_arg.ok ((show msg_arg.f t27 1 = msg_arg.f (t25 && t27) 1 from by simp only [g31, BL]).trans b30)) ca58 Z (cI (cI .nil)) Z ?_); exact .A Z (.nil (toN (Gm [] (.r Z Z .n) .n Z)))
         ·(iterate 3 refine .X Z g31 ?_); refine .E g31 Z (.C (.i t29) [] 0 (msg_arg.ok ((show msg_arg.f false 1 = msg_arg.f (t25 && t27) 1 from by simp only [g31, BL]).trans b30)) ca58 Z (cI (cI .nil)) Z ?_); exact .A Z (.nil (toN (Gm [] (.r Z Z .n) .n Z)))
      ·refine W.seq (W.pk (.V Z (O.asOk (cs := [.i ((x0.asmsg_Move).Member), .s ((x0.asmsg_Move).ISIN), .i ((x0.asmsg_Move).Qty)]) pl110 (msg_Message.atmsg_Move x0) Z Z Z) ?_)); (iterate 2 refine .V Z (OpL.extract Z Z Z) ?_); refine .nil (W.cnd Z h (fun q32 h => ?_) (fun q32 h => ?_))
       ·refine W.seq (W.pk (.t Z Z (O.alloc z110 Z) (.S ty110 Z [.i ((x0.asmsg_Move).Member), .s ((x0.asmsg_Move).ISIN), .i ((x0.asmsg_Move).Qty)] Z (.nil (W.seq (W.seq ?_)))))); obtain ⟨t33, b34, h⟩ := bnd1 h; obtain ⟨t35, b36, h⟩ := bnd1 h; refine W.fork (mkSt [(11, some (.ptr 1000 0)), (80, some (.b ((!t33) || (!t35))))] [(1000, some (.box [.i ((x0.asmsg_Move).Member), .s ((x0.asmsg_Move).ISIN), .i ((x0.asmsg_Move).Qty)]))] 1001) ?_ ?_
        ·refine W.cnd Z h (fun q38 h => ?_) (fun q38 h => ?_)
         ·refine W.seq (W.pk (.A Z (.nil (W.ret ?_)))); cases h; exact lv Z Z
         ·refine W.skip (W.seq ?_); obtain ⟨t39, b40, h⟩ := bnd1 h; refine W.pk (.F fld110_1 Z (.V Z (O.ld (y := .s ((x0.asmsg_Move).ISIN)) ty9 Z Z Z) (.C (.i t39) [] 0 (isin_Check.ok b40) ca62 Z (cI .nil) Z ?_))); refine .A Z (.nil (W.ret ?_)); cases h; exact lv Z Z
        ·clear h; refine W.pk (.F fld110_0 Z (.V Z (O.ld (y := .i ((x0.asmsg_Move).Member)) ty3 Z Z Z) (.C (.b t33) [] 0 (msg_member.ok b34) ca54 Z (cI .nil) Z ?_))); refine .V Z (OpL.unV Z Z Z) (.M Z ?_); rcases tf t33 with g37 | g37
         ·refine .H fld110_2 Z (notT g37) Z (.U Z (notT g37) (O.ld (y := .i ((x0.asmsg_Move).Qty)) ty3 Z Z Z) (.call (.b t35) [] 0 (msg_amount.ok ((if_pos (by simp only [g37, BL])).symm.trans b36)) Z (met Z Z Z (notT g37)) Z ca61 Z Z (cI .nil) Z Z Z Z Z ?_)); exact .U Z (notT g37) (OpL.unV Z Z Z) (.E (notT g37) Z (.nil (toN (Gm [] (.r Z Z (.c Z (sbb (by simp only [g37, BL])) Z .n)) (.r Z Z Z .n) Z))))
         ·(iterate 4 refine .X Z (notF g37) ?_); exact .T (notF g37) Z (.nil (toN (Gm [] (.r Z Z (.c Z (sbb (by simp only [g37, BL])) Z .n)) (.r Z Z Z .n) Z)))
       ·refine W.seq (W.pk (.V Z (O.asOk (cs := [.i (((x0.asmsg_Offer).Quote).ID), .i (((x0.asmsg_Offer).Quote).Member), .i (((x0.asmsg_Offer).Quote).Side), .i (((x0.asmsg_Offer).Quote).Basket), .i (((x0.asmsg_Offer).Quote).Amount), .i (((x0.asmsg_Offer).Quote).Rate), .i (((x0.asmsg_Offer).Quote).Start), .i (((x0.asmsg_Offer).Quote).End)]) pl97 (msg_Message.atmsg_Offer x0) Z Z Z) ?_)); (iterate 2 refine .V Z (OpL.extract Z Z Z) ?_); refine .nil (W.cnd Z h (fun q41 h => ?_) (fun q41 h => ?_))
        ·refine W.seq (W.pk (.t Z Z (O.alloc z97 Z) (.S ty97 Z [.i (((x0.asmsg_Offer).Quote).ID), .i (((x0.asmsg_Offer).Quote).Member), .i (((x0.asmsg_Offer).Quote).Side), .i (((x0.asmsg_Offer).Quote).Basket), .i (((x0.asmsg_Offer).Quote).Amount), .i (((x0.asmsg_Offer).Quote).Rate), .i (((x0.asmsg_Offer).Quote).Start), .i (((x0.asmsg_Offer).Quote).End)] Z (.nil (W.seq (W.seq ?_)))))); obtain ⟨t42, b43, h⟩ := bnd1 h; refine W.pk (.F fld97_0 Z (.F fld59_1 Z (.V Z (O.ld (y := .i (((x0.asmsg_Offer).Quote).Member)) ty3 Z Z Z) (.C (.b t42) [] 0 (msg_member.ok b43) ca54 Z (cI .nil) Z ?_)))); refine .V Z (OpL.unV Z Z Z) (.nil (W.cnd Z h (fun q44 h => ?_) (fun q44 h => ?_)))
         ·refine W.seq (W.pk (.A Z (.nil (W.ret ?_)))); cases h; exact lv Z Z
         ·refine W.skip (W.seq ?_); obtain ⟨t45, b46, h⟩ := bnd1 h; refine W.pk (.F fld97_0 Z (.V Z (O.ldN ty59 Z Z Z) (.C (.i t45) [] 0 (msg_quote.ok b46) ca63 Z (cC (.agg _ _ _ _ (cI (cI (cI (cI (cI (cI (cI (cI .nil))))))))) .nil) Z ?_))); refine .A Z (.nil (W.ret ?_)); cases h; exact lv Z Z
        ·refine W.skip (W.seq ?_); obtain ⟨t47, b48, h⟩ := bnd1 h; refine W.pk (.M Z (.C (.i t47) [] 0 (msg_check.ok b48) ca64 Z (cI .nil) Z ?_)); refine .A Z (.nil (W.ret ?_)); cases h; exact lv Z Z

noncomputable def cmp_isNaN_int.f (x0 : Int) : Option (Bool) :=
 some (x0 != x0)
theorem cmp_isNaN_int.ok {x0 : Int} {r : Bool} (h : cmp_isNaN_int.f x0 = some r) : Pm.Spec prog 91 [.imm (.val (.int .i64 x0))] (.imm (.val (.bool r))) [none] := by
 unfold cmp_isNaN_int.f at h; refine Pm.Spec.of_body Tryz.func91 Z (by kernel_rfl) (L Z) (L Z) ?_; refine W.ghost (σ' := (mkSt [(0, some (.i x0))] [] 1000)) (Gives.entry (.c Z .n) .n) (W.seq (W.pk (.A Z (.nil (W.seq (W.pk (.M Z (.M Z (.B Z (.A Z (.nil ?_))))))))))); refine W.ret ?_; cases h; exact lv Z Z

noncomputable def cmp_Compare_int.f (x0 : Int) (x1 : Int) : Option (Int) :=
 (cmp_isNaN_int.f x0).bind fun t1 =>
 (cmp_isNaN_int.f x1).bind fun t3 =>
 if t1 = true then
 if t3 = true then
 some 0
 else some (-1)
 else if t3 = true then
 some 1
 else if (decide (x0 < x1)) = true then
 some (-1)
 else if (decide (x0 > x1)) = true then
 some 1
 else some 0
theorem cmp_Compare_int.ok {x0 : Int} {x1 : Int} {r : Int} (h : cmp_Compare_int.f x0 x1 = some r) : Pm.Spec prog 67 [.imm (.val (.int .i64 x0)), .imm (.val (.int .i64 x1))] (.imm (.val (.int .i64 r))) [none, none] := by
 unfold cmp_Compare_int.f at h; refine Pm.Spec.of_body Tryz.func67 Z (by kernel_rfl) (L Z) (L Z) ?_; refine W.ghost (σ' := (mkSt [(0, some (.i x0)), (1, some (.i x1))] [] 1000)) (Gives.entry (.c Z (.c Z .n)) .n) (W.seq (W.pk (.A Z (.nil (W.seq ?_))))); obtain ⟨t1, b2, h⟩ := bnd1 h; refine W.pk (.M Z (.C (.b t1) [] 0 (cmp_isNaN_int.ok b2) ca91 Z (cI .nil) Z ?_)); refine .A Z (.nil (W.seq ?_)); obtain ⟨t3, b4, h⟩ := bnd1 h; refine W.pk (.M Z (.C (.b t3) [] 0 (cmp_isNaN_int.ok b4) ca91 Z (cI .nil) Z ?_)); refine .A Z (.nil (W.seq (W.seq (W.pk (.M Z (.nil (W.cnd Z h (fun q5 h => ?_) (fun q5 h => ?_))))))))
 ·refine W.seq (W.seq (W.pk (.M Z (.nil (W.cnd Z h (fun q6 h => ?_) (fun q6 h => ?_))))))
  ·refine W.seq (W.pk (.A Z (.nil (W.ret ?_)))); cases h; exact leaves (.inr Z) Z (.imm _) (cN (cN .nil)) Z Z
  ·refine W.skip (W.seq (W.pk (.A Z (.nil (W.ret ?_))))); cases h; exact leaves (.inr Z) Z (.imm _) (cN (cN .nil)) Z Z
 ·refine W.skip (W.seq (W.seq (W.pk (.M Z (.nil (W.cnd Z h (fun q7 h => ?_) (fun q7 h => ?_)))))))
  ·refine W.seq (W.pk (.A Z (.nil (W.ret ?_)))); cases h; exact leaves (.inr Z) Z (.imm _) (cN (cN .nil)) Z Z
  ·refine W.skip (W.seq (W.seq (W.pk (.M Z (.M Z (.B Z (.nil (W.cnd Z h (fun q8 h => ?_) (fun q8 h => ?_)))))))))
   ·refine W.seq (W.pk (.A Z (.nil (W.ret ?_)))); cases h; exact leaves (.inr Z) Z (.imm _) (cN (cN .nil)) Z Z
   ·refine W.skip (W.seq (W.seq (W.pk (.M Z (.M Z (.B Z (.nil (W.cnd Z h (fun q9 h => ?_) (fun q9 h => ?_)))))))))
    ·refine W.seq (W.pk (.A Z (.nil (W.ret ?_)))); cases h; exact leaves (.inr Z) Z (.imm _) (cN (cN .nil)) Z Z
    ·refine W.skip (W.seq (W.pk (.A Z (.nil (W.ret ?_))))); cases h; exact leaves (.inr Z) Z (.imm _) (cN (cN .nil)) Z Z

noncomputable def auth_List_place_1_v2.f (x0 : auth_Member) (x1 : Int) : Option (Int) :=
 (cmp_Compare_int.f x0.ID x1).bind fun t1 =>
 some t1
theorem auth_List_place_1_v2.ok {x0 : auth_Member} {x1 : Int} {r : Int} (h : auth_List_place_1_v2.f x0 x1 = some r) : Pm.Spec prog 66 [.agg (im (auth_Member.enc x0)), .imm (.val (.int .i64 x1))] (.imm (.val (.int .i64 r))) [none, none] := by
 unfold auth_List_place_1_v2.f at h; refine Pm.Spec.of_body Tryz.func66 Z (by kernel_rfl) (L Z) (L Z) ?_; refine W.ghost (σ' := (mkSt [(0, some (.agg (auth_Member.av x0))), (1, some (.i x1))] [] 1000)) (Gives.entry (.c Z (.c Z .n)) .n) (W.seq (W.pk (.t Z Z (O.box Z Z Z Z Z) (.A Z (.nil (W.seq ?_)))))); obtain ⟨t1, b2, h⟩ := bnd1 h; refine W.pk (.F fld32_0 Z (.V Z (O.ld (y := .i x0.ID) ty3 Z Z Z) (.M Z (.C (.i t1) [] 0 (cmp_Compare_int.ok b2) ca67 Z (cI (cI .nil)) Z ?_)))); refine .A Z (.nil (W.ret ?_)); cases h; exact leaves (.inr Z) Z (.imm _) (cN (cN .nil)) Z Z

noncomputable def slices_BinarySearchFunc_int__auth_List_place_1.b0 (x0 : List auth_Member) (x1 : Int) (v6 : Int) (v7 : Int) : Option ((Int × Int) ⊕ Int) :=
 if (decide (v6 < v7)) = true then
 if (0 : Int) ≤ (IntKind.wrap .i64 (shrI .u64 (IntKind.wrap .u64 (IntKind.wrap .i64 (v6 + v7))) 1)) ∧ (IntKind.wrap .i64 (shrI .u64 (IntKind.wrap .u64 (IntKind.wrap .i64 (v6 + v7))) 1)) < (List.length x0 : Int) then
 (auth_List_place_1_v2.f (nth x0 (IntKind.wrap .i64 (shrI .u64 (IntKind.wrap .u64 (IntKind.wrap .i64 (v6 + v7))) 1))) x1).bind fun t24 =>
 if (decide (t24 < 0)) = true then
 some (.inl ((IntKind.wrap .i64 ((IntKind.wrap .i64 (shrI .u64 (IntKind.wrap .u64 (IntKind.wrap .i64 (v6 + v7))) 1)) + 1)), v7))
 else some (.inl (v6, (IntKind.wrap .i64 (shrI .u64 (IntKind.wrap .u64 (IntKind.wrap .i64 (v6 + v7))) 1))))
 else none
 else some (.inr v6)
noncomputable def slices_BinarySearchFunc_int__auth_List_place_1.r0 (x0 : List auth_Member) (x1 : Int) (s : Int × Int) : Option ((Int × Int) ⊕ Int) := slices_BinarySearchFunc_int__auth_List_place_1.b0 x0 x1 s.1 s.2
noncomputable def slices_BinarySearchFunc_int__auth_List_place_1.f (x0 : List auth_Member) (x1 : Int) : Option (Int × Bool) :=
 (loop (slices_BinarySearchFunc_int__auth_List_place_1.r0 x0 x1) (0, (List.length x0 : Int))).bind fun o19 =>
 if ((decide (o19 < (List.length x0 : Int))) = true → (0 : Int) ≤ o19 ∧ o19 < (List.length x0 : Int)) then
 (if (decide (o19 < (List.length x0 : Int))) = true then auth_List_place_1_v2.f (nth x0 o19) x1 else some default).bind fun t28 =>
 some (o19, ((decide (o19 < (List.length x0 : Int))) && (t28 == 0)))
 else none
theorem slices_BinarySearchFunc_int__auth_List_place_1.ok {x0 : List auth_Member} {x1 : Int} {r : Int × Bool} (h : slices_BinarySearchFunc_int__auth_List_place_1.f x0 x1 = some r) : Pm.Spec prog 65 [.xown 32 5 (List.map auth_Member.enc x0), .imm (.val (.int .i64 x1)), .fn 66 []] (.tup [.imm (.val (.int .i64 r.1)), .imm (.val (.bool r.2))]) [some (.xown 32 5 (List.map auth_Member.enc x0)), none, none] := by
 unfold slices_BinarySearchFunc_int__auth_List_place_1.f at h; refine Pm.Spec.of_body Tryz.func65 Z (by kernel_rfl) (L Z) (L Z) ?_; refine W.ghost (σ' := (mkSt [(0, some (.own 0)), (1, some (.i x1)), (2, some (.fn 66 []))] [(0, some (.rows 32 5 (List.map auth_Member.enc x0) false))] 1000)) (Gives.entry (.c Z (.c Z (.c Z .n))) (.c Z .n)) (W.seq (W.pk (.A Z (.A Z (.nil (W.seq (W.pk (.M Z (.V Z (O.lenO sl29 Z Z Z) (.A Z (.nil ?_))))))))))); refine W.seq (W.pk (.M Z (.A Z (.A Z (.nil (W.seq ?_)))))); obtain ⟨o19, b20, h⟩ := bnd1 h; refine W.fork (mkSt [(0, some (.own 0)), (1, some (.i x1)), (2, some (.fn 66 [])), (8, some (.i (List.length x0 : Int))), (9, some (.i o19))] [(0, some (.rows 32 5 (List.map auth_Member.enc x0) false))] 1000) ?_ ?_
 ·refine W.seq ?_; obtain ⟨c27, h⟩ := chk h; obtain ⟨t28, b29, h⟩ := bnd1 h; refine W.fork (mkSt [(6, some (.i o19)), (7, some (.b ((decide (o19 < (List.length x0 : Int))) && (t28 == 0))))] [(0, some (.rows 32 5 (List.map auth_Member.enc x0) false))] 1000) ?_ ?_
  ·refine W.ret ?_; cases h; exact leaves (.inr Z) Z (.tup _ _ _ _ (cI (cI .nil))) (cS (.own _ _ _ _ Z) (cN (cN .nil))) Z Z
  ·clear h; refine W.pk (.M Z (.M Z (.M Z (.B Z (.M Z ?_))))); rcases tf (decide (o19 < (List.length x0 : Int))) with g30 | g30
   ·(iterate 3 refine .N Z g30 ?_); refine .U Z g30 (O.idxO sl29 (c27 (by simp only [g30, BL])) Z Z Z Z) ?_; refine .U Z g30 (O.ldEN ty32 (c27 (by simp only [g30, BL])) Z Z Z Z Z) ?_; refine .N Z g30 (.call (.i t28) [] 0 (auth_List_place_1_v2.ok ((if_pos (by simp only [g30, BL])).symm.trans b29)) Z (met Z Z Z g30) Z ca66 Z Z (cC (.agg _ _ _ _ (cI (cI (cI (cI (cI .nil)))))) (cI .nil)) Z Z Z Z Z ?_); exact .G Z g30 Z (.T g30 Z (.A Z (.A Z (.nil (toN (Gm [] (.r Z Z (.c Z (sbb (by simp only [g30, BL])) Z .n)) (.r Z Z Z .n) Z))))))
   ·(iterate 8 refine .X Z g30 ?_); exact .E g30 Z (.A Z (.A Z (.nil (toN (Gm [] (.r Z Z (.c Z (sbb (by simp only [g30, BL])) Z .n)) (.r Z Z Z .n) Z)))))
 ·clear h; refine W.block (W.loopF (fun (s_ : Int × Int) => mkSt [(0, some (.own 0)), (1, some (.i x1)), (2, some (.fn 66 [])), (8, some (.i (List.length x0 : Int))), (9, some (.i s_.1)), (10, some (.i s_.2))] [(0, some (.rows 32 5 (List.map auth_Member.enc x0) false))] 1000) b20 (Gm [] (.e Z Z) (.r Z Z Z .n) Z) ?_); rintro ⟨v6, v7⟩ s_ hr; have h : slices_BinarySearchFunc_int__auth_List_place_1.b0 x0 x1 v6 v7 = some s_ := hr; unfold slices_BinarySearchFunc_int__auth_List_place_1.b0 at h; refine W.seq (W.seq (W.pk (.M Z (.M Z (.B Z (.nil (W.cnd Z h (fun q22 h => ?_) (fun q22 h => ?_))))))))
  ·refine W.skip (W.block (W.seq (W.pk (.M Z (.M Z (.B Z (.V Z (O.conv h3 u164 Z Z) (.V Z (O.shr (by decide) Z Z Z) ?_)))))))); refine .V Z (O.conv h164 u3 Z Z) (.A Z (.nil (W.seq ?_))); obtain ⟨c23, h⟩ := chk h; obtain ⟨t24, b25, h⟩ := bnd1 h; refine W.pk (.M Z (.M Z (.M Z (.V Z (O.idxO sl29 c23 Z Z Z Z) (.V Z (O.ldEN ty32 c23 Z Z Z Z Z) (.M Z (.C (.i t24) [] 0 (auth_List_place_1_v2.ok b25) ca66 Z (cC (.agg _ _ _ _ (cI (cI (cI (cI (cI .nil)))))) (cI .nil)) Z ?_))))))); refine .B Z (.nil (W.cnd Z h (fun q26 h => ?_) (fun q26 h => ?_)))
   ·refine W.pk (.M Z (.B Z (.A Z (.nil ?_)))); cases h; exact rdN (Gm [] (.e Z Z) (.r Z Z Z .n) Z)
   ·refine W.pk (.M Z (.A Z (.nil ?_))); cases h; exact rdN (Gm [] (.e Z Z) (.r Z Z Z .n) Z)
  ·refine W.exit ?_; cases h; refine rdX fun e_ => ?_; subst e_; (repeat with_reducible refine thru ?_); exact hit (toN (Gm [] (.e Z Z) (.r Z Z Z .n) Z))

noncomputable def auth_List_place.f (x0 : auth_List) (x1 : Int) : Option (Int × Bool) :=
 (slices_BinarySearchFunc_int__auth_List_place_1.f x0.l x1).bind fun t1 =>
 some (t1.1, t1.2)
theorem auth_List_place.ok {x0 : auth_List} {x1 : Int} {r : Int × Bool} (h : auth_List_place.f x0 x1 = some r) : Pm.Spec prog 34 [.xbox [.xown 32 5 (List.map auth_Member.enc x0.l), .imm (.val (.bool x0.made))], .imm (.val (.int .i64 x1))] (.tup [.imm (.val (.int .i64 r.1)), .imm (.val (.bool r.2))]) [some (.xbox [.xown 32 5 (List.map auth_Member.enc x0.l), .imm (.val (.bool x0.made))]), none] := by
 unfold auth_List_place.f at h; refine Pm.Spec.of_body Tryz.func34 Z (by kernel_rfl) (L Z) (L Z) ?_; refine W.ghost (σ' := (mkSt [(0, some (.ptr 0 0)), (1, some (.i x1))] [(0, some (.box [.own 1, .b x0.made])), (1, some (.rows 32 5 (List.map auth_Member.enc x0.l) false))] 1000)) (Gives.entry (.c Z (.c Z .n)) (.c Z (.c Z .n))) (W.ghost (σ' := (mkSt [(0, some (.ptr 0 0)), (1, some (.i x1))] [(0, some (.box [.own 1000, .b x0.made])), (1000, some (.rows 32 5 (List.map auth_Member.enc x0.l) false))] 1001)) (Gm [(1000, 1)] (.e Z Z) (.e Z Z) Z) (W.seq (W.pk (.A Z (.A Z (.nil (W.seq ?_))))))); obtain ⟨t1, b2, h⟩ := bnd1 h; refine W.pk (.M Z (.V Z (OpL.nilP Z Z Z) (.F fld79_0 Z (.V Z (O.ld (y := .own 1000) ty29 Z Z Z) (.M Z (.C (.tup [.i t1.1, .b t1.2]) [(1000, some (.rows 32 5 (List.map auth_Member.enc x0.l) false)), (1000, none)] 0 (slices_BinarySearchFunc_int__auth_List_place_1.ok b2) ca65 Z (cC (.own _ _ _ _ Z) (cI (cC (.fn _ _ _ _ _ .nil) .nil))) Z ?_)))))); (iterate 2 refine .V Z (OpL.extract Z Z Z) ?_); refine .A Z (.A Z (.nil (W.ret ?_))); cases h; exact leaves (.inr Z) Z (.tup _ _ _ _ (cI (cI .nil))) (cS (.ptr _ _ _ _ _ Z (cC (.own _ _ _ _ Z) (cI .nil))) (cN .nil)) Z Z

noncomputable def name_low.f (x0 : Int) : Option (Int) :=
 ((
 if ((decide (x0 ≥ 65)) && (decide (x0 ≤ 90))) = true then
 some ((decide (x0 ≥ 65)) && (decide (x0 ≤ 90)))
 else some (((decide (x0 ≥ 192)) && (decide (x0 ≤ 222))) && (x0 != 215)) : Option (Bool))).bind fun o6 =>
 if o6 = true then
 some (IntKind.wrap .i32 (x0 + 32))
 else if (x0 == 376) = true then
 some 255
 else ((
 if ((decide (x0 ≥ 256)) && (decide (x0 ≤ 311))) = true then
 some ((decide (x0 ≥ 256)) && (decide (x0 ≤ 311)))
 else some ((decide (x0 ≥ 330)) && (decide (x0 ≤ 375))) : Option (Bool))).bind fun o17 =>
 if o17 = true then
 some (bits .or .i32 x0 1)
 else ((
 if ((decide (x0 ≥ 313)) && (decide (x0 ≤ 328))) = true then
 some ((decide (x0 ≥ 313)) && (decide (x0 ≤ 328)))
 else some ((decide (x0 ≥ 377)) && (decide (x0 ≤ 382))) : Option (Bool))).bind fun o26 =>
 if o26 = true then
 some (IntKind.wrap .i32 (x0 + (bits .and .i32 x0 1)))
 else some x0
theorem name_low.ok {x0 : Int} {r : Int} (h : name_low.f x0 = some r) : Pm.Spec prog 93 [.imm (.val (.int .i32 x0))] (.imm (.val (.int .i32 r))) [none] := by
 unfold name_low.f at h; refine Pm.Spec.of_body Tryz.func93 Z (by kernel_rfl) (L Z) (L Z) ?_; refine W.ghost (σ' := (mkSt [(0, some (.imm (.val (.int .i32 x0))))] [] 1000)) (Gives.entry (.c Z .n) .n) (W.seq (W.pk (.A Z (.nil (W.seq (W.block (W.seq (W.seq (W.fork (mkSt [(0, some (.imm (.val (.int .i32 x0)))), (3, some (.b ((decide (x0 ≥ 65)) && (decide (x0 ≤ 90)))))] [] 1000) ?_ ?_)))))))))
 ·obtain ⟨o6, b7, h⟩ := bnd1 h; refine W.fork (mkSt [(0, some (.imm (.val (.int .i32 x0)))), (3, some (.b o6))] [] 1000) ?_ ?_
  ·refine W.cnd Z h (fun q11 h => ?_) (fun q11 h => ?_)
   ·refine W.seq (W.pk (.M Z (.B Z (.A Z (.nil (W.ret ?_)))))); cases h; exact lv Z Z
   ·refine W.seq (W.pk (.M Z (.B Z (.A Z (.nil (W.cnd Z h (fun q12 h => ?_) (fun q12 h => ?_)))))))
    ·refine W.seq (W.pk (.A Z (.nil (W.ret ?_)))); cases h; exact lv Z Z
    ·refine W.seq (W.seq (W.fork (mkSt [(0, some (.imm (.val (.int .i32 x0)))), (25, some (.b ((decide (x0 ≥ 256)) && (decide (x0 ≤ 311)))))] [] 1000) ?_ ?_))
     ·obtain ⟨o17, b18, h⟩ := bnd1 h; refine W.fork (mkSt [(0, some (.imm (.val (.int .i32 x0)))), (25, some (.b o17))] [] 1000) ?_ ?_
      ·refine W.cnd Z h (fun q21 h => ?_) (fun q21 h => ?_)
       ·refine W.seq (W.pk (.M Z (.B Z (.A Z (.nil (W.ret ?_)))))); cases h; exact lv Z Z
       ·refine W.seq (W.seq (W.fork (mkSt [(0, some (.imm (.val (.int .i32 x0)))), (40, some (.b ((decide (x0 ≥ 313)) && (decide (x0 ≤ 328)))))] [] 1000) ?_ ?_))
        ·obtain ⟨o26, b27, h⟩ := bnd1 h; refine W.fork (mkSt [(0, some (.imm (.val (.int .i32 x0)))), (40, some (.b o26))] [] 1000) ?_ ?_
         ·refine W.cnd Z h (fun q30 h => ?_) (fun q30 h => ?_)
          ·refine W.seq (W.pk (.M Z (.M Z (.B Z (.B Z (.A Z (.nil (W.ret ?_)))))))); cases h; exact lv Z Z
          ·refine W.skip (W.seq (W.pk (.M Z (.A Z (.nil (W.ret ?_)))))); cases h; exact lv Z Z
         ·clear h; have h := b27; refine W.cnd Z h (fun q28 h => ?_) (fun q28 h => ?_)
          ·refine W.skip ?_; cases h; exact toN (Gm [] (.e Z Z) .n Z)
          ·refine W.fork (mkSt [(0, some (.imm (.val (.int .i32 x0)))), (40, some (.b ((decide (x0 ≥ 377)) && (decide (x0 ≤ 382)))))] [] 1000) ?_ ?_
           ·cases h; exact toN (Gm [] (.e Z Z) .n Z)
           ·clear h; refine W.pk (.M Z (.B Z (.M Z ?_))); rcases tf (decide (x0 ≥ 377)) with g29 | g29
            ·exact .N Z g29 (.G Z g29 Z (.T g29 Z (.A Z (.nil (toN (Gm [] (.r Z Z (.c Z (sbb (by simp only [g29, BL])) Z .n)) .n Z))))))
            ·exact .X Z g29 (.X Z g29 (.E g29 Z (.A Z (.nil (toN (Gm [] (.r Z Z (.c Z (sbb (by simp only [g29, BL])) Z .n)) .n Z))))))
        ·clear h; refine W.pk (.M Z (.B Z (.M Z ?_))); rcases tf (decide (x0 ≥ 313)) with g22 | g22
         ·exact .N Z g22 (.G Z g22 Z (.T g22 Z (.A Z (.nil (toN (Gm [] (.r Z Z (.c Z (sbb (by simp only [g22, BL])) Z .n)) .n Z))))))
         ·exact .X Z g22 (.X Z g22 (.E g22 Z (.A Z (.nil (toN (Gm [] (.r Z Z (.c Z (sbb (by simp only [g22, BL])) Z .n)) .n Z))))))
      ·clear h; have h := b18; refine W.cnd Z h (fun q19 h => ?_) (fun q19 h => ?_)
       ·refine W.skip ?_; cases h; exact toN (Gm [] (.e Z Z) .n Z)
       ·refine W.fork (mkSt [(0, some (.imm (.val (.int .i32 x0)))), (25, some (.b ((decide (x0 ≥ 330)) && (decide (x0 ≤ 375)))))] [] 1000) ?_ ?_
        ·cases h; exact toN (Gm [] (.e Z Z) .n Z)
        ·clear h; refine W.pk (.M Z (.B Z (.M Z ?_))); rcases tf (decide (x0 ≥ 330)) with g20 | g20
         ·exact .N Z g20 (.G Z g20 Z (.T g20 Z (.A Z (.nil (toN (Gm [] (.r Z Z (.c Z (sbb (by simp only [g20, BL])) Z .n)) .n Z))))))
         ·exact .X Z g20 (.X Z g20 (.E g20 Z (.A Z (.nil (toN (Gm [] (.r Z Z (.c Z (sbb (by simp only [g20, BL])) Z .n)) .n Z))))))
     ·clear h; refine W.pk (.M Z (.B Z (.M Z ?_))); rcases tf (decide (x0 ≥ 256)) with g13 | g13
      ·exact .N Z g13 (.G Z g13 Z (.T g13 Z (.A Z (.nil (toN (Gm [] (.r Z Z (.c Z (sbb (by simp only [g13, BL])) Z .n)) .n Z))))))
      ·exact .X Z g13 (.X Z g13 (.E g13 Z (.A Z (.nil (toN (Gm [] (.r Z Z (.c Z (sbb (by simp only [g13, BL])) Z .n)) .n Z))))))
  ·clear h; have h := b7; refine W.cnd Z h (fun q8 h => ?_) (fun q8 h => ?_)
   ·refine W.skip ?_; cases h; exact toN (Gm [] (.e Z Z) .n Z)
   ·refine W.fork (mkSt [(0, some (.imm (.val (.int .i32 x0)))), (3, some (.b (((decide (x0 ≥ 192)) && (decide (x0 ≤ 222))) && (x0 != 215))))] [] 1000) ?_ ?_
    ·cases h; exact toN (Gm [] (.e Z Z) .n Z)
    ·clear h; refine W.pk (.M Z (.B Z (.M Z ?_))); rcases tf (decide (x0 ≥ 192)) with g9 | g9
     ·refine .N Z g9 (.G Z g9 Z (.T g9 Z (.M Z ?_))); rcases tf (decide (x0 ≤ 222)) with g10 | g10
      ·exact .N Z g10 (.G Z g10 Z (.T g10 Z (.A Z (.nil (toN (Gm [] (.r Z Z (.c Z (sbb (by simp only [g9, g10, BL])) Z .n)) .n Z))))))
      ·exact .X Z g10 (.X Z g10 (.E g10 Z (.A Z (.nil (toN (Gm [] (.r Z Z (.c Z (sbb (by simp only [g9, g10, BL])) Z .n)) .n Z))))))
     ·exact .X Z g9 (.X Z g9 (.E g9 Z (.M Z (.X Z Z (.X Z Z (.E Z Z (.A Z (.nil (toN (Gm [] (.r Z Z (.c Z (sbb (by simp only [g9, BL])) Z .n)) .n Z))))))))))
 ·clear h; refine W.pk (.M Z (.B Z (.M Z ?_))); rcases tf (decide (x0 ≥ 65)) with g1 | g1
  ·exact .N Z g1 (.G Z g1 Z (.T g1 Z (.A Z (.nil (toN (Gm [] (.r Z Z (.c Z (sbb (by simp only [g1, BL])) Z .n)) .n Z))))))
  ·exact .X Z g1 (.X Z g1 (.E g1 Z (.A Z (.nil (toN (Gm [] (.r Z Z (.c Z (sbb (by simp only [g1, BL])) Z .n)) .n Z))))))

noncomputable def name_Fold.low (c : Int) : Option (Int) := (name_low.f c).bind fun r => if -2147483648 ≤ r ∧ r ≤ 2147483647 then some r else none
noncomputable def name_Fold.f (x0 : Bs) : Option (Bs) :=
 if List.length x0 ≤ 35184372088832 then foldFrom name_Fold.low (tx x0) (tx x0).size 0 else none
theorem name_Fold.ok {x0 r : Bs} (h : name_Fold.f x0 = some r) : Pm.Spec prog 69 [.imm (.val (.string (tx x0)))] (.imm (.val (.string (tx r)))) [none] := by
  obtain ⟨h1, h2⟩ : List.length x0 ≤ 35184372088832 ∧ foldFrom name_Fold.low (tx x0) (tx x0).size 0 = some r := by
    unfold name_Fold.f at h; split at h
    ·rename_i h1; exact ⟨h1, h⟩
    ·cases h
  refine spec_fold (fun w => fold_walk name_Fold.low (fun c r w hc => ?_) (tx x0) w r (by simpa [tx, ByteArray.size] using h1) h2)
  unfold name_Fold.low at hc
  obtain ⟨r', h3, h4⟩ := Option.bind_eq_some_iff.1 hc
  split at h4
  ·rename_i h5; cases h4; exact ⟨h5, fold_low (name_low.ok h3) w⟩
  ·cases h4

noncomputable def name_Same.f (x0 : Bs) (x1 : Bs) : Option (Bool) :=
 (name_Fold.f x0).bind fun t1 =>
 (name_Fold.f x1).bind fun t3 =>
 some (t1 == t3)
theorem name_Same.ok {x0 : Bs} {x1 : Bs} {r : Bool} (h : name_Same.f x0 x1 = some r) : Pm.Spec prog 37 [.imm (.val (.string (tx x0))), .imm (.val (.string (tx x1)))] (.imm (.val (.bool r))) [none, none] := by
 unfold name_Same.f at h; refine Pm.Spec.of_body Tryz.func37 Z (by kernel_rfl) (L Z) (L Z) ?_; refine W.ghost (σ' := (mkSt [(0, some (.s x0)), (1, some (.s x1))] [] 1000)) (Gives.entry (.c Z (.c Z .n)) .n) (W.seq (W.pk (.A Z (.nil (W.seq ?_))))); obtain ⟨t1, b2, h⟩ := bnd1 h; obtain ⟨t3, b4, h⟩ := bnd1 h; refine W.pk (.M Z (.C (.s t1) [] 0 (name_Fold.ok b2) ca69 Z (cI .nil) Z ?_)); refine .M Z (.C (.s t3) [] 0 (name_Fold.ok b4) ca69 Z (cI .nil) Z ?_); refine .V Z (O.cmpS Z Z Z Z) (.A Z (.nil (W.ret ?_))); cases h; exact leaves (.inr Z) Z (.imm _) (cN (cN .nil)) Z Z

noncomputable def auth_List_Join_1_v2.f (x0 : auth_Member) (x1 : Bs) : Option (Bool) :=
 (name_Same.f x0.Name x1).bind fun t1 =>
 some t1
theorem auth_List_Join_1_v2.ok {x0 : auth_Member} {x1 : Bs} {r : Bool} (h : auth_List_Join_1_v2.f x0 x1 = some r) : Pm.Spec prog 36 [.agg (im (auth_Member.enc x0)), .xbox [.imm (.val (.string (tx x1)))]] (.imm (.val (.bool r))) [none, some (.xbox [.imm (.val (.string (tx x1)))])] := by
 unfold auth_List_Join_1_v2.f at h; refine Pm.Spec.of_body Tryz.func36 Z (by kernel_rfl) (L Z) (L Z) ?_; refine W.ghost (σ' := (mkSt [(0, some (.agg (auth_Member.av x0))), (1, some (.ptr 0 0))] [(0, some (.box [.s x1]))] 1000)) (Gives.entry (.c Z (.c Z .n)) (.c Z .n)) (W.seq (W.pk (.t Z Z (O.box Z Z Z Z Z) (.A Z (.nil (W.seq ?_)))))); obtain ⟨t1, b2, h⟩ := bnd1 h; refine W.pk (.F fld32_1 Z (.V Z (O.ld (y := .s x0.Name) ty9 Z Z Z) (.V Z (O.ld (y := .s x1) ty9 Z Z Z) (.C (.b t1) [] 0 (name_Same.ok b2) ca37 Z (cI (cI .nil)) Z ?_)))); refine .A Z (.nil (W.ret ?_)); cases h; exact leaves (.inr Z) Z (.imm _) (cN (cS (.ptr _ _ _ _ _ Z (cI .nil)) .nil)) Z Z

noncomputable def slices_IndexFunc_auth_Member__auth_List_Join_1.b0 (x0 : List auth_Member) (x1c0 : Bs) (v6 : Int) : Option (Int ⊕ (Int ⊕ Unit)) :=
 if (decide (v6 < (List.length x0 : Int))) = true then
 if (0 : Int) ≤ v6 ∧ v6 < (List.length x0 : Int) then
 (auth_List_Join_1_v2.f (nth x0 v6) x1c0).bind fun t23 =>
 if t23 = true then
 some (.inr (.inl v6))
 else some (.inl (IntKind.wrap .i64 (v6 + 1)))
 else none
 else some (.inr (.inr ()))
noncomputable def slices_IndexFunc_auth_Member__auth_List_Join_1.r0 (x0 : List auth_Member) (x1c0 : Bs) (s : Int) : Option (Int ⊕ (Int ⊕ Unit)) := slices_IndexFunc_auth_Member__auth_List_Join_1.b0 x0 x1c0 s
noncomputable def slices_IndexFunc_auth_Member__auth_List_Join_1.f (x0 : List auth_Member) (x1c0 : Bs) : Option (Int) :=
 (loop (slices_IndexFunc_auth_Member__auth_List_Join_1.r0 x0 x1c0) 0).bind fun o18 =>
 match o18 with
 | .inl r26 => some r26
 | .inr w17 =>
 some (-1)
theorem slices_IndexFunc_auth_Member__auth_List_Join_1.ok {x0 : List auth_Member} {x1c0 : Bs} {r : Int} (h : slices_IndexFunc_auth_Member__auth_List_Join_1.f x0 x1c0 = some r) : Pm.Spec prog 68 [.xown 32 5 (List.map auth_Member.enc x0), .fn 36 [.xbox [.imm (.val (.string (tx x1c0)))]]] (.imm (.val (.int .i64 r))) [some (.xown 32 5 (List.map auth_Member.enc x0)), some (.fn 36 [.xbox [.imm (.val (.string (tx x1c0)))]])] := by
 unfold slices_IndexFunc_auth_Member__auth_List_Join_1.f at h; refine Pm.Spec.of_body Tryz.func68 Z (by kernel_rfl) (L Z) (L Z) ?_; refine W.ghost (σ' := (mkSt [(0, some (.own 0)), (1, some (.fn 36 [.ptr 1 0]))] [(0, some (.rows 32 5 (List.map auth_Member.enc x0) false)), (1, some (.box [.s x1c0]))] 1000)) (Gives.entry (.c Z (.c Z .n)) (.c Z (.c Z .n))) (W.seq (W.pk (.A Z (.nil (W.seq (W.seq (W.pk (.M Z (.V Z (O.lenO sl29 Z Z Z) (.M Z (.nil ?_))))))))))); obtain ⟨o18, b19, z20⟩ := bnd1 h; refine W.fork2 (out := o18) (fun (w17 : Unit) => mkSt [] [(0, some (.rows 32 5 (List.map auth_Member.enc x0) false)), (1, some (.box [.s x1c0]))] 1000) ?_ ?_
 ·clear h; refine W.block (W.loopF (fun (s_ : Int) => mkSt [(0, some (.own 0)), (1, some (.fn 36 [.ptr 1 0])), (7, some (.i (List.length x0 : Int))), (8, some (.i s_))] [(0, some (.rows 32 5 (List.map auth_Member.enc x0) false)), (1, some (.box [.s x1c0]))] 1000) b19 (Gm [] (.e Z Z) (.e Z Z) Z) ?_); rintro v6 s_ hr; have h : slices_IndexFunc_auth_Member__auth_List_Join_1.b0 x0 x1c0 v6 = some s_ := hr; unfold slices_IndexFunc_auth_Member__auth_List_Join_1.b0 at h; refine W.seq (W.pk (.B Z (.nil (W.seq (W.cnd Z h (fun q21 h => ?_) (fun q21 h => ?_))))))
  ·refine W.skip (W.seq (W.block (W.seq (W.pk (.M Z (.A Z (.nil (W.seq ?_)))))))); obtain ⟨c22, h⟩ := chk h; obtain ⟨t23, b24, h⟩ := bnd1 h; refine W.pk (.M Z (.M Z (.M Z (.V Z (O.idxO sl29 c22 Z Z Z Z) (.V Z (O.ldEN ty32 c22 Z Z Z Z Z) (.C (.b t23) [(1, some (.box [.s x1c0])), (1, none)] 0 (auth_List_Join_1_v2.ok b24) ca36 Z (cC (.agg _ _ _ _ (cI (cI (cI (cI (cI .nil)))))) (cC (.ptr _ _ _ _ _ Z (cI .nil)) .nil)) Z ?_)))))); refine .nil (W.cnd Z h (fun q25 h => ?_) (fun q25 h => ?_))
   ·refine W.seq (W.pk (.M Z (.A Z (.nil (W.ret ?_))))); cases h; refine rdR fun e_ => ?_; subst e_; have h := z20; dsimp only at h; refine fkR ?_; cases h; exact leaves (.inr Z) Z (.imm _) (cS (.own _ _ _ _ Z) (cS (.fn _ _ _ _ _ (cC (.ptr _ _ _ _ _ Z (cI .nil)) .nil)) .nil)) Z Z
   ·refine W.skip (W.pk (.B Z (.M Z (.nil ?_)))); cases h; exact rdN (Gm [] (.e Z Z) (.e Z Z) Z)
  ·refine W.exit ?_; cases h; refine rdX fun e_ => ?_; subst e_; (repeat with_reducible refine thru ?_); exact hit (fkN (Gm [] .n (.e Z Z) Z))
 ·intro w17 e_; subst e_; clear h; have h := z20; dsimp only at h; refine W.seq (W.pk (.A Z (.nil (W.ret ?_)))); cases h; exact leaves (.inr Z) Z (.imm _) (cS (.own _ _ _ _ Z) (cS (.fn _ _ _ _ _ (cC (.ptr _ _ _ _ _ Z (cI .nil)) .nil)) .nil)) Z Z

noncomputable def slices_ContainsFunc_auth_Member__auth_List_Join_1.f (x0 : List auth_Member) (x1c0 : Bs) : Option (Bool) :=
 (slices_IndexFunc_auth_Member__auth_List_Join_1.f x0 x1c0).bind fun t1 =>
 some (decide (t1 ≥ 0))
theorem slices_ContainsFunc_auth_Member__auth_List_Join_1.ok {x0 : List auth_Member} {x1c0 : Bs} {r : Bool} (h : slices_ContainsFunc_auth_Member__auth_List_Join_1.f x0 x1c0 = some r) : Pm.Spec prog 35 [.xown 32 5 (List.map auth_Member.enc x0), .fn 36 [.xbox [.imm (.val (.string (tx x1c0)))]]] (.imm (.val (.bool r))) [some (.xown 32 5 (List.map auth_Member.enc x0)), some (.fn 36 [.xbox [.imm (.val (.string (tx x1c0)))]])] := by
 unfold slices_ContainsFunc_auth_Member__auth_List_Join_1.f at h; refine Pm.Spec.of_body Tryz.func35 Z (by kernel_rfl) (L Z) (L Z) ?_; refine W.ghost (σ' := (mkSt [(0, some (.own 0)), (1, some (.fn 36 [.ptr 1 0]))] [(0, some (.rows 32 5 (List.map auth_Member.enc x0) false)), (1, some (.box [.s x1c0]))] 1000)) (Gives.entry (.c Z (.c Z .n)) (.c Z (.c Z .n))) (W.seq (W.pk (.A Z (.nil (W.seq ?_))))); obtain ⟨t1, b2, h⟩ := bnd1 h; refine W.pk (.M Z (.M Z (.C (.i t1) [(0, some (.rows 32 5 (List.map auth_Member.enc x0) false)), (1, some (.box [.s x1c0])), (0, none), (1, none)] 0 (slices_IndexFunc_auth_Member__auth_List_Join_1.ok b2) ca68 Z (cC (.own _ _ _ _ Z) (cC (.fn _ _ _ _ _ (cC (.ptr _ _ _ _ _ Z (cI .nil)) .nil)) .nil)) Z ?_))); refine .B Z (.A Z (.nil (W.ret ?_))); cases h; exact leaves (.inr Z) Z (.imm _) (cS (.own _ _ _ _ Z) (cS (.fn _ _ _ _ _ (cC (.ptr _ _ _ _ _ Z (cI .nil)) .nil)) .nil)) Z Z

noncomputable def slices_Insert_auth_Member.f (x0 : List auth_Member) (x1 : Int) (x2 : List auth_Member) : Option (List auth_Member) :=
 insF 48 x0 x1 x2
theorem slices_Insert_auth_Member.ok {x0 : List auth_Member} {x1 : Int} {x2 : List auth_Member} {r : List auth_Member} (h : slices_Insert_auth_Member.f x0 x1 x2 = some r) : Pm.Spec prog 38 [.xown 32 5 (List.map auth_Member.enc x0), .imm (.val (.int .i64 x1)), .xown 32 5 (List.map auth_Member.enc x2)] (.xown 32 5 (List.map auth_Member.enc r)) [none, none, none] := by
 obtain ⟨i, x, rfl, rfl, c2, c3, c4, rfl⟩ := insF_some (by decide) h
 refine Pm.Spec.of_body Tryz.func38 rfl (by kernel_rfl) (Nat.le_of_ble_eq_true rfl) (Nat.le_of_ble_eq_true rfl) ?_
 refine W.ghost (σ' := (mkSt [(0, some (.own 0)), (1, some (.i (i : Int))), (2, some (.own 1))] [(0, some (.rows 32 5 (List.map auth_Member.enc x0) false)), (1, some (.rows 32 5 (List.map auth_Member.enc [x]) false))] 1000)) (Gives.entry (.c rfl (.c rfl (.c rfl .n))) (.c rfl (.c rfl .n))) ?_
 refine W.seq ?_
 refine W.pk ?_
 refine .v rfl rfl (OpL.move (.inr rfl) rfl) ?_
 refine .nil ?_
 refine W.seq ?_
 refine W.pk ?_
 refine .m rfl rfl rfl rfl ?_
 refine .m rfl rfl rfl rfl ?_
 refine .v rfl rfl (O.partE (l := i) (N := (List.length x0)) sl29 c2 (List.length_map _).symm rfl rfl rfl rfl) ?_
 refine .nil ?_
 refine W.seq ?_
 refine W.pk ?_
 refine .m rfl rfl rfl rfl ?_
 refine .v rfl rfl (O.lenO sl29 rfl rfl rfl) ?_
 refine .a rfl rfl rfl rfl ?_
 refine .nil ?_
 refine W.seq ?_
 refine W.seq ?_
 refine W.pk ?_
 refine .m rfl rfl rfl rfl ?_
 refine .v rfl rfl (OpL.binI rfl rfl rfl rfl) ?_
 refine .nil ?_
 refine W.cond rfl (fun q => by simp at q) (fun _ => ?_)
 refine W.skip ?_
 refine W.seq ?_
 refine W.pk ?_
 refine .m rfl rfl rfl rfl ?_
 refine .v rfl rfl (O.lenO sl29 rfl rfl rfl) ?_
 refine .a rfl rfl rfl rfl ?_
 refine .nil ?_
 refine W.seq ?_
 refine W.seq ?_
 refine W.pk ?_
 refine .m rfl rfl rfl rfl ?_
 refine .m rfl rfl rfl rfl ?_
 refine .v rfl rfl (OpL.binI rfl rfl rfl rfl) ?_
 refine .nil ?_
 refine W.cond rfl (fun q => ?_) (fun q => ?_)
 · have q' : i = (List.length x0) := by have := eq_of_beq q; omega
   rw [ins0 q']
   refine W.seq ?_
   refine W.pk ?_
   refine .m rfl rfl rfl rfl ?_
   refine .m rfl rfl rfl rfl ?_
   have h2 : ((List.length x0) + List.length [x]) * 48 ≤ 140737488355328 := c3
   refine .t rfl rfl (O.appO (m := [x]) sl29 auth_Member.ok h2 rfl rfl rfl rfl rfl) ?_
   refine .a rfl rfl rfl rfl ?_
   refine .nil ?_
   refine W.ret ?_
   exact leaves (.inr rfl) rfl (.own _ _ _ _ rfl) (cN (cN (cN .nil))) rfl rfl
 · have lt : i < (List.length x0) := by
     have : ¬ ((i : Int) = ((List.length x0) : Int)) := fun e => by simp [e] at q
     omega
   refine W.skip ?_
   refine W.capM 0 rfl rfl (by omega) (fun C b1 b2 => ?_)
   simp only [maxLen] at b2
   refine W.seq ?_
   refine W.seq ?_
   refine W.pk ?_
   refine .m rfl rfl rfl rfl ?_
   refine .m rfl rfl rfl rfl ?_
   refine .v rfl rfl (OpL.binI rfl rfl rfl (addN (a := (List.length x0)) (b := 1) (by omega))) ?_
   refine .m rfl rfl rfl rfl ?_
   refine .v rfl rfl (O.capV sl29 rfl rfl) ?_
   refine .v rfl rfl (OpL.binI rfl rfl rfl rfl) ?_
   refine .nil ?_
   refine W.cond rfl (fun q => ?_) (fun q => ?_)
   · have q' : C < (List.length x0) + 1 := by have := of_decide_eq_true q; omega
     refine W.seq ?_
     refine W.pk ?_
     refine .m rfl rfl rfl rfl ?_
     refine .m rfl rfl rfl rfl ?_
     refine .v rfl rfl (O.sliceF (u := i) sl29 (by omega) rfl rfl rfl) ?_
     refine .m rfl rfl rfl rfl ?_
     refine .m rfl rfl rfl rfl ?_
     refine .v rfl rfl (OpL.binI rfl rfl rfl (addN (a := (List.length x0)) (b := 1) (by omega))) ?_
     refine .m rfl rfl rfl rfl ?_
     refine .v rfl rfl (OpL.binI rfl rfl rfl (subN (a := (List.length x0) + 1) (b := i) (by omega) (by omega))) ?_
     refine .t rfl rfl (OpL.appMake (zr := (List.map T.val [.int .i64 0, .string (tx []), .int .i64 0, .int .i64 0, .bool false])) (q := (List.length x0) + 1 - i) sl29 rfl (TRow.refl _) rfl rfl rfl rfl (by rw [List.length_map]; omega) (by omega) (by omega) (by rw [show i + ((List.length x0) + 1 - i) = (List.length x0) + 1 by omega]; exact c3)) ?_
     refine .a rfl rfl rfl rfl ?_
     refine .nil ?_
     refine W.ghost (Gives.capM (List.length_map _).symm 0 rfl rfl) ?_
     have r1 : ((List.take i (List.map auth_Member.enc x0) ++ List.replicate ((List.length x0) + 1 - i) (List.map T.val [.int .i64 0, .string (tx []), .int .i64 0, .int .i64 0, .bool false]))).length = (List.length x0) + 1 := by rw [List.length_append, List.length_take, List.length_map, List.length_replicate]; omega
     have r2 : ((List.map auth_Member.enc (List.take i x0 ++ [x]) ++ List.replicate ((List.length x0) - i) (List.map T.val [.int .i64 0, .string (tx []), .int .i64 0, .int .i64 0, .bool false]))).length = (List.length x0) + 1 := by rw [List.length_append, List.length_map, List.length_append, List.length_take, List.length_replicate, List.length_singleton]; omega
     refine W.seq ?_
     refine W.pk ?_
     refine .m rfl rfl rfl rfl ?_
     refine .m rfl rfl rfl rfl ?_
     refine .v rfl rfl (O.partE (l := i) (N := (List.length x0) + 1) sl29 (by omega) r1.symm rfl rfl rfl rfl) ?_
     refine .m rfl rfl rfl rfl ?_
     refine .k rfl rfl (O.copyO (c := 1) (l := [x]) (L := (List.map auth_Member.enc (List.take i x0 ++ [x]) ++ List.replicate ((List.length x0) - i) (List.map T.val [.int .i64 0, .string (tx []), .int .i64 0, .int .i64 0, .bool false]))) (enc := auth_Member.enc) sl29 auth_Member.ok (by rw [r1, List.length_map, List.length_singleton]; omega) rfl (ins1 lt) rfl rfl rfl rfl rfl) ?_
     refine .nil ?_
     refine W.seq ?_
     refine W.dk (unm 9 [0, 0, 0, 6, 15, 0, 0, 96, 255]) rfl (by kernel_rfl) ?_
     refine .m rfl rfl rfl rfl ?_
     refine .m rfl rfl rfl rfl ?_
     refine .m rfl rfl rfl rfl ?_
     refine .v rfl rfl (OpL.binI rfl rfl rfl (addN (a := i) (b := 1) (by omega))) ?_
     refine .v rfl rfl (O.partE (l := i + 1) (N := (List.length x0) + 1) sl29 (by omega) r2.symm rfl rfl rfl rfl) ?_
     refine .m rfl rfl rfl rfl ?_
     refine .m rfl rfl rfl rfl ?_
     refine .v rfl rfl (O.partE (l := i) (N := (List.length x0)) sl29 c2 (List.length_map _).symm rfl rfl rfl rfl) ?_
     refine .k rfl rfl (O.copyV (c := (List.length x0) - i) (l := List.drop i x0) (L := (List.map auth_Member.enc (List.take i x0 ++ [x] ++ List.drop i x0))) (enc := auth_Member.enc) sl29 auth_Member.ok (by rw [r2, List.length_map]; omega) (by rw [← List.map_drop, List.take_of_length_le (by rw [List.length_map, List.length_drop]; omega)]) (ins2 lt) rfl rfl rfl rfl rfl) ?_
     refine .nil ?_
     refine ⟨by kernel_rfl, by kernel_rfl, ?_⟩
     refine W.seq ?_
     refine W.pk ?_
     refine .m rfl rfl rfl rfl ?_
     refine .a rfl rfl rfl rfl ?_
     refine .nil ?_
     refine W.ret ?_
     exact leaves (.inr rfl) rfl (.own _ _ _ _ rfl) (cN (cN (cN .nil))) rfl rfl
   · have q' : (List.length x0) + 1 ≤ C := by have := of_decide_eq_false q; omega
     refine W.skip ?_
     refine W.growC 0 rfl rfl (List.length_map _).symm q' (fun jk jl => ?_)
     have r1 : (((List.map auth_Member.enc x0) ++ [jk])).length = (List.length x0) + 1 := by rw [List.length_append, List.length_map, List.length_singleton]
     have r2 : ((List.map auth_Member.enc (List.take (i + 1) x0 ++ List.drop i x0))).length = (List.length x0) + 1 := by rw [List.length_map, List.length_append, List.length_take, List.length_drop]; omega
     refine W.seq ?_
     refine W.pk ?_
     refine .m rfl rfl rfl rfl ?_
     refine .m rfl rfl rfl rfl ?_
     refine .m rfl rfl rfl rfl ?_
     refine .v rfl rfl (OpL.binI rfl rfl rfl (addN (a := (List.length x0)) (b := 1) (by omega))) ?_
     refine .v rfl rfl (O.sliceF (u := (List.length x0) + 1) sl29 (by omega) rfl rfl rfl) ?_
     refine .a rfl rfl rfl rfl ?_
     refine .nil ?_
     refine W.ghost (Gives.capM r1.symm 0 rfl rfl) ?_
     refine W.seq ?_
     refine W.seq ?_
     refine W.pk ?_
     refine .m rfl rfl rfl rfl ?_
     refine .m rfl rfl rfl rfl ?_
     refine .m rfl rfl rfl rfl ?_
     refine .m rfl rfl rfl rfl ?_
     refine .v rfl rfl (OpL.binI rfl rfl rfl (addN (a := i) (b := 1) (by omega))) ?_
     refine .v rfl rfl (O.partE (l := i + 1) (N := (List.length x0) + 1) sl29 (by omega) r1.symm rfl rfl rfl rfl) ?_
     refine .v rfl rfl (OpL.apart (tR := 4) (f := 70) (fn := Tryz.f70) sl29 rfl (by kernel_rfl) (by kernel_rfl) (by kernel_rfl) (by kernel_rfl) rfl rfl rfl rfl rfl (by decide) (by simp) (by omega)) ?_
     refine .v rfl rfl (OpL.unV rfl rfl rfl) ?_
     refine .nil ?_
     refine W.cond rfl (fun _ => ?_) (fun q => by cases q)
     refine W.seq ?_
     refine W.dk (unm 9 [0, 0, 0, 6, 15, 0, 0, 96, 255]) rfl (by kernel_rfl) ?_
     refine .m rfl rfl rfl rfl ?_
     refine .m rfl rfl rfl rfl ?_
     refine .m rfl rfl rfl rfl ?_
     refine .v rfl rfl (OpL.binI rfl rfl rfl (addN (a := i) (b := 1) (by omega))) ?_
     refine .v rfl rfl (O.partE (l := i + 1) (N := (List.length x0) + 1) sl29 (by omega) r1.symm rfl rfl rfl rfl) ?_
     refine .m rfl rfl rfl rfl ?_
     refine .m rfl rfl rfl rfl ?_
     refine .v rfl rfl (O.partE (l := i) (N := (List.length x0) + 1) sl29 (by omega) r1.symm rfl rfl rfl rfl) ?_
     refine .k rfl rfl (O.copyV (c := (List.length x0) - i) (l := List.drop i x0) (L := (List.map auth_Member.enc (List.take (i + 1) x0 ++ List.drop i x0))) (enc := auth_Member.enc) sl29 auth_Member.ok (by rw [r1]; omega) (ins5 lt) (ins3 lt) rfl rfl rfl rfl rfl) ?_
     refine .nil ?_
     refine ⟨by kernel_rfl, by kernel_rfl, ?_⟩
     refine W.seq ?_
     refine W.pk ?_
     refine .m rfl rfl rfl rfl ?_
     refine .m rfl rfl rfl rfl ?_
     refine .v rfl rfl (O.partE (l := i) (N := (List.length x0) + 1) sl29 (by omega) r2.symm rfl rfl rfl rfl) ?_
     refine .m rfl rfl rfl rfl ?_
     refine .k rfl rfl (O.copyO (c := 1) (l := [x]) (L := (List.map auth_Member.enc (List.take i x0 ++ [x] ++ List.drop i x0))) (enc := auth_Member.enc) sl29 auth_Member.ok (by rw [r2, List.length_map, List.length_singleton]; omega) rfl (ins4 lt) rfl rfl rfl rfl rfl) ?_
     refine .nil ?_
     refine W.seq ?_
     refine W.pk ?_
     refine .m rfl rfl rfl rfl ?_
     refine .a rfl rfl rfl rfl ?_
     refine .nil ?_
     refine W.ret ?_
     exact leaves (.inr rfl) rfl (.own _ _ _ _ rfl) (cN (cN (cN .nil))) rfl rfl
end Go.Proofs.YtjdkibnhlmgppaaGreat
