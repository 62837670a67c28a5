/- Shows the row of the law MsgChecks, out of what the functions come to and the plain statement. -/
import Derived.Test.YtbmokbkgielmmaaGreatRows
import Derived.Test.YtbmokbkgielmmaaGreatGy0
import Derived.Test.YtbmokbkgielmmaaGreatPureMsgChecks
import Derived.Test.YtbmokbkgielmmaaGreatPmS
import Derived.WalkKit
import Derived.ProofKit
import Derived.OpenShut
import Derived.ShutString
import Derived.ChangeOld
import Derived.Below
import Derived.SizedLaws
namespace Go.Proofs.YtbmokbkgielmmaaGreat
open Go Go.Pm
set_option linter.unusedVariables false
namespace RowMsgChecks
theorem opn3 : Opens prog 3 (encI .i64) (inK .i64) := Opens.int (by kernel_rfl)
theorem opn9 : Opens prog 9 encS (fun s => s.length ≤ reach) := Opens.str (by kernel_rfl)
theorem opn23 : Opens prog 23 api_Asset.enc api_Asset.bd := Opens.struct (n := 5) Tryz.underlying23 (by kernel_rfl) (OpensF.cons (sz := 1) opn9 (fun _ => rfl) rfl (OpensF.cons (sz := 1) opn3 (fun _ => rfl) rfl (OpensF.cons (sz := 1) opn3 (fun _ => rfl) rfl (OpensF.cons (sz := 1) opn3 (fun _ => rfl) rfl (OpensF.cons (sz := 1) opn9 (fun _ => rfl) rfl (OpensF.nil _)))))) (fun p => ⟨p.1, p.2.1, p.2.2.1, p.2.2.2.1, p.2.2.2.2.1⟩) (fun _ => rfl) (fun _ => rfl) (fun _ h => ⟨h.1, h.2.1, h.2.2.1, h.2.2.2.1, h.2.2.2.2.1, trivial⟩)
theorem opn103 : Opens prog 103 api_Cut.enc api_Cut.bd := Opens.struct (n := 3) Tryz.underlying103 (by kernel_rfl) (OpensF.cons (sz := 1) opn3 (fun _ => rfl) rfl (OpensF.cons (sz := 1) opn3 (fun _ => rfl) rfl (OpensF.cons (sz := 1) opn3 (fun _ => rfl) rfl (OpensF.nil _)))) (fun p => ⟨p.1, p.2.1, p.2.2.1⟩) (fun _ => rfl) (fun _ => rfl) (fun _ h => ⟨h.1, h.2.1, h.2.2.1, trivial⟩)
theorem opn24 : Opens prog 24 (encR 3 api_Cut.enc) (fun l => l.length * 24 ≤ reach ∧ ∀ x ∈ l, api_Cut.bd x) := Opens.slice (by kernel_rfl) opn103 (fun _ => rfl) (by kernel_rfl) (by kernel_rfl) (by decide)
theorem opn25 : Opens prog 25 (encR 1 (encI .i64)) (fun l => l.length * 8 ≤ reach ∧ ∀ x ∈ l, inK .i64 x) := Opens.slice (by kernel_rfl) opn3 (fun _ => rfl) (by kernel_rfl) (by kernel_rfl) (by decide)
theorem opn27 : Opens prog 27 api_Basket.enc api_Basket.bd := Opens.struct (n := 10) Tryz.underlying27 (by kernel_rfl) (OpensF.cons (sz := 1) opn3 (fun _ => rfl) rfl (OpensF.cons (sz := 1) opn3 (fun _ => rfl) rfl (OpensF.cons (sz := 1) opn9 (fun _ => rfl) rfl (OpensF.cons (sz := 1) opn3 (fun _ => rfl) rfl (OpensF.cons (sz := 1) opn3 (fun _ => rfl) rfl (OpensF.cons (sz := 1) opn3 (fun _ => rfl) rfl (OpensF.cons (sz := 1) opn24 (fun _ => rfl) rfl (OpensF.cons (sz := 1) opn3 (fun _ => rfl) rfl (OpensF.cons (sz := 1) opn3 (fun _ => rfl) rfl (OpensF.cons (sz := 1) opn25 (fun _ => rfl) rfl (OpensF.nil _))))))))))) (fun p => ⟨p.1, p.2.1, p.2.2.1, p.2.2.2.1, p.2.2.2.2.1, p.2.2.2.2.2.1, p.2.2.2.2.2.2.1, p.2.2.2.2.2.2.2.1, p.2.2.2.2.2.2.2.2.1, p.2.2.2.2.2.2.2.2.2.1⟩) (fun _ => rfl) (fun _ => rfl) (fun _ h => ⟨h.1, h.2.1, h.2.2.1, h.2.2.2.1, h.2.2.2.2.1, h.2.2.2.2.2.1, h.2.2.2.2.2.2.1, h.2.2.2.2.2.2.2.1, h.2.2.2.2.2.2.2.2.1, h.2.2.2.2.2.2.2.2.2.1, trivial⟩)
theorem opn105 : Opens prog 105 api_Price.enc api_Price.bd := Opens.struct (n := 2) Tryz.underlying105 (by kernel_rfl) (OpensF.cons (sz := 1) opn9 (fun _ => rfl) rfl (OpensF.cons (sz := 1) opn3 (fun _ => rfl) rfl (OpensF.nil _))) (fun p => ⟨p.1, p.2.1⟩) (fun _ => rfl) (fun _ => rfl) (fun _ h => ⟨h.1, h.2.1, trivial⟩)
theorem opn28 : Opens prog 28 (encR 2 api_Price.enc) (fun l => l.length * 24 ≤ reach ∧ ∀ x ∈ l, api_Price.bd x) := Opens.slice (by kernel_rfl) opn105 (fun _ => rfl) (by kernel_rfl) (by kernel_rfl) (by decide)
theorem opn30 : Opens prog 30 api_Quote.enc api_Quote.bd := Opens.struct (n := 8) Tryz.underlying30 (by kernel_rfl) (OpensF.cons (sz := 1) opn3 (fun _ => rfl) rfl (OpensF.cons (sz := 1) opn3 (fun _ => rfl) rfl (OpensF.cons (sz := 1) opn3 (fun _ => rfl) rfl (OpensF.cons (sz := 1) opn3 (fun _ => rfl) rfl (OpensF.cons (sz := 1) opn3 (fun _ => rfl) rfl (OpensF.cons (sz := 1) opn3 (fun _ => rfl) rfl (OpensF.cons (sz := 1) opn3 (fun _ => rfl) rfl (OpensF.cons (sz := 1) opn3 (fun _ => rfl) rfl (OpensF.nil _))))))))) (fun p => ⟨p.1, p.2.1, p.2.2.1, p.2.2.2.1, p.2.2.2.2.1, p.2.2.2.2.2.1, p.2.2.2.2.2.2.1, p.2.2.2.2.2.2.2.1⟩) (fun _ => rfl) (fun _ => rfl) (fun _ h => ⟨h.1, h.2.1, h.2.2.1, h.2.2.2.1, h.2.2.2.2.1, h.2.2.2.2.2.1, h.2.2.2.2.2.2.1, h.2.2.2.2.2.2.2.1, trivial⟩)
theorem opn32 : Opens prog 32 api_Lot.enc api_Lot.bd := Opens.struct (n := 2) Tryz.underlying32 (by kernel_rfl) (OpensF.cons (sz := 1) opn9 (fun _ => rfl) rfl (OpensF.cons (sz := 1) opn3 (fun _ => rfl) rfl (OpensF.nil _))) (fun p => ⟨p.1, p.2.1⟩) (fun _ => rfl) (fun _ => rfl) (fun _ h => ⟨h.1, h.2.1, trivial⟩)
theorem opn33 : Opens prog 33 (encR 2 api_Lot.enc) (fun l => l.length * 24 ≤ reach ∧ ∀ x ∈ l, api_Lot.bd x) := Opens.slice (by kernel_rfl) opn32 (fun _ => rfl) (by kernel_rfl) (by kernel_rfl) (by decide)
theorem opn4 : Opens prog 4 encBo (fun _ => True) := Opens.bool (by kernel_rfl)
theorem opn35 : Opens prog 35 lombardref10_Msg.enc lombardref10_Msg.bd := Opens.struct (n := 36) Tryz.underlying35 (by kernel_rfl) (OpensF.cons (sz := 1) opn3 (fun _ => rfl) rfl (OpensF.cons (sz := 1) opn3 (fun _ => rfl) rfl (OpensF.cons (sz := 1) opn9 (fun _ => rfl) rfl (OpensF.cons (sz := 5) opn23 (fun _ => rfl) rfl (OpensF.cons (sz := 10) opn27 (fun _ => rfl) rfl (OpensF.cons (sz := 1) opn28 (fun _ => rfl) rfl (OpensF.cons (sz := 1) opn3 (fun _ => rfl) rfl (OpensF.cons (sz := 1) opn9 (fun _ => rfl) rfl (OpensF.cons (sz := 1) opn3 (fun _ => rfl) rfl (OpensF.cons (sz := 8) opn30 (fun _ => rfl) rfl (OpensF.cons (sz := 2) opn32 (fun _ => rfl) rfl (OpensF.cons (sz := 1) opn33 (fun _ => rfl) rfl (OpensF.cons (sz := 1) opn3 (fun _ => rfl) rfl (OpensF.cons (sz := 1) opn4 (fun _ => rfl) rfl (OpensF.cons (sz := 1) opn3 (fun _ => rfl) rfl (OpensF.nil _)))))))))))))))) (fun p => ⟨p.1, p.2.1, p.2.2.1, p.2.2.2.1, p.2.2.2.2.1, p.2.2.2.2.2.1, p.2.2.2.2.2.2.1, p.2.2.2.2.2.2.2.1, p.2.2.2.2.2.2.2.2.1, p.2.2.2.2.2.2.2.2.2.1, p.2.2.2.2.2.2.2.2.2.2.1, p.2.2.2.2.2.2.2.2.2.2.2.1, p.2.2.2.2.2.2.2.2.2.2.2.2.1, p.2.2.2.2.2.2.2.2.2.2.2.2.2.1, p.2.2.2.2.2.2.2.2.2.2.2.2.2.2.1⟩) (fun _ => rfl) (fun _ => rfl) (fun _ h => ⟨h.1, h.2.1, h.2.2.1, h.2.2.2.1, h.2.2.2.2.1, h.2.2.2.2.2.1, h.2.2.2.2.2.2.1, h.2.2.2.2.2.2.2.1, h.2.2.2.2.2.2.2.2.1, h.2.2.2.2.2.2.2.2.2.1, h.2.2.2.2.2.2.2.2.2.2.1, h.2.2.2.2.2.2.2.2.2.2.2.1, h.2.2.2.2.2.2.2.2.2.2.2.2.1, h.2.2.2.2.2.2.2.2.2.2.2.2.2.1, h.2.2.2.2.2.2.2.2.2.2.2.2.2.2.1, trivial⟩)
end RowMsgChecks
end Go.Proofs.YtbmokbkgielmmaaGreat
namespace Go.Proofs.YtbmokbkgielmmaaGreat.msgChecks
open Go.ChangeShapes Go.WideShapes Go.ChangeAt Go.RowKit
open Go Go.Pm Go.Proofs.YtbmokbkgielmmaaGreat.RowMsgChecks
set_option linter.unusedVariables false
theorem own : ownKnob Tryz.prog.godebug = none := by kernel_rfl
theorem laidOut : laidOutB Tryz.prog = true := by kernel_rfl
set_option maxRecDepth 100000 in
theorem lifted (os : Os) (started : os.Started) (H : Type) (enc : TypeId × Value → H) :
    ReturnsInHanded {} Tryz.checked os 5 .any (Rows.msgChecksSpec.pre6 enc Tryz.prog Tryz.f5 Rows.msgChecksRow.domain false) (Rows.msgChecksSpec.post enc Tryz.prog Tryz.f5 false true false false) := by
 refine returnsInHanded_of_change_sized (C := Tryz.checked) own started (by kernel_rfl) Tryz.func5
   (ChangeSpec.witness6 (enc := enc) (C := Tryz.checked) false ⟨#[], #[.agg #[.int .i64 0, .int .i64 0, .string (tx []), .string (tx []), .int .i64 0, .int .i64 0, .int .i64 0, .string (tx []), .int .i64 0, .int .i64 0, .string (tx []), .int .i64 0, .int .i64 0, .int .i64 0, .slice none 0 0, .int .i64 0, .int .i64 0, .slice none 0 0, .slice none 0 0, .int .i64 0, .string (tx []), .int .i64 0, .int .i64 0, .int .i64 0, .int .i64 0, .int .i64 0, .int .i64 0, .int .i64 0, .int .i64 0, .int .i64 0, .string (tx []), .int .i64 0, .slice none 0 0, .int .i64 0, .bool false, .int .i64 0]], []⟩ 8 (by kernel_rfl) (by kernel_rfl) (by kernel_rfl) (by kernel_rfl)) ?_
 intro W base args ds gs before hval0 hW hcnd hsz0 _
 have hsz : (DataW.weightsEach Tryz.prog (Tryz.f5.params.toList ++ Rows.msgChecksSpec.plain.varTypes Tryz.prog) (ds ++ gs)).all (· ≤ reachBytes) = true := hsz0
 have hval : ∀ (j : Nat) t v, Tryz.f5.params[j]? = some t → args[j]? = some v → Value.okWide Tryz.prog W .any base t v := hval0
 have hW' := hW
 obtain ⟨p, q, hA0, hV, rfl, hfz, hnd⟩ := hW
 have hA : DataW.TrodAll enc Tryz.prog W 0 (fun _ => true) true Tryz.f5.params.toList args.toList ds p := hA0
 rw [Tryz.params5] at hA hval hsz
 obtain ⟨v0, vs0, d0, ds0, p0, q0, hargs, rfl, rfl, h0, r0⟩ := trodAll_cons hA
 obtain ⟨rfl, rfl, rfl⟩ := trodAll_nil r0
 obtain rfl : args = #[v0] := by cases args; simp_all
 obtain ⟨rfl, rfl⟩ := trodVars_none hV
 obtain ⟨x0, b0, R0⟩ := Opens.row opn35 Tryz.underlying35 (hval 0 35 v0 rfl rfl) h0 (weights_each hsz (j := 0) rfl rfl)
 have lt0 : ∀ x ∈ p0, x.block < W.heap.size := by obtain ⟨m, hm⟩ := h0; exact DataW.trod_lt m _ _ _ hm
 refine (Spec.truth (lombardlaw10_MsgChecks.ok (Pure.MsgChecks x0 b0)) (.cons _ _ _ _ [] [] R0 .nil)).mono fun e W' ⟨he, bel⟩ => ?_
 subst he
 exact ⟨_, rfl, _, _, _, [], _, [], hW', trodAll_mk1 (shut_bool Tryz.underlying4 _), (trodAll_cons_mk (Below.trod laidOut (by kernel_rfl) (of_decide_eq_true (by kernel_rfl)) h0 bel lt0) trodAll_mk0), rfl, bel.frame _, fun h => by cases h⟩
theorem over : Rows.msgChecksRow.holds Tryz.pinned (OpenSpec.ofChange Rows.msgChecksSpec) :=
  OpenClaim.holds_of_wide 5 Tryz.f5 rfl rfl rfl rfl rfl rfl rfl ⟨rfl, rfl, rfl, rfl, rfl⟩ rfl rfl rfl rfl rfl (by kernel_rfl) Tryz.func5 (by kernel_rfl)
    (of_decide_eq_true (by kernel_rfl)) (by unfold Func.isWrapper; first | (rw [if_pos (by decide +kernel)]; kernel_rfl) | (rw [if_neg (by decide +kernel)]; exact ⟨rfl, rfl⟩))
    (fun os started H enc _ => lifted os started H enc)
end Go.Proofs.YtbmokbkgielmmaaGreat.msgChecks
namespace Go.Proofs.YtbmokbkgielmmaaGreat
/-- The row, under a short name, for the claim. -/
theorem msgChecks_holds : Rows.MsgChecksSaid := msgChecks.over
#print axioms msgChecks_holds
end Go.Proofs.YtbmokbkgielmmaaGreat
