/- Shows the row of the law MsgBaskets, out of what the functions come to and the plain statement. -/
import Derived.Test.YtbmokbkgielmmaaRows
import Derived.Test.YtbmokbkgielmmaaGx3
import Derived.Test.YtbmokbkgielmmaaPureMsgBaskets
import Derived.Test.YtbmokbkgielmmaaPmS
import Derived.WalkKit
import Derived.ProofKit
import Derived.OpenShut
import Derived.ShutString
import Derived.ChangeOld
import Derived.Below
import Derived.SizedLaws
namespace Go.Proofs.Ytbmokbkgielmmaa
open Go Go.Pm
set_option linter.unusedVariables false
namespace RowMsgBaskets
theorem opn3 : Opens prog 3 (encI .i64) (inK .i64) := Opens.int (by kernel_rfl)
theorem opn9 : Opens prog 9 encS (fun s => s.length ≤ reach) := Opens.str (by kernel_rfl)
theorem opn67 : Opens prog 67 api_Cut.enc api_Cut.bd := Opens.struct (n := 3) Try.underlying67 (by kernel_rfl) (OpensF.cons (sz := 1) opn3 (fun _ => rfl) rfl (OpensF.cons (sz := 1) opn3 (fun _ => rfl) rfl (OpensF.cons (sz := 1) opn3 (fun _ => rfl) rfl (OpensF.nil _)))) (fun p => ⟨p.1, p.2.1, p.2.2.1⟩) (fun _ => rfl) (fun _ => rfl) (fun _ h => ⟨h.1, h.2.1, h.2.2.1, trivial⟩)
theorem opn22 : Opens prog 22 (encR 3 api_Cut.enc) (fun l => l.length * 24 ≤ reach ∧ ∀ x ∈ l, api_Cut.bd x) := Opens.slice (by kernel_rfl) opn67 (fun _ => rfl) (by kernel_rfl) (by kernel_rfl) (by decide)
theorem opn23 : Opens prog 23 (encR 1 (encI .i64)) (fun l => l.length * 8 ≤ reach ∧ ∀ x ∈ l, inK .i64 x) := Opens.slice (by kernel_rfl) opn3 (fun _ => rfl) (by kernel_rfl) (by kernel_rfl) (by decide)
theorem opn25 : Opens prog 25 api_Basket.enc api_Basket.bd := Opens.struct (n := 10) Try.underlying25 (by kernel_rfl) (OpensF.cons (sz := 1) opn3 (fun _ => rfl) rfl (OpensF.cons (sz := 1) opn3 (fun _ => rfl) rfl (OpensF.cons (sz := 1) opn9 (fun _ => rfl) rfl (OpensF.cons (sz := 1) opn3 (fun _ => rfl) rfl (OpensF.cons (sz := 1) opn3 (fun _ => rfl) rfl (OpensF.cons (sz := 1) opn3 (fun _ => rfl) rfl (OpensF.cons (sz := 1) opn22 (fun _ => rfl) rfl (OpensF.cons (sz := 1) opn3 (fun _ => rfl) rfl (OpensF.cons (sz := 1) opn3 (fun _ => rfl) rfl (OpensF.cons (sz := 1) opn23 (fun _ => rfl) rfl (OpensF.nil _))))))))))) (fun p => ⟨p.1, p.2.1, p.2.2.1, p.2.2.2.1, p.2.2.2.2.1, p.2.2.2.2.2.1, p.2.2.2.2.2.2.1, p.2.2.2.2.2.2.2.1, p.2.2.2.2.2.2.2.2.1, p.2.2.2.2.2.2.2.2.2.1⟩) (fun _ => rfl) (fun _ => rfl) (fun _ h => ⟨h.1, h.2.1, h.2.2.1, h.2.2.2.1, h.2.2.2.2.1, h.2.2.2.2.2.1, h.2.2.2.2.2.2.1, h.2.2.2.2.2.2.2.1, h.2.2.2.2.2.2.2.2.1, h.2.2.2.2.2.2.2.2.2.1, trivial⟩)
end RowMsgBaskets
end Go.Proofs.Ytbmokbkgielmmaa
namespace Go.Proofs.Ytbmokbkgielmmaa.msgBaskets
open Go.ChangeShapes Go.WideShapes Go.ChangeAt Go.RowKit
open Go Go.Pm Go.Proofs.Ytbmokbkgielmmaa.RowMsgBaskets
set_option linter.unusedVariables false
theorem own : ownKnob Try.prog.godebug = none := by kernel_rfl
theorem laidOut : laidOutB Try.prog = true := by kernel_rfl
set_option maxRecDepth 100000 in
theorem lifted (os : Os) (started : os.Started) (H : Type) (enc : TypeId × Value → H) :
    ReturnsInHanded {} Try.checked os 3 .any (Rows.msgBasketsSpec.pre6 enc Try.prog Try.f3 Rows.msgBasketsRow.domain false) (Rows.msgBasketsSpec.post enc Try.prog Try.f3 false true false false) := by
 refine returnsInHanded_of_change_sized (C := Try.checked) own started (by kernel_rfl) Try.func3
   (ChangeSpec.witness6 (enc := enc) (C := Try.checked) false ⟨#[], #[.agg #[.int .i64 0, .int .i64 0, .string (tx []), .int .i64 0, .int .i64 0, .int .i64 0, .slice none 0 0, .int .i64 0, .int .i64 0, .slice none 0 0]], []⟩ 8 (by kernel_rfl) (by kernel_rfl) (by kernel_rfl) (by kernel_rfl)) ?_
 intro W base args ds gs before hval0 hW hcnd hsz0 _
 have hsz : (DataW.weightsEach Try.prog (Try.f3.params.toList ++ Rows.msgBasketsSpec.plain.varTypes Try.prog) (ds ++ gs)).all (· ≤ reachBytes) = true := hsz0
 have hval : ∀ (j : Nat) t v, Try.f3.params[j]? = some t → args[j]? = some v → Value.okWide Try.prog W .any base t v := hval0
 have hW' := hW
 obtain ⟨p, q, hA0, hV, rfl, hfz, hnd⟩ := hW
 have hA : DataW.TrodAll enc Try.prog W 0 (fun _ => true) true Try.f3.params.toList args.toList ds p := hA0
 rw [Try.params3] at hA hval hsz
 obtain ⟨v0, vs0, d0, ds0, p0, q0, hargs, rfl, rfl, h0, r0⟩ := trodAll_cons hA
 obtain ⟨rfl, rfl, rfl⟩ := trodAll_nil r0
 obtain rfl : args = #[v0] := by cases args; simp_all
 obtain ⟨rfl, rfl⟩ := trodVars_none hV
 obtain ⟨x0, b0, R0⟩ := Opens.row opn25 Try.underlying25 (hval 0 25 v0 rfl rfl) h0 (weights_each hsz (j := 0) rfl rfl)
 have lt0 : ∀ x ∈ p0, x.block < W.heap.size := by obtain ⟨m, hm⟩ := h0; exact DataW.trod_lt m _ _ _ hm
 refine (Spec.truth (lombardlaw10_MsgBaskets.ok (Pure.MsgBaskets x0 b0)) (.cons _ _ _ _ [] [] R0 .nil)).mono fun e W' ⟨he, bel⟩ => ?_
 subst he
 exact ⟨_, rfl, _, _, _, [], _, [], hW', trodAll_mk1 (shut_bool Try.underlying4 _), (trodAll_cons_mk (Below.trod laidOut (by kernel_rfl) (of_decide_eq_true (by kernel_rfl)) h0 bel lt0) trodAll_mk0), rfl, bel.frame _, fun h => by cases h⟩
theorem over : Rows.msgBasketsRow.holds Try.pinned (OpenSpec.ofChange Rows.msgBasketsSpec) :=
  OpenClaim.holds_of_wide 3 Try.f3 rfl rfl rfl rfl rfl rfl rfl ⟨rfl, rfl, rfl, rfl, rfl⟩ rfl rfl rfl rfl rfl (by kernel_rfl) Try.func3 (by kernel_rfl)
    (of_decide_eq_true (by kernel_rfl)) (by unfold Func.isWrapper; first | (rw [if_pos (by decide +kernel)]; kernel_rfl) | (rw [if_neg (by decide +kernel)]; exact ⟨rfl, rfl⟩))
    (fun os started H enc _ => lifted os started H enc)
end Go.Proofs.Ytbmokbkgielmmaa.msgBaskets
namespace Go.Proofs.Ytbmokbkgielmmaa
/-- The row, under a short name, for the claim. -/
theorem msgBaskets_holds : Rows.MsgBasketsSaid := msgBaskets.over
#print axioms msgBaskets_holds
end Go.Proofs.Ytbmokbkgielmmaa
