/- Shows the row of the law AuthNobody, out of what the functions come to and the plain statement. -/
import Derived.Test.YtjdkibnhlmgppaaRows
import Derived.Test.YtjdkibnhlmgppaaGx2
import Derived.Test.YtjdkibnhlmgppaaPureAuthNobody
import Derived.Test.YtjdkibnhlmgppaaPmS
import Derived.WalkKit
import Derived.ProofKit
import Derived.OpenShut
import Derived.ShutString
import Derived.ChangeOld
import Derived.Below
import Derived.SizedLaws
namespace Go.Proofs.Ytjdkibnhlmgppaa
open Go Go.Pm
set_option linter.unusedVariables false
namespace RowAuthNobody
theorem opn3 : Opens prog 3 (encI .i64) (inK .i64) := Opens.int (by kernel_rfl)
theorem opn9 : Opens prog 9 encS (fun s => s.length ≤ reach) := Opens.str (by kernel_rfl)
end RowAuthNobody
end Go.Proofs.Ytjdkibnhlmgppaa
namespace Go.Proofs.Ytjdkibnhlmgppaa.authNobody
open Go.ChangeShapes Go.WideShapes Go.ChangeAt Go.RowKit
open Go Go.Pm Go.Proofs.Ytjdkibnhlmgppaa.RowAuthNobody
set_option linter.unusedVariables false
theorem own : ownKnob Try.prog.godebug = none := by kernel_rfl
theorem laidOut : laidOutB Try.prog = true := by kernel_rfl
set_option maxRecDepth 100000 in
theorem lifted (os : Os) (started : os.Started) (H : Type) (enc : TypeId × Value → H) :
    ReturnsInHanded {} Try.checked os 3 .any (Rows.authNobodySpec.pre6 enc Try.prog Try.f3 Rows.authNobodyRow.domain false) (Rows.authNobodySpec.post enc Try.prog Try.f3 false true false false) := by
 refine returnsInHanded_of_change_sized (C := Try.checked) own started (by kernel_rfl) Try.func3
   (ChangeSpec.witness6 (enc := enc) (C := Try.checked) false ⟨#[], #[.int .i64 0, .string (tx [])], []⟩ 8 (by kernel_rfl) (by kernel_rfl) (by kernel_rfl) (by kernel_rfl)) ?_
 intro W base args ds gs before hval0 hW hcnd hsz0 _
 have hsz : (DataW.weightsEach Try.prog (Try.f3.params.toList ++ Rows.authNobodySpec.plain.varTypes Try.prog) (ds ++ gs)).all (· ≤ reachBytes) = true := hsz0
 have hval : ∀ (j : Nat) t v, Try.f3.params[j]? = some t → args[j]? = some v → Value.okWide Try.prog W .any base t v := hval0
 have hW' := hW
 obtain ⟨p, q, hA0, hV, rfl, hfz, hnd⟩ := hW
 have hA : DataW.TrodAll enc Try.prog W 0 (fun _ => true) true Try.f3.params.toList args.toList ds p := hA0
 rw [Try.params3] at hA hval hsz
 obtain ⟨v0, vs0, d0, ds0, p0, q0, hargs, rfl, rfl, h0, r0⟩ := trodAll_cons hA
 obtain ⟨v1, vs1, d1, ds1, p1, q1, rfl, rfl, rfl, h1, r1⟩ := trodAll_cons r0
 obtain ⟨rfl, rfl, rfl⟩ := trodAll_nil r1
 obtain rfl : args = #[v0, v1] := by cases args; simp_all
 obtain ⟨rfl, rfl⟩ := trodVars_none hV
 obtain ⟨x0, b0, R0⟩ := Opens.one opn3 (fun _ => rfl) (notAgg_int Try.underlying3 (hval 0 3 v0 rfl rfl)) h0 (weights_each hsz (j := 0) rfl rfl)
 have lt0 : ∀ x ∈ p0, x.block < W.heap.size := by obtain ⟨m, hm⟩ := h0; exact DataW.trod_lt m _ _ _ hm
 obtain ⟨x1, b1, R1⟩ := Opens.one opn9 (fun _ => rfl) (notAgg_string Try.underlying9 (hval 1 9 v1 rfl rfl)) h1 (weights_each hsz (j := 1) rfl rfl)
 have lt1 : ∀ x ∈ p1, x.block < W.heap.size := by obtain ⟨m, hm⟩ := h1; exact DataW.trod_lt m _ _ _ hm
 refine (Spec.truth (lombardlaw30_AuthNobody.ok (Pure.AuthNobody x0 x1 b0 b1)) (.cons _ _ _ _ [] [] R0 (.cons _ _ _ _ [] [] R1 .nil))).mono fun e W' ⟨he, bel⟩ => ?_
 subst he
 exact ⟨_, rfl, _, _, _, [], _, [], hW', trodAll_mk1 (shut_bool Try.underlying4 _), (trodAll_cons_mk (Below.trod laidOut (by kernel_rfl) (of_decide_eq_true (by kernel_rfl)) h0 bel lt0) (trodAll_cons_mk (Below.trod laidOut (by kernel_rfl) (of_decide_eq_true (by kernel_rfl)) h1 bel lt1) trodAll_mk0)), rfl, bel.frame _, fun h => by cases h⟩
theorem over : Rows.authNobodyRow.holds Try.pinned (OpenSpec.ofChange Rows.authNobodySpec) :=
  OpenClaim.holds_of_wide 3 Try.f3 rfl rfl rfl rfl rfl rfl rfl ⟨rfl, rfl, rfl, rfl, rfl⟩ rfl rfl rfl rfl rfl (by kernel_rfl) Try.func3 (by kernel_rfl)
    (of_decide_eq_true (by kernel_rfl)) (by unfold Func.isWrapper; first | (rw [if_pos (by decide +kernel)]; kernel_rfl) | (rw [if_neg (by decide +kernel)]; exact ⟨rfl, rfl⟩))
    (fun os started H enc _ => lifted os started H enc)
end Go.Proofs.Ytjdkibnhlmgppaa.authNobody
namespace Go.Proofs.Ytjdkibnhlmgppaa
/-- The row, under a short name, for the claim. -/
theorem authNobody_holds : Rows.AuthNobodySaid := authNobody.over
#print axioms authNobody_holds
end Go.Proofs.Ytjdkibnhlmgppaa
