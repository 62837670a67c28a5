/- Shows the row of the law AuthLoads, out of what the functions come to and the plain statement. -/
import Derived.Test.YtjdkibnhlmgppaaGreatRows
import Derived.Test.YtjdkibnhlmgppaaGreatGx4
import Derived.Test.YtjdkibnhlmgppaaGreatPureAuthLoads
import Derived.Test.YtjdkibnhlmgppaaGreatPmS
import Derived.WalkKit
import Derived.ProofKit
import Derived.OpenShut
import Derived.ShutString
import Derived.ChangeOld
import Derived.Below
import Derived.SizedLaws
namespace Go.Proofs.YtjdkibnhlmgppaaGreat
open Go Go.Pm
set_option linter.unusedVariables false
namespace RowAuthLoads
theorem opn3 : Opens prog 3 (encI .i64) (inK .i64) := Opens.int (by kernel_rfl)
theorem opn9 : Opens prog 9 encS (fun s => s.length ≤ reach) := Opens.str (by kernel_rfl)
theorem opn4 : Opens prog 4 encBo (fun _ => True) := Opens.bool (by kernel_rfl)
theorem opn31 : Opens prog 31 lombardref30_Member.enc lombardref30_Member.bd := Opens.struct (n := 5) Tryz.underlying31 (by kernel_rfl) (OpensF.cons (sz := 1) opn3 (fun _ => rfl) rfl (OpensF.cons (sz := 1) opn9 (fun _ => rfl) rfl (OpensF.cons (sz := 1) opn3 (fun _ => rfl) rfl (OpensF.cons (sz := 1) opn3 (fun _ => rfl) rfl (OpensF.cons (sz := 1) opn4 (fun _ => rfl) rfl (OpensF.nil _)))))) (fun p => ⟨p.1, p.2.1, p.2.2.1, p.2.2.2.1, p.2.2.2.2.1⟩) (fun _ => rfl) (fun _ => rfl) (fun _ h => ⟨h.1, h.2.1, h.2.2.1, h.2.2.2.1, h.2.2.2.2.1, trivial⟩)
theorem opn24 : Opens prog 24 (encR 5 lombardref30_Member.enc) (fun l => l.length * 48 ≤ reach ∧ ∀ x ∈ l, lombardref30_Member.bd x) := Opens.slice (by kernel_rfl) opn31 (fun _ => rfl) (by kernel_rfl) (by kernel_rfl) (by decide)
end RowAuthLoads
end Go.Proofs.YtjdkibnhlmgppaaGreat
namespace Go.Proofs.YtjdkibnhlmgppaaGreat.authLoads
open Go.ChangeShapes Go.WideShapes Go.ChangeAt Go.RowKit
open Go Go.Pm Go.Proofs.YtjdkibnhlmgppaaGreat.RowAuthLoads
set_option linter.unusedVariables false
theorem own : ownKnob Tryz.prog.godebug = none := by kernel_rfl
theorem laidOut : laidOutB Tryz.prog = true := by kernel_rfl
set_option maxRecDepth 100000 in
theorem lifted (os : Os) (started : os.Started) (H : Type) (enc : TypeId × Value → H) :
    ReturnsInHanded {} Tryz.checked os 4 .any (Rows.authLoadsSpec.pre6 enc Tryz.prog Tryz.f4 Rows.authLoadsRow.domain false) (Rows.authLoadsSpec.post enc Tryz.prog Tryz.f4 false true false false) := by
 refine returnsInHanded_of_change_sized (C := Tryz.checked) own started (by kernel_rfl) Tryz.func4
   (ChangeSpec.witness6 (enc := enc) (C := Tryz.checked) false ⟨#[], #[.slice none 0 0], []⟩ 8 (by kernel_rfl) (by kernel_rfl) (by kernel_rfl) (by kernel_rfl)) ?_
 intro W base args ds gs before hval0 hW hcnd hsz0 _
 have hsz : (DataW.weightsEach Tryz.prog (Tryz.f4.params.toList ++ Rows.authLoadsSpec.plain.varTypes Tryz.prog) (ds ++ gs)).all (· ≤ reachBytes) = true := hsz0
 have hval : ∀ (j : Nat) t v, Tryz.f4.params[j]? = some t → args[j]? = some v → Value.okWide Tryz.prog W .any base t v := hval0
 have hW' := hW
 obtain ⟨p, q, hA0, hV, rfl, hfz, hnd⟩ := hW
 have hA : DataW.TrodAll enc Tryz.prog W 0 (fun _ => true) true Tryz.f4.params.toList args.toList ds p := hA0
 rw [Tryz.params4] at hA hval hsz
 obtain ⟨v0, vs0, d0, ds0, p0, q0, hargs, rfl, rfl, h0, r0⟩ := trodAll_cons hA
 obtain ⟨rfl, rfl, rfl⟩ := trodAll_nil r0
 obtain rfl : args = #[v0] := by cases args; simp_all
 obtain ⟨rfl, rfl⟩ := trodVars_none hV
 obtain ⟨x0, b0, R0⟩ := Opens.one opn24 (fun _ => rfl) (notAgg_slice Tryz.underlying24 (hval 0 24 v0 rfl rfl)) h0 (weights_each hsz (j := 0) rfl rfl)
 have lt0 : ∀ x ∈ p0, x.block < W.heap.size := by obtain ⟨m, hm⟩ := h0; exact DataW.trod_lt m _ _ _ hm
 refine (Spec.truth (lombardlaw30_AuthLoads.ok (Pure.AuthLoads x0 b0)) (.cons _ _ _ _ [] [] R0 .nil)).mono fun e W' ⟨he, bel⟩ => ?_
 subst he
 exact ⟨_, rfl, _, _, _, [], _, [], hW', trodAll_mk1 (shut_bool Tryz.underlying4 _), (trodAll_cons_mk (Below.trod laidOut (by kernel_rfl) (of_decide_eq_true (by kernel_rfl)) h0 bel lt0) trodAll_mk0), rfl, bel.frame _, fun h => by cases h⟩
theorem over : Rows.authLoadsRow.holds Tryz.pinned (OpenSpec.ofChange Rows.authLoadsSpec) :=
  OpenClaim.holds_of_wide 4 Tryz.f4 rfl rfl rfl rfl rfl rfl rfl ⟨rfl, rfl, rfl, rfl, rfl⟩ rfl rfl rfl rfl rfl (by kernel_rfl) Tryz.func4 (by kernel_rfl)
    (of_decide_eq_true (by kernel_rfl)) (by unfold Func.isWrapper; first | (rw [if_pos (by decide +kernel)]; kernel_rfl) | (rw [if_neg (by decide +kernel)]; exact ⟨rfl, rfl⟩))
    (fun os started H enc _ => lifted os started H enc)
end Go.Proofs.YtjdkibnhlmgppaaGreat.authLoads
namespace Go.Proofs.YtjdkibnhlmgppaaGreat
/-- The row, under a short name, for the claim. -/
theorem authLoads_holds : Rows.AuthLoadsSaid := authLoads.over
#print axioms authLoads_holds
end Go.Proofs.YtjdkibnhlmgppaaGreat
