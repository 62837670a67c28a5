/- Shows the row of the law AssetPlays, out of what the functions come to and the plain statement. -/
import Derived.Test.YtkcjlpiaaklnkaaRows
import Derived.Test.YtkcjlpiaaklnkaaGx13
import Derived.Test.YtkcjlpiaaklnkaaPureAssetPlays
import Derived.Test.YtkcjlpiaaklnkaaPmS
import Derived.WalkKit
import Derived.ProofKit
import Derived.OpenShut
import Derived.ShutString
import Derived.ChangeOld
import Derived.Below
import Derived.SizedLaws
namespace Go.Proofs.Ytkcjlpiaaklnkaa
open Go Go.Pm
set_option linter.unusedVariables false
namespace RowAssetPlays
theorem opn3 : Opens prog 3 (encI .i64) (inK .i64) := Opens.int (by kernel_rfl)
theorem opn9 : Opens prog 9 encS (fun s => s.length ≤ reach) := Opens.str (by kernel_rfl)
theorem opn29 : Opens prog 29 api_Asset.enc api_Asset.bd := Opens.struct (n := 5) Try.underlying29 (by kernel_rfl) (OpensF.cons (sz := 1) opn9 (fun _ => rfl) rfl (OpensF.cons (sz := 1) opn3 (fun _ => rfl) rfl (OpensF.cons (sz := 1) opn3 (fun _ => rfl) rfl (OpensF.cons (sz := 1) opn3 (fun _ => rfl) rfl (OpensF.cons (sz := 1) opn9 (fun _ => rfl) rfl (OpensF.nil _)))))) (fun p => ⟨p.1, p.2.1, p.2.2.1, p.2.2.2.1, p.2.2.2.2.1⟩) (fun _ => rfl) (fun _ => rfl) (fun _ h => ⟨h.1, h.2.1, h.2.2.1, h.2.2.2.1, h.2.2.2.2.1, trivial⟩)
theorem opn82 : Opens prog 82 api_Price.enc api_Price.bd := Opens.struct (n := 2) Try.underlying82 (by kernel_rfl) (OpensF.cons (sz := 1) opn9 (fun _ => rfl) rfl (OpensF.cons (sz := 1) opn3 (fun _ => rfl) rfl (OpensF.nil _))) (fun p => ⟨p.1, p.2.1⟩) (fun _ => rfl) (fun _ => rfl) (fun _ h => ⟨h.1, h.2.1, trivial⟩)
theorem opn49 : Opens prog 49 (encR 2 api_Price.enc) (fun l => l.length * 24 ≤ reach ∧ ∀ x ∈ l, api_Price.bd x) := Opens.slice (by kernel_rfl) opn82 (fun _ => rfl) (by kernel_rfl) (by kernel_rfl) (by decide)
theorem opn51 : Opens prog 51 lombardlaw13_Act.enc lombardlaw13_Act.bd := Opens.struct (n := 7) Try.underlying51 (by kernel_rfl) (OpensF.cons (sz := 1) opn3 (fun _ => rfl) rfl (OpensF.cons (sz := 5) opn29 (fun _ => rfl) rfl (OpensF.cons (sz := 1) opn49 (fun _ => rfl) rfl (OpensF.nil _)))) (fun p => ⟨p.1, p.2.1, p.2.2.1⟩) (fun _ => rfl) (fun _ => rfl) (fun _ h => ⟨h.1, h.2.1, h.2.2.1, trivial⟩)
theorem opn27 : Opens prog 27 (encR 7 lombardlaw13_Act.enc) (fun l => l.length * 88 ≤ reach ∧ ∀ x ∈ l, lombardlaw13_Act.bd x) := Opens.slice (by kernel_rfl) opn51 (fun _ => rfl) (by kernel_rfl) (by kernel_rfl) (by decide)
end RowAssetPlays
end Go.Proofs.Ytkcjlpiaaklnkaa
namespace Go.Proofs.Ytkcjlpiaaklnkaa.assetPlays
open Go.ChangeShapes Go.WideShapes Go.ChangeAt Go.RowKit
open Go Go.Pm Go.Proofs.Ytkcjlpiaaklnkaa.RowAssetPlays
set_option linter.unusedVariables false
theorem own : ownKnob Try.prog.godebug = none := by kernel_rfl
theorem laidOut : laidOutB Try.prog = true := by kernel_rfl
set_option maxRecDepth 100000 in
theorem lifted (os : Os) (started : os.Started) (H : Type) (enc : TypeId × Value → H) :
    ReturnsInHanded {} Try.checked os 6 .any (Rows.assetPlaysSpec.pre6 enc Try.prog Try.f6 Rows.assetPlaysRow.domain false) (Rows.assetPlaysSpec.post enc Try.prog Try.f6 false true false false) := by
 refine returnsInHanded_of_change_sized (C := Try.checked) own started (by kernel_rfl) Try.func6
   (ChangeSpec.witness6 (enc := enc) (C := Try.checked) false ⟨#[], #[.slice none 0 0], []⟩ 8 (by kernel_rfl) (by kernel_rfl) (by kernel_rfl) (by kernel_rfl)) ?_
 intro W base args ds gs before hval0 hW hcnd hsz0 _
 have hsz : (DataW.weightsEach Try.prog (Try.f6.params.toList ++ Rows.assetPlaysSpec.plain.varTypes Try.prog) (ds ++ gs)).all (· ≤ reachBytes) = true := hsz0
 have hval : ∀ (j : Nat) t v, Try.f6.params[j]? = some t → args[j]? = some v → Value.okWide Try.prog W .any base t v := hval0
 have hW' := hW
 obtain ⟨p, q, hA0, hV, rfl, hfz, hnd⟩ := hW
 have hA : DataW.TrodAll enc Try.prog W 0 (fun _ => true) true Try.f6.params.toList args.toList ds p := hA0
 rw [Try.params6] at hA hval hsz
 obtain ⟨v0, vs0, d0, ds0, p0, q0, hargs, rfl, rfl, h0, r0⟩ := trodAll_cons hA
 obtain ⟨rfl, rfl, rfl⟩ := trodAll_nil r0
 obtain rfl : args = #[v0] := by cases args; simp_all
 obtain ⟨rfl, rfl⟩ := trodVars_none hV
 obtain ⟨x0, b0, R0⟩ := Opens.one opn27 (fun _ => rfl) (notAgg_slice Try.underlying27 (hval 0 27 v0 rfl rfl)) h0 (weights_each hsz (j := 0) rfl rfl)
 have lt0 : ∀ x ∈ p0, x.block < W.heap.size := by obtain ⟨m, hm⟩ := h0; exact DataW.trod_lt m _ _ _ hm
 refine (Spec.truth (lombardlaw13_AssetPlays.ok (Pure.AssetPlays x0 b0)) (.cons _ _ _ _ [] [] R0 .nil)).mono fun e W' ⟨he, bel⟩ => ?_
 subst he
 exact ⟨_, rfl, _, _, _, [], _, [], hW', trodAll_mk1 (shut_bool Try.underlying4 _), (trodAll_cons_mk (Below.trod laidOut (by kernel_rfl) (of_decide_eq_true (by kernel_rfl)) h0 bel lt0) trodAll_mk0), rfl, bel.frame _, fun h => by cases h⟩
theorem over : Rows.assetPlaysRow.holds Try.pinned (OpenSpec.ofChange Rows.assetPlaysSpec) :=
  OpenClaim.holds_of_wide 6 Try.f6 rfl rfl rfl rfl rfl rfl rfl ⟨rfl, rfl, rfl, rfl, rfl⟩ rfl rfl rfl rfl rfl (by kernel_rfl) Try.func6 (by kernel_rfl)
    (of_decide_eq_true (by kernel_rfl)) (by unfold Func.isWrapper; first | (rw [if_pos (by decide +kernel)]; kernel_rfl) | (rw [if_neg (by decide +kernel)]; exact ⟨rfl, rfl⟩))
    (fun os started H enc _ => lifted os started H enc)
end Go.Proofs.Ytkcjlpiaaklnkaa.assetPlays
namespace Go.Proofs.Ytkcjlpiaaklnkaa
/-- The row, under a short name, for the claim. -/
theorem assetPlays_holds : Rows.AssetPlaysSaid := assetPlays.over
#print axioms assetPlays_holds
end Go.Proofs.Ytkcjlpiaaklnkaa
