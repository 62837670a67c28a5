/- Shows the row of the law HaircutCovers, out of what the functions come to and the plain statement. -/
import Derived.Test.YtdcpdnfalnelkaaRows
import Derived.Test.YtdcpdnfalnelkaaGx10
import Derived.Test.YtdcpdnfalnelkaaPureHaircutCovers
import Derived.Test.YtdcpdnfalnelkaaPmS
import Derived.WalkKit
import Derived.ProofKit
import Derived.OpenShut
import Derived.ShutString
import Derived.ChangeOld
import Derived.Below
import Derived.SizedLaws
namespace Go.Proofs.Ytdcpdnfalnelkaa
open Go Go.Pm
set_option linter.unusedVariables false
namespace RowHaircutCovers
theorem opn3 : Opens prog 3 (encI .i64) (inK .i64) := Opens.int (by kernel_rfl)
end RowHaircutCovers
end Go.Proofs.Ytdcpdnfalnelkaa
namespace Go.Proofs.Ytdcpdnfalnelkaa.haircutCovers
open Go.ChangeShapes Go.WideShapes Go.ChangeAt Go.RowKit
open Go Go.Pm Go.Proofs.Ytdcpdnfalnelkaa.RowHaircutCovers
set_option linter.unusedVariables false
theorem own : ownKnob Try.prog.godebug = none := by kernel_rfl
theorem laidOut : laidOutB Try.prog = true := by kernel_rfl
set_option maxRecDepth 100000 in
theorem lifted (os : Os) (started : os.Started) (H : Type) (enc : TypeId × Value → H) :
    ReturnsInHanded {} Try.checked os 4 .any (Rows.haircutCoversSpec.pre6 enc Try.prog Try.f4 Rows.haircutCoversRow.domain false) (Rows.haircutCoversSpec.post enc Try.prog Try.f4 false true false false) := by
  refine returnsInHanded_of_change_sized (C := Try.checked) own started (by kernel_rfl) Try.func4
    (ChangeSpec.witness6 (enc := enc) (C := Try.checked) false ⟨#[], #[.int .i64 0, .int .i64 0, .int .i64 0, .int .i64 0], []⟩ 8 (by kernel_rfl) (by kernel_rfl) (by kernel_rfl) (by kernel_rfl)) ?_
  intro W base args ds gs before hval0 hW hcnd hsz0 _
  have hsz : (DataW.weightsEach Try.prog (Try.f4.params.toList ++ Rows.haircutCoversSpec.plain.varTypes Try.prog) (ds ++ gs)).all (· ≤ reachBytes) = true := hsz0
  have hval : ∀ (j : Nat) t v, Try.f4.params[j]? = some t → args[j]? = some v → Value.okWide Try.prog W .any base t v := hval0
  have hW' := hW
  obtain ⟨p, q, hA0, hV, rfl, hfz, hnd⟩ := hW
  have hA : DataW.TrodAll enc Try.prog W 0 (fun _ => true) true Try.f4.params.toList args.toList ds p := hA0
  rw [Try.params4] at hA hval hsz
  obtain ⟨v0, vs0, d0, ds0, p0, q0, hargs, rfl, rfl, h0, r0⟩ := trodAll_cons hA
  obtain ⟨v1, vs1, d1, ds1, p1, q1, rfl, rfl, rfl, h1, r1⟩ := trodAll_cons r0
  obtain ⟨v2, vs2, d2, ds2, p2, q2, rfl, rfl, rfl, h2, r2⟩ := trodAll_cons r1
  obtain ⟨v3, vs3, d3, ds3, p3, q3, rfl, rfl, rfl, h3, r3⟩ := trodAll_cons r2
  obtain ⟨rfl, rfl, rfl⟩ := trodAll_nil r3
  obtain rfl : args = #[v0, v1, v2, v3] := by cases args; simp_all
  obtain ⟨rfl, rfl⟩ := trodVars_none hV
  obtain ⟨x0, b0, R0⟩ := Opens.one opn3 (fun _ => rfl) (notAgg_int Try.underlying3 (hval 0 3 v0 rfl rfl)) h0 (weights_each hsz (j := 0) rfl rfl)
  have lt0 : ∀ x ∈ p0, x.block < W.heap.size := by obtain ⟨m, hm⟩ := h0; exact DataW.trod_lt m _ _ _ hm
  obtain ⟨x1, b1, R1⟩ := Opens.one opn3 (fun _ => rfl) (notAgg_int Try.underlying3 (hval 1 3 v1 rfl rfl)) h1 (weights_each hsz (j := 1) rfl rfl)
  have lt1 : ∀ x ∈ p1, x.block < W.heap.size := by obtain ⟨m, hm⟩ := h1; exact DataW.trod_lt m _ _ _ hm
  obtain ⟨x2, b2, R2⟩ := Opens.one opn3 (fun _ => rfl) (notAgg_int Try.underlying3 (hval 2 3 v2 rfl rfl)) h2 (weights_each hsz (j := 2) rfl rfl)
  have lt2 : ∀ x ∈ p2, x.block < W.heap.size := by obtain ⟨m, hm⟩ := h2; exact DataW.trod_lt m _ _ _ hm
  obtain ⟨x3, b3, R3⟩ := Opens.one opn3 (fun _ => rfl) (notAgg_int Try.underlying3 (hval 3 3 v3 rfl rfl)) h3 (weights_each hsz (j := 3) rfl rfl)
  have lt3 : ∀ x ∈ p3, x.block < W.heap.size := by obtain ⟨m, hm⟩ := h3; exact DataW.trod_lt m _ _ _ hm
  refine (Spec.truth (lombardlaw15_HaircutCovers.ok (Pure.HaircutCovers x0 x1 x2 x3 b0 b1 b2 b3)) (.cons _ _ _ _ [] [] R0 (.cons _ _ _ _ [] [] R1 (.cons _ _ _ _ [] [] R2 (.cons _ _ _ _ [] [] R3 .nil))))).mono fun e W' ⟨he, bel⟩ => ?_
  subst he
  exact ⟨_, rfl, _, _, _, [], _, [], hW', trodAll_mk1 (shut_bool Try.underlying4 _), (trodAll_cons_mk (Below.trod laidOut (by kernel_rfl) (of_decide_eq_true (by kernel_rfl)) h0 bel lt0) (trodAll_cons_mk (Below.trod laidOut (by kernel_rfl) (of_decide_eq_true (by kernel_rfl)) h1 bel lt1) (trodAll_cons_mk (Below.trod laidOut (by kernel_rfl) (of_decide_eq_true (by kernel_rfl)) h2 bel lt2) (trodAll_cons_mk (Below.trod laidOut (by kernel_rfl) (of_decide_eq_true (by kernel_rfl)) h3 bel lt3) trodAll_mk0)))), rfl, bel.frame _, fun h => by cases h⟩
theorem over : Rows.haircutCoversRow.holds Try.pinned (OpenSpec.ofChange Rows.haircutCoversSpec) :=
  OpenClaim.holds_of_wide 4 Try.f4 rfl rfl rfl rfl rfl rfl rfl ⟨rfl, rfl, rfl, rfl, rfl⟩ rfl rfl rfl rfl rfl (by kernel_rfl) Try.func4 (by kernel_rfl)
    (of_decide_eq_true (by kernel_rfl)) (by unfold Func.isWrapper; first | (rw [if_pos (by decide +kernel)]; kernel_rfl) | (rw [if_neg (by decide +kernel)]; exact ⟨rfl, rfl⟩))
    (fun os started H enc _ => lifted os started H enc)
end Go.Proofs.Ytdcpdnfalnelkaa.haircutCovers
namespace Go.Proofs.Ytdcpdnfalnelkaa
/-- The row, under a short name, for the claim. -/
theorem haircutCovers_holds : Rows.HaircutCoversSaid := haircutCovers.over
#print axioms haircutCovers_holds
end Go.Proofs.Ytdcpdnfalnelkaa
