/- Shows the row of the law HaircutTotals, out of what the functions come to and the plain statement. -/
import Derived.Test.YtdcpdnfalnelkaaRows
import Derived.Test.YtdcpdnfalnelkaaGx10
import Derived.Test.YtdcpdnfalnelkaaPureHaircutTotals
import Derived.Test.YtdcpdnfalnelkaaPmS
import Derived.WalkKit
import Derived.ProofKit
import Derived.OpenShut
import Derived.ShutString
import Derived.ChangeOld
import Derived.Below
import Derived.SizedLaws
namespace Go.Proofs.Ytdcpdnfalnelkaa
open Go Go.Pm
set_option linter.unusedVariables false
namespace RowHaircutTotals
theorem opn9 : Opens prog 9 encS (fun s => s.length ≤ reach) := Opens.str (by kernel_rfl)
theorem opn3 : Opens prog 3 (encI .i64) (inK .i64) := Opens.int (by kernel_rfl)
theorem opn46 : Opens prog 46 api_Lot.enc api_Lot.bd := Opens.struct (n := 2) Try.underlying46 (by kernel_rfl) (OpensF.cons (sz := 1) opn9 (fun _ => rfl) rfl (OpensF.cons (sz := 1) opn3 (fun _ => rfl) rfl (OpensF.nil _))) (fun p => ⟨p.1, p.2.1⟩) (fun _ => rfl) (fun _ => rfl) (fun _ h => ⟨h.1, h.2.1, trivial⟩)
theorem opn38 : Opens prog 38 api_Asset.enc api_Asset.bd := Opens.struct (n := 5) Try.underlying38 (by kernel_rfl) (OpensF.cons (sz := 1) opn9 (fun _ => rfl) rfl (OpensF.cons (sz := 1) opn3 (fun _ => rfl) rfl (OpensF.cons (sz := 1) opn3 (fun _ => rfl) rfl (OpensF.cons (sz := 1) opn3 (fun _ => rfl) rfl (OpensF.cons (sz := 1) opn9 (fun _ => rfl) rfl (OpensF.nil _)))))) (fun p => ⟨p.1, p.2.1, p.2.2.1, p.2.2.2.1, p.2.2.2.2.1⟩) (fun _ => rfl) (fun _ => rfl) (fun _ h => ⟨h.1, h.2.1, h.2.2.1, h.2.2.2.1, h.2.2.2.2.1, trivial⟩)
theorem opn50 : Opens prog 50 lombardref15_Item.enc lombardref15_Item.bd := Opens.struct (n := 9) Try.underlying50 (by kernel_rfl) (OpensF.cons (sz := 2) opn46 (fun _ => rfl) rfl (OpensF.cons (sz := 5) opn38 (fun _ => rfl) rfl (OpensF.cons (sz := 1) opn3 (fun _ => rfl) rfl (OpensF.cons (sz := 1) opn3 (fun _ => rfl) rfl (OpensF.nil _))))) (fun p => ⟨p.1, p.2.1, p.2.2.1, p.2.2.2.1⟩) (fun _ => rfl) (fun _ => rfl) (fun _ h => ⟨h.1, h.2.1, h.2.2.1, h.2.2.2.1, trivial⟩)
theorem opn42 : Opens prog 42 (encR 9 lombardref15_Item.enc) (fun l => l.length * 96 ≤ reach ∧ ∀ x ∈ l, lombardref15_Item.bd x) := Opens.slice (by kernel_rfl) opn50 (fun _ => rfl) (by kernel_rfl) (by kernel_rfl) (by decide)
end RowHaircutTotals
end Go.Proofs.Ytdcpdnfalnelkaa
namespace Go.Proofs.Ytdcpdnfalnelkaa.haircutTotals
open Go.ChangeShapes Go.WideShapes Go.ChangeAt Go.RowKit
open Go Go.Pm Go.Proofs.Ytdcpdnfalnelkaa.RowHaircutTotals
set_option linter.unusedVariables false
theorem own : ownKnob Try.prog.godebug = none := by kernel_rfl
theorem laidOut : laidOutB Try.prog = true := by kernel_rfl
set_option maxRecDepth 100000 in
theorem lifted (os : Os) (started : os.Started) (H : Type) (enc : TypeId × Value → H) :
    ReturnsInHanded {} Try.checked os 7 .any (Rows.haircutTotalsSpec.pre6 enc Try.prog Try.f7 Rows.haircutTotalsRow.domain false) (Rows.haircutTotalsSpec.post enc Try.prog Try.f7 false true false false) := by
  refine returnsInHanded_of_change_sized (C := Try.checked) own started (by kernel_rfl) Try.func7
    (ChangeSpec.witness6 (enc := enc) (C := Try.checked) false ⟨#[], #[.slice none 0 0, .int .i64 0], []⟩ 8 (by kernel_rfl) (by kernel_rfl) (by kernel_rfl) (by kernel_rfl)) ?_
  intro W base args ds gs before hval0 hW hcnd hsz0 _
  have hsz : (DataW.weightsEach Try.prog (Try.f7.params.toList ++ Rows.haircutTotalsSpec.plain.varTypes Try.prog) (ds ++ gs)).all (· ≤ reachBytes) = true := hsz0
  have hval : ∀ (j : Nat) t v, Try.f7.params[j]? = some t → args[j]? = some v → Value.okWide Try.prog W .any base t v := hval0
  have hW' := hW
  obtain ⟨p, q, hA0, hV, rfl, hfz, hnd⟩ := hW
  have hA : DataW.TrodAll enc Try.prog W 0 (fun _ => true) true Try.f7.params.toList args.toList ds p := hA0
  rw [Try.params7] at hA hval hsz
  obtain ⟨v0, vs0, d0, ds0, p0, q0, hargs, rfl, rfl, h0, r0⟩ := trodAll_cons hA
  obtain ⟨v1, vs1, d1, ds1, p1, q1, rfl, rfl, rfl, h1, r1⟩ := trodAll_cons r0
  obtain ⟨rfl, rfl, rfl⟩ := trodAll_nil r1
  obtain rfl : args = #[v0, v1] := by cases args; simp_all
  obtain ⟨rfl, rfl⟩ := trodVars_none hV
  obtain ⟨x0, b0, R0⟩ := Opens.one opn42 (fun _ => rfl) (notAgg_slice Try.underlying42 (hval 0 42 v0 rfl rfl)) h0 (weights_each hsz (j := 0) rfl rfl)
  have lt0 : ∀ x ∈ p0, x.block < W.heap.size := by obtain ⟨m, hm⟩ := h0; exact DataW.trod_lt m _ _ _ hm
  obtain ⟨x1, b1, R1⟩ := Opens.one opn3 (fun _ => rfl) (notAgg_int Try.underlying3 (hval 1 3 v1 rfl rfl)) h1 (weights_each hsz (j := 1) rfl rfl)
  have lt1 : ∀ x ∈ p1, x.block < W.heap.size := by obtain ⟨m, hm⟩ := h1; exact DataW.trod_lt m _ _ _ hm
  refine (Spec.truth (lombardlaw15_HaircutTotals.ok (Pure.HaircutTotals x0 x1 b0 b1)) (.cons _ _ _ _ [] [] R0 (.cons _ _ _ _ [] [] R1 .nil))).mono fun e W' ⟨he, bel⟩ => ?_
  subst he
  exact ⟨_, rfl, _, _, _, [], _, [], hW', trodAll_mk1 (shut_bool Try.underlying4 _), (trodAll_cons_mk (Below.trod laidOut (by kernel_rfl) (of_decide_eq_true (by kernel_rfl)) h0 bel lt0) (trodAll_cons_mk (Below.trod laidOut (by kernel_rfl) (of_decide_eq_true (by kernel_rfl)) h1 bel lt1) trodAll_mk0)), rfl, bel.frame _, fun h => by cases h⟩
theorem over : Rows.haircutTotalsRow.holds Try.pinned (OpenSpec.ofChange Rows.haircutTotalsSpec) :=
  OpenClaim.holds_of_wide 7 Try.f7 rfl rfl rfl rfl rfl rfl rfl ⟨rfl, rfl, rfl, rfl, rfl⟩ rfl rfl rfl rfl rfl (by kernel_rfl) Try.func7 (by kernel_rfl)
    (of_decide_eq_true (by kernel_rfl)) (by unfold Func.isWrapper; first | (rw [if_pos (by decide +kernel)]; kernel_rfl) | (rw [if_neg (by decide +kernel)]; exact ⟨rfl, rfl⟩))
    (fun os started H enc _ => lifted os started H enc)
end Go.Proofs.Ytdcpdnfalnelkaa.haircutTotals
namespace Go.Proofs.Ytdcpdnfalnelkaa
/-- The row, under a short name, for the claim. -/
theorem haircutTotals_holds : Rows.HaircutTotalsSaid := haircutTotals.over
#print axioms haircutTotals_holds
end Go.Proofs.Ytdcpdnfalnelkaa
