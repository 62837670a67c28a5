/- Shows the row of the law HaircutFinds, out of what the functions come to and the plain statement. -/
import Derived.Test.YtdcpdnfalnelkaaRows
import Derived.Test.YtdcpdnfalnelkaaGx13
import Derived.Test.YtdcpdnfalnelkaaPureHaircutFinds
import Derived.Test.YtdcpdnfalnelkaaPmS
import Derived.WalkKit
import Derived.ProofKit
import Derived.OpenShut
import Derived.ShutString
import Derived.ChangeOld
import Derived.Below
import Derived.SizedLaws
namespace Go.Proofs.Ytdcpdnfalnelkaa
open Go Go.Pm
set_option linter.unusedVariables false
namespace RowHaircutFinds
theorem opn9 : Opens prog 9 encS (fun s => s.length ≤ reach) := Opens.str (by kernel_rfl)
theorem opn3 : Opens prog 3 (encI .i64) (inK .i64) := Opens.int (by kernel_rfl)
theorem opn38 : Opens prog 38 api_Asset.enc api_Asset.bd := Opens.struct (n := 5) Try.underlying38 (by kernel_rfl) (OpensF.cons (sz := 1) opn9 (fun _ => rfl) rfl (OpensF.cons (sz := 1) opn3 (fun _ => rfl) rfl (OpensF.cons (sz := 1) opn3 (fun _ => rfl) rfl (OpensF.cons (sz := 1) opn3 (fun _ => rfl) rfl (OpensF.cons (sz := 1) opn9 (fun _ => rfl) rfl (OpensF.nil _)))))) (fun p => ⟨p.1, p.2.1, p.2.2.1, p.2.2.2.1, p.2.2.2.2.1⟩) (fun _ => rfl) (fun _ => rfl) (fun _ h => ⟨h.1, h.2.1, h.2.2.1, h.2.2.2.1, h.2.2.2.2.1, trivial⟩)
theorem opn56 : Opens prog 56 (encR 5 api_Asset.enc) (fun l => l.length * 56 ≤ reach ∧ ∀ x ∈ l, api_Asset.bd x) := Opens.slice (by kernel_rfl) opn38 (fun _ => rfl) (by kernel_rfl) (by kernel_rfl) (by decide)
theorem opn92 : Opens prog 92 api_Price.enc api_Price.bd := Opens.struct (n := 2) Try.underlying92 (by kernel_rfl) (OpensF.cons (sz := 1) opn9 (fun _ => rfl) rfl (OpensF.cons (sz := 1) opn3 (fun _ => rfl) rfl (OpensF.nil _))) (fun p => ⟨p.1, p.2.1⟩) (fun _ => rfl) (fun _ => rfl) (fun _ h => ⟨h.1, h.2.1, trivial⟩)
theorem opn57 : Opens prog 57 (encR 2 api_Price.enc) (fun l => l.length * 24 ≤ reach ∧ ∀ x ∈ l, api_Price.bd x) := Opens.slice (by kernel_rfl) opn92 (fun _ => rfl) (by kernel_rfl) (by kernel_rfl) (by decide)
theorem opn80 : Opens prog 80 api_Cut.enc api_Cut.bd := Opens.struct (n := 3) Try.underlying80 (by kernel_rfl) (OpensF.cons (sz := 1) opn3 (fun _ => rfl) rfl (OpensF.cons (sz := 1) opn3 (fun _ => rfl) rfl (OpensF.cons (sz := 1) opn3 (fun _ => rfl) rfl (OpensF.nil _)))) (fun p => ⟨p.1, p.2.1, p.2.2.1⟩) (fun _ => rfl) (fun _ => rfl) (fun _ h => ⟨h.1, h.2.1, h.2.2.1, trivial⟩)
theorem opn33 : Opens prog 33 (encR 3 api_Cut.enc) (fun l => l.length * 24 ≤ reach ∧ ∀ x ∈ l, api_Cut.bd x) := Opens.slice (by kernel_rfl) opn80 (fun _ => rfl) (by kernel_rfl) (by kernel_rfl) (by decide)
theorem opn34 : Opens prog 34 (encR 1 (encI .i64)) (fun l => l.length * 8 ≤ reach ∧ ∀ x ∈ l, inK .i64 x) := Opens.slice (by kernel_rfl) opn3 (fun _ => rfl) (by kernel_rfl) (by kernel_rfl) (by decide)
theorem opn36 : Opens prog 36 api_Basket.enc api_Basket.bd := Opens.struct (n := 10) Try.underlying36 (by kernel_rfl) (OpensF.cons (sz := 1) opn3 (fun _ => rfl) rfl (OpensF.cons (sz := 1) opn3 (fun _ => rfl) rfl (OpensF.cons (sz := 1) opn9 (fun _ => rfl) rfl (OpensF.cons (sz := 1) opn3 (fun _ => rfl) rfl (OpensF.cons (sz := 1) opn3 (fun _ => rfl) rfl (OpensF.cons (sz := 1) opn3 (fun _ => rfl) rfl (OpensF.cons (sz := 1) opn33 (fun _ => rfl) rfl (OpensF.cons (sz := 1) opn3 (fun _ => rfl) rfl (OpensF.cons (sz := 1) opn3 (fun _ => rfl) rfl (OpensF.cons (sz := 1) opn34 (fun _ => rfl) rfl (OpensF.nil _))))))))))) (fun p => ⟨p.1, p.2.1, p.2.2.1, p.2.2.2.1, p.2.2.2.2.1, p.2.2.2.2.2.1, p.2.2.2.2.2.2.1, p.2.2.2.2.2.2.2.1, p.2.2.2.2.2.2.2.2.1, p.2.2.2.2.2.2.2.2.2.1⟩) (fun _ => rfl) (fun _ => rfl) (fun _ h => ⟨h.1, h.2.1, h.2.2.1, h.2.2.2.1, h.2.2.2.2.1, h.2.2.2.2.2.1, h.2.2.2.2.2.2.1, h.2.2.2.2.2.2.2.1, h.2.2.2.2.2.2.2.2.1, h.2.2.2.2.2.2.2.2.2.1, trivial⟩)
theorem opn46 : Opens prog 46 api_Lot.enc api_Lot.bd := Opens.struct (n := 2) Try.underlying46 (by kernel_rfl) (OpensF.cons (sz := 1) opn9 (fun _ => rfl) rfl (OpensF.cons (sz := 1) opn3 (fun _ => rfl) rfl (OpensF.nil _))) (fun p => ⟨p.1, p.2.1⟩) (fun _ => rfl) (fun _ => rfl) (fun _ h => ⟨h.1, h.2.1, trivial⟩)
end RowHaircutFinds
end Go.Proofs.Ytdcpdnfalnelkaa
namespace Go.Proofs.Ytdcpdnfalnelkaa.haircutFinds
open Go.ChangeShapes Go.WideShapes Go.ChangeAt Go.RowKit
open Go Go.Pm Go.Proofs.Ytdcpdnfalnelkaa.RowHaircutFinds
set_option linter.unusedVariables false
theorem own : ownKnob Try.prog.godebug = none := by kernel_rfl
theorem laidOut : laidOutB Try.prog = true := by kernel_rfl
set_option maxRecDepth 100000 in
theorem lifted (os : Os) (started : os.Started) (H : Type) (enc : TypeId × Value → H) :
    ReturnsInHanded {} Try.checked os 8 .any (Rows.haircutFindsSpec.pre6 enc Try.prog Try.f8 Rows.haircutFindsRow.domain false) (Rows.haircutFindsSpec.post enc Try.prog Try.f8 false true false false) := by
 refine returnsInHanded_of_change_sized (C := Try.checked) own started (by kernel_rfl) Try.func8
   (ChangeSpec.witness6 (enc := enc) (C := Try.checked) false ⟨#[], #[.slice none 0 0, .slice none 0 0, .agg #[.int .i64 0, .int .i64 0, .string (tx []), .int .i64 0, .int .i64 0, .int .i64 0, .slice none 0 0, .int .i64 0, .int .i64 0, .slice none 0 0], .agg #[.string (tx []), .int .i64 0], .int .i64 0], []⟩ 8 (by kernel_rfl) (by kernel_rfl) (by kernel_rfl) (by kernel_rfl)) ?_
 intro W base args ds gs before hval0 hW hcnd hsz0 _
 have hsz : (DataW.weightsEach Try.prog (Try.f8.params.toList ++ Rows.haircutFindsSpec.plain.varTypes Try.prog) (ds ++ gs)).all (· ≤ reachBytes) = true := hsz0
 have hval : ∀ (j : Nat) t v, Try.f8.params[j]? = some t → args[j]? = some v → Value.okWide Try.prog W .any base t v := hval0
 have hW' := hW
 obtain ⟨p, q, hA0, hV, rfl, hfz, hnd⟩ := hW
 have hA : DataW.TrodAll enc Try.prog W 0 (fun _ => true) true Try.f8.params.toList args.toList ds p := hA0
 rw [Try.params8] at hA hval hsz
 obtain ⟨v0, vs0, d0, ds0, p0, q0, hargs, rfl, rfl, h0, r0⟩ := trodAll_cons hA
 obtain ⟨v1, vs1, d1, ds1, p1, q1, rfl, rfl, rfl, h1, r1⟩ := trodAll_cons r0
 obtain ⟨v2, vs2, d2, ds2, p2, q2, rfl, rfl, rfl, h2, r2⟩ := trodAll_cons r1
 obtain ⟨v3, vs3, d3, ds3, p3, q3, rfl, rfl, rfl, h3, r3⟩ := trodAll_cons r2
 obtain ⟨v4, vs4, d4, ds4, p4, q4, rfl, rfl, rfl, h4, r4⟩ := trodAll_cons r3
 obtain ⟨rfl, rfl, rfl⟩ := trodAll_nil r4
 obtain rfl : args = #[v0, v1, v2, v3, v4] := by cases args; simp_all
 obtain ⟨rfl, rfl⟩ := trodVars_none hV
 obtain ⟨x0, b0, R0⟩ := Opens.one opn56 (fun _ => rfl) (notAgg_slice Try.underlying56 (hval 0 56 v0 rfl rfl)) h0 (weights_each hsz (j := 0) rfl rfl)
 have lt0 : ∀ x ∈ p0, x.block < W.heap.size := by obtain ⟨m, hm⟩ := h0; exact DataW.trod_lt m _ _ _ hm
 obtain ⟨x1, b1, R1⟩ := Opens.one opn57 (fun _ => rfl) (notAgg_slice Try.underlying57 (hval 1 57 v1 rfl rfl)) h1 (weights_each hsz (j := 1) rfl rfl)
 have lt1 : ∀ x ∈ p1, x.block < W.heap.size := by obtain ⟨m, hm⟩ := h1; exact DataW.trod_lt m _ _ _ hm
 obtain ⟨x2, b2, R2⟩ := Opens.row opn36 Try.underlying36 (hval 2 36 v2 rfl rfl) h2 (weights_each hsz (j := 2) rfl rfl)
 have lt2 : ∀ x ∈ p2, x.block < W.heap.size := by obtain ⟨m, hm⟩ := h2; exact DataW.trod_lt m _ _ _ hm
 obtain ⟨x3, b3, R3⟩ := Opens.row opn46 Try.underlying46 (hval 3 46 v3 rfl rfl) h3 (weights_each hsz (j := 3) rfl rfl)
 have lt3 : ∀ x ∈ p3, x.block < W.heap.size := by obtain ⟨m, hm⟩ := h3; exact DataW.trod_lt m _ _ _ hm
 obtain ⟨x4, b4, R4⟩ := Opens.one opn3 (fun _ => rfl) (notAgg_int Try.underlying3 (hval 4 3 v4 rfl rfl)) h4 (weights_each hsz (j := 4) rfl rfl)
 have lt4 : ∀ x ∈ p4, x.block < W.heap.size := by obtain ⟨m, hm⟩ := h4; exact DataW.trod_lt m _ _ _ hm
 refine (Spec.truth (lombardlaw15_HaircutFinds.ok (Pure.HaircutFinds x0 x1 x2 x3 x4 b0 b1 b2 b3 b4)) (.cons _ _ _ _ [] [] R0 (.cons _ _ _ _ [] [] R1 (.cons _ _ _ _ [] [] R2 (.cons _ _ _ _ [] [] R3 (.cons _ _ _ _ [] [] R4 .nil)))))).mono fun e W' ⟨he, bel⟩ => ?_
 subst he
 exact ⟨_, rfl, _, _, _, [], _, [], hW', trodAll_mk1 (shut_bool Try.underlying4 _), (trodAll_cons_mk (Below.trod laidOut (by kernel_rfl) (of_decide_eq_true (by kernel_rfl)) h0 bel lt0) (trodAll_cons_mk (Below.trod laidOut (by kernel_rfl) (of_decide_eq_true (by kernel_rfl)) h1 bel lt1) (trodAll_cons_mk (Below.trod laidOut (by kernel_rfl) (of_decide_eq_true (by kernel_rfl)) h2 bel lt2) (trodAll_cons_mk (Below.trod laidOut (by kernel_rfl) (of_decide_eq_true (by kernel_rfl)) h3 bel lt3) (trodAll_cons_mk (Below.trod laidOut (by kernel_rfl) (of_decide_eq_true (by kernel_rfl)) h4 bel lt4) trodAll_mk0))))), rfl, bel.frame _, fun h => by cases h⟩
theorem over : Rows.haircutFindsRow.holds Try.pinned (OpenSpec.ofChange Rows.haircutFindsSpec) :=
  OpenClaim.holds_of_wide 8 Try.f8 rfl rfl rfl rfl rfl rfl rfl ⟨rfl, rfl, rfl, rfl, rfl⟩ rfl rfl rfl rfl rfl (by kernel_rfl) Try.func8 (by kernel_rfl)
    (of_decide_eq_true (by kernel_rfl)) (by unfold Func.isWrapper; first | (rw [if_pos (by decide +kernel)]; kernel_rfl) | (rw [if_neg (by decide +kernel)]; exact ⟨rfl, rfl⟩))
    (fun os started H enc _ => lifted os started H enc)
end Go.Proofs.Ytdcpdnfalnelkaa.haircutFinds
namespace Go.Proofs.Ytdcpdnfalnelkaa
/-- The row, under a short name, for the claim. -/
theorem haircutFinds_holds : Rows.HaircutFindsSaid := haircutFinds.over
#print axioms haircutFinds_holds
end Go.Proofs.Ytdcpdnfalnelkaa
