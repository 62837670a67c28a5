/- Shows how an amount is cut by weights, or what is wrong with these, of the printed functions. -/
import Derived.Test.YtjbpblcohlainaaPrintx31
import Derived.Test.YtjbpblcohlainaaPrintx17
import Derived.Test.YtjbpblcohlainaaLaw01a
import Derived.Test.YtjbpblcohlainaaShareT
namespace Go.Proofs.Ytjbpblcohlainaa.Print
open Go.RowKit Go.Proofs.YtjbpblcohlainaaW.PrintWords Go.Proofs.YtjbpblcohlainaaW.PrintLast Go.Proofs.YtjbpblcohlainaaW.PrintMore Go.Pm.Arith
set_option linter.unusedVariables false
set_option linter.unusedSimpArgs false

theorem ints_loop (l : List Int) (hl : l.length < 1000000) : ∀ (j i : Nat), l.length = i + j → Ev (fun k => lombardref01_Ints.l0 k l l (i : Int)) true
  | 0, i, hj => by
    have hi : ¬ (i : Int) < (l.length : Int) := by omega
    exact Ev.step (f := fun _ => some true) (fun k => by rw [lombardref01_Ints.l0, if_neg hi]) (Ev.now _)
  | j + 1, i, hj => by
    have hi : (i : Int) < (l.length : Int) := by omega
    have h0 : 0 ≤ (i : Int) := by omega
    have hn := next_is i (by omega)
    exact Ev.step (fun k => by rw [lombardref01_Ints.l0, if_pos hi, if_pos h0, if_pos hi, if_pos rfl, hn]) (ints_loop l hl j (i + 1) (by omega))

theorem ints_is (l : List Int) (hl : l.length < 1000000) : Ev (fun k => lombardref01_Ints.f k l l) true :=
  Ev.congr (fun k => by unfold lombardref01_Ints.f; rw [if_pos rfl]; rfl) (ints_loop l hl l.length 0 (by omega))

theorem share_len (amount : Int) (l : List Int) : (shareOf amount l).1.length ≤ 64 := by
  unfold shareOf
  split
  · simp
  · split
    · simp
    · split
      · split
        · simp
        · rename_i h _ _ _
          rw [deal_len _ _ _ (cuts_len _ _ _ _).symm]
          omega
      · simp

end Go.Proofs.Ytjbpblcohlainaa.Print
namespace Go.Proofs.Ytjbpblcohlainaa.Pure
open Go.RowKit Go.Proofs.Ytjbpblcohlainaa.Print Go.Proofs.YtjbpblcohlainaaW.PrintWords Go.Proofs.YtjbpblcohlainaaW.PrintLast Go.Pm.Arith

theorem FixnumShares : lombardlaw01_FixnumShares.Pure := by
  intro a l wa hl hl8 hw
  obtain ⟨e1, e2⟩ := share_is a l (wf_i64 wa) (fun x hx => wf_i64 (hw x hx))
  have e3 := ints_is (shareOf a l).1 (by have := share_len a l; omega)
  refine Ev.rounds (r := true) ?_
  refine Ev.congr (fun k => by rw [lombardlaw01_FixnumShares.f]) (Ev.bind e1 (Ev.bind e2 (Ev.bind e3 ?_)))
  exact Ev.congr (fun k => by rw [if_pos rfl, if_pos rfl]) then_awake

end Go.Proofs.Ytjbpblcohlainaa.Pure
