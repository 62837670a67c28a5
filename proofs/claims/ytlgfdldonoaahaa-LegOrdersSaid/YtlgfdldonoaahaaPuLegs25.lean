/- Shows that legs are the same as themselves, and that two are each other's just if the document says so. -/
import Derived.Test.YtlgfdldonoaahaaPuLeg
import Derived.Test.YtlgfdldonoaahaaPuSortC
import Derived.Test.YtlgfdldonoaahaaGx5
namespace Go.Proofs.Ytlgfdldonoaahaa
open Go Go.Pm Go.Pm.Arith Go.Pm.Big
set_option linter.unusedVariables false
set_option linter.unusedSimpArgs false

/-- Lots that are few enough. -/
def Few (M : List api_Leg) : Prop := ∀ x ∈ M, x.Lots.length < 100000000000000
theorem legs_loop (M : List api_Leg) (h : Few M) (hl : M.length ≤ 1000) : ∀ (j i : Nat), M.length = i + j → loop (lombardref25_All.r0 M M) (i : Int) = some (.inr ())
  | 0, i, e => loop_end (by unfold lombardref25_All.r0 lombardref25_All.b0; rw [if_neg (by simp; omega)])
  | j + 1, i, e => by
    have hi : i < M.length := by omega
    have g : (0 : Int) ≤ (i : Int) ∧ (i : Int) < (M.length : Int) := by omega
    have mem : nth M (i : Int) ∈ M := by
      show M.getD (Int.toNat (i : Int)) default ∈ M
      rw [Int.toNat_natCast, List.getD_eq_getElem?_getD, List.getElem?_eq_getElem hi]; exact List.getElem_mem hi
    have st : lombardref25_All.r0 M M (i : Int) = some (.inl ((i + 1 : Nat) : Int)) := by
      unfold lombardref25_All.r0 lombardref25_All.b0
      rw [if_pos (decide_eq_true g.2), if_pos g, if_pos g, same_is _ (h _ mem), Option.bind_some, if_neg (by decide), sw_nx i (by omega)]
    rw [loop_next st]
    exact legs_loop M h hl j (i + 1) (by omega)
theorem legs_same (M : List api_Leg) (h : Few M) (hl : M.length ≤ 1000) : lombardref25_All.f M M = some true := by
  have e : loop (lombardref25_All.r0 M M) 0 = some (.inr ()) := legs_loop M h hl M.length 0 (by omega)
  unfold lombardref25_All.f
  rw [if_neg (by simp), e]; rfl
end Go.Proofs.Ytlgfdldonoaahaa

