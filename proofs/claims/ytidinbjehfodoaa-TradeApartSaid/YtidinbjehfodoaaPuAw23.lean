/- Shows that the chapter's example holds. -/
import Derived.Test.YtidinbjehfodoaaPuCk23
namespace Go.Proofs.Ytidinbjehfodoaa
open Go Go.Pm Go.Pm.Arith
set_option linter.unusedVariables false
set_option linter.unusedSimpArgs false

def A1 : api_Trade := ⟨1, 2, 1, 1, 1, 100, 0, 0, [(⟨0, 0⟩ : api_Reset)], 1, false⟩
def A2 : api_Trade := ⟨2, 1, 2, 2, 1, 100, 0, 0, [(⟨0, 0⟩ : api_Reset)], 1, false⟩
def AB : trade_Book := ⟨[A1, A2], 2, true⟩

theorem aw_novate : trade_Book_Novate.f (⟨[], 0, true⟩ : trade_Book) (⟨1, 2, 1, 100, 0, 0, 0⟩ : api_Fill) = some (1, 2, 0, AB) := by
  unfold trade_Book_Novate.f
  rw [fill_is]
  rfl

theorem aw_place : trade_Book_place.f AB 2 = some (1, true) := by
  unfold trade_Book_place.f slices_BinarySearchFunc_int__trade_Book_place_1.f
  have s1 : slices_BinarySearchFunc_int__trade_Book_place_1.r0 AB.l 2 (0, 2) = some (.inl (0, 1)) := rfl
  have s2 : slices_BinarySearchFunc_int__trade_Book_place_1.r0 AB.l 2 (0, 1) = some (.inl (1, 1)) := rfl
  have s3 : slices_BinarySearchFunc_int__trade_Book_place_1.r0 AB.l 2 (1, 1) = some (.inr 1) := rfl
  have L : loop (slices_BinarySearchFunc_int__trade_Book_place_1.r0 AB.l 2) (0, (List.length AB.l : Int)) = some 1 := by
    show loop _ (0, 2) = _
    rw [loop_next s1, loop_next s2]; exact loop_end s3
  rw [L]; rfl

theorem aw_get : trade_Book_Get.f AB 2 = some (A2, true) := by
  unfold trade_Book_Get.f
  rw [aw_place]; rfl

theorem aw_all : trade_Book_All.f AB = some [A1, A2] := by
  have s1 : trade_Book_All.r0 AB (0, []) = some (.inl (1, [A1])) := rfl
  have s2 : trade_Book_All.r0 AB (1, [A1]) = some (.inl (2, [A1, A2])) := rfl
  have s3 : trade_Book_All.r0 AB (2, [A1, A2]) = some (.inr [A1, A2]) := rfl
  have L : loop (trade_Book_All.r0 AB) (0, (List.replicate (Int.toNat 0) ((⟨0, 0, 0, 0, 0, 0, 0, 0, [], 0, false⟩ : api_Trade) : api_Trade))) = some [A1, A2] := by
    show loop _ (0, []) = _
    rw [loop_next s1, loop_next s2]; exact loop_end s3
  unfold trade_Book_All.f
  rw [L]; rfl

theorem aw_borrowed : trade_Book_Borrowed_v2.f AB 2 = some 100 := by
  have s1 : trade_Book_Of_v2.r0 2 2 [A1, A2] (0, []) = some (.inl (1, [])) := rfl
  have s2 : trade_Book_Of_v2.r0 2 2 [A1, A2] (1, []) = some (.inl (2, [A2])) := rfl
  have s3 : trade_Book_Of_v2.r0 2 2 [A1, A2] (2, [A2]) = some (.inr [A2]) := rfl
  have L : loop (trade_Book_Of_v2.r0 2 2 [A1, A2]) (0, []) = some [A2] := by rw [loop_next s1, loop_next s2]; exact loop_end s3
  have u1 : trade_Book_Borrowed_v2.r0 [A2] (0, 0) = some (.inl (100, 1)) := rfl
  have u2 : trade_Book_Borrowed_v2.r0 [A2] (100, 1) = some (.inr 100) := rfl
  have M : loop (trade_Book_Borrowed_v2.r0 [A2]) (0, 0) = some 100 := by rw [loop_next u1]; exact loop_end u2
  unfold trade_Book_Borrowed_v2.f trade_Book_Of_v2.f
  rw [aw_all, Option.bind_some, L, Option.bind_some, Option.bind_some, M]; rfl

theorem awake_is : lombardlaw23_awake.f = some true := by
  unfold lombardlaw23_awake.f trade_New.f
  rw [Option.bind_some, aw_novate, Option.bind_some, aw_get, aw_borrowed]
  rfl

end Go.Proofs.Ytidinbjehfodoaa

