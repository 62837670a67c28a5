/- The plain statement of AuthNobody: no list has members. -/
import Derived.Test.YtjdkibnhlmgppaaPmArith
import Derived.Test.YtjdkibnhlmgppaaGx2
namespace Go.Proofs.Ytjdkibnhlmgppaa
open Go Go.Pm Go.Pm.Arith
set_option linter.unusedVariables false
set_option linter.unusedSimpArgs false
set_option maxRecDepth 100000

abbrev nobody : auth_Member := ⟨0, [], 0, 0, false⟩
theorem search_nil (d : Int) : slices_BinarySearchFunc_int__auth_List_place_1.f [] d = some (0, false) := by
  have e : loop (slices_BinarySearchFunc_int__auth_List_place_1.r0 [] d) (0, ((List.length ([] : List auth_Member) : Nat) : Int)) = some 0 := loop_end (by
    unfold slices_BinarySearchFunc_int__auth_List_place_1.r0 slices_BinarySearchFunc_int__auth_List_place_1.b0
    rw [if_neg (by decide)])
  unfold slices_BinarySearchFunc_int__auth_List_place_1.f
  rw [e]; rfl
theorem place_nil (m : Bool) (d : Int) : auth_List_place.f ⟨[], m⟩ d = some (0, false) := by
  unfold auth_List_place.f
  rw [search_nil]; rfl
theorem get_nil (m : Bool) (d : Int) : auth_List_Get_v2.f ⟨[], m⟩ d = some (nobody, false) := by
  unfold auth_List_Get_v2.f
  rw [place_nil]; rfl
theorem able_nil (m : Bool) (d : Int) : auth_List_Able_v2.f ⟨[], m⟩ d = some false := by
  unfold auth_List_Able_v2.f
  rw [get_nil]; rfl
theorem find_nil (m : Bool) (s : Bs) : auth_List_Find_v2.f ⟨[], m⟩ s = some (nobody, false) := by
  have e : loop (auth_first_auth_Member__auth_List_Find_1.r0 [] s) 0 = some (.inr ()) := loop_end (by
    unfold auth_first_auth_Member__auth_List_Find_1.r0 auth_first_auth_Member__auth_List_Find_1.b0
    rw [if_neg (by decide)])
  unfold auth_List_Find_v2.f auth_first_auth_Member__auth_List_Find_1.f
  rw [e]; rfl
theorem has_nil (s : Bs) : slices_ContainsFunc_auth_Member__auth_List_Join_1.f [] s = some false := by
  have e : loop (slices_IndexFunc_auth_Member__auth_List_Join_1.r0 [] s) 0 = some (.inr ()) := loop_end (by
    unfold slices_IndexFunc_auth_Member__auth_List_Join_1.r0 slices_IndexFunc_auth_Member__auth_List_Join_1.b0
    rw [if_neg (by decide)])
  unfold slices_ContainsFunc_auth_Member__auth_List_Join_1.f slices_IndexFunc_auth_Member__auth_List_Join_1.f
  rw [e]; rfl

abbrev sMu : Bs := [77, 195, 188, 108, 108, 101, 114]
abbrev sMU : Bs := [77, 195, 156, 76, 76, 69, 82]
theorem chk1 : msg_Check.f (.cmsg_Join ⟨1, sMu⟩) = some 0 := by
  have e : name_Check.f sMu = some (7, 0) := by
    unfold name_Check.f
    rw [if_neg (by decide), loop_next (show name_Check.r0 sMu (0, 32, 0) = some (.inl (1, 77, 1)) by kernel_rfl), loop_next (show name_Check.r0 sMu (1, 77, 1) = some (.inl (2, 252, 3)) by kernel_rfl),
      loop_next (show name_Check.r0 sMu (2, 252, 3) = some (.inl (3, 108, 4)) by kernel_rfl), loop_next (show name_Check.r0 sMu (3, 108, 4) = some (.inl (4, 108, 5)) by kernel_rfl),
      loop_next (show name_Check.r0 sMu (4, 108, 5) = some (.inl (5, 101, 6)) by kernel_rfl), loop_next (show name_Check.r0 sMu (5, 101, 6) = some (.inl (6, 114, 7)) by kernel_rfl),
      loop_end (show name_Check.r0 sMu (6, 114, 7) = some (.inr (.inr (6, 114))) by kernel_rfl)]
    rfl
  have e1 : msg_Check.f (.cmsg_Join ⟨1, sMu⟩) = (name_Check.f sMu).bind fun t2 => if (decide ((1 : Int) ≥ 1) && decide ((1 : Int) ≤ 32)) = true then some t2.2 else some 1 := rfl
  rw [e1, e]; rfl
theorem chk2 : msg_Check.f (.cmsg_Join ⟨2, sMU⟩) = some 0 := by
  have e : name_Check.f sMU = some (7, 0) := by
    unfold name_Check.f
    rw [if_neg (by decide), loop_next (show name_Check.r0 sMU (0, 32, 0) = some (.inl (1, 77, 1)) by kernel_rfl), loop_next (show name_Check.r0 sMU (1, 77, 1) = some (.inl (2, 220, 3)) by kernel_rfl),
      loop_next (show name_Check.r0 sMU (2, 220, 3) = some (.inl (3, 76, 4)) by kernel_rfl), loop_next (show name_Check.r0 sMU (3, 76, 4) = some (.inl (4, 76, 5)) by kernel_rfl),
      loop_next (show name_Check.r0 sMU (4, 76, 5) = some (.inl (5, 69, 6)) by kernel_rfl), loop_next (show name_Check.r0 sMU (5, 69, 6) = some (.inl (6, 82, 7)) by kernel_rfl),
      loop_end (show name_Check.r0 sMU (6, 82, 7) = some (.inr (.inr (6, 82))) by kernel_rfl)]
    rfl
  have e1 : msg_Check.f (.cmsg_Join ⟨2, sMU⟩) = (name_Check.f sMU).bind fun t2 => if (decide ((2 : Int) ≥ 1) && decide ((2 : Int) ≤ 32)) = true then some t2.2 else some 1 := rfl
  rw [e1, e]; rfl
abbrev one1 : auth_List := ⟨[⟨1, sMu, 1, 0, false⟩], true⟩
theorem join1 : auth_List_Join_v3.f ⟨[], true⟩ 1 sMu = some (0, one1) := by
  unfold auth_List_Join_v3.f
  rw [if_neg (by decide), chk1, Option.bind_some, if_neg (by decide), place_nil, Option.bind_some, if_pos (by rfl), has_nil, Option.bind_some, if_neg (by decide)]
  rfl
theorem place1 : auth_List_place.f one1 1 = some (0, true) := by
  have e : loop (slices_BinarySearchFunc_int__auth_List_place_1.r0 one1.l 1) (0, ((List.length one1.l : Nat) : Int)) = some 0 := by
    rw [loop_next (show slices_BinarySearchFunc_int__auth_List_place_1.r0 one1.l 1 (0, ((List.length one1.l : Nat) : Int)) = some (.inl (0, 0)) by kernel_rfl)]
    exact loop_end (by kernel_rfl)
  unfold auth_List_place.f slices_BinarySearchFunc_int__auth_List_place_1.f
  rw [e]; rfl
theorem place2 : auth_List_place.f one1 2 = some (1, false) := by
  have e : loop (slices_BinarySearchFunc_int__auth_List_place_1.r0 one1.l 2) (0, ((List.length one1.l : Nat) : Int)) = some 1 := by
    rw [loop_next (show slices_BinarySearchFunc_int__auth_List_place_1.r0 one1.l 2 (0, ((List.length one1.l : Nat) : Int)) = some (.inl (1, 1)) by kernel_rfl)]
    exact loop_end (by kernel_rfl)
  unfold auth_List_place.f slices_BinarySearchFunc_int__auth_List_place_1.f
  rw [e]; rfl
theorem has1 : slices_ContainsFunc_auth_Member__auth_List_Join_1.f one1.l sMU = some true := by
  have e : loop (slices_IndexFunc_auth_Member__auth_List_Join_1.r0 one1.l sMU) 0 = some (.inl 0) := loop_end (by kernel_rfl)
  unfold slices_ContainsFunc_auth_Member__auth_List_Join_1.f slices_IndexFunc_auth_Member__auth_List_Join_1.f
  rw [e]; rfl
theorem join2 : auth_List_Join_v3.f one1 2 sMU = some (7, one1) := by
  unfold auth_List_Join_v3.f
  rw [if_neg (by decide), chk2, Option.bind_some, if_neg (by decide), place2, Option.bind_some, if_pos (by rfl), has1, Option.bind_some, if_pos (by rfl)]
theorem able1 : auth_List_Able_v2.f one1 1 = some true := by
  unfold auth_List_Able_v2.f auth_List_Get_v2.f
  rw [place1]; rfl
theorem awake_is : lombardlaw30_awake.f = some true := by
  unfold lombardlaw30_awake.f auth_New.f
  rw [Option.bind_some, join1, Option.bind_some, if_pos (by rfl), join2, Option.bind_some, if_pos (by rfl), able1]
  rfl

theorem Pure.AuthNobody : ∀ (x0 : Int) (x1 : Bs), (inK .i64 x0) → (x1.length ≤ reach) → lombardlaw30_AuthNobody.f x0 x1 = some true := by
  intro id s _ _
  have k0 : lombardlaw30_AuthNobody.r0 id s 0 = some (.inl 1) := by kernel_rfl
  have k1 : lombardlaw30_AuthNobody.r0 id s 1 = some (.inl 2) := by
    unfold lombardlaw30_AuthNobody.r0 lombardlaw30_AuthNobody.b0
    have e : nth [none, (some (⟨[], false⟩ : auth_List))] 1 = some ⟨[], false⟩ := rfl
    rw [if_pos (by decide), if_pos (by decide), e]
    dsimp only
    have j : auth_List_Join_v2.f ⟨[], false⟩ id s = some 3 := rfl
    have a : auth_List_All_v2.f ⟨[], false⟩ = some [] := rfl
    have b : auth_List_Bound_v2.f ⟨[], false⟩ id 5 = some 3 := rfl
    have l : auth_List_Late_v2.f ⟨[], false⟩ id true = some 3 := rfl
    have c : auth_List_Call_v2.f ⟨[], false⟩ id true = some 3 := rfl
    have d : auth_List_Default_v2.f ⟨[], false⟩ id = some 3 := rfl
    have m : auth_List_May_v2.f ⟨[], false⟩ .nil = some 3 := rfl
    have n : auth_List_Clone_v2.f ⟨[], false⟩ = some () := rfl
    rw [get_nil, Option.bind_some, find_nil, Option.bind_some, j, Option.bind_some, if_pos (by rfl), a, Option.bind_some, if_pos (by rfl), b, Option.bind_some, if_pos (by rfl), l, Option.bind_some, if_pos (by rfl), c, Option.bind_some,
      if_pos (by rfl), d, Option.bind_some, if_pos (by rfl), able_nil, Option.bind_some, if_pos (by rfl), m, Option.bind_some, if_pos (by rfl), n, Option.bind_some, if_neg (by decide)]
    rfl
  have k2 : lombardlaw30_AuthNobody.r0 id s 2 = some (.inr (.inr ())) := by
    unfold lombardlaw30_AuthNobody.r0 lombardlaw30_AuthNobody.b0
    rw [if_neg (by decide)]
  unfold lombardlaw30_AuthNobody.f
  rw [loop_next k0, loop_next k1, loop_end k2, Option.bind_some]
  dsimp only
  rw [awake_is]; rfl
end Go.Proofs.Ytjdkibnhlmgppaa

