/- Shows, in plain lists, where a trade is in a book, how the document finds it, and that a book's trades are told as they are. -/
import Derived.Test.YtidinbjehfodoaaPuAw23
namespace Go.Proofs.Ytidinbjehfodoaa
open Go Go.Pm Go.Pm.Arith
set_option linter.unusedVariables false
set_option linter.unusedSimpArgs false

def idAt (l : List api_Trade) (i : Nat) : Int := (l.getD i default).ID

theorem nth_tr (l : List api_Trade) (n : Nat) : nth l (n : Int) = l.getD n default := rfl

/-- By rising numbers. -/
def Rising (l : List api_Trade) : Prop := ∀ k, k + 1 < l.length → idAt l k < idAt l (k + 1)

theorem Rising.lt {l : List api_Trade} (h : Rising l) : ∀ (n k : Nat), k + n + 1 < l.length → idAt l k < idAt l (k + n + 1)
  | 0, k, hk => h k hk
  | n + 1, k, hk => by
    have h1 := Rising.lt h n k (by omega)
    have h2 := h (k + n + 1) (by omega)
    rw [show k + (n + 1) + 1 = k + n + 1 + 1 by omega]; omega

theorem Rising.sort {l : List api_Trade} (h : Rising l) {k m : Nat} (hk : k < m) (hm : m < l.length) : idAt l k < idAt l m := by
  have := h.lt (m - k - 1) k (by omega)
  rwa [show k + (m - k - 1) + 1 = m by omega] at this

theorem cmp_is (x y : Int) : cmp_Compare_int.f x y = some (if x < y then -1 else if x > y then 1 else 0) := by
  unfold cmp_Compare_int.f cmp_isNaN_int.f
  simp only [bne_self_eq_false, Option.bind_some, Bool.false_eq_true, if_false, decide_eq_true_eq]
  repeat' split
  all_goals rfl

theorem place1_is (x : api_Trade) (y : Int) : ∃ v : Int, (v < 0 ↔ x.ID < y) ∧ (v = 0 ↔ x.ID = y) ∧ trade_Book_place_1_v2.f x y = some v := by
  refine ⟨_, ?_, ?_, by unfold trade_Book_place_1_v2.f; rw [cmp_is]; rfl⟩
  · split
    · omega
    · split <;> omega
  · split
    · omega
    · split <;> omega

theorem shr1 (u : Int) : shrI .u64 u 1 = u / 2 := by
  show u.fdiv 2 = _; exact Int.fdiv_eq_ediv_of_nonneg _ (by decide)

theorem half_is (x y : Nat) (hx : x ≤ 1000) (hy : y ≤ 1000) : IntKind.i64.wrap (shrI .u64 (IntKind.wrap .u64 (IntKind.wrap .i64 ((x : Int) + (y : Int)))) 1) = (((x + y) / 2 : Nat) : Int) := by
  rw [i64_id ((x : Int) + y) (by omega) (by omega), u64_id _ (by omega) (by omega), shr1, i64_id _ (by omega) (by omega)]; omega

theorem search_loop (l : List api_Trade) (d : Int) (h : Rising l) (few : l.length ≤ 100) : ∀ (n lo hi : Nat), hi ≤ lo + n → lo ≤ hi → hi ≤ l.length → (∀ k, k < lo → idAt l k < d) → (∀ k, hi ≤ k → k < l.length → d ≤ idAt l k) →
    ∃ i : Nat, i ≤ l.length ∧ (∀ k, k < i → idAt l k < d) ∧ (∀ k, i ≤ k → k < l.length → d ≤ idAt l k) ∧ loop (slices_BinarySearchFunc_int__trade_Book_place_1.r0 l d) ((lo : Int), (hi : Int)) = some (i : Int)
  | n, lo, hi, hn, hle, hlen, hb, ha => by
    by_cases c : lo < hi
    · obtain ⟨n, rfl⟩ : ∃ m, n = m + 1 := ⟨n - 1, by omega⟩
      have hh := half_is lo hi (by omega) (by omega)
      have w : IntKind.i64.wrap ((((lo + hi) / 2 : Nat) : Int) + 1) = (((lo + hi) / 2 + 1 : Nat) : Int) := next64 _ (by omega)
      have key : slices_BinarySearchFunc_int__trade_Book_place_1.r0 l d ((lo : Int), (hi : Int)) = if idAt l ((lo + hi) / 2) < d then some (.inl ((((lo + hi) / 2 + 1 : Nat) : Int), (hi : Int))) else some (.inl ((lo : Int), (((lo + hi) / 2 : Nat) : Int))) := by
        unfold slices_BinarySearchFunc_int__trade_Book_place_1.r0 slices_BinarySearchFunc_int__trade_Book_place_1.b0
        simp only
        obtain ⟨v, v1, v2, v3⟩ := place1_is (l.getD ((lo + hi) / 2) default) d
        rw [if_pos (decide_eq_true (by omega)), hh, if_pos (by omega), nth_tr, v3, Option.bind_some, w]
        by_cases c1 : idAt l ((lo + hi) / 2) < d
        · rw [if_pos c1, if_pos (decide_eq_true (v1.2 c1))]
        · rw [if_neg c1, if_neg (fun h => c1 (v1.1 (of_decide_eq_true h)))]
      by_cases c1 : idAt l ((lo + hi) / 2) < d
      · rw [if_pos c1] at key
        obtain ⟨i, i1, i2, i3, i4⟩ := search_loop l d h few n ((lo + hi) / 2 + 1) hi (by omega) (by omega) hlen (fun k hk => by
          by_cases e : k = (lo + hi) / 2
          · subst e; exact c1
          · have := h.sort (k := k) (m := (lo + hi) / 2) (by omega) (by omega); omega) ha
        exact ⟨i, i1, i2, i3, by rw [loop_next key, i4]⟩
      · rw [if_neg c1] at key
        obtain ⟨i, i1, i2, i3, i4⟩ := search_loop l d h few n lo ((lo + hi) / 2) (by omega) (by omega) (by omega) hb (fun k hk hk2 => by
          by_cases e : k = (lo + hi) / 2
          · subst e; omega
          · have := h.sort (k := (lo + hi) / 2) (m := k) (by omega) (by omega); omega)
        exact ⟨i, i1, i2, i3, by rw [loop_next key, i4]⟩
    · obtain rfl : lo = hi := by omega
      refine ⟨lo, hlen, hb, ha, loop_end ?_⟩
      unfold slices_BinarySearchFunc_int__trade_Book_place_1.r0 slices_BinarySearchFunc_int__trade_Book_place_1.b0
      simp only
      rw [if_neg (by simp)]

/-- Where a number is, by the document: its place, or none. -/
theorem find_loop (b : lombardref23_Book) (id : Int) (few : b.L.length ≤ 100) : ∀ (j i : Nat), b.L.length = i + j → (∀ k, k < i → idAt b.L k ≠ id) →
    (∃ k : Nat, k < b.L.length ∧ idAt b.L k = id ∧ (∀ m, m < k → idAt b.L m ≠ id) ∧ loop (lombardref23_Book_Find.r0 b id) (i : Int) = some (.inl (k : Int))) ∨
    ((∀ k, k < b.L.length → idAt b.L k ≠ id) ∧ loop (lombardref23_Book_Find.r0 b id) (i : Int) = some (.inr ()))
  | 0, i, h, hn => by
    right
    refine ⟨fun k hk => hn k (by omega), loop_end ?_⟩
    unfold lombardref23_Book_Find.r0 lombardref23_Book_Find.b0
    rw [if_neg (by simp; omega)]
  | j + 1, i, h, hn => by
    have key : lombardref23_Book_Find.r0 b id (i : Int) = if idAt b.L i = id then some (.inr (.inl (i : Int))) else some (.inl ((i + 1 : Nat) : Int)) := by
      unfold lombardref23_Book_Find.r0 lombardref23_Book_Find.b0
      rw [if_pos (decide_eq_true (by omega)), if_pos (by omega), nth_tr, next64 i (by omega)]
      show (if (idAt b.L i == id) = true then _ else _) = _
      by_cases c : idAt b.L i = id
      · rw [if_pos (by simpa using c), if_pos c]
      · rw [if_neg (by simpa using c), if_neg c]
    by_cases c : idAt b.L i = id
    · rw [if_pos c] at key
      exact .inl ⟨i, by omega, c, hn, loop_end key⟩
    · rw [if_neg c] at key
      rw [loop_next key]
      exact find_loop b id few j (i + 1) (by omega) (fun k hk => by
        by_cases e : k = i
        · subst e; exact c
        · exact hn k (by omega))

/-- Both find a number, or neither does. -/
theorem found (l : List api_Trade) (nx : Int) (id : Int) (h : Rising l) (few : l.length ≤ 100) :
    (∃ k : Nat, k < l.length ∧ idAt l k = id ∧ slices_BinarySearchFunc_int__trade_Book_place_1.f l id = some ((k : Int), true) ∧ lombardref23_Book_Find.f ⟨l, nx⟩ id = some (k : Int)) ∨
    ((∀ k, k < l.length → idAt l k ≠ id) ∧ (∃ i : Nat, slices_BinarySearchFunc_int__trade_Book_place_1.f l id = some ((i : Int), false)) ∧ lombardref23_Book_Find.f ⟨l, nx⟩ id = some (-1)) := by
  obtain ⟨i, i1, i2, i3, i4⟩ := search_loop l id h few l.length 0 l.length (by omega) (by omega) (Nat.le_refl _) (fun k hk => by omega) (fun k hk hk2 => by omega)
  have i4' : loop (slices_BinarySearchFunc_int__trade_Book_place_1.r0 l id) (0, (l.length : Int)) = some (i : Int) := i4
  have B : ∃ b : Bool, (b = true ↔ i < l.length ∧ idAt l i = id) ∧ slices_BinarySearchFunc_int__trade_Book_place_1.f l id = some ((i : Int), b) := by
    unfold slices_BinarySearchFunc_int__trade_Book_place_1.f
    rw [i4', Option.bind_some, if_pos (fun h => by have := of_decide_eq_true h; omega)]
    by_cases c : i < l.length
    · obtain ⟨v, v1, v2, v3⟩ := place1_is (l.getD i default) id
      rw [if_pos (decide_eq_true (by omega)), nth_tr, v3, Option.bind_some]
      refine ⟨_, ?_, rfl⟩
      have v2' : v = 0 ↔ idAt l i = id := v2
      simp only [Bool.and_eq_true, decide_eq_true_eq, beq_iff_eq]
      omega
    · rw [if_neg (by simp; omega), Option.bind_some]
      refine ⟨_, ?_, rfl⟩
      simp; omega
  obtain ⟨b, hb, hB⟩ := B
  rcases find_loop ⟨l, nx⟩ id few l.length 0 (by show l.length = _; omega) (fun k hk => by omega) with ⟨k, k1, k2, k3, k4⟩ | ⟨k1, k2⟩
  · left
    have k1 : k < l.length := k1
    have k2 : idAt l k = id := k2
    have e : k = i := by
      rcases Nat.lt_trichotomy k i with c | c | c
      · have := i2 k c; omega
      · exact c
      · have := h.sort (k := i) (m := k) c k1
        have := i3 i (Nat.le_refl _) (by have : k < l.length := k1; omega)
        omega
    subst e
    have k4' : loop (lombardref23_Book_Find.r0 ⟨l, nx⟩ id) 0 = some (.inl (k : Int)) := k4
    refine ⟨k, k1, k2, by rw [hB, hb.2 ⟨k1, k2⟩], ?_⟩
    unfold lombardref23_Book_Find.f
    rw [k4']; rfl
  · right
    have k2' : loop (lombardref23_Book_Find.r0 ⟨l, nx⟩ id) 0 = some (.inr ()) := k2
    refine ⟨k1, ⟨i, ?_⟩, ?_⟩
    · cases b with
      | false => exact hB
      | true => obtain ⟨g1, g2⟩ := hb.1 rfl; exact absurd g2 (k1 i g1)
    · unfold lombardref23_Book_Find.f
      rw [k2']; rfl

theorem copied_is (x : api_Trade) (h : x.Resets.length < 8796093022208) : trade_copied.f x = some x := by
  unfold trade_copied.f slices_Clone_api_Reset.f
  rw [if_pos (by omega)]; rfl

theorem get_is (b : trade_Book) (id : Int) (h : Rising b.l) (few : b.l.length ≤ 100) (hr : ∀ k, k < b.l.length → (b.l.getD k default).Resets.length < 8796093022208) (nx : Int) :
    (∃ k : Nat, k < b.l.length ∧ idAt b.l k = id ∧ trade_Book_Get.f b id = some (b.l.getD k default, true) ∧ lombardref23_Book_Find.f ⟨b.l, nx⟩ id = some (k : Int)) ∨
    ((∀ k, k < b.l.length → idAt b.l k ≠ id) ∧ trade_Book_Get.f b id = some ((⟨0, 0, 0, 0, 0, 0, 0, 0, [], 0, false⟩ : api_Trade), false) ∧ lombardref23_Book_Find.f ⟨b.l, nx⟩ id = some (-1)) := by
  unfold trade_Book_Get.f trade_Book_place.f
  rcases found b.l nx id h few with ⟨k, k1, k2, k3, k4⟩ | ⟨k1, ⟨i, k2⟩, k3⟩
  · left
    refine ⟨k, k1, k2, ?_, k4⟩
    rw [k3, Option.bind_some, Option.bind_some, if_neg (by simp), if_pos (by show (0 : Int) ≤ (k : Int) ∧ (k : Int) < (b.l.length : Int); omega)]
    show (trade_copied.f (b.l.getD k default)).bind _ = _
    rw [copied_is _ (hr k k1)]; rfl
  · right
    refine ⟨k1, ?_, k3⟩
    rw [k2, Option.bind_some, Option.bind_some, if_pos (by rfl)]

theorem all_loop (b : trade_Book) (few : b.l.length ≤ 100) (hr : ∀ k, k < b.l.length → (b.l.getD k default).Resets.length < 8796093022208) : ∀ (j i : Nat), b.l.length = i + j → loop (trade_Book_All.r0 b) ((i : Int), b.l.take i) = some b.l
  | 0, i, h => by
    refine loop_end ?_
    unfold trade_Book_All.r0 trade_Book_All.b0
    rw [if_neg (by simp; omega), List.take_of_length_le (by omega)]
  | j + 1, i, h => by
    have key : trade_Book_All.r0 b ((i : Int), b.l.take i) = some (.inl (((i + 1 : Nat) : Int), b.l.take (i + 1))) := by
      unfold trade_Book_All.r0 trade_Book_All.b0
      simp only
      rw [if_pos (decide_eq_true (by omega)), if_pos (by omega), nth_tr, copied_is _ (hr i (by omega)), Option.bind_some, if_pos (by simp; omega), next64 i (by omega)]
      have e : b.l.getD i default = b.l[i] := by rw [List.getD_eq_getElem?_getD, List.getElem?_eq_getElem (by omega)]; rfl
      rw [e, List.take_append_getElem]
    rw [loop_next key]
    exact all_loop b few hr j (i + 1) (by omega)

theorem all_is (b : trade_Book) (few : b.l.length ≤ 100) (hr : ∀ k, k < b.l.length → (b.l.getD k default).Resets.length < 8796093022208) : trade_Book_All.f b = some b.l := by
  have := all_loop b few hr b.l.length 0 (by omega)
  unfold trade_Book_All.f
  rw [if_pos (by omega)]
  have e : loop (trade_Book_All.r0 b) (0, (List.replicate (Int.toNat 0) ((⟨0, 0, 0, 0, 0, 0, 0, 0, [], 0, false⟩ : api_Trade) : api_Trade))) = some b.l := this
  rw [e]; rfl

theorem same_trade (x : api_Trade) (hl : x.Resets.length < 100000000000000) : lombardref23_Same.f x x = some true := by
  unfold lombardref23_Same.f
  simp [resets_self x.Resets hl]

theorem same_all_loop (l : List api_Trade) (few : l.length ≤ 100) (hr : ∀ k, k < l.length → (l.getD k default).Resets.length < 8796093022208) : ∀ (j i : Nat), l.length = i + j → loop (lombardref23_All.r0 l l) (i : Int) = some (.inr ())
  | 0, i, h => loop_end (by unfold lombardref23_All.r0 lombardref23_All.b0; rw [if_neg (by simp; omega)])
  | j + 1, i, h => by
    have key : lombardref23_All.r0 l l (i : Int) = some (.inl ((i + 1 : Nat) : Int)) := by
      unfold lombardref23_All.r0 lombardref23_All.b0
      have := hr i (by omega)
      rw [if_pos (decide_eq_true (by omega)), if_pos (by omega), if_pos (by omega), nth_tr, same_trade _ (by omega), Option.bind_some, if_neg (by decide), next64 i (by omega)]
    rw [loop_next key]
    exact same_all_loop l few hr j (i + 1) (by omega)

theorem same_all (l : List api_Trade) (few : l.length ≤ 100) (hr : ∀ k, k < l.length → (l.getD k default).Resets.length < 8796093022208) : lombardref23_All.f l l = some true := by
  have h : loop (lombardref23_All.r0 l l) 0 = _ := same_all_loop l few hr l.length 0 (by omega)
  unfold lombardref23_All.f
  rw [if_neg (by simp), h]; rfl

end Go.Proofs.Ytidinbjehfodoaa

