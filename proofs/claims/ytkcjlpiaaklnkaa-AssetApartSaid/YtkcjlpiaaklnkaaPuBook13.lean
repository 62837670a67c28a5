/- Shows, in plain lists, where a security is in a book, and that adding to a book, and setting prices, is what the document does. -/
import Derived.Test.YtkcjlpiaaklnkaaPuIsin
import Derived.Test.YtkcjlpiaaklnkaaGx0
import Derived.Test.YtkcjlpiaaklnkaaGx0
namespace Go.Proofs.Ytkcjlpiaaklnkaa
open Go Go.Pm Go.Pm.Arith
set_option linter.unusedVariables false
set_option linter.unusedSimpArgs false

def Lt (a b : Bs) : Prop := Go.Op.bytesLess a b = true
instance (a b : Bs) : Decidable (Lt a b) := inferInstanceAs (Decidable (_ = true))

theorem lt_cons (a b : UInt8) (x y : Bs) : Lt (a :: x) (b :: y) ↔ a < b ∨ (a = b ∧ Lt x y) := by
  unfold Lt; rw [Go.Op.bytesLess]; simp
theorem lt_nil (x : Bs) : ¬ Lt x [] := by cases x <;> simp [Lt, Go.Op.bytesLess]
theorem nil_lt (b : UInt8) (y : Bs) : Lt [] (b :: y) := by simp [Lt, Go.Op.bytesLess]
theorem u8lt {a b : UInt8} : a < b ↔ a.toNat < b.toNat := UInt8.lt_iff_toNat_lt
theorem u8eq {a b : UInt8} (h : a.toNat = b.toNat) : a = b := UInt8.toNat_inj.1 h

theorem lt_irrefl : ∀ x : Bs, ¬ Lt x x
  | [] => lt_nil []
  | a :: x => by
    rw [lt_cons, u8lt]
    exact fun h => h.elim (fun h => by omega) (fun h => lt_irrefl x h.2)
theorem lt_trans : ∀ {x y z : Bs}, Lt x y → Lt y z → Lt x z
  | _, _, [], _, h => absurd h (lt_nil _)
  | _, [], _ :: _, h, _ => absurd h (lt_nil _)
  | [], _ :: _, _ :: _, _, _ => nil_lt _ _
  | a :: x, b :: y, c :: z, h1, h2 => by
    rw [lt_cons, u8lt] at h1 h2 ⊢
    rcases h1 with h1 | ⟨rfl, h1⟩
    · rcases h2 with h2 | ⟨rfl, h2⟩
      · exact .inl (by omega)
      · exact .inl h1
    · rcases h2 with h2 | ⟨rfl, h2⟩
      · exact .inl h2
      · exact .inr ⟨rfl, lt_trans h1 h2⟩
theorem lt_tri : ∀ (x y : Bs), Lt x y ∨ x = y ∨ Lt y x
  | [], [] => .inr (.inl rfl)
  | [], _ :: _ => .inl (nil_lt _ _)
  | _ :: _, [] => .inr (.inr (nil_lt _ _))
  | a :: x, b :: y => by
    rw [lt_cons, lt_cons, u8lt, u8lt]
    rcases Nat.lt_trichotomy a.toNat b.toNat with h | h | h
    · exact .inl (.inl h)
    · have e := u8eq h
      subst e
      rcases lt_tri x y with h | h | h
      · exact .inl (.inr ⟨rfl, h⟩)
      · exact .inr (.inl (by rw [h]))
      · exact .inr (.inr (.inr ⟨rfl, h⟩))
    · exact .inr (.inr (.inl h))

abbrev Kn := lombardref13_Known
/-- The number at a place. -/
def num (l : List Kn) (i : Nat) : Bs := (l.getD i default).A.ISIN
def bookOf (l : List Kn) : asset_Book := ⟨l.map (·.A), l.map (·.Price), true⟩

theorem nth_kn (l : List Kn) (n : Nat) : nth l (n : Int) = l.getD n default := rfl
theorem nth_as (l : List Kn) (n : Nat) : nth (l.map (·.A)) (n : Int) = (l.getD n default).A := by
  show (l.map (·.A)).getD n default = _
  rw [List.getD_eq_getElem?_getD, List.getElem?_map, List.getD_eq_getElem?_getD]
  cases l[n]? <;> rfl
theorem nth_pr (l : List Kn) (n : Nat) : nth (l.map (·.Price)) (n : Int) = (l.getD n default).Price := by
  show (l.map (·.Price)).getD n default = _
  rw [List.getD_eq_getElem?_getD, List.getElem?_map, List.getD_eq_getElem?_getD]
  cases l[n]? <;> rfl

/-- By rising numbers. -/
def Rise (l : List Kn) : Prop := ∀ i j, i < j → j < l.length → Lt (num l i) (num l j)

theorem cmp_is (x y : Bs) : ∃ v : Int, (v < 0 ↔ Lt x y) ∧ (v = 0 ↔ x = y) ∧ cmp_Compare_string.f x y = some v := by
  unfold cmp_Compare_string.f cmp_isNaN_string.f
  simp only [beq_self_eq_true, Bool.not_true, Option.bind_some, Bool.false_eq_true, if_false]
  by_cases h : Go.Op.bytesLess x y = true
  · exact ⟨-1, ⟨fun _ => h, fun _ => by decide⟩, ⟨fun e => (by cases e), fun e => (by subst e; exact absurd h (lt_irrefl x))⟩, by rw [if_pos h]⟩
  · rw [if_neg h]
    have h' : Go.Op.bytesLess x y = false := by simpa using h
    by_cases e : x = y
    · exact ⟨0, ⟨fun q => absurd q (by decide), fun q => absurd q h⟩, ⟨fun _ => e, fun _ => rfl⟩, by rw [if_neg (by simp [e])]⟩
    · exact ⟨1, ⟨fun q => absurd q (by decide), fun q => absurd q h⟩, ⟨fun q => absurd q (by decide), fun q => absurd q e⟩, by rw [if_pos (by simp [h', e])]⟩

theorem shrB (u : Int) : shrI .u64 u 1 = u / 2 := by
  show u.fdiv 2 = _; exact Int.fdiv_eq_ediv_of_nonneg _ (by decide)
theorem half_is (x y : Nat) (hx : x ≤ 1000) (hy : y ≤ 1000) : IntKind.i64.wrap (shrI .u64 (IntKind.wrap .u64 (IntKind.wrap .i64 ((x : Int) + (y : Int)))) 1) = (((x + y) / 2 : Nat) : Int) := by
  rw [i64_idz ((x : Int) + y) (by omega) (by omega), u64_id _ (by omega) (by omega), shrB, i64_idz _ (by omega) (by omega)]; omega

theorem search_loop (l : List Kn) (d : Bs) (h : Rise l) (few : l.length ≤ 100) : ∀ (n lo hi : Nat), hi ≤ lo + n → lo ≤ hi → hi ≤ l.length → (∀ k, k < lo → Lt (num l k) d) → (∀ k, hi ≤ k → k < l.length → ¬ Lt (num l k) d) →
    ∃ i : Nat, i ≤ l.length ∧ (∀ k, k < i → Lt (num l k) d) ∧ (∀ k, i ≤ k → k < l.length → ¬ Lt (num l k) d) ∧ loop (slices_BinarySearchFunc_string__asset_Book_place_1.r0 (l.map (·.A)) d) ((lo : Int), (hi : Int)) = some (i : Int)
  | n, lo, hi, hn, hle, hlen, hb, ha => by
    by_cases c : lo < hi
    · obtain ⟨n, rfl⟩ : ∃ m, n = m + 1 := ⟨n - 1, by omega⟩
      have hh := half_is lo hi (by omega) (by omega)
      have w := i64_nx ((lo + hi) / 2) (by omega)
      have key : slices_BinarySearchFunc_string__asset_Book_place_1.r0 (l.map (·.A)) d ((lo : Int), (hi : Int)) = if Lt (num l ((lo + hi) / 2)) d then some (.inl ((((lo + hi) / 2 + 1 : Nat) : Int), (hi : Int))) else some (.inl ((lo : Int), (((lo + hi) / 2 : Nat) : Int))) := by
        unfold slices_BinarySearchFunc_string__asset_Book_place_1.r0 slices_BinarySearchFunc_string__asset_Book_place_1.b0 asset_Book_place_1_v2.f
        simp only
        obtain ⟨v, v1, v2, v3⟩ := cmp_is (num l ((lo + hi) / 2)) d
        unfold num at v3
        rw [if_pos (decide_eq_true (by omega)), hh, if_pos (by rw [List.length_map]; omega), nth_as, v3, Option.bind_some, Option.bind_some, w]
        by_cases c1 : Lt (num l ((lo + hi) / 2)) d
        · rw [if_pos c1, if_pos (decide_eq_true (v1.2 c1))]
        · rw [if_neg c1, if_neg (fun h => c1 (v1.1 (of_decide_eq_true h)))]
      by_cases c1 : Lt (num l ((lo + hi) / 2)) d
      · rw [if_pos c1] at key
        obtain ⟨i, i1, i2, i3, i4⟩ := search_loop l d h few n ((lo + hi) / 2 + 1) hi (by omega) (by omega) hlen (fun k hk => by
          by_cases e : k = (lo + hi) / 2
          · subst e; exact c1
          · exact lt_trans (h k ((lo + hi) / 2) (by omega) (by omega)) c1) ha
        exact ⟨i, i1, i2, i3, by rw [loop_next key, i4]⟩
      · rw [if_neg c1] at key
        obtain ⟨i, i1, i2, i3, i4⟩ := search_loop l d h few n lo ((lo + hi) / 2) (by omega) (by omega) (by omega) hb (fun k hk hk2 => by
          by_cases e : k = (lo + hi) / 2
          · subst e; exact c1
          · exact fun q => c1 (lt_trans (h ((lo + hi) / 2) k (by omega) hk2) q))
        exact ⟨i, i1, i2, i3, by rw [loop_next key, i4]⟩
    · obtain rfl : lo = hi := by omega
      refine ⟨lo, hlen, hb, ha, loop_end ?_⟩
      unfold slices_BinarySearchFunc_string__asset_Book_place_1.r0 slices_BinarySearchFunc_string__asset_Book_place_1.b0
      simp only
      rw [if_neg (by simp)]

theorem find_loop (l : List Kn) (d : Bs) (few : l.length ≤ 100) : ∀ (j i : Nat), l.length = i + j → (∀ k, k < i → num l k ≠ d) →
    (∃ k : Nat, k < l.length ∧ num l k = d ∧ (∀ m, m < k → num l m ≠ d) ∧ loop (lombardref13_Find.r0 l d) (i : Int) = some (.inl (k : Int))) ∨
    ((∀ k, k < l.length → num l k ≠ d) ∧ loop (lombardref13_Find.r0 l d) (i : Int) = some (.inr ()))
  | 0, i, h, hn => by
    right
    refine ⟨fun k hk => hn k (by omega), loop_end ?_⟩
    unfold lombardref13_Find.r0 lombardref13_Find.b0
    rw [if_neg (by simp; omega)]
  | j + 1, i, h, hn => by
    have key : lombardref13_Find.r0 l d (i : Int) = if num l i = d then some (.inr (.inl (i : Int))) else some (.inl ((i + 1 : Nat) : Int)) := by
      unfold lombardref13_Find.r0 lombardref13_Find.b0
      rw [if_pos (decide_eq_true (by omega)), if_pos (by omega), nth_kn, i64_nx i (by omega)]
      show (if (num l i == d) = true then _ else _) = _
      by_cases c : num l i = d
      · rw [if_pos (by simpa using c), if_pos c]
      · rw [if_neg (by simpa using c), if_neg c]
    by_cases c : num l i = d
    · rw [if_pos c] at key
      exact .inl ⟨i, by omega, c, hn, loop_end key⟩
    · rw [if_neg c] at key
      rw [loop_next key]
      exact find_loop l d few j (i + 1) (by omega) (fun k hk => by
        by_cases e : k = i
        · subst e; exact c
        · exact hn k (by omega))

/-- Both find a number, or neither does; and where it would be. -/
theorem found (l : List Kn) (d : Bs) (h : Rise l) (few : l.length ≤ 100) :
    (∃ k : Nat, k < l.length ∧ num l k = d ∧ asset_Book_place.f (bookOf l) d = some ((k : Int), true) ∧ lombardref13_Find.f l d = some (k : Int)) ∨
    ((∀ k, k < l.length → num l k ≠ d) ∧ (∃ i : Nat, i ≤ l.length ∧ (∀ k, k < i → Lt (num l k) d) ∧ (∀ k, i ≤ k → k < l.length → Lt d (num l k)) ∧ asset_Book_place.f (bookOf l) d = some ((i : Int), false)) ∧ lombardref13_Find.f l d = some (-1)) := by
  obtain ⟨i, i1, i2, i3, i4⟩ := search_loop l d h few l.length 0 l.length (by omega) (by omega) (Nat.le_refl _) (fun k hk => by omega) (fun k hk hk2 => by omega)
  have i4' : loop (slices_BinarySearchFunc_string__asset_Book_place_1.r0 (l.map (·.A)) d) (0, (l.length : Int)) = some (i : Int) := i4
  have B : ∃ b : Bool, (b = true ↔ i < l.length ∧ num l i = d) ∧ asset_Book_place.f (bookOf l) d = some ((i : Int), b) := by
    unfold asset_Book_place.f slices_BinarySearchFunc_string__asset_Book_place_1.f bookOf
    simp only [List.length_map]
    rw [i4', Option.bind_some, if_pos (fun h => by have := of_decide_eq_true h; omega)]
    by_cases c : i < l.length
    · obtain ⟨v, v1, v2, v3⟩ := cmp_is (num l i) d
      unfold num at v3
      unfold asset_Book_place_1_v2.f
      rw [if_pos (decide_eq_true (by omega)), nth_as, v3, Option.bind_some, Option.bind_some, Option.bind_some]
      refine ⟨_, ?_, rfl⟩
      simp only [Bool.and_eq_true, decide_eq_true_eq, beq_iff_eq, v2]
      exact ⟨fun h => ⟨by omega, h.2⟩, fun h => ⟨by omega, h.2⟩⟩
    · rw [if_neg (by simp; omega), Option.bind_some, Option.bind_some]
      refine ⟨_, ?_, rfl⟩
      simp; omega
  obtain ⟨b, hb, hB⟩ := B
  rcases find_loop l d few l.length 0 (by omega) (fun k hk => by omega) with ⟨k, k1, k2, k3, k4⟩ | ⟨k1, k2⟩
  · left
    have e : k = i := by
      rcases Nat.lt_trichotomy k i with c | c | c
      · have := i2 k c; rw [k2] at this; exact absurd this (lt_irrefl d)
      · exact c
      · have q := h i k c k1
        rw [k2] at q
        exact absurd q (i3 i (Nat.le_refl _) (by omega))
    subst e
    have k4' : loop (lombardref13_Find.r0 l d) 0 = some (.inl (k : Int)) := k4
    refine ⟨k, k1, k2, by rw [hB, hb.2 ⟨k1, k2⟩], ?_⟩
    unfold lombardref13_Find.f
    rw [k4']; rfl
  · right
    have k2' : loop (lombardref13_Find.r0 l d) 0 = some (.inr ()) := k2
    refine ⟨k1, ⟨i, i1, i2, fun k hk hk2 => ?_, ?_⟩, ?_⟩
    · rcases lt_tri d (num l k) with q | q | q
      · exact q
      · exact absurd q.symm (k1 k hk2)
      · exact absurd q (i3 k hk hk2)
    · cases b with
      | false => exact hB
      | true => obtain ⟨g1, g2⟩ := hb.1 rfl; exact absurd g2 (k1 i g1)
    · unfold lombardref13_Find.f
      rw [k2']; rfl

theorem add_low (l : List Kn) (a : api_Asset) (few : l.length ≤ 64) (i : Nat) (hi : i ≤ l.length) (lo : ∀ k, k < i → Lt (num l k) a.ISIN) : ∀ (n j : Nat), j + n = i →
    loop (lombardref13_Add.r0 l a) (false, (j : Int), l.take j) = loop (lombardref13_Add.r0 l a) (false, (i : Int), l.take i)
  | 0, j, h => by
    obtain rfl : j = i := by omega
    rfl
  | n + 1, j, h => by
    have hl := lo j (by omega)
    have key : lombardref13_Add.r0 l a (false, (j : Int), l.take j) = some (.inl (false, ((j + 1 : Nat) : Int), l.take (j + 1))) := by
      unfold lombardref13_Add.r0 lombardref13_Add.b0
      simp only [nth_kn]
      have hl' : Go.Op.bytesLess (l.getD j default).A.ISIN a.ISIN = true := hl
      rw [if_pos (decide_eq_true (by omega)), if_pos (fun _ => by omega), if_neg (by rw [hl']; simp), Option.bind_some, if_pos (by omega), if_pos (by simp only [List.length_take, List.length_singleton]; omega), i64_nx j (by omega)]
      have e : l.take (j + 1) = l.take j ++ [l.getD j default] := by
        rw [List.take_add_one, List.getElem?_eq_getElem (by omega), List.getD_eq_getElem?_getD, List.getElem?_eq_getElem (by omega)]; rfl
      rw [e]
    rw [loop_next key]
    exact add_low l a few i hi lo n (j + 1) (by omega)

theorem drop_getD (l : List Kn) (j : Nat) (h : j < l.length) : l.drop j = l.getD j default :: l.drop (j + 1) := by
  rw [List.drop_eq_getElem_cons h, List.getD_eq_getElem?_getD, List.getElem?_eq_getElem h]; rfl

theorem add_rest (l : List Kn) (a : api_Asset) (few : l.length ≤ 64) : ∀ (n j : Nat) (pre : List Kn), l.length = j + n → pre.length + n ≤ 1000 →
    loop (lombardref13_Add.r0 l a) (true, (j : Int), pre) = some (true, pre ++ l.drop j)
  | 0, j, pre, h, _ => by
    rw [List.drop_of_length_le (by omega), List.append_nil]
    refine loop_end ?_
    unfold lombardref13_Add.r0 lombardref13_Add.b0
    rw [if_neg (by simp; omega)]
  | n + 1, j, pre, h, hh => by
    have key : lombardref13_Add.r0 l a (true, (j : Int), pre) = some (.inl (true, ((j + 1 : Nat) : Int), pre ++ [l.getD j default])) := by
      unfold lombardref13_Add.r0 lombardref13_Add.b0
      simp only [nth_kn]
      rw [if_pos (decide_eq_true (by omega)), if_pos (fun h => by cases h), if_neg (by simp), Option.bind_some, if_pos (by omega), if_pos (by simp only [List.length_singleton]; omega), i64_nx j (by omega)]
    rw [loop_next key, add_rest l a few n (j + 1) _ (by omega) (by simp only [List.length_append, List.length_singleton]; omega), drop_getD l j (by omega), List.append_assoc]; rfl

theorem addA_loop (l : List Kn) (a : api_Asset) (few : l.length ≤ 64) (i : Nat) (hi : i ≤ l.length) (lo : ∀ k, k < i → Lt (num l k) a.ISIN) (up : ∀ k, i ≤ k → k < l.length → Lt a.ISIN (num l k)) :
    ∃ o, loop (lombardref13_Add.r0 l a) (false, 0, []) = some o ∧ (if (!o.1) = true then o.2 ++ [(⟨a, 0⟩ : Kn)] else o.2) = l.take i ++ [⟨a, 0⟩] ++ l.drop i ∧ o.2.length ≤ 65 := by
  have h0 : loop (lombardref13_Add.r0 l a) (false, 0, []) = loop (lombardref13_Add.r0 l a) (false, (i : Int), l.take i) := add_low l a few i hi lo i 0 (by omega)
  by_cases c : i < l.length
  · have hu := up i (Nat.le_refl _) c
    have key : lombardref13_Add.r0 l a (false, (i : Int), l.take i) = some (.inl (true, ((i + 1 : Nat) : Int), l.take i ++ [⟨a, 0⟩] ++ [l.getD i default])) := by
      unfold lombardref13_Add.r0 lombardref13_Add.b0
      simp only [nth_kn]
      have n1 : Go.Op.bytesLess (l.getD i default).A.ISIN a.ISIN = false := by
        cases q : Go.Op.bytesLess (l.getD i default).A.ISIN a.ISIN with
        | false => rfl
        | true => exact absurd (lt_trans (show Lt (num l i) a.ISIN from q) hu) (lt_irrefl _)
      have n2 : ((l.getD i default).A.ISIN == a.ISIN) = false := by
        rw [beq_eq_false_iff_ne]
        intro q
        have hu : Lt a.ISIN (l.getD i default).A.ISIN := hu
        rw [q] at hu; exact lt_irrefl _ hu
      rw [if_pos (decide_eq_true (by omega)), if_pos (fun _ => by omega), if_pos (by rw [n1, n2]; rfl), if_pos (by simp only [List.length_take, List.length_singleton]; omega), Option.bind_some, if_pos (by omega),
        if_pos (by simp only [List.length_append, List.length_take, List.length_singleton]; omega), i64_nx i (by omega)]
    have len : (l.take i ++ [(⟨a, 0⟩ : Kn)] ++ [l.getD i default]).length = i + 2 := by simp only [List.length_append, List.length_take, List.length_singleton]; omega
    refine ⟨_, by rw [h0, loop_next key, add_rest l a few (l.length - i - 1) (i + 1) _ (by omega) (by rw [len]; omega)], ?_, ?_⟩
    · rw [if_neg (fun h => by cases h), drop_getD l i c, List.append_assoc (l.take i ++ [_])]; rfl
    · rw [List.length_append, len, List.length_drop]; omega
  · obtain rfl : i = l.length := by omega
    refine ⟨(false, l.take l.length), by
      rw [h0]
      refine loop_end ?_
      unfold lombardref13_Add.r0 lombardref13_Add.b0
      rw [if_neg (by simp)], ?_, ?_⟩
    · rw [if_pos (by rfl), List.drop_of_length_le (Nat.le_refl _), List.append_nil]
    · rw [List.length_take]; omega

/-- What holds of every book. -/
structure Inv (l : List Kn) : Prop where
  rise : Rise l
  few : l.length ≤ 64
  price : ∀ x ∈ l, 0 ≤ x.Price ∧ x.Price ≤ 4294967296

theorem num_lt (l : List Kn) (i : Nat) (a : Kn) (hi : i ≤ l.length) (k : Nat) : num (l.take i ++ [a] ++ l.drop i) k = if k < i then num l k else if k = i then a.A.ISIN else num l (k - 1) := by
  have t : (l.take i).length = i := by rw [List.length_take]; omega
  unfold num
  rw [List.append_assoc]
  split
  · rename_i c
    rw [List.getD_eq_getElem?_getD, List.getElem?_append_left (by omega), List.getElem?_take, if_pos c, ← List.getD_eq_getElem?_getD]
  · rename_i c
    rw [List.getD_eq_getElem?_getD, List.getElem?_append_right (by omega), t]
    split
    · rename_i e; rw [e, Nat.sub_self]; rfl
    · rename_i e
      obtain ⟨q, rfl⟩ : ∃ q, k = i + q + 1 := ⟨k - i - 1, by omega⟩
      rw [show i + q + 1 - i = q + 1 by omega]
      simp only [List.singleton_append, List.getElem?_cons_succ, List.getElem?_drop]
      rw [show i + q + 1 - 1 = i + q by omega, List.getD_eq_getElem?_getD]

theorem rise_ins (l : List Kn) (a : Kn) (i : Nat) (h : Rise l) (hi : i ≤ l.length) (lo : ∀ k, k < i → Lt (num l k) a.A.ISIN) (up : ∀ k, i ≤ k → k < l.length → Lt a.A.ISIN (num l k)) : Rise (l.take i ++ [a] ++ l.drop i) := by
  intro p q hpq hq
  have len : (l.take i ++ [a] ++ l.drop i).length = l.length + 1 := by simp only [List.length_append, List.length_take, List.length_drop, List.length_singleton]; omega
  rw [len] at hq
  rw [num_lt l i a hi, num_lt l i a hi]
  by_cases c1 : p < i
  · rw [if_pos c1]
    by_cases c2 : q < i
    · rw [if_pos c2]; exact h p q hpq (by omega)
    · rw [if_neg c2]
      by_cases c3 : q = i
      · rw [if_pos c3]; exact lo p c1
      · rw [if_neg c3]; exact h p (q - 1) (by omega) (by omega)
  · rw [if_neg c1, if_neg (by omega : ¬ q < i), if_neg (by omega : ¬ q = i)]
    by_cases c3 : p = i
    · rw [if_pos c3]; exact up (q - 1) (by omega) (by omega)
    · rw [if_neg c3]; exact h (p - 1) (q - 1) (by omega) (by omega)

theorem addA_is (l : List Kn) (a : api_Asset) (h : Inv l) : ∃ v l', lombardref13_Add.f l a = some (l', v) ∧ asset_Book_Add.f (bookOf l) a = some (v, bookOf l') ∧ Inv l' := by
  obtain ⟨v, v1, v2⟩ := asset_is a
  have few := h.few
  unfold lombardref13_Add.f asset_Book_Add.f
  rw [v1, v2]
  simp only [Option.bind_some]
  have hm : ¬ (!(bookOf l).made) = true := fun h => by cases h
  rw [if_neg hm]
  by_cases c : (v != 0) = true
  · rw [if_pos c, if_pos c]
    exact ⟨v, l, rfl, rfl, h⟩
  · rw [if_neg c, if_neg c]
    rcases found l a.ISIN h.rise (by omega) with ⟨k, k1, k2, k3, k4⟩ | ⟨k1, ⟨i, i1, i2, i3, i4⟩, k3⟩
    · rw [k3, k4]
      simp only [Option.bind_some]
      rw [if_pos (decide_eq_true (by omega)), if_pos trivial]
      exact ⟨7, l, rfl, rfl, h⟩
    · rw [i4, k3]
      simp only [Option.bind_some]
      rw [if_neg (by decide : ¬ decide ((-1 : Int) ≥ 0) = true), if_neg (by decide : ¬ false = true)]
      have e1 : (List.length (bookOf l).l : Int) = (l.length : Int) := by show ((l.map _).length : Int) = _; rw [List.length_map]
      rw [e1]
      by_cases f : l.length ≥ 64
      · rw [if_pos (decide_eq_true (by omega)), if_pos (decide_eq_true (by omega))]
        exact ⟨18, l, rfl, rfl, h⟩
      · rw [if_neg (by simp; omega), if_neg (by simp; omega)]
        obtain ⟨o, o1, o2, o3⟩ := addA_loop l a (by omega) i i1 i2 i3
        have ins1 : slices_Insert_api_Asset.f (bookOf l).l (i : Int) [a] = some ((l.take i ++ [(⟨a, 0⟩ : Kn)] ++ l.drop i).map (·.A)) := by
          unfold slices_Insert_api_Asset.f insF bookOf
          rw [if_pos (by simp; omega)]
          simp [List.map_take, List.map_drop]
        have ins2 : slices_Insert_int.f (bookOf l).prices (i : Int) [0] = some ((l.take i ++ [(⟨a, 0⟩ : Kn)] ++ l.drop i).map (·.Price)) := by
          unfold slices_Insert_int.f insF bookOf
          rw [if_pos (by simp; omega)]
          simp [List.map_take, List.map_drop]
        rw [o1, ins1, Option.bind_some, ins2, Option.bind_some, Option.bind_some]
        refine ⟨0, l.take i ++ [⟨a, 0⟩] ++ l.drop i, ?_, rfl, ?_⟩
        · by_cases c5 : (!o.1) = true
          · rw [if_pos c5] at o2
            rw [if_pos c5, if_pos (by simp only [List.length_singleton]; omega), o2]
          · rw [if_neg c5] at o2
            rw [if_neg c5, o2]
        · refine ⟨rise_ins l ⟨a, 0⟩ i h.rise i1 i2 i3, ?_, ?_⟩
          · simp only [List.length_append, List.length_take, List.length_drop, List.length_singleton]; omega
          · intro x hx
            rcases List.mem_append.1 hx with hx | hx
            · rcases List.mem_append.1 hx with hx | hx
              · exact h.price x (List.mem_of_mem_take hx)
              · rw [List.mem_singleton.1 hx]
                show (0 : Int) ≤ 0 ∧ (0 : Int) ≤ 4294967296
                decide
            · exact h.price x (List.mem_of_mem_drop hx)

theorem num_of_map {l m : List Kn} (h : m.map (·.A) = l.map (·.A)) (i : Nat) : num m i = num l i := by
  have e : ∀ x : List Kn, num x i = (nth (x.map (fun y : Kn => y.A)) (i : Int)).ISIN := fun x => by
    rw [nth_as]; rfl
  rw [e, e, h]

theorem set_loop (l : List Kn) (ps : List api_Price) (h : Inv l) (fp : ps.length ≤ 100) : ∀ (j i : Nat) (out : List Kn), ps.length = i + j → out.map (·.A) = l.map (·.A) → (∀ x ∈ out, 0 ≤ x.Price ∧ x.Price ≤ 4294967296) →
    (∃ (q e : Int), loop (lombardref13_Set.r0 l ps) ((i : Int), out) = some (.inl (l, q, e)) ∧ loop (asset_Book_Set.r0 (bookOf l) ps) (i : Int) = some (.inl (q, e, bookOf l))) ∨
    (∃ out' : List Kn, loop (lombardref13_Set.r0 l ps) ((i : Int), out) = some (.inr out') ∧ loop (asset_Book_Set.r0 (bookOf l) ps) (i : Int) = some (.inr ()) ∧
      loop (asset_Book_Set.r1 ps) ((i : Int), true, l.map (·.A), out.map (·.Price)) = some (true, l.map (·.A), out'.map (·.Price)) ∧ out'.map (·.A) = l.map (·.A) ∧ ∀ x ∈ out', 0 ≤ x.Price ∧ x.Price ≤ 4294967296)
  | 0, i, out, hj, hA, hP => by
    right
    refine ⟨out, loop_end ?_, loop_end ?_, loop_end ?_, hA, hP⟩
    · unfold lombardref13_Set.r0 lombardref13_Set.b0
      rw [if_neg (by simp; omega)]
    · unfold asset_Book_Set.r0 asset_Book_Set.b0
      rw [if_neg (by simp; omega)]
    · unfold asset_Book_Set.r1 asset_Book_Set.b1
      rw [if_neg (by simp; omega)]
  | j + 1, i, out, hj, hA, hP => by
    have few := h.few
    have lo : out.length = l.length := by
      have := congrArg List.length hA
      rwa [List.length_map, List.length_map] at this
    generalize hp : nth ps (i : Int) = p
    rcases found l p.ISIN h.rise (by omega) with ⟨k, k1, k2, k3, k4⟩ | ⟨k1, ⟨q, i1, i2, i3, i4⟩, k3⟩
    · by_cases c : ((decide (p.Price < 1)) || (decide (p.Price > 4294967296))) = true
      · left
        refine ⟨(i : Int), 31, loop_end ?_, loop_end ?_⟩
        · unfold lombardref13_Set.r0 lombardref13_Set.b0
          simp only [hp]
          rw [if_pos (decide_eq_true (by omega)), if_pos (by omega), k4, Option.bind_some, if_neg (by simp), if_pos (by omega), if_pos (fun _ => by omega), if_pos c]
        · unfold asset_Book_Set.r0 asset_Book_Set.b0
          simp only [hp]
          rw [if_pos (decide_eq_true (by omega)), if_pos (by omega), k3, Option.bind_some, if_neg (by simp), if_pos c]
      · have c' : 1 ≤ p.Price ∧ p.Price ≤ 4294967296 := by
          simp only [Bool.or_eq_true, decide_eq_true_eq] at c; omega
        have s1 : lombardref13_Set.r0 l ps ((i : Int), out) = some (.inl (((i + 1 : Nat) : Int), out.set k ⟨(out.getD k default).A, p.Price⟩)) := by
          unfold lombardref13_Set.r0 lombardref13_Set.b0
          simp only [hp]
          rw [if_pos (decide_eq_true (by omega)), if_pos (by omega), k4, Option.bind_some, if_neg (by simp), if_pos (by omega), if_pos (fun _ => by omega), if_neg c, if_pos (by omega), if_pos (by omega), i64_nx i (by omega)]
          rfl
        have s2 : asset_Book_Set.r0 (bookOf l) ps (i : Int) = some (.inl ((i + 1 : Nat) : Int)) := by
          unfold asset_Book_Set.r0 asset_Book_Set.b0
          simp only [hp]
          rw [if_pos (decide_eq_true (by omega)), if_pos (by omega), k3, Option.bind_some, if_neg (by simp), if_neg c, i64_nx i (by omega)]
        have s3 : asset_Book_Set.r1 ps ((i : Int), true, l.map (·.A), out.map (·.Price)) = some (.inl (((i + 1 : Nat) : Int), true, l.map (·.A), (out.set k ⟨(out.getD k default).A, p.Price⟩).map (·.Price))) := by
          unfold asset_Book_Set.r1 asset_Book_Set.b1
          simp only [hp]
          have k3' : asset_Book_place.f (⟨l.map (·.A), out.map (·.Price), true⟩ : asset_Book) p.ISIN = some ((k : Int), true) := k3
          rw [if_pos (decide_eq_true (by omega)), if_pos (by omega), k3', Option.bind_some, if_pos (by simp only [List.length_map]; omega), i64_nx i (by omega), List.map_set]
          rfl
        have A2 : (out.set k ⟨(out.getD k default).A, p.Price⟩).map (·.A) = l.map (·.A) := by
          rw [List.map_set, ← hA]
          have e : (out.getD k default).A = (out.map (fun x : Kn => x.A))[k]'(by rw [List.length_map]; omega) := by
            rw [List.getElem_map, List.getD_eq_getElem?_getD, List.getElem?_eq_getElem (by omega)]; rfl
          show (out.map (fun x : Kn => x.A)).set k (out.getD k default).A = _
          rw [e, List.set_getElem_self]
        have P2 : ∀ x ∈ out.set k ⟨(out.getD k default).A, p.Price⟩, 0 ≤ x.Price ∧ x.Price ≤ 4294967296 := by
          intro x hx
          rcases List.mem_or_eq_of_mem_set hx with hx | hx
          · exact hP x hx
          · rw [hx]; exact ⟨by show 0 ≤ p.Price; omega, c'.2⟩
        rw [loop_next s1, loop_next s2, loop_next s3]
        exact set_loop l ps h fp j (i + 1) _ (by omega) A2 P2
    · left
      refine ⟨(i : Int), 21, loop_end ?_, loop_end ?_⟩
      · unfold lombardref13_Set.r0 lombardref13_Set.b0
        simp only [hp]
        rw [if_pos (decide_eq_true (by omega)), if_pos (by omega), k3, Option.bind_some, if_pos (by decide)]
      · unfold asset_Book_Set.r0 asset_Book_Set.b0
        simp only [hp]
        rw [if_pos (decide_eq_true (by omega)), if_pos (by omega), i4, Option.bind_some, if_pos (by rfl)]

theorem set_is (l : List Kn) (ps : List api_Price) (h : Inv l) (fp : ps.length ≤ 100) : ∃ n e l', lombardref13_Set.f l ps = some (l', n, e) ∧ asset_Book_Set.f (bookOf l) ps = some (n, e, bookOf l') ∧ Inv l' := by
  have few := h.few
  unfold lombardref13_Set.f asset_Book_Set.f
  rw [if_pos (by simp only [List.length_nil]; omega), if_neg (by simp [bookOf]), List.nil_append]
  rcases set_loop l ps h fp ps.length 0 l (by omega) rfl h.price with ⟨q, e, e1, e2⟩ | ⟨out, e1, e2, e3, e4, e5⟩
  · have e1' : loop (lombardref13_Set.r0 l ps) (0, l) = _ := e1
    have e2' : loop (asset_Book_Set.r0 (bookOf l) ps) 0 = _ := e2
    rw [e1', e2']
    exact ⟨q, e, l, rfl, rfl, h⟩
  · have e1' : loop (lombardref13_Set.r0 l ps) (0, l) = _ := e1
    have e2' : loop (asset_Book_Set.r0 (bookOf l) ps) 0 = _ := e2
    have e3' : loop (asset_Book_Set.r1 ps) (0, (bookOf l).made, (bookOf l).l, (bookOf l).prices) = _ := e3
    rw [e1', e2']
    simp only [Option.bind_some]
    rw [e3', Option.bind_some]
    refine ⟨(ps.length : Int), 0, out, rfl, ?_, ?_⟩
    · show some ((ps.length : Int), (0 : Int), (⟨l.map (·.A), out.map (·.Price), true⟩ : asset_Book)) = _
      unfold bookOf; rw [e4]
    · have lo : out.length = l.length := by
        have := congrArg List.length e4
        rwa [List.length_map, List.length_map] at this
      refine ⟨fun i j hij hj => ?_, by omega, e5⟩
      rw [num_of_map e4, num_of_map e4]
      exact h.rise i j hij (by omega)

end Go.Proofs.Ytkcjlpiaaklnkaa

