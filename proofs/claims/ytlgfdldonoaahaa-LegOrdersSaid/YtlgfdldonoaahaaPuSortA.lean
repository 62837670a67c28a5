/- Shows, of the library's stable sort of legs: how two are compared, what the sort by insertion does, and how parts are exchanged. -/
import Derived.Test.YtlgfdldonoaahaaPuSort
import Derived.Test.YtlgfdldonoaahaaGx5
namespace Go.Proofs.Ytlgfdldonoaahaa
open Go Go.Pm Go.Pm.Arith
set_option linter.unusedVariables false
set_option linter.unusedSimpArgs false

theorem sw_id (n : Int) (h₀ : -9223372036854775808 ≤ n) (h₁ : n < 9223372036854775808) : IntKind.i64.wrap n = n := by rw [IntKind.wrap_i64]; omega
theorem sw_nx (i : Nat) (h : i < 9000000000000000000) : IntKind.i64.wrap ((i : Int) + 1) = ((i + 1 : Nat) : Int) := by rw [sw_id _ (by omega) (by omega)]; omega
theorem sw_pv (i : Nat) (h : 0 < i) (h2 : i < 9000000000000000000) : IntKind.i64.wrap ((i : Int) - 1) = ((i - 1 : Nat) : Int) := by rw [sw_id _ (by omega) (by omega)]; omega
theorem sw_add (a b : Nat) (h : a + b < 9000000000000000000) : IntKind.i64.wrap ((a : Int) + (b : Int)) = ((a + b : Nat) : Int) := by rw [sw_id _ (by omega) (by omega)]; omega
theorem sw_sub (a b : Nat) (h : b ≤ a) (h2 : a < 9000000000000000000) : IntKind.i64.wrap ((a : Int) - (b : Int)) = ((a - b : Nat) : Int) := by rw [sw_id _ (by omega) (by omega)]; omega
theorem sw_u64 (n : Int) (h₀ : 0 ≤ n) (h₁ : n < 18446744073709551616) : IntKind.u64.wrap n = n := by rw [IntKind.wrap_u64]; omega
theorem sw_half (x y : Nat) (hx : x ≤ 100000) (hy : y ≤ 100000) : IntKind.i64.wrap (shrI .u64 (IntKind.wrap .u64 (IntKind.wrap .i64 ((x : Int) + (y : Int)))) 1) = (((x + y) / 2 : Nat) : Int) := by
  have e : ∀ u : Int, shrI .u64 u 1 = u / 2 := fun u => by show u.fdiv 2 = _; exact Int.fdiv_eq_ediv_of_nonneg _ (by decide)
  rw [sw_id ((x : Int) + y) (by omega) (by omega), sw_u64 _ (by omega) (by omega), e, sw_id _ (by omega) (by omega)]; omega

/-! ### the order -/
abbrev Lg := api_Leg
def key (x : Lg) : Int × Int × Int := (x.Day, x.Member, x.Trade)
def lt3 (a b : Int × Int × Int) : Prop := a.1 < b.1 ∨ (a.1 = b.1 ∧ (a.2.1 < b.2.1 ∨ (a.2.1 = b.2.1 ∧ a.2.2 < b.2.2)))
instance (a b : Int × Int × Int) : Decidable (lt3 a b) := inferInstanceAs (Decidable (_ ∨ _))
theorem ord3 : Ord lt3 where
  irrefl := fun a h => by unfold lt3 at h; omega
  trans := fun a b c h1 h2 => by unfold lt3 at *; omega
  tri := fun ⟨a1, a2, a3⟩ ⟨b1, b2, b3⟩ => by
    unfold lt3
    simp only [Prod.mk.injEq]
    omega

theorem icmp_is (x y : Int) : ∃ v : Int, (v < 0 ↔ x < y) ∧ (v = 0 ↔ x = y) ∧ cmp_Compare_int.f x y = some v := by
  unfold cmp_Compare_int.f cmp_isNaN_int.f
  have e : ∀ z : Int, (z != z) = false := fun z => by simp
  rw [e, e]
  simp only [Option.bind_some, Bool.false_eq_true, if_false]
  by_cases h : x < y
  · exact ⟨-1, ⟨fun _ => h, fun _ => by decide⟩, ⟨fun e => (by cases e), fun e => (by omega)⟩, by rw [if_pos (decide_eq_true h)]⟩
  · rw [if_neg (by simpa using h)]
    by_cases e : x = y
    · exact ⟨0, ⟨fun q => absurd q (by decide), fun q => absurd q h⟩, ⟨fun _ => e, fun _ => rfl⟩, by rw [if_neg (by simp; omega)]⟩
    · exact ⟨1, ⟨fun q => absurd q (by decide), fun q => absurd q h⟩, ⟨fun q => absurd q (by decide), fun q => absurd q e⟩, by rw [if_pos (by simp; omega)]⟩

theorem or_is (a b c : Int) : cmp_Or_int.f [a, b, c] = some (if a ≠ 0 then a else if b ≠ 0 then b else if c ≠ 0 then c else 0) := by
  have n0 : nth [a, b, c] 0 = a := rfl
  have n1 : nth [a, b, c] 1 = b := rfl
  have n2 : nth [a, b, c] 2 = c := rfl
  unfold cmp_Or_int.f
  have s0 : cmp_Or_int.r0 [a, b, c] 0 = if a ≠ 0 then some (.inr (.inl a)) else some (.inl 1) := by
    unfold cmp_Or_int.r0 cmp_Or_int.b0
    rw [if_pos (by simp), if_pos (by simp), n0]
    by_cases h : a = 0
    · rw [if_neg (by simp [h]), if_neg (by simp [h])]; rfl
    · rw [if_pos (by simpa using h), if_pos h]
  have s1 : cmp_Or_int.r0 [a, b, c] 1 = if b ≠ 0 then some (.inr (.inl b)) else some (.inl 2) := by
    unfold cmp_Or_int.r0 cmp_Or_int.b0
    rw [if_pos (by simp), if_pos (by simp), n1]
    by_cases h : b = 0
    · rw [if_neg (by simp [h]), if_neg (by simp [h])]; rfl
    · rw [if_pos (by simpa using h), if_pos h]
  have s2 : cmp_Or_int.r0 [a, b, c] 2 = if c ≠ 0 then some (.inr (.inl c)) else some (.inl 3) := by
    unfold cmp_Or_int.r0 cmp_Or_int.b0
    rw [if_pos (by simp), if_pos (by simp), n2]
    by_cases h : c = 0
    · rw [if_neg (by simp [h]), if_neg (by simp [h])]; rfl
    · rw [if_pos (by simpa using h), if_pos h]
  have s3 : cmp_Or_int.r0 [a, b, c] 3 = some (.inr (.inr ())) := by
    unfold cmp_Or_int.r0 cmp_Or_int.b0
    rw [if_neg (by simp)]
  by_cases ha : a = 0
  · rw [if_neg (fun q => q ha)] at s0
    rw [loop_next s0, if_neg (fun q => q ha)]
    by_cases hb : b = 0
    · rw [if_neg (fun q => q hb)] at s1
      rw [loop_next s1, if_neg (fun q => q hb)]
      by_cases hc : c = 0
      · rw [if_neg (fun q => q hc)] at s2
        rw [loop_next s2, loop_end s3, if_neg (fun q => q hc)]; rfl
      · rw [if_pos hc] at s2
        rw [loop_end s2, if_pos hc]; rfl
    · rw [if_pos hb] at s1
      rw [loop_end s1, if_pos hb]; rfl
  · rw [if_pos ha] at s0
    rw [loop_end s0, if_pos ha]; rfl

theorem lcmp_is (x y : Lg) : ∃ v : Int, leg_Order_1_v2.f x y = some v ∧ (v < 0 ↔ lt3 (key x) (key y)) := by
  obtain ⟨a, a1, a2, a3⟩ := icmp_is x.Day y.Day
  obtain ⟨b, b1, b2, b3⟩ := icmp_is x.Member y.Member
  obtain ⟨c, c1, c2, c3⟩ := icmp_is x.Trade y.Trade
  unfold leg_Order_1_v2.f
  rw [a3, b3, c3]
  simp only [Option.bind_some]
  rw [or_is]
  refine ⟨_, rfl, ?_⟩
  unfold lt3 key
  simp only
  by_cases ha : a = 0
  · rw [if_neg (fun q => q ha)]
    have := a2.1 ha
    by_cases hb : b = 0
    · rw [if_neg (fun q => q hb)]
      have := b2.1 hb
      by_cases hc : c = 0
      · rw [if_neg (fun q => q hc)]
        have := c2.1 hc
        omega
      · rw [if_pos hc]; omega
    · rw [if_pos hb]
      have : ¬ x.Member = y.Member := fun e => hb (b2.2 e)
      omega
  · rw [if_pos ha]
    have : ¬ x.Day = y.Day := fun e => ha (a2.2 e)
    omega

abbrev SrtL (l : List Lg) : Prop := Srt key lt3 l
abbrev SgL (l m : List Lg) : Prop := Sg key lt3 l m

/-! ### by insertion -/
theorem ins_inner (a : Nat) (P : List Lg) (hP : P.length = a) (x : Lg) (T : List Lg) : ∀ (n : Nat) (A B : List Lg), A.length = n → P.length + n ≤ 100000 → SrtL (A ++ B) → (∀ y ∈ B, lt3 (key x) (key y)) →
    ∃ A' B', A ++ B = A' ++ B' ∧ (∀ y ∈ A', ¬ lt3 (key x) (key y)) ∧ (∀ y ∈ B', lt3 (key x) (key y)) ∧ loop (slices_insertionSortCmpFunc_api_Leg__leg_Order_1.r1 (a : Int)) (((a + n : Nat) : Int), P ++ (A ++ x :: (B ++ T))) = some (P ++ (A' ++ x :: (B' ++ T)))
  | 0, A, B, hA, hl, hs, hb => by
    obtain rfl : A = [] := List.eq_nil_of_length_eq_zero hA
    refine ⟨[], B, rfl, (fun y hy => by cases hy), hb, loop_end ?_⟩
    unfold slices_insertionSortCmpFunc_api_Leg__leg_Order_1.r1 slices_insertionSortCmpFunc_api_Leg__leg_Order_1.b1
    dsimp only
    have d : decide (((a + 0 : Nat) : Int) > (a : Int)) = false := decide_eq_false (by omega)
    rw [d, if_pos (fun h => by cases h), if_pos (fun h => by cases h), if_neg (by decide), Option.bind_some, if_neg (by simp)]
  | n + 1, A, B, hA, hl, hs, hb => by
    obtain ⟨A0, z, rfl⟩ : ∃ A0 z, A = A0 ++ [z] := by
      rcases List.eq_nil_or_concat A with rfl | ⟨A0, z, e⟩
      · simp at hA
      · exact ⟨A0, z, by rw [e, List.concat_eq_append]⟩
    have hA0 : A0.length = n := by simp at hA; exact hA
    have e1 : P ++ ((A0 ++ [z]) ++ x :: (B ++ T)) = (P ++ A0) ++ z :: x :: (B ++ T) := by simp
    have lj : (P ++ A0).length = a + n := by rw [List.length_append, hP, hA0]
    have lj2 : (P ++ A0 ++ [z]).length = a + (n + 1) := by rw [List.length_append, lj]; rfl
    have nj : nth ((P ++ A0) ++ z :: x :: (B ++ T)) (((a + (n + 1) : Nat)) : Int) = x := by
      have : (P ++ A0) ++ z :: x :: (B ++ T) = (P ++ A0 ++ [z]) ++ x :: (B ++ T) := by simp
      rw [this]; exact st_nth _ _ _ lj2
    have nj1 : nth ((P ++ A0) ++ z :: x :: (B ++ T)) (((a + n : Nat)) : Int) = z := st_nth _ _ _ lj
    have w : IntKind.i64.wrap ((((a + (n + 1) : Nat)) : Int) - 1) = ((a + n : Nat) : Int) := by rw [sw_pv _ (by omega) (by omega)]; rfl
    have len : ((P ++ A0) ++ z :: x :: (B ++ T)).length = a + n + 2 + (B ++ T).length := by rw [List.length_append, lj]; simp only [List.length_cons]; omega
    obtain ⟨v, v1, v2⟩ := lcmp_is x z
    have d : decide (((a + (n + 1) : Nat) : Int) > (a : Int)) = true := decide_eq_true (by omega)
    have g1 : (0 : Int) ≤ ((a + (n + 1) : Nat) : Int) ∧ ((a + (n + 1) : Nat) : Int) < (((P ++ A0) ++ z :: x :: (B ++ T)).length : Int) := by rw [len]; omega
    have g2 : (0 : Int) ≤ ((a + n : Nat) : Int) ∧ ((a + n : Nat) : Int) < (((P ++ A0) ++ z :: x :: (B ++ T)).length : Int) := by rw [len]; omega
    rw [e1]
    by_cases c : lt3 (key x) (key z)
    · have st : slices_insertionSortCmpFunc_api_Leg__leg_Order_1.r1 (a : Int) (((a + (n + 1) : Nat) : Int), (P ++ A0) ++ z :: x :: (B ++ T)) = some (.inl (((a + n : Nat) : Int), (P ++ A0) ++ x :: z :: (B ++ T))) := by
        unfold slices_insertionSortCmpFunc_api_Leg__leg_Order_1.r1 slices_insertionSortCmpFunc_api_Leg__leg_Order_1.b1
        dsimp only
        rw [w, d, nj, nj1, if_pos (fun _ => g1), if_pos (fun _ => g2), if_pos rfl, v1, Option.bind_some, if_pos (by rw [decide_eq_true (v2.2 c)]; rfl), if_pos g2, if_pos g1, if_pos g1, if_pos (by rw [List.length_set]; exact g2), (swap_next (P ++ A0) z x (B ++ T) lj (by omega)).1]
      obtain ⟨A', B', q1, q2, q3, q4⟩ := ins_inner a P hP x T n A0 (z :: B) hA0 (by omega) (by simpa using hs) (fun y hy => by
        rcases List.mem_cons.1 hy with e | e
        · rw [e]; exact c
        · exact hb y e)
      refine ⟨A', B', by rw [← q1]; simp, q2, q3, ?_⟩
      rw [loop_next st]
      have e2 : (P ++ A0) ++ x :: z :: (B ++ T) = P ++ (A0 ++ x :: ((z :: B) ++ T)) := by simp
      rw [e2]; exact q4
    · have st : slices_insertionSortCmpFunc_api_Leg__leg_Order_1.r1 (a : Int) (((a + (n + 1) : Nat) : Int), (P ++ A0) ++ z :: x :: (B ++ T)) = some (.inr ((P ++ A0) ++ z :: x :: (B ++ T))) := by
        unfold slices_insertionSortCmpFunc_api_Leg__leg_Order_1.r1 slices_insertionSortCmpFunc_api_Leg__leg_Order_1.b1
        dsimp only
        rw [w, d, nj, nj1, if_pos (fun _ => g1), if_pos (fun _ => g2), if_pos rfl, v1, Option.bind_some, if_neg (by rw [decide_eq_false (fun h => c (v2.1 h))]; decide)]
      refine ⟨A0 ++ [z], B, rfl, fun y hy => ?_, hb, by rw [loop_end st]; simp⟩
      rcases List.mem_append.1 hy with hy | hy
      · have := (srt_append.1 (srt_append.1 hs).1).2.2 y hy z (by simp)
        exact ord3.le_trans this c
      · rw [List.mem_singleton.1 hy]; exact c

theorem ins_loop (a b : Nat) (P S : List Lg) (hP : P.length = a) (hb : b ≤ 100000) : ∀ (R L1 M : List Lg), L1.length ≥ 1 → a + L1.length + R.length = b → M.length = L1.length → SgL L1 M →
    ∃ M', SgL (L1 ++ R) M' ∧ M'.length = (L1 ++ R).length ∧ loop (slices_insertionSortCmpFunc_api_Leg__leg_Order_1.r0 (a : Int) (b : Int)) (((a + L1.length : Nat) : Int), P ++ (M ++ (R ++ S))) = some (P ++ (M' ++ S))
  | [], L1, M, h1, h2, h3, hs => by
    refine ⟨M, by rw [List.append_nil]; exact hs, by rw [List.append_nil]; exact h3, loop_end ?_⟩
    unfold slices_insertionSortCmpFunc_api_Leg__leg_Order_1.r0 slices_insertionSortCmpFunc_api_Leg__leg_Order_1.b0
    dsimp only
    simp only [List.length_nil, Nat.add_zero] at h2
    rw [h2, if_neg (by simp)]; rfl
  | x :: R, L1, M, h1, h2, h3, hs => by
    simp only [List.length_cons] at h2
    obtain ⟨A', B', q1, q2, q3, q4⟩ := ins_inner a P hP x (R ++ S) M.length M [] rfl (by omega) (by rw [List.append_nil]; exact hs.1) (fun y hy => by cases hy)
    rw [List.append_nil] at q1
    have st : slices_insertionSortCmpFunc_api_Leg__leg_Order_1.r0 (a : Int) (b : Int) (((a + L1.length : Nat) : Int), P ++ (M ++ (x :: R ++ S))) = some (.inl (((a + (L1 ++ [x]).length : Nat) : Int), P ++ ((A' ++ x :: B') ++ (R ++ S)))) := by
      unfold slices_insertionSortCmpFunc_api_Leg__leg_Order_1.r0 slices_insertionSortCmpFunc_api_Leg__leg_Order_1.b0
      dsimp only
      have e : M ++ (x :: R ++ S) = M ++ x :: ([] ++ (R ++ S)) := by simp
      rw [if_pos (decide_eq_true (by omega)), e, ← h3, q4, Option.bind_some, sw_nx _ (by omega)]
      simp [h3, Nat.add_assoc]
    have hs' : SgL (L1 ++ [x]) (A' ++ x :: B') := by
      have := sg_insert (x := x) ord3 (by rw [← q1]; exact hs.1) q2 q3
      refine sg_trans this (fun k => ?_)
      rw [← q1, of_append, of_append, hs.2 k]
    obtain ⟨M', m1, m2, m3⟩ := ins_loop a b P S hP hb R (L1 ++ [x]) (A' ++ x :: B') (by simp) (by simp; omega) (by
      have := congrArg List.length q1
      simp only [List.length_append, List.length_cons, List.length_nil] at this ⊢; omega) hs'
    have e : (L1 ++ [x]) ++ R = L1 ++ x :: R := by simp
    rw [e] at m1 m2
    exact ⟨M', m1, m2, by rw [loop_next st]; exact m3⟩

theorem ins_is (a b : Nat) (P L S : List Lg) (hP : P.length = a) (hb : b ≤ 100000) (hL : a + L.length = b) : ∃ M, SgL L M ∧ M.length = L.length ∧ slices_insertionSortCmpFunc_api_Leg__leg_Order_1.f (P ++ (L ++ S)) (a : Int) (b : Int) = some (P ++ (M ++ S)) := by
  unfold slices_insertionSortCmpFunc_api_Leg__leg_Order_1.f
  rw [sw_nx a (by omega)]
  cases L with
  | nil =>
    refine ⟨[], ⟨List.Pairwise.nil, fun _ => rfl⟩, rfl, ?_⟩
    have st : slices_insertionSortCmpFunc_api_Leg__leg_Order_1.r0 (a : Int) (b : Int) (((a + 1 : Nat) : Int), P ++ ([] ++ S)) = some (.inr (P ++ ([] ++ S))) := by
      unfold slices_insertionSortCmpFunc_api_Leg__leg_Order_1.r0 slices_insertionSortCmpFunc_api_Leg__leg_Order_1.b0
      dsimp only
      simp only [List.length_nil, Nat.add_zero] at hL
      rw [if_neg (by simp; omega)]
    rw [loop_end st]; rfl
  | cons x R =>
    simp only [List.length_cons] at hL
    obtain ⟨M, m1, m2, m3⟩ := ins_loop a b P S hP hb R [x] [x] (by simp) (by simp; omega) rfl (sg_refl (srt_one x))
    refine ⟨M, m1, m2, ?_⟩
    have e : P ++ (x :: R ++ S) = P ++ ([x] ++ (R ++ S)) := by simp
    rw [e, show ((a + 1 : Nat) : Int) = ((a + [x].length : Nat) : Int) from rfl, m3]; rfl

/-! ### parts, exchanged -/
theorem swp_loop (a b n : Nat) (hn : b + n ≤ 100000) : ∀ (U V P Q S : List Lg) (t : Nat), U.length = V.length → P.length = a + t → P.length + U.length + Q.length = b + t → n = t + U.length → a ≤ b →
    loop (slices_swapRangeCmpFunc_api_Leg__leg_Order_1.r0 (a : Int) (b : Int) (n : Int)) ((t : Int), P ++ (U ++ (Q ++ (V ++ S)))) = some (P ++ (V ++ (Q ++ (U ++ S))))
  | [], [], P, Q, S, t, h1, h2, h3, h4, h5 => by
    refine loop_end ?_
    unfold slices_swapRangeCmpFunc_api_Leg__leg_Order_1.r0 slices_swapRangeCmpFunc_api_Leg__leg_Order_1.b0
    dsimp only
    simp only [List.length_nil, Nat.add_zero] at h4
    rw [h4, if_neg (by simp)]
  | [], _ :: _, P, Q, S, t, h1, h2, h3, h4, h5 => by simp at h1
  | _ :: _, [], P, Q, S, t, h1, h2, h3, h4, h5 => by simp at h1
  | u :: U, v :: V, P, Q, S, t, h1, h2, h3, h4, h5 => by
    simp only [List.length_cons] at h1 h3 h4
    have e : P ++ (u :: U ++ (Q ++ (v :: V ++ S))) = P ++ u :: ((U ++ Q) ++ v :: (V ++ S)) := by simp
    have lq : (U ++ Q).length = U.length + Q.length := List.length_append
    have na : nth (P ++ u :: ((U ++ Q) ++ v :: (V ++ S))) ((a + t : Nat) : Int) = u := st_nth _ _ _ h2
    have nb : nth (P ++ u :: ((U ++ Q) ++ v :: (V ++ S))) ((b + t : Nat) : Int) = v := by
      have e2 : P ++ u :: ((U ++ Q) ++ v :: (V ++ S)) = (P ++ u :: (U ++ Q)) ++ v :: (V ++ S) := by simp
      rw [e2]; exact st_nth _ _ _ (by simp; omega)
    have len : (P ++ u :: ((U ++ Q) ++ v :: (V ++ S))).length = P.length + 1 + (U ++ Q).length + 1 + (V ++ S).length := by simp only [List.length_append, List.length_cons]; omega
    have g1 : (0 : Int) ≤ ((a + t : Nat) : Int) ∧ ((a + t : Nat) : Int) < ((P ++ u :: ((U ++ Q) ++ v :: (V ++ S))).length : Int) := by rw [len]; omega
    have g2 : (0 : Int) ≤ ((b + t : Nat) : Int) ∧ ((b + t : Nat) : Int) < ((P ++ u :: ((U ++ Q) ++ v :: (V ++ S))).length : Int) := by rw [len]; omega
    have st : slices_swapRangeCmpFunc_api_Leg__leg_Order_1.r0 (a : Int) (b : Int) (n : Int) ((t : Int), P ++ (u :: U ++ (Q ++ (v :: V ++ S)))) = some (.inl (((t + 1 : Nat) : Int), (P ++ [v]) ++ (U ++ ((Q ++ [u]) ++ (V ++ S))))) := by
      unfold slices_swapRangeCmpFunc_api_Leg__leg_Order_1.r0 slices_swapRangeCmpFunc_api_Leg__leg_Order_1.b0
      dsimp only
      rw [e, if_pos (decide_eq_true (by omega)), sw_add b t (by omega), sw_add a t (by omega), if_pos g2, if_pos g1, if_pos g1, if_pos (by rw [List.length_set]; exact g2), na, nb, sw_nx t (by omega), swap_far P u (U ++ Q) v (V ++ S) h2 (by omega)]
      simp
    rw [loop_next st, swp_loop a b n hn U V (P ++ [v]) (Q ++ [u]) S (t + 1) (by omega) (by simp; omega) (by simp; omega) (by omega) h5]
    simp

theorem swp_is (a b n : Nat) (P U Q V S : List Lg) (hn : b + n ≤ 100000) (h1 : U.length = V.length) (h2 : P.length = a) (h3 : a + U.length + Q.length = b) (h4 : n = U.length) :
    slices_swapRangeCmpFunc_api_Leg__leg_Order_1.f (P ++ (U ++ (Q ++ (V ++ S)))) (a : Int) (b : Int) (n : Int) = some (P ++ (V ++ (Q ++ (U ++ S)))) := by
  have := swp_loop a b n hn U V P Q S 0 h1 (by omega) (by omega) (by omega) (by omega)
  unfold slices_swapRangeCmpFunc_api_Leg__leg_Order_1.f
  rw [show ((0 : Nat) : Int) = 0 from rfl] at this
  rw [this]; rfl

theorem rot_loop (m : Nat) : ∀ (n : Nat) (U V P S : List Lg), U.length + V.length ≤ n → U ≠ [] → V ≠ [] → P.length + U.length = m → m + V.length ≤ 50000 →
    ∃ (i : Nat) (X : List Lg), i ≤ m ∧ loop (slices_rotateCmpFunc_api_Leg__leg_Order_1.r0 (m : Int)) ((U.length : Int), (V.length : Int), P ++ (U ++ (V ++ S))) = some ((i : Int), X) ∧ slices_swapRangeCmpFunc_api_Leg__leg_Order_1.f X ((m - i : Nat) : Int) (m : Int) (i : Int) = some (P ++ (V ++ (U ++ S)))
  | n, U, V, P, S, hn, hU, hV, hm, hl => by
    have pU := List.length_pos_iff.2 hU
    have pV := List.length_pos_iff.2 hV
    obtain ⟨n, rfl⟩ : ∃ k, n = k + 1 := ⟨n - 1, by omega⟩
    rcases Nat.lt_trichotomy U.length V.length with c | c | c
    · -- the second is longer
      obtain ⟨V1, V2, rfl, l2⟩ : ∃ V1 V2, V = V1 ++ V2 ∧ V2.length = U.length := ⟨V.take (V.length - U.length), V.drop (V.length - U.length), (List.take_append_drop _ _).symm, by rw [List.length_drop]; omega⟩
      rw [List.length_append] at c hl hn pV
      have sw := swp_is (m - U.length) (m + (V1.length + V2.length) - U.length) U.length P U V1 V2 S (by omega) l2.symm (by omega) (by omega) rfl
      have st : slices_rotateCmpFunc_api_Leg__leg_Order_1.r0 (m : Int) ((U.length : Int), ((V1 ++ V2).length : Int), P ++ (U ++ ((V1 ++ V2) ++ S))) = some (.inl ((V2.length : Int), (V1.length : Int), P ++ (V2 ++ (V1 ++ (U ++ S))))) := by
        unfold slices_rotateCmpFunc_api_Leg__leg_Order_1.r0 slices_rotateCmpFunc_api_Leg__leg_Order_1.b0
        dsimp only
        rw [List.length_append, if_pos (by simp; omega), if_neg (by simp; omega), sw_sub m U.length (by omega) (by omega), sw_add m (V1.length + V2.length) (by omega), sw_sub _ _ (by omega) (by omega), sw_sub (V1.length + V2.length) U.length (by omega) (by omega), List.append_assoc, sw, Option.bind_some, l2, show V1.length + U.length - U.length = V1.length by omega]
      obtain ⟨i, X, i1, i2, i3⟩ := rot_loop m n V2 V1 P (U ++ S) (by omega) (by intro e; rw [e] at l2; simp at l2; omega) (by intro e; rw [e] at c; simp at c; omega) (by omega) (by omega)
      exact ⟨i, X, i1, by rw [loop_next st]; exact i2, by rw [i3]; simp⟩
    · refine ⟨U.length, P ++ (U ++ (V ++ S)), by omega, ?_, ?_⟩
      · refine loop_end ?_
        unfold slices_rotateCmpFunc_api_Leg__leg_Order_1.r0 slices_rotateCmpFunc_api_Leg__leg_Order_1.b0
        dsimp only
        rw [c, if_neg (by simp)]
      · have := swp_is (m - U.length) m U.length P U [] V S (by omega) c (by omega) (by simp; omega) rfl
        exact this
    · -- the first is longer
      obtain ⟨U1, U2, rfl, l1⟩ : ∃ U1 U2, U = U1 ++ U2 ∧ U1.length = V.length := ⟨U.take V.length, U.drop V.length, (List.take_append_drop _ _).symm, by rw [List.length_take]; omega⟩
      rw [List.length_append] at c hm hn pU
      have sw := swp_is (m - (U1.length + U2.length)) m V.length P U1 U2 V S (by omega) l1 (by omega) (by omega) l1.symm
      have st : slices_rotateCmpFunc_api_Leg__leg_Order_1.r0 (m : Int) (((U1 ++ U2).length : Int), (V.length : Int), P ++ ((U1 ++ U2) ++ (V ++ S))) = some (.inl ((U2.length : Int), (U1.length : Int), (P ++ V) ++ (U2 ++ (U1 ++ S)))) := by
        unfold slices_rotateCmpFunc_api_Leg__leg_Order_1.r0 slices_rotateCmpFunc_api_Leg__leg_Order_1.b0
        dsimp only
        rw [List.length_append, if_pos (by simp; omega), if_pos (decide_eq_true (by omega)), sw_sub m _ (by omega) (by omega), sw_sub (U1.length + U2.length) V.length (by omega) (by omega), List.append_assoc U1, sw, Option.bind_some, l1, show V.length + U2.length - V.length = U2.length by omega]
        simp
      obtain ⟨i, X, i1, i2, i3⟩ := rot_loop m n U2 U1 (P ++ V) S (by omega) (by intro e; rw [e] at c; simp at c; omega) (by intro e; rw [e] at l1; simp at l1; omega) (by rw [List.length_append]; omega) (by omega)
      exact ⟨i, X, i1, by rw [loop_next st]; exact i2, by rw [i3]; simp⟩

theorem rot_is (a m b : Nat) (P U V S : List Lg) (hU : U ≠ []) (hV : V ≠ []) (h1 : P.length = a) (h2 : a + U.length = m) (h3 : m + V.length = b) (hb : b ≤ 50000) :
    slices_rotateCmpFunc_api_Leg__leg_Order_1.f (P ++ (U ++ (V ++ S))) (a : Int) (m : Int) (b : Int) = some (P ++ (V ++ (U ++ S))) := by
  obtain ⟨i, X, i1, i2, i3⟩ := rot_loop m (U.length + V.length) U V P S (Nat.le_refl _) hU hV (by omega) (by omega)
  unfold slices_rotateCmpFunc_api_Leg__leg_Order_1.f
  rw [sw_sub m a (by omega) (by omega), sw_sub b m (by omega) (by omega), show m - a = U.length by omega, show b - m = V.length by omega, i2, Option.bind_some]
  dsimp only
  rw [sw_sub m i i1 (by omega), i3]; rfl
end Go.Proofs.Ytlgfdldonoaahaa

