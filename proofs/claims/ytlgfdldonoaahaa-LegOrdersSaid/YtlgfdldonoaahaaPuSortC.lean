/- Shows that legs put in order by the library are those that the document puts in order. -/
import Derived.Test.YtlgfdldonoaahaaPuSortB
import Derived.Test.YtlgfdldonoaahaaGx5
namespace Go.Proofs.Ytlgfdldonoaahaa
open Go Go.Pm Go.Pm.Arith
set_option linter.unusedVariables false
set_option linter.unusedSimpArgs false

/-- Parts of so many, each in order. -/
inductive Rns (bs : Nat) : List Lg → Prop where
  | last {l : List Lg} : l.length ≤ bs → SrtL l → Rns bs l
  | more {l r : List Lg} : l.length = bs → SrtL l → Rns bs r → Rns bs (l ++ r)

theorem rns_first {bs : Nat} {r : List Lg} (h : Rns bs r) : ∃ r1 r2, r = r1 ++ r2 ∧ SrtL r1 ∧ Rns bs r2 ∧ (r1.length = bs ∨ (r1.length < bs ∧ r2 = [])) := by
  cases h with
  | last h1 h2 =>
    refine ⟨r, [], by simp, h2, .last (by simp) List.Pairwise.nil, ?_⟩
    rcases Nat.lt_or_ge r.length bs with c | c
    · exact .inr ⟨c, rfl⟩
    · exact .inl (by omega)
  | more h1 h2 h3 => exact ⟨_, _, rfl, h2, h3, .inl h1⟩

theorem sym_f (L R P S : List Lg) (a m b : Nat) (hL : L ≠ []) (hR : R ≠ []) (sL : SrtL L) (sR : SrtL R) (hP : P.length = a) (hm : a + L.length = m) (hb : m + R.length = b) (hl : b ≤ 10000) :
    ∃ M, SgL (L ++ R) M ∧ M.length = L.length + R.length ∧ slices_symMergeCmpFunc_api_Leg__leg_Order_1.f (P ++ (L ++ (R ++ S))) (a : Int) (m : Int) (b : Int) = some (P ++ (M ++ S)) :=
  sym_is 1000000 L R P S a m b hL hR (by omega) sL sR hP hm hb hl

theorem ne_of_len {l : List Lg} (h : 0 < l.length) : l ≠ [] := fun e => by rw [e] at h; simp at h

theorem phase (bs n : Nat) (hbs : 0 < bs) (hb2 : bs ≤ 1000) (hn : n ≤ 1000) : ∀ (k : Nat) (Z Y : List Lg), Z.length ≤ k → Rns bs Z → Y.length + Z.length = n →
    ∃ (Z' : List Lg) (a' : Nat) (X' : List Lg), Rns (2 * bs) Z' ∧ (∀ q, of key q Z' = of key q Z) ∧ Z'.length = Z.length ∧
      loop (slices_stableCmpFunc_api_Leg__leg_Order_1.r2 (n : Int) (bs : Int)) ((Y.length : Int), ((Y.length + 2 * bs : Nat) : Int), Y ++ Z) = some ((a' : Int), X') ∧ a' ≤ n ∧
      (if decide (((a' + bs : Nat) : Int) < (n : Int)) = true then slices_symMergeCmpFunc_api_Leg__leg_Order_1.f X' (a' : Int) ((a' + bs : Nat) : Int) (n : Int) else some X') = some (Y ++ Z')
  | k, Z, Y, hk, hr, hy => by
    obtain ⟨l, r, rfl, sl, hr2, hl⟩ := rns_first hr
    rw [List.length_append] at hk hy
    by_cases c0 : l.length = bs ∧ r ≠ []
    · obtain ⟨c1, c2⟩ := c0
      obtain ⟨r1, r2, rfl, s1, hr3, hl1⟩ := rns_first hr2
      rw [List.length_append] at hk hy
      have w1 : IntKind.i64.wrap ((Y.length : Int) + (bs : Int)) = ((Y.length + bs : Nat) : Int) := sw_add _ _ (by omega)
      rcases hl1 with hl1 | ⟨hl1, rfl⟩
      · -- two whole parts
        obtain ⟨k, rfl⟩ : ∃ k', k = k' + 1 := ⟨k - 1, by omega⟩
        obtain ⟨M, m1, m2, m3⟩ := sym_f l r1 Y r2 Y.length (Y.length + bs) (Y.length + 2 * bs) (ne_of_len (by omega)) (ne_of_len (by omega)) sl s1 rfl (by omega) (by omega) (by omega)
        have st : slices_stableCmpFunc_api_Leg__leg_Order_1.r2 (n : Int) (bs : Int) ((Y.length : Int), ((Y.length + 2 * bs : Nat) : Int), Y ++ (l ++ (r1 ++ r2))) = some (.inl (((Y ++ M).length : Int), (((Y ++ M).length + 2 * bs : Nat) : Int), (Y ++ M) ++ r2)) := by
          unfold slices_stableCmpFunc_api_Leg__leg_Order_1.r2 slices_stableCmpFunc_api_Leg__leg_Order_1.b2
          dsimp only
          have w2 : IntKind.i64.wrap (2 * (bs : Int)) = ((2 * bs : Nat) : Int) := by rw [sw_id _ (by omega) (by omega)]; omega
          rw [if_pos (decide_eq_true (by omega)), w1, m3, Option.bind_some, w2, sw_add _ _ (by omega)]
          have e : (Y ++ M).length = Y.length + 2 * bs := by rw [List.length_append]; omega
          rw [e, List.append_assoc]
        obtain ⟨Z', a', X', z1, z2, z3, z4, z5, z6⟩ := phase bs n hbs hb2 hn k r2 (Y ++ M) (by omega) hr3 (by rw [List.length_append]; omega)
        refine ⟨M ++ Z', a', X', .more (by omega) m1.1 z1, fun q => ?_, by simp only [List.length_append]; omega, by rw [loop_next st]; exact z4, z5, by rw [z6]; simp⟩
        rw [of_append, m1.2 q, z2 q, of_append, of_append, of_append, List.append_assoc]
      · -- the last ones
        rw [List.append_nil] at c2 hr2 ⊢
        simp only [List.length_nil, Nat.add_zero] at hk hy
        have st : slices_stableCmpFunc_api_Leg__leg_Order_1.r2 (n : Int) (bs : Int) ((Y.length : Int), ((Y.length + 2 * bs : Nat) : Int), Y ++ (l ++ r1)) = some (.inr ((Y.length : Int), Y ++ (l ++ r1))) := by
          unfold slices_stableCmpFunc_api_Leg__leg_Order_1.r2 slices_stableCmpFunc_api_Leg__leg_Order_1.b2
          dsimp only
          rw [if_neg (by simp; omega)]
        have p1 : 0 < r1.length := List.length_pos_iff.2 c2
        obtain ⟨M, m1, m2, m3⟩ := sym_f l r1 Y [] Y.length (Y.length + bs) n (ne_of_len (by omega)) c2 sl s1 rfl (by omega) (by omega) (by omega)
        rw [List.append_nil, List.append_nil] at m3
        refine ⟨M, Y.length, Y ++ (l ++ r1), .last (by omega) m1.1, m1.2, by rw [List.length_append]; omega, loop_end st, by omega, ?_⟩
        rw [if_pos (decide_eq_true (by omega)), m3]
    · -- one part alone
      have e : r = [] := by
        rcases hl with hl | ⟨_, hl⟩
        · exact Decidable.not_not.1 (fun q => c0 ⟨hl, q⟩)
        · exact hl
      subst e
      rw [List.append_nil]
      simp only [List.length_nil, Nat.add_zero] at hk hy
      have hl' : l.length ≤ bs := by omega
      have st : slices_stableCmpFunc_api_Leg__leg_Order_1.r2 (n : Int) (bs : Int) ((Y.length : Int), ((Y.length + 2 * bs : Nat) : Int), Y ++ l) = some (.inr ((Y.length : Int), Y ++ l)) := by
        unfold slices_stableCmpFunc_api_Leg__leg_Order_1.r2 slices_stableCmpFunc_api_Leg__leg_Order_1.b2
        dsimp only
        rw [if_neg (by simp; omega)]
      refine ⟨l, Y.length, Y ++ l, .last (by omega) sl, fun _ => rfl, rfl, loop_end st, by omega, ?_⟩
      rw [if_neg (by simp; omega)]

theorem phases (n : Nat) (hn : n ≤ 1000) : ∀ (k bs : Nat) (X : List Lg), n ≤ bs + k → 0 < bs → bs ≤ 2000 → Rns bs X → X.length = n → ∃ M, SrtL M ∧ (∀ q, of key q M = of key q X) ∧ M.length = n ∧ loop (slices_stableCmpFunc_api_Leg__leg_Order_1.r1 (n : Int)) ((bs : Int), X) = some M
  | k, bs, X, hk, h0, hb, hr, hx => by
    by_cases c : bs < n
    · obtain ⟨k, rfl⟩ : ∃ k', k = k' + 1 := ⟨k - 1, by omega⟩
      obtain ⟨Z', a', X', z1, z2, z3, z4, z5, z6⟩ := phase bs n h0 (by omega) hn X.length X [] (Nat.le_refl _) hr (by simpa using hx)
      have z4' : loop (slices_stableCmpFunc_api_Leg__leg_Order_1.r2 (n : Int) (bs : Int)) (0, ((2 * bs : Nat) : Int), X) = some ((a' : Int), X') := by simpa using z4
      have w2 : IntKind.i64.wrap (2 * (bs : Int)) = ((2 * bs : Nat) : Int) := by rw [sw_id _ (by omega) (by omega)]; omega
      have w3 : IntKind.i64.wrap ((bs : Int) * 2) = ((2 * bs : Nat) : Int) := by rw [sw_id _ (by omega) (by omega)]; omega
      have st : slices_stableCmpFunc_api_Leg__leg_Order_1.r1 (n : Int) ((bs : Int), X) = some (.inl (((2 * bs : Nat) : Int), Z')) := by
        unfold slices_stableCmpFunc_api_Leg__leg_Order_1.r1 slices_stableCmpFunc_api_Leg__leg_Order_1.b1
        dsimp only
        rw [if_pos (decide_eq_true (by omega)), w2, z4', Option.bind_some]
        dsimp only
        rw [sw_add a' bs (by omega), w3]
        by_cases q : decide (((a' + bs : Nat) : Int) < (n : Int)) = true
        · rw [if_pos q] at z6
          rw [if_pos q, z6]; rfl
        · rw [if_neg q] at z6
          rw [if_neg q]
          injection z6 with z6
          rw [z6]; rfl
      obtain ⟨M, m1, m2, m3, m4⟩ := phases n hn k (2 * bs) Z' (by omega) (by omega) (by omega) z1 (by omega)
      exact ⟨M, m1, fun q => (m2 q).trans (z2 q), m3, by rw [loop_next st]; exact m4⟩
    · have sX : SrtL X := by
        cases hr with
        | last h1 h2 => exact h2
        | @more l r h1 h2 h3 =>
          rw [List.length_append] at hx
          have : r = [] := List.eq_nil_of_length_eq_zero (by omega)
          subst this
          rw [List.append_nil]; exact h2
      refine ⟨X, sX, fun _ => rfl, hx, loop_end ?_⟩
      unfold slices_stableCmpFunc_api_Leg__leg_Order_1.r1 slices_stableCmpFunc_api_Leg__leg_Order_1.b1
      dsimp only
      rw [if_neg (by simp; omega)]

theorem blocks (n : Nat) (hn : n ≤ 1000) : ∀ (k : Nat) (Z Y : List Lg), Z.length ≤ k → Y.length + Z.length = n →
    ∃ (Z' : List Lg) (a' : Nat) (X' : List Lg), Rns 20 Z' ∧ (∀ q, of key q Z' = of key q Z) ∧ Z'.length = Z.length ∧ loop (slices_stableCmpFunc_api_Leg__leg_Order_1.r0 (n : Int)) ((Y.length : Int), ((Y.length + 20 : Nat) : Int), Y ++ Z) = some ((a' : Int), X') ∧ slices_insertionSortCmpFunc_api_Leg__leg_Order_1.f X' (a' : Int) (n : Int) = some (Y ++ Z')
  | k, Z, Y, hk, hy => by
    by_cases c : 20 ≤ Z.length
    · obtain ⟨k, rfl⟩ : ∃ k', k = k' + 1 := ⟨k - 1, by omega⟩
      obtain ⟨L, T, rfl, lL⟩ : ∃ L T, Z = L ++ T ∧ L.length = 20 := ⟨Z.take 20, Z.drop 20, (List.take_append_drop _ _).symm, by rw [List.length_take]; omega⟩
      rw [List.length_append] at hk hy
      obtain ⟨M, m1, m2, m3⟩ := ins_is Y.length (Y.length + 20) Y L T rfl (by omega) (by omega)
      have st : slices_stableCmpFunc_api_Leg__leg_Order_1.r0 (n : Int) ((Y.length : Int), ((Y.length + 20 : Nat) : Int), Y ++ (L ++ T)) = some (.inl (((Y ++ M).length : Int), (((Y ++ M).length + 20 : Nat) : Int), (Y ++ M) ++ T)) := by
        unfold slices_stableCmpFunc_api_Leg__leg_Order_1.r0 slices_stableCmpFunc_api_Leg__leg_Order_1.b0
        dsimp only
        have e : (Y ++ M).length = Y.length + 20 := by rw [List.length_append]; omega
        have w : IntKind.i64.wrap (((Y.length + 20 : Nat) : Int) + 20) = ((Y.length + 20 + 20 : Nat) : Int) := sw_add (Y.length + 20) 20 (by omega)
        rw [if_pos (decide_eq_true (by omega)), m3, Option.bind_some, w, e, List.append_assoc]
      obtain ⟨Z', a', X', z1, z2, z3, z4, z5⟩ := blocks n hn k T (Y ++ M) (by omega) (by rw [List.length_append]; omega)
      refine ⟨M ++ Z', a', X', .more (by omega) m1.1 z1, fun q => by rw [of_append, m1.2 q, z2 q, of_append], by simp only [List.length_append]; omega, by rw [loop_next st]; exact z4, by rw [z5]; simp⟩
    · obtain ⟨M, m1, m2, m3⟩ := ins_is Y.length n Y Z [] rfl (by omega) (by omega)
      rw [List.append_nil, List.append_nil] at m3
      refine ⟨M, Y.length, Y ++ Z, .last (by omega) m1.1, m1.2, m2, loop_end ?_, m3⟩
      unfold slices_stableCmpFunc_api_Leg__leg_Order_1.r0 slices_stableCmpFunc_api_Leg__leg_Order_1.b0
      dsimp only
      rw [if_neg (by simp; omega)]

theorem stable_is (X : List Lg) (hn : X.length ≤ 1000) : ∃ M, SgL X M ∧ M.length = X.length ∧ slices_SortStableFunc_api_Leg__leg_Order_1.f X = some M := by
  obtain ⟨Z', a', X', z1, z2, z3, z4, z5⟩ := blocks X.length hn X.length X [] (Nat.le_refl _) (by simp)
  obtain ⟨M, m1, m2, m3, m4⟩ := phases X.length hn X.length 20 Z' (by omega) (by decide) (by decide) z1 z3
  have z4' : loop (slices_stableCmpFunc_api_Leg__leg_Order_1.r0 (X.length : Int)) (0, 20, X) = some ((a' : Int), X') := by simpa using z4
  have m4' : loop (slices_stableCmpFunc_api_Leg__leg_Order_1.r1 (X.length : Int)) (20, Z') = some M := m4
  refine ⟨M, ⟨m1, fun q => (m2 q).trans (z2 q)⟩, m3, ?_⟩
  unfold slices_SortStableFunc_api_Leg__leg_Order_1.f slices_stableCmpFunc_api_Leg__leg_Order_1.f
  rw [z4', Option.bind_some]
  dsimp only
  rw [z5, Option.bind_some, List.nil_append, m4']
  rfl

theorem order_is (l : List Lg) (hn : l.length ≤ 1000) : ∃ M, SgL l M ∧ M.length = l.length ∧ leg_Order.f l = some M := by
  obtain ⟨M, m1, m2, m3⟩ := stable_is l hn
  refine ⟨M, m1, m2, ?_⟩
  unfold leg_Order.f slices_Clone_api_Leg.f
  rw [if_pos (by omega), Option.bind_some, m3]; rfl

/-! ### the document's -/
theorem ahead_is (a b : Lg) : lombardref25_ahead.f a b = some (decide (lt3 (key a) (key b))) := by
  unfold lombardref25_ahead.f
  have e : ∀ p : Prop, ∀ _ : Decidable p, (p ↔ lt3 (key a) (key b)) → some (decide p) = some (decide (lt3 (key a) (key b))) := fun p _ h => by rw [decide_eq_decide.2 h]
  by_cases h1 : a.Day = b.Day
  · rw [if_neg (by simp [h1])]
    by_cases h2 : a.Member = b.Member
    · rw [if_neg (by simp [h2])]
      refine e _ _ ?_
      unfold lt3 key; dsimp only; omega
    · rw [if_pos (by simpa using h2)]
      refine e _ _ ?_
      unfold lt3 key; dsimp only; omega
  · rw [if_pos (by simpa using h1)]
    refine e _ _ ?_
    unfold lt3 key; dsimp only; omega

theorem ord_inner (l M : List Lg) (i : Nat) (hi : i < l.length) (hl : l.length ≤ 1000) (hM : M.length ≤ 1000) : ∀ (n : Nat), n ≤ M.length → (∀ j, n ≤ j → j < M.length → lt3 (key (l.getD i default)) (key (M.getD j default))) →
    ∃ r : Nat, r ≤ n ∧ (∀ j, r ≤ j → j < M.length → lt3 (key (l.getD i default)) (key (M.getD j default))) ∧ (0 < r → ¬ lt3 (key (l.getD i default)) (key (M.getD (r - 1) default))) ∧ loop (lombardref25_Order.r1 l (i : Int) M) (n : Int) = some (r : Int)
  | 0, hn, h => by
    refine ⟨0, Nat.le_refl _, h, fun q => by omega, loop_end ?_⟩
    unfold lombardref25_Order.r1 lombardref25_Order.b1
    rw [if_pos (fun q => by simp at q), if_pos (fun q => by simp at q), if_neg (by simp), Option.bind_some, if_neg (by simp)]
  | n + 1, hn, h => by
    have d : decide (((n + 1 : Nat) : Int) > 0) = true := decide_eq_true (by omega)
    have w : IntKind.i64.wrap (((n + 1 : Nat) : Int) - 1) = (n : Int) := by rw [sw_pv _ (by omega) (by omega)]; rfl
    have nl : nth l (i : Int) = l.getD i default := rfl
    have nm : nth M (n : Int) = M.getD n default := rfl
    by_cases c : lt3 (key (l.getD i default)) (key (M.getD n default))
    · have st : lombardref25_Order.r1 l (i : Int) M ((n + 1 : Nat) : Int) = some (.inl (n : Int)) := by
        unfold lombardref25_Order.r1 lombardref25_Order.b1
        rw [w, d, if_pos (fun _ => by omega), if_pos (fun _ => by omega), if_pos rfl, nl, nm, ahead_is, decide_eq_true c, Option.bind_some, if_pos (by rfl)]
      obtain ⟨r, r1, r2, r3, r4⟩ := ord_inner l M i hi hl hM n (by omega) (fun j j1 j2 => by
        by_cases e : j = n
        · rw [e]; exact c
        · exact h j (by omega) j2)
      exact ⟨r, by omega, r2, r3, by rw [loop_next st]; exact r4⟩
    · have st : lombardref25_Order.r1 l (i : Int) M ((n + 1 : Nat) : Int) = some (.inr ((n + 1 : Nat) : Int)) := by
        unfold lombardref25_Order.r1 lombardref25_Order.b1
        rw [w, d, if_pos (fun _ => by omega), if_pos (fun _ => by omega), if_pos rfl, nl, nm, ahead_is, decide_eq_false c, Option.bind_some, if_neg (by decide)]
      exact ⟨n + 1, Nat.le_refl _, h, fun _ => c, loop_end st⟩

theorem ord_loop (l : List Lg) (hl : l.length ≤ 1000) : ∀ (j i : Nat) (M : List Lg), l.length = i + j → SgL (l.take i) M → M.length = i → ∃ M', SgL l M' ∧ M'.length = l.length ∧ loop (lombardref25_Order.r0 l) ((i : Int), M) = some M'
  | 0, i, M, h, hs, hm => by
    rw [List.take_of_length_le (by omega)] at hs
    refine ⟨M, hs, by omega, loop_end ?_⟩
    unfold lombardref25_Order.r0 lombardref25_Order.b0
    rw [if_neg (by simp; omega)]
  | j + 1, i, M, h, hs, hm => by
    have hi : i < l.length := by omega
    obtain ⟨r, r1, r2, r3, r4⟩ := ord_inner l M i hi hl (by omega) M.length (Nat.le_refl _) (fun q q1 q2 => by omega)
    have nl : nth l (i : Int) = l.getD i default := rfl
    have tn : l.take (i + 1) = l.take i ++ [l.getD i default] := by
      rw [List.take_add_one, List.getElem?_eq_getElem hi, List.getD_eq_getElem?_getD, List.getElem?_eq_getElem hi]; rfl
    have st : lombardref25_Order.r0 l ((i : Int), M) = some (.inl (((i + 1 : Nat) : Int), M.take r ++ l.getD i default :: M.drop r)) := by
      unfold lombardref25_Order.r0 lombardref25_Order.b0
      dsimp only
      have t0 : Int.toNat 0 = 0 := rfl
      have tr : Int.toNat (r : Int) = r := Int.toNat_natCast r
      have tm : Int.toNat (M.length : Int) = M.length := Int.toNat_natCast _
      have td : List.take (M.length - r) (M.drop r) = M.drop r := List.take_of_length_le (by rw [List.length_drop]; omega)
      rw [if_pos (decide_eq_true (by omega)), r4, Option.bind_some, if_pos (by omega), t0, tr, tm, Nat.sub_zero, List.drop_zero, td, if_pos (by simp only [List.length_nil, List.length_take]; omega), if_pos (by omega),
        if_pos (by simp only [List.length_append, List.length_nil, List.length_take, List.length_singleton]; omega), if_pos (by omega), if_pos (by simp only [List.length_append, List.length_nil, List.length_take, List.length_drop, List.length_singleton]; omega), sw_nx i (by omega), nl]
      simp
    have hs' : SgL (l.take (i + 1)) (M.take r ++ l.getD i default :: M.drop r) := by
      have eM : M.take r ++ M.drop r = M := List.take_append_drop _ _
      have := sg_insert (x := l.getD i default) ord3 (A := M.take r) (B := M.drop r) (by rw [eM]; exact hs.1)
        (fun y hy => by
          obtain ⟨q, q1, q2, q3⟩ := mem_take_at hy
          have h1 := srt_at hs.1 q (r - 1) (by omega) (by omega)
          rw [q3] at h1
          exact ord3.le_trans h1 (r3 (by omega)))
        (fun y hy => by
          obtain ⟨q, q1, q2, q3⟩ := mem_drop_at hy
          have := r2 q q1 q2
          rw [q3] at this
          exact this)
      rw [eM] at this
      refine sg_trans this (fun k => ?_)
      rw [tn, of_append, of_append, hs.2 k]
    obtain ⟨M', m1, m2, m3⟩ := ord_loop l hl j (i + 1) _ (by omega) hs' (by simp only [List.length_append, List.length_cons, List.length_take, List.length_drop]; omega)
    exact ⟨M', m1, m2, by rw [loop_next st]; exact m3⟩

theorem reforder_is (l : List Lg) (hn : l.length ≤ 1000) : ∃ M, SgL l M ∧ M.length = l.length ∧ lombardref25_Order.f l = some M := by
  obtain ⟨M, m1, m2, m3⟩ := ord_loop l hn l.length 0 [] (by omega) ⟨List.Pairwise.nil, fun _ => rfl⟩ rfl
  have m3' : loop (lombardref25_Order.r0 l) (0, []) = some M := m3
  refine ⟨M, m1, m2, ?_⟩
  unfold lombardref25_Order.f
  rw [m3']; rfl

/-- Both put legs in the same order. -/
theorem orders (l : List Lg) (hn : l.length ≤ 1000) : ∃ M, leg_Order.f l = some M ∧ lombardref25_Order.f l = some M ∧ M.length = l.length ∧ ∀ x ∈ M, x ∈ l := by
  obtain ⟨M, m1, m2, m3⟩ := order_is l hn
  obtain ⟨M', n1, n2, n3⟩ := reforder_is l hn
  have e : M = M' := sg_uniq ord3 M M' m1.1 n1.1 (fun k => (m1.2 k).trans (n1.2 k).symm)
  subst e
  exact ⟨M, m3, n3, m2, fun x hx => (same_mem m1.2 x).1 hx⟩
end Go.Proofs.Ytlgfdldonoaahaa

