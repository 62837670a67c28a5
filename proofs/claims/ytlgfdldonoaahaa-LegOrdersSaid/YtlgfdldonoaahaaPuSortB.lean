/- Shows that two neighbouring parts in order are put in order together. -/
import Derived.Test.YtlgfdldonoaahaaPuSortA
namespace Go.Proofs.Ytlgfdldonoaahaa
open Go Go.Pm Go.Pm.Arith
set_option linter.unusedVariables false
set_option linter.unusedSimpArgs false

theorem nth_seg (P R S : List Lg) (h : Nat) (h1 : P.length ≤ h) (h2 : h < P.length + R.length) : nth (P ++ (R ++ S)) (h : Int) = R.getD (h - P.length) default := by
  show (P ++ (R ++ S)).getD (Int.toNat (h : Int)) default = _
  rw [Int.toNat_natCast, List.getD_eq_getElem?_getD, List.getElem?_append_right h1, List.getElem?_append_left (by omega), List.getD_eq_getElem?_getD]
theorem srt_at {R : List Lg} (h : SrtL R) (i j : Nat) (hij : i ≤ j) (hj : j < R.length) : ¬ lt3 (key (R.getD j default)) (key (R.getD i default)) := by
  by_cases e : i = j
  · subst e; exact ord3.irrefl _
  · have := List.pairwise_iff_getElem.1 h i j (by omega) hj (by omega)
    rw [List.getD_eq_getElem?_getD, List.getD_eq_getElem?_getD, List.getElem?_eq_getElem hj, List.getElem?_eq_getElem (by omega : i < R.length)]
    exact this
theorem mem_take_at {R : List Lg} {t : Nat} {x : Lg} (h : x ∈ R.take t) : ∃ i, i < t ∧ i < R.length ∧ R.getD i default = x := by
  obtain ⟨i, hi, e⟩ := List.getElem_of_mem h
  rw [List.length_take] at hi
  refine ⟨i, by omega, by omega, ?_⟩
  rw [List.getElem_take] at e
  rw [List.getD_eq_getElem?_getD, List.getElem?_eq_getElem (by omega : i < R.length)]
  exact e
theorem mem_drop_at {R : List Lg} {t : Nat} {x : Lg} (h : x ∈ R.drop t) : ∃ i, t ≤ i ∧ i < R.length ∧ R.getD i default = x := by
  obtain ⟨i, hi, e⟩ := List.getElem_of_mem h
  rw [List.length_drop] at hi
  refine ⟨t + i, by omega, by omega, ?_⟩
  rw [List.getElem_drop] at e
  rw [List.getD_eq_getElem?_getD, List.getElem?_eq_getElem (by omega : t + i < R.length)]
  exact e

/-! ### one, moved -/
theorem mov_right (r : Nat) (hr : 1 ≤ r) (hb : r ≤ 100000) : ∀ (A P : List Lg) (x : Lg) (T : List Lg) (k : Nat), P.length = k → r - 1 = k + A.length → loop (slices_symMergeCmpFunc_api_Leg__leg_Order_1.r1 (r : Int)) ((k : Int), P ++ x :: (A ++ T)) = some (P ++ (A ++ x :: T))
  | [], P, x, T, k, h1, h2 => by
    refine loop_end ?_
    unfold slices_symMergeCmpFunc_api_Leg__leg_Order_1.r1 slices_symMergeCmpFunc_api_Leg__leg_Order_1.b1
    dsimp only
    simp only [List.length_nil, Nat.add_zero] at h2
    rw [sw_pv r (by omega) (by omega), h2, if_neg (by simp)]; rfl
  | y :: A, P, x, T, k, h1, h2 => by
    simp only [List.length_cons] at h2
    have nk : nth (P ++ x :: y :: (A ++ T)) (k : Int) = x := st_nth _ _ _ h1
    have nk1 : nth (P ++ x :: y :: (A ++ T)) ((k + 1 : Nat) : Int) = y := by
      have e : P ++ x :: y :: (A ++ T) = (P ++ [x]) ++ y :: (A ++ T) := by simp
      rw [e]; exact st_nth _ _ _ (by simp [h1])
    have len : (P ++ x :: y :: (A ++ T)).length = k + 2 + (A ++ T).length := by simp only [List.length_append, List.length_cons]; omega
    have g1 : (0 : Int) ≤ ((k + 1 : Nat) : Int) ∧ ((k + 1 : Nat) : Int) < ((P ++ x :: y :: (A ++ T)).length : Int) := by rw [len]; omega
    have g2 : (0 : Int) ≤ (k : Int) ∧ (k : Int) < ((P ++ x :: y :: (A ++ T)).length : Int) := by rw [len]; omega
    have st : slices_symMergeCmpFunc_api_Leg__leg_Order_1.r1 (r : Int) ((k : Int), P ++ x :: (y :: A ++ T)) = some (.inl (((k + 1 : Nat) : Int), (P ++ [y]) ++ x :: (A ++ T))) := by
      unfold slices_symMergeCmpFunc_api_Leg__leg_Order_1.r1 slices_symMergeCmpFunc_api_Leg__leg_Order_1.b1
      dsimp only
      have e : P ++ x :: (y :: A ++ T) = P ++ x :: y :: (A ++ T) := by simp
      rw [e, sw_pv r (by omega) (by omega), if_pos (decide_eq_true (by omega)), sw_nx k (by omega), if_pos g1, if_pos g2, if_pos g2, if_pos (by rw [List.length_set]; exact g1), nk, nk1, (swap_next P x y (A ++ T) h1 rfl).2]
      simp
    rw [loop_next st, mov_right r hr hb A (P ++ [y]) x T (k + 1) (by simp [h1]) (by omega)]
    simp

theorem mov_left (r : Nat) (P : List Lg) (hP : P.length = r) (y : Lg) : ∀ (n : Nat) (B T : List Lg), B.length = n → r + n ≤ 100000 → loop (slices_symMergeCmpFunc_api_Leg__leg_Order_1.r3 (r : Int)) (((r + n : Nat) : Int), P ++ (B ++ y :: T)) = some (P ++ y :: (B ++ T))
  | 0, B, T, hB, hl => by
    obtain rfl : B = [] := List.eq_nil_of_length_eq_zero hB
    refine loop_end ?_
    unfold slices_symMergeCmpFunc_api_Leg__leg_Order_1.r3 slices_symMergeCmpFunc_api_Leg__leg_Order_1.b3
    dsimp only
    rw [if_neg (by simp)]; rfl
  | n + 1, B, T, hB, hl => by
    obtain ⟨B0, z, rfl⟩ : ∃ B0 z, B = B0 ++ [z] := by
      rcases List.eq_nil_or_concat B with rfl | ⟨B0, z, e⟩
      · simp at hB
      · exact ⟨B0, z, by rw [e, List.concat_eq_append]⟩
    have hB0 : B0.length = n := by simp at hB; exact hB
    have e1 : P ++ ((B0 ++ [z]) ++ y :: T) = (P ++ B0) ++ z :: y :: T := by simp
    have lj : (P ++ B0).length = r + n := by rw [List.length_append, hP, hB0]
    have nj : nth ((P ++ B0) ++ z :: y :: T) (((r + (n + 1) : Nat)) : Int) = y := by
      have : (P ++ B0) ++ z :: y :: T = (P ++ B0 ++ [z]) ++ y :: T := by simp
      rw [this]; exact st_nth _ _ _ (by rw [List.length_append, lj]; rfl)
    have nj1 : nth ((P ++ B0) ++ z :: y :: T) (((r + n : Nat)) : Int) = z := st_nth _ _ _ lj
    have w : IntKind.i64.wrap ((((r + (n + 1) : Nat)) : Int) - 1) = ((r + n : Nat) : Int) := by rw [sw_pv _ (by omega) (by omega)]; rfl
    have len : ((P ++ B0) ++ z :: y :: T).length = r + n + 2 + T.length := by rw [List.length_append, lj]; simp only [List.length_cons]; omega
    have g1 : (0 : Int) ≤ ((r + (n + 1) : Nat) : Int) ∧ ((r + (n + 1) : Nat) : Int) < (((P ++ B0) ++ z :: y :: T).length : Int) := by rw [len]; omega
    have g2 : (0 : Int) ≤ ((r + n : Nat) : Int) ∧ ((r + n : Nat) : Int) < (((P ++ B0) ++ z :: y :: T).length : Int) := by rw [len]; omega
    have st : slices_symMergeCmpFunc_api_Leg__leg_Order_1.r3 (r : Int) (((r + (n + 1) : Nat) : Int), (P ++ B0) ++ z :: y :: T) = some (.inl (((r + n : Nat) : Int), (P ++ B0) ++ y :: z :: T)) := by
      unfold slices_symMergeCmpFunc_api_Leg__leg_Order_1.r3 slices_symMergeCmpFunc_api_Leg__leg_Order_1.b3
      dsimp only
      rw [w, if_pos (decide_eq_true (by omega)), if_pos g2, if_pos g1, if_pos g1, if_pos (by rw [List.length_set]; exact g2), nj, nj1, (swap_next (P ++ B0) z y T lj (by omega)).1]
    rw [e1, loop_next st]
    have e2 : (P ++ B0) ++ y :: z :: T = P ++ (B0 ++ y :: (z :: T)) := by simp
    rw [e2, mov_left r P hP y n B0 (z :: T) hB0 (by omega)]
    simp

theorem sym_is : ∀ (f : Nat) (L R P S : List Lg) (a m b : Nat), L ≠ [] → R ≠ [] → L.length + R.length ≤ f → SrtL L → SrtL R → P.length = a → a + L.length = m → m + R.length = b → b ≤ 10000 →
    ∃ M, SgL (L ++ R) M ∧ M.length = L.length + R.length ∧ slices_symMergeCmpFunc_api_Leg__leg_Order_1.fu f (P ++ (L ++ (R ++ S))) (a : Int) (m : Int) (b : Int) = some (P ++ (M ++ S))
  | 0, L, R, P, S, a, m, b, hL, hR, hf, _, _, _, _, _, _ => by
    have := List.length_pos_iff.2 hL; omega
  | f + 1, L, R, P, S, a, m, b, hL, hR, hf, sL, sR, hP, hm, hb, hl => by
    have pL := List.length_pos_iff.2 hL
    have pR := List.length_pos_iff.2 hR
    obtain ⟨X, hX⟩ : ∃ X, X = P ++ (L ++ (R ++ S)) := ⟨_, rfl⟩
    have nL : ∀ c : Nat, a ≤ c → c < m → nth X (c : Int) = L.getD (c - a) default := fun c c1 c2 => by
      rw [hX, nth_seg P L (R ++ S) c (by omega) (by omega), hP]
    have nR : ∀ c : Nat, m ≤ c → c < b → nth X (c : Int) = R.getD (c - m) default := fun c c1 c2 => by
      have e : X = (P ++ L) ++ (R ++ S) := by rw [hX]; simp
      have l : (P ++ L).length = m := by rw [List.length_append]; omega
      rw [e, nth_seg (P ++ L) R S c (by omega) (by omega), l]
    have lX : b ≤ X.length := by rw [hX]; simp only [List.length_append]; omega
    rw [← hX, slices_symMergeCmpFunc_api_Leg__leg_Order_1.fu.eq_2]
    dsimp only
    rw [sw_sub m a (by omega) (by omega), sw_sub b m (by omega) (by omega)]
    by_cases c1 : L.length = 1
    · -- one ahead of others
      obtain ⟨x, rfl⟩ : ∃ x, L = [x] := List.length_eq_one_iff.1 c1
      rw [if_pos (by rw [show m - a = 1 by omega]; rfl)]
      have x0 : ([x] : List Lg).getD (a - a) default = x := by rw [Nat.sub_self]; rfl
      obtain ⟨r, r1, r2, r3, r4, r5⟩ := bsearch (f := slices_symMergeCmpFunc_api_Leg__leg_Order_1.r0 X (a : Int)) (res := fun i => (i : Int)) (p := fun h => lt3 (key (R.getD (h - m) default)) (key x)) m b
        (fun i j h1 h2 h3 => by
          unfold slices_symMergeCmpFunc_api_Leg__leg_Order_1.r0 slices_symMergeCmpFunc_api_Leg__leg_Order_1.b0
          dsimp only
          obtain ⟨v, v1, v2⟩ := lcmp_is (R.getD ((i + j) / 2 - m) default) x
          rw [if_pos (decide_eq_true (by omega)), sw_half i j (by omega) (by omega), if_pos (by omega), if_pos (by omega), nR _ (by omega) (by omega), nL a (Nat.le_refl _) (by omega), x0, v1, Option.bind_some, sw_nx _ (by omega)]
          by_cases c : lt3 (key (R.getD ((i + j) / 2 - m) default)) (key x)
          · rw [if_pos c, if_pos (decide_eq_true (v2.2 c))]
          · rw [if_neg c, if_neg (fun h => c (v2.1 (of_decide_eq_true h)))])
        (fun i h1 h2 => by unfold slices_symMergeCmpFunc_api_Leg__leg_Order_1.r0 slices_symMergeCmpFunc_api_Leg__leg_Order_1.b0; dsimp only; rw [if_neg (by simp)])
        (fun i j h1 h2 h3 hp => ord3.le_lt (srt_at sR (i - m) (j - m) (by omega) (by omega)) hp) R.length m b (by omega) (Nat.le_refl _) (by omega) (Nat.le_refl _) (fun k k1 k2 => by omega) (fun k k1 k2 => by omega)
      rw [r5, Option.bind_some]
      have eR : R = R.take (r - m) ++ R.drop (r - m) := (List.take_append_drop _ _).symm
      have eX : X = P ++ x :: (R.take (r - m) ++ (R.drop (r - m) ++ S)) := by rw [hX]; simp [← List.append_assoc, List.take_append_drop]
      have lt' : (R.take (r - m)).length = r - m := by rw [List.length_take]; omega
      rw [eX, mov_right r (by omega) (by omega) (R.take (r - m)) P x (R.drop (r - m) ++ S) a hP (by omega), Option.bind_some]
      refine ⟨R.take (r - m) ++ x :: R.drop (r - m), ?_, by simp; omega, by simp⟩
      have := sg_front (x := x) ord3 (A := R.take (r - m)) (B := R.drop (r - m)) (by rw [← eR]; exact sR)
        (fun y hy => by obtain ⟨i, i1, i2, i3⟩ := mem_take_at hy; have := r3 (m + i) (by omega) (by omega); rw [Nat.add_sub_cancel_left, i3] at this; exact this)
        (fun y hy => by obtain ⟨i, i1, i2, i3⟩ := mem_drop_at hy; have := r4 (m + i) (by omega) (by omega); rw [Nat.add_sub_cancel_left, i3] at this; exact this)
      rw [← eR] at this
      exact this
    · rw [if_neg (by rw [beq_iff_eq]; omega)]
      by_cases c2 : R.length = 1
      · -- one behind others
        obtain ⟨y, rfl⟩ : ∃ y, R = [y] := List.length_eq_one_iff.1 c2
        rw [if_pos (by rw [show b - m = 1 by omega]; rfl)]
        have y0 : ([y] : List Lg).getD (m - m) default = y := by rw [Nat.sub_self]; rfl
        obtain ⟨r, r1, r2, r3, r4, r5⟩ := bsearch (f := slices_symMergeCmpFunc_api_Leg__leg_Order_1.r2 X (m : Int)) (res := fun i => (i : Int)) (p := fun h => ¬ lt3 (key y) (key (L.getD (h - a) default))) a m
          (fun i j h1 h2 h3 => by
            unfold slices_symMergeCmpFunc_api_Leg__leg_Order_1.r2 slices_symMergeCmpFunc_api_Leg__leg_Order_1.b2
            dsimp only
            obtain ⟨v, v1, v2⟩ := lcmp_is y (L.getD ((i + j) / 2 - a) default)
            rw [if_pos (decide_eq_true (by omega)), sw_half i j (by omega) (by omega), if_pos (by omega), if_pos (by omega), nR m (Nat.le_refl _) (by omega), nL _ (by omega) (by omega), y0, v1, Option.bind_some, sw_nx _ (by omega)]
            by_cases c : lt3 (key y) (key (L.getD ((i + j) / 2 - a) default))
            · rw [if_neg (by rw [decide_eq_true (v2.2 c)]; decide), if_neg (fun h => h c)]
            · rw [if_pos c, if_pos (by rw [decide_eq_false (fun h => c (v2.1 h))]; rfl)])
          (fun i h1 h2 => by unfold slices_symMergeCmpFunc_api_Leg__leg_Order_1.r2 slices_symMergeCmpFunc_api_Leg__leg_Order_1.b2; dsimp only; rw [if_neg (by simp)])
          (fun i j h1 h2 h3 hp => ord3.le_trans (srt_at sL (i - a) (j - a) (by omega) (by omega)) hp) L.length a m (by omega) (Nat.le_refl _) (by omega) (Nat.le_refl _) (fun k k1 k2 => by omega) (fun k k1 k2 => by omega)
        rw [r5, Option.bind_some]
        have eL : L = L.take (r - a) ++ L.drop (r - a) := (List.take_append_drop _ _).symm
        have eX : X = (P ++ L.take (r - a)) ++ (L.drop (r - a) ++ y :: S) := by rw [hX, List.append_assoc P, ← List.append_assoc (L.take (r - a)), List.take_append_drop]; rfl
        have lt' : (L.take (r - a)).length = r - a := by rw [List.length_take]; omega
        have ld' : (L.drop (r - a)).length = m - r := by rw [List.length_drop]; omega
        have mv := mov_left r (P ++ L.take (r - a)) (by rw [List.length_append]; omega) y (m - r) (L.drop (r - a)) S ld' (by omega)
        rw [show r + (m - r) = m by omega] at mv
        rw [eX, mv, Option.bind_some]
        refine ⟨L.take (r - a) ++ y :: L.drop (r - a), ?_, by simp; omega, by simp⟩
        have := sg_insert (x := y) ord3 (A := L.take (r - a)) (B := L.drop (r - a)) (by rw [← eL]; exact sL)
          (fun z hz => by obtain ⟨i, i1, i2, i3⟩ := mem_take_at hz; have := r3 (a + i) (by omega) (by omega); rw [Nat.add_sub_cancel_left, i3] at this; exact this)
          (fun z hz => by obtain ⟨i, i1, i2, i3⟩ := mem_drop_at hz; have := r4 (a + i) (by omega) (by omega); rw [Nat.add_sub_cancel_left, i3] at this; exact Decidable.not_not.1 this)
        rw [← eL] at this
        exact this
      · rw [if_neg (by rw [beq_iff_eq]; omega)]
        -- two and two at least
        obtain ⟨mid, hmid⟩ : ∃ k, k = (a + b) / 2 := ⟨_, rfl⟩
        obtain ⟨lo, hi, hlo, hcase⟩ : ∃ lo hi : Nat, (if decide ((m : Int) > ((mid : Nat) : Int)) = true then some (IntKind.i64.wrap (((mid + m : Nat) : Int) - (b : Int)), ((mid : Nat) : Int)) else some ((a : Int), (m : Int))) = some ((lo : Int), (hi : Int)) ∧
            ((mid < m ∧ lo = mid + m - b ∧ hi = mid) ∨ (m ≤ mid ∧ lo = a ∧ hi = m)) := by
          by_cases c : mid < m
          · exact ⟨mid + m - b, mid, by rw [if_pos (decide_eq_true (by omega)), sw_sub (mid + m) b (by omega) (by omega)], .inl ⟨c, rfl, rfl⟩⟩
          · exact ⟨a, m, by rw [if_neg (by simp; omega)], .inr ⟨by omega, rfl, rfl⟩⟩
        have o1 : a ≤ lo := by omega
        have o2 : lo ≤ hi := by omega
        have o3 : hi ≤ m := by omega
        have o4 : mid + m - lo ≤ b := by omega
        have o5 : m ≤ mid + m - hi := by omega
        have wn := sw_add mid m (by omega)
        obtain ⟨s, s1, s2, s3, s4, s5⟩ := bsearch (f := slices_symMergeCmpFunc_api_Leg__leg_Order_1.r4 X (a : Int) (m : Int) (b : Int)) (res := fun i => (i : Int)) (p := fun c => ¬ lt3 (key (R.getD (mid + m - 1 - c - m) default)) (key (L.getD (c - a) default))) lo hi
          (fun i j h1 h2 h3 => by
            unfold slices_symMergeCmpFunc_api_Leg__leg_Order_1.r4 slices_symMergeCmpFunc_api_Leg__leg_Order_1.b4
            dsimp only
            obtain ⟨v, v1, v2⟩ := lcmp_is (R.getD (mid + m - 1 - (i + j) / 2 - m) default) (L.getD ((i + j) / 2 - a) default)
            rw [if_pos (decide_eq_true (by omega)), sw_half a b (by omega) (by omega), ← hmid, wn, sw_pv (mid + m) (by omega) (by omega), sw_half i j (by omega) (by omega), sw_sub (mid + m - 1) ((i + j) / 2) (by omega) (by omega), if_pos (by omega), if_pos (by omega),
              nR _ (by omega) (by omega), nL _ (by omega) (by omega), v1, Option.bind_some, sw_nx _ (by omega)]
            by_cases c : lt3 (key (R.getD (mid + m - 1 - (i + j) / 2 - m) default)) (key (L.getD ((i + j) / 2 - a) default))
            · rw [if_neg (by rw [decide_eq_true (v2.2 c)]; decide), if_neg (fun h => h c)]
            · rw [if_pos c, if_pos (by rw [decide_eq_false (fun h => c (v2.1 h))]; rfl)])
          (fun i h1 h2 => by unfold slices_symMergeCmpFunc_api_Leg__leg_Order_1.r4 slices_symMergeCmpFunc_api_Leg__leg_Order_1.b4; dsimp only; rw [if_neg (by simp)])
          (fun i j h1 h2 h3 hp => ord3.le_trans (ord3.le_trans (srt_at sL (i - a) (j - a) (by omega) (by omega)) hp) (srt_at sR (mid + m - 1 - j - m) (mid + m - 1 - i - m) (by omega) (by omega)))
          (hi - lo) lo hi (by omega) (Nat.le_refl _) (by omega) (Nat.le_refl _) (fun k k1 k2 => by omega) (fun k k1 k2 => by omega)
        rw [sw_half a b (by omega) (by omega), ← hmid, wn, hlo, Option.bind_some]
        dsimp only
        rw [s5, Option.bind_some, sw_sub (mid + m) s (by omega) (by omega)]
        obtain ⟨e, he⟩ : ∃ k, k = mid + m - s := ⟨_, rfl⟩
        rw [← he]
        -- the four parts
        obtain ⟨L1, hL1⟩ : ∃ l, l = L.take (s - a) := ⟨_, rfl⟩
        obtain ⟨L2, hL2⟩ : ∃ l, l = L.drop (s - a) := ⟨_, rfl⟩
        obtain ⟨R1, hR1⟩ : ∃ l, l = R.take (e - m) := ⟨_, rfl⟩
        obtain ⟨R2, hR2⟩ : ∃ l, l = R.drop (e - m) := ⟨_, rfl⟩
        have eL : L = L1 ++ L2 := by rw [hL1, hL2, List.take_append_drop]
        have eR : R = R1 ++ R2 := by rw [hR1, hR2, List.take_append_drop]
        have l1 : L1.length = s - a := by rw [hL1, List.length_take]; omega
        have l2 : L2.length = m - s := by rw [hL2, List.length_drop]; omega
        have l3 : R1.length = e - m := by rw [hR1, List.length_take]; omega
        have l4 : R2.length = b - e := by rw [hR2, List.length_drop]; omega
        have sL' : SrtL (L1 ++ L2) := by rw [← eL]; exact sL
        have sR' : SrtL (R1 ++ R2) := by rw [← eR]; exact sR
        have hA : ∀ x ∈ L1, ∀ y ∈ R2, ¬ lt3 (key y) (key x) := fun x hx y hy => by
          rw [hL1] at hx
          rw [hR2] at hy
          obtain ⟨i, i1, i2, i3⟩ := mem_take_at hx
          obtain ⟨j, j1, j2, j3⟩ := mem_drop_at hy
          have q : lo < s := by omega
          have := s3 (s - 1) (by omega) (by omega)
          have h1 := srt_at sL i (s - 1 - a) (by omega) (by omega)
          have h2 := srt_at sR (mid + m - 1 - (s - 1) - m) j (by omega) j2
          rw [i3] at h1
          rw [j3] at h2
          exact ord3.le_trans (ord3.le_trans h1 this) h2
        have hB : ∀ x ∈ R1, ∀ y ∈ L2, lt3 (key x) (key y) := fun x hx y hy => by
          rw [hR1] at hx
          rw [hL2] at hy
          obtain ⟨i, i1, i2, i3⟩ := mem_take_at hx
          obtain ⟨j, j1, j2, j3⟩ := mem_drop_at hy
          have q : s < hi := by omega
          have := Decidable.not_not.1 (s4 s (Nat.le_refl _) q)
          have h1 := srt_at sR i (mid + m - 1 - s - m) (by omega) (by omega)
          have h2 := srt_at sL (s - a) j j1 j2
          rw [i3] at h1
          rw [j3] at h2
          exact ord3.lt_le (ord3.le_lt h1 this) h2
        -- the exchange
        have ex : (if (decide ((s : Int) < (m : Int)) && decide ((m : Int) < (e : Int))) = true then (slices_rotateCmpFunc_api_Leg__leg_Order_1.f X (s : Int) (m : Int) (e : Int)).bind fun t159 => some t159 else some X : Option (List Lg)) = some (P ++ (L1 ++ (R1 ++ (L2 ++ (R2 ++ S))))) := by
          by_cases c : s < m ∧ m < e
          · rw [if_pos (by rw [decide_eq_true (by omega : (s : Int) < (m : Int)), decide_eq_true (by omega : (m : Int) < (e : Int))]; rfl)]
            have eX : X = (P ++ L1) ++ (L2 ++ (R1 ++ (R2 ++ S))) := by rw [hX, eL, eR]; simp
            rw [eX, rot_is s m e (P ++ L1) L2 R1 (R2 ++ S) (fun h => by rw [h] at l2; simp at l2; omega) (fun h => by rw [h] at l3; simp at l3; omega) (by rw [List.length_append]; omega) (by omega) (by omega) (by omega)]
            simp
          · rw [if_neg (by rw [Bool.and_eq_true, decide_eq_true_eq, decide_eq_true_eq]; omega), hX, eL, eR]
            by_cases c3 : s < m
            · have : R1 = [] := List.eq_nil_of_length_eq_zero (by omega)
              rw [this]; simp
            · have : L2 = [] := List.eq_nil_of_length_eq_zero (by omega)
              rw [this]; simp
        rw [ex, Option.bind_some]
        -- the first half
        have f1 : ∃ M1, SgL (L1 ++ R1) M1 ∧ M1.length = L1.length + R1.length ∧ (if (decide ((a : Int) < (s : Int)) && decide ((s : Int) < (mid : Int))) = true then (slices_symMergeCmpFunc_api_Leg__leg_Order_1.fu f (P ++ (L1 ++ (R1 ++ (L2 ++ (R2 ++ S))))) (a : Int) (s : Int) (mid : Int)).bind fun t169 => some t169 else some (P ++ (L1 ++ (R1 ++ (L2 ++ (R2 ++ S))))) : Option (List Lg)) = some (P ++ (M1 ++ (L2 ++ (R2 ++ S)))) := by
          by_cases c : a < s ∧ s < mid
          · obtain ⟨M1, m1, m2, m3⟩ := sym_is f L1 R1 P (L2 ++ (R2 ++ S)) a s mid (fun h => by rw [h] at l1; simp at l1; omega) (fun h => by rw [h] at l3; simp at l3; omega) (by omega) (srt_append.1 sL').1 (srt_append.1 sR').1 hP (by omega) (by omega) (by omega)
            exact ⟨M1, m1, m2, by rw [if_pos (by rw [decide_eq_true (by omega : (a : Int) < (s : Int)), decide_eq_true (by omega : (s : Int) < (mid : Int))]; rfl), m3]; rfl⟩
          · refine ⟨L1 ++ R1, ?_, List.length_append, by rw [if_neg (by rw [Bool.and_eq_true, decide_eq_true_eq, decide_eq_true_eq]; omega)]; simp⟩
            by_cases c3 : a < s
            · have : R1 = [] := List.eq_nil_of_length_eq_zero (by omega)
              rw [this, List.append_nil]; exact sg_refl (srt_append.1 sL').1
            · have : L1 = [] := List.eq_nil_of_length_eq_zero (by omega)
              rw [this, List.nil_append]; exact sg_refl (srt_append.1 sR').1
        obtain ⟨M1, m1, m2, m3⟩ := f1
        rw [m3, Option.bind_some]
        -- the second half
        by_cases c : mid < e ∧ e < b
        · obtain ⟨M2, n1, n2, n3⟩ := sym_is f L2 R2 (P ++ M1) S mid e b (fun h => by rw [h] at l2; simp at l2; omega) (fun h => by rw [h] at l4; simp at l4; omega) (by omega) (srt_append.1 sL').2.1 (srt_append.1 sR').2.1 (by rw [List.length_append]; omega) (by omega) (by omega) hl
          have e2 : P ++ (M1 ++ (L2 ++ (R2 ++ S))) = (P ++ M1) ++ (L2 ++ (R2 ++ S)) := by simp
          refine ⟨M1 ++ M2, by rw [eL, eR]; exact sg_sym ord3 sL' sR' m1 n1 hA hB, by rw [List.length_append]; omega, ?_⟩
          rw [if_pos (by rw [decide_eq_true (by omega : (mid : Int) < (e : Int)), decide_eq_true (by omega : (e : Int) < (b : Int))]; rfl), e2, n3]
          simp
        · have n1 : SgL (L2 ++ R2) (L2 ++ R2) := by
            by_cases c3 : mid < e
            · have : R2 = [] := List.eq_nil_of_length_eq_zero (by omega)
              rw [this, List.append_nil]; exact sg_refl (srt_append.1 sL').2.1
            · have : L2 = [] := List.eq_nil_of_length_eq_zero (by omega)
              rw [this, List.nil_append]; exact sg_refl (srt_append.1 sR').2.1
          refine ⟨M1 ++ (L2 ++ R2), by rw [eL, eR]; exact sg_sym ord3 sL' sR' m1 n1 hA hB, by simp only [List.length_append]; omega, ?_⟩
          rw [if_neg (by rw [Bool.and_eq_true, decide_eq_true_eq, decide_eq_true_eq]; omega)]
          simp
end Go.Proofs.Ytlgfdldonoaahaa

