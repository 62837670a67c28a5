/- Shows that what the document encodes is what the program encodes. -/
import Derived.Test.YtbmokbkgielmmaaGreatPuFit10
import Derived.Test.YtbmokbkgielmmaaGreatPuChk10
import Derived.Test.YtbmokbkgielmmaaGreatGx5
namespace Go.Proofs.YtbmokbkgielmmaaGreat
open Go Go.Pm Go.Pm.Arith
set_option linter.unusedVariables false
set_option linter.unusedSimpArgs false
theorem ref_uint_loop (x : Int) (h0 : 0 ≤ x) (h1 : x < 18446744073709551616) : ∀ (j i : Nat), i + j = 9 → (i = 0 ∨ x / 128 ^ i ≠ 0) →
    ∃ m, Needs x m ∧ loop lombardref09_Uint.r0 (x / 128 ^ (i + 1), toB (digits i x)) = some (toB (digits m x))
  | j, i, hj, hi => by
    have nn : 0 ≤ x / 128 ^ (i + 1) := Int.ediv_nonneg h0 (Int.pow_nonneg (by decide))
    have le : x / 128 ^ (i + 1) ≤ x := Int.ediv_le_self _ h0
    by_cases c : x / 128 ^ (i + 1) = 0
    · refine ⟨i, ⟨by omega, c, hi⟩, loop_end ?_⟩
      unfold lombardref09_Uint.r0 lombardref09_Uint.b0
      rw [if_neg (by simp; omega)]
    · obtain ⟨j, rfl⟩ : ∃ k, j = k + 1 := by
        cases j with
        | succ k => exact ⟨k, rfl⟩
        | zero =>
          exfalso
          obtain rfl : i = 9 := by omega
          have : (128 : Int) ^ (9 + 1) = 1180591620717411303424 := by decide
          exact c (Int.ediv_eq_zero_of_lt h0 (by omega))
      have w1 : IntKind.u64.wrap (Int.tdiv (x / 128 ^ (i + 1)) 128) = x / 128 ^ (i + 1 + 1) := by
        rw [Int.tdiv_eq_ediv_of_nonneg nn, u64_id _ (by omega) (by omega), div_next]
      have w2 : IntKind.u8.wrap (IntKind.wrap .u64 (128 + Int.tmod (x / 128 ^ (i + 1)) 128)) = 128 + x / 128 ^ (i + 1) % 128 := by
        rw [Int.tmod_eq_emod_of_nonneg nn, u64_id _ (by omega) (by omega), u8_wrap]; omega
      have key : lombardref09_Uint.r0 (x / 128 ^ (i + 1), toB (digits i x)) = some (.inl (x / 128 ^ (i + 1 + 1), toB (digits (i + 1) x))) := by
        unfold lombardref09_Uint.r0 lombardref09_Uint.b0
        simp only
        rw [if_pos (decide_eq_true (by omega)), w1, w2, if_pos (by rw [toB_len, toB_len, digits_len]; simp; omega)]
        rfl
      obtain ⟨m, hm, e⟩ := ref_uint_loop x h0 h1 j (i + 1) (by omega) (Or.inr c)
      exact ⟨m, hm, by rw [loop_next key, e]⟩
theorem ref_uint_is (x : Int) (h0 : 0 ≤ x) (h1 : x < 18446744073709551616) : ∃ m, Needs x m ∧ lombardref09_Uint.f x = some (toB (digits m x)) := by
  obtain ⟨m, hm, e⟩ := ref_uint_loop x h0 h1 9 0 (by omega) (Or.inl rfl)
  refine ⟨m, hm, ?_⟩
  have w1 : IntKind.u64.wrap (Int.tdiv x 128) = x / 128 ^ (0 + 1) := by
    rw [Int.tdiv_eq_ediv_of_nonneg h0, u64_id _ (by omega) (by omega)]; rfl
  have w2 : IntKind.u8.wrap (Int.tmod x 128) = x % 128 := by
    rw [Int.tmod_eq_emod_of_nonneg h0, u8_wrap]; omega
  unfold lombardref09_Uint.f
  rw [w1, w2]
  show (loop lombardref09_Uint.r0 (x / 128 ^ (0 + 1), toB (digits 0 x))).bind _ = _
  rw [e]; rfl
theorem ref_uint (x : Int) (h0 : 0 ≤ x) (h1 : x < 18446744073709551616) : lombardref09_Uint.f x = some (toB (eU x)) := by
  obtain ⟨m, hm, e⟩ := ref_uint_is x h0 h1
  rw [eU_is hm]; exact e
theorem ref_int (n : Int) : lombardref09_Int.f n = some (toB (eI n)) := by
  obtain ⟨f0, f1⟩ := fold_range n
  have hf : lombardref09_Fold.f n = some (fold n) := by
    unfold lombardref09_Fold.f fold
    by_cases c : n < 0
    · rw [if_pos (decide_eq_true c), if_pos c]
      congr 1
      rw [u64_wrap, u64_wrap, u64_wrap, i64_wrap]; omega
    · rw [if_neg (by simpa using c), if_neg c]
      congr 1
      rw [u64_wrap, u64_wrap]; omega
  unfold lombardref09_Int.f
  rw [hf, Option.bind_some, ref_uint _ f0 f1]; rfl
theorem ref_text (s : Bs) (hs : s.length < 1000000) : lombardref09_Text.f s = some (toB (eT s)) := by
  have e : IntKind.u64.wrap (s.length : Int) = (s.length : Int) := u64_id _ (by omega) (by omega)
  have := eU_len (s.length : Int)
  unfold lombardref09_Text.f eT
  rw [e, ref_uint _ (by omega) (by omega), Option.bind_some, if_pos (by rw [toB_len]; omega), toB_append, toB_bts]
theorem ref_bool (t : Bool) : lombardref09_Bool.f t = some (toB (eB t)) := by
  cases t <;> rfl
theorem ref_nums (L : List Int) (hL : L.length ≤ 1000) : lombardref10_ints.f L = some (toB (L.flatMap eI)) := by
  have h := each_all (lombardref10_ints.r0 L) (fun i b => (toB b, (i : Int))) L eI toB 10 1000 (fun y _ => eU_len _) (fun b => by
    unfold lombardref10_ints.r0 lombardref10_ints.b0
    rw [if_neg (by simp)]) (fun i b hi hb => by
    have := eI_len (nth L (i : Int))
    unfold lombardref10_ints.r0 lombardref10_ints.b0
    simp only
    rw [if_pos (decide_eq_true (by omega)), if_pos (by omega), ref_int, Option.bind_some, if_pos (by rw [toB_len, toB_len]; omega), i64_nx i (by omega), toB_append]) [] (Nat.zero_le _)
  have h' : loop (lombardref10_ints.r0 L) ([], 0) = some (toB ([] ++ L.flatMap eI)) := h
  unfold lombardref10_ints.f
  rw [h']; rfl
theorem ref_ints (L : List Int) (hL : L.length ≤ 1000) : lombardref09_Ints.f L = some (toB (eU (L.length : Int) ++ L.flatMap eI)) := by
  have e : IntKind.u64.wrap (L.length : Int) = (L.length : Int) := u64_id _ (by omega) (by omega)
  have h := each_all (lombardref09_Ints.r0 L) (fun i b => (toB b, (i : Int))) L eI toB 10 1000 (fun y _ => eU_len _) (fun b => by
    unfold lombardref09_Ints.r0 lombardref09_Ints.b0
    rw [if_neg (by simp)]) (fun i b hi hb => by
    have := eI_len (nth L (i : Int))
    unfold lombardref09_Ints.r0 lombardref09_Ints.b0
    simp only
    rw [if_pos (decide_eq_true (by omega)), if_pos (by omega), ref_int, Option.bind_some, if_pos (by rw [toB_len, toB_len]; omega), i64_nx i (by omega), toB_append]) (eU (L.length : Int)) (Nat.le_trans (eU_len _) (by decide))
  have h' : loop (lombardref09_Ints.r0 L) (toB (eU (L.length : Int)), 0) = _ := h
  unfold lombardref09_Ints.f
  rw [e, ref_uint _ (by omega) (by omega), Option.bind_some, h']; rfl
theorem ref_cuts (m : lombardref10_Msg) (hL : m.Basket.Cuts.length ≤ 64) (b : List Int) (hb : b.length ≤ 1000) : loop (lombardref10_Encode.r0 m) (toB b, 0) = some (toB (b ++ m.Basket.Cuts.flatMap eCut)) := by
  have h := each_all (lombardref10_Encode.r0 m) (fun i b => (toB b, (i : Int))) m.Basket.Cuts eCut toB 30 1000 (fun y _ => eCut_len y) (fun b => by
    unfold lombardref10_Encode.r0 lombardref10_Encode.b0
    rw [if_neg (by simp)]) (fun i b hi hb => by
    have g : (0 : Int) ≤ (i : Int) ∧ (i : Int) < (m.Basket.Cuts.length : Int) := by omega
    have l := nums_len [(nth m.Basket.Cuts (i : Int)).Days, (nth m.Basket.Cuts (i : Int)).Rating, (nth m.Basket.Cuts (i : Int)).Cut] 3 (Nat.le_refl _)
    unfold lombardref10_Encode.r0 lombardref10_Encode.b0
    simp only
    rw [if_pos (decide_eq_true g.2), if_pos g, if_pos g, if_pos g, ref_nums _ (by simp), Option.bind_some, if_pos (by rw [toB_len, toB_len]; omega), i64_nx i (by omega), ← toB_append]
    simp only [eCut, List.flatMap_cons, List.flatMap_nil, List.append_nil]) b hb
  exact h
theorem ref_prices (m : lombardref10_Msg) (hL : m.Prices.length ≤ 64 ∧ ∀ y ∈ m.Prices, y.ISIN.length ≤ 12) (b : List Int) (hb : b.length ≤ 1000) : loop (lombardref10_Encode.r1 m) (toB b, 0) = some (toB (b ++ m.Prices.flatMap ePrice)) := by
  have h0 := hL.1
  have h := each_all (lombardref10_Encode.r1 m) (fun i b => (toB b, (i : Int))) m.Prices ePrice toB 32 1000 (fun y hy => ePrice_len y (hL.2 y hy)) (fun b => by
    unfold lombardref10_Encode.r1 lombardref10_Encode.b1
    rw [if_neg (by simp)]) (fun i b hi hb => by
    have g : (0 : Int) ≤ (i : Int) ∧ (i : Int) < (m.Prices.length : Int) := by omega
    have k := hL.2 _ (nth_in m.Prices i hi)
    have l1 := eT_len _ _ k
    have l2 := eI_len (nth m.Prices (i : Int)).Price
    unfold lombardref10_Encode.r1 lombardref10_Encode.b1
    simp only
    rw [if_pos (decide_eq_true g.2), if_pos g, ref_text _ (by omega), Option.bind_some, if_pos (by rw [toB_len, toB_len]; omega), if_pos g, ref_int, Option.bind_some, ← toB_append, if_pos (by rw [toB_len, toB_len, List.length_append]; omega), i64_nx i (by omega), ← toB_append, List.append_assoc]
    rfl) b hb
  exact h
theorem ref_lots (m : lombardref10_Msg) (hL : m.In.length ≤ 64 ∧ ∀ y ∈ m.In, y.ISIN.length ≤ 12) (b : List Int) (hb : b.length ≤ 1000) : loop (lombardref10_behind.r0 m) (toB b, 0) = some (toB (b ++ m.In.flatMap eLot)) := by
  have h0 := hL.1
  have h := each_all (lombardref10_behind.r0 m) (fun i b => (toB b, (i : Int))) m.In eLot toB 32 1000 (fun y hy => eLot_len y (hL.2 y hy)) (fun b => by
    unfold lombardref10_behind.r0 lombardref10_behind.b0
    rw [if_neg (by simp)]) (fun i b hi hb => by
    have g : (0 : Int) ≤ (i : Int) ∧ (i : Int) < (m.In.length : Int) := by omega
    have k := hL.2 _ (nth_in m.In i hi)
    have l1 := eT_len _ _ k
    have l2 := eI_len (nth m.In (i : Int)).Qty
    unfold lombardref10_behind.r0 lombardref10_behind.b0
    simp only
    rw [if_pos (decide_eq_true g.2), if_pos g, ref_text _ (by omega), Option.bind_some, if_pos (by rw [toB_len, toB_len]; omega), if_pos g, ref_int, Option.bind_some, ← toB_append, if_pos (by rw [toB_len, toB_len, List.length_append]; omega), i64_nx i (by omega), ← toB_append, List.append_assoc]
    rfl) b hb
  exact h
noncomputable def tailR (m : lombardref10_Msg) (o : Bs) : Option (Bs × Int) := (lombardref10_behind.f m).bind fun t276 => if (o.length : Int) + t276.length ≤ 9223372036854775807 then some ((o ++ t276), 0) else none
theorem tail_of {m : lombardref10_Msg} {d : List Int} (h : lombardref10_behind.f m = some (toB d)) (hd : d.length ≤ 10000) (o : List Int) (ho : o.length ≤ 10000) : tailR m (toB o) = some (toB (o ++ d), 0) := by
  unfold tailR
  rw [h, Option.bind_some, if_pos (by rw [toB_len, toB_len]; omega), toB_append]
section
variable {a1 : Int} {a2 : Bs} {a3 : api_Asset} {a4 : api_Basket} {a5 : List api_Price} {a6 : Int} {a7 : Bs} {a8 : Int} {Q : api_Quote} {a9 : api_Lot} {a10 : List api_Lot} {a11 : Int} {a12 : Bool} {a13 : Int} {v : Int}
theorem enc9 (h : lombardref10_Check.f ⟨9, a1, a2, a3, a4, a5, a6, a7, a8, Q, a9, a10, a11, a12, a13⟩ = some 0) : lombardref10_Encode.f ⟨9, a1, a2, a3, a4, a5, a6, a7, a8, Q, a9, a10, a11, a12, a13⟩ = some (toB (eI 9 ++ eMsg (.cmsg_Cancel ⟨a1, a8⟩)), 0) := by
  have e : lombardref10_Encode.f ⟨9, a1, a2, a3, a4, a5, a6, a7, a8, Q, a9, a10, a11, a12, a13⟩ = (lombardref10_Check.f ⟨9, a1, a2, a3, a4, a5, a6, a7, a8, Q, a9, a10, a11, a12, a13⟩).bind fun t1 => if (t1 != 0) = true then (lombardref10_Check.f ⟨9, a1, a2, a3, a4, a5, a6, a7, a8, Q, a9, a10, a11, a12, a13⟩).bind fun t4 => some ([], t4) else (lombardref09_Int.f 9).bind fun t6 => (tailR ⟨9, a1, a2, a3, a4, a5, a6, a7, a8, Q, a9, a10, a11, a12, a13⟩ t6) := rfl
  have l0 := eI_len 9
  have b : lombardref10_behind.f ⟨9, a1, a2, a3, a4, a5, a6, a7, a8, Q, a9, a10, a11, a12, a13⟩ = (lombardref10_ints.f [a1, a8]).bind fun t => some t := rfl
  have l := nums_len [a1, a8] 2 (Nat.le_refl _)
  rw [e, h, Option.bind_some, if_neg (by decide), ref_int, Option.bind_some]
  refine (tail_of (d := eMsg (.cmsg_Cancel ⟨a1, a8⟩)) ?_ ?_ _ (by omega)).trans rfl
  · rw [b, ref_nums _ (by simp)]; rfl
  · show ([a1, a8].flatMap eI).length ≤ _; omega
theorem enc14 (h : lombardref10_Check.f ⟨14, a1, a2, a3, a4, a5, a6, a7, a8, Q, a9, a10, a11, a12, a13⟩ = some 0) : lombardref10_Encode.f ⟨14, a1, a2, a3, a4, a5, a6, a7, a8, Q, a9, a10, a11, a12, a13⟩ = some (toB (eI 14 ++ eMsg (.cmsg_Bound ⟨a1, a8⟩)), 0) := by
  have e : lombardref10_Encode.f ⟨14, a1, a2, a3, a4, a5, a6, a7, a8, Q, a9, a10, a11, a12, a13⟩ = (lombardref10_Check.f ⟨14, a1, a2, a3, a4, a5, a6, a7, a8, Q, a9, a10, a11, a12, a13⟩).bind fun t1 => if (t1 != 0) = true then (lombardref10_Check.f ⟨14, a1, a2, a3, a4, a5, a6, a7, a8, Q, a9, a10, a11, a12, a13⟩).bind fun t4 => some ([], t4) else (lombardref09_Int.f 14).bind fun t6 => (tailR ⟨14, a1, a2, a3, a4, a5, a6, a7, a8, Q, a9, a10, a11, a12, a13⟩ t6) := rfl
  have l0 := eI_len 14
  have b : lombardref10_behind.f ⟨14, a1, a2, a3, a4, a5, a6, a7, a8, Q, a9, a10, a11, a12, a13⟩ = (lombardref10_ints.f [a1, a8]).bind fun t => some t := rfl
  have l := nums_len [a1, a8] 2 (Nat.le_refl _)
  rw [e, h, Option.bind_some, if_neg (by decide), ref_int, Option.bind_some]
  refine (tail_of (d := eMsg (.cmsg_Bound ⟨a1, a8⟩)) ?_ ?_ _ (by omega)).trans rfl
  · rw [b, ref_nums _ (by simp)]; rfl
  · show ([a1, a8].flatMap eI).length ≤ _; omega
theorem enc10 (h : lombardref10_Check.f ⟨10, a1, a2, a3, a4, a5, a6, a7, a8, Q, a9, a10, a11, a12, a13⟩ = some 0) : lombardref10_Encode.f ⟨10, a1, a2, a3, a4, a5, a6, a7, a8, Q, a9, a10, a11, a12, a13⟩ = some (toB (eI 10 ++ eMsg (.cmsg_Notice ⟨a1, a11, a6⟩)), 0) := by
  have e : lombardref10_Encode.f ⟨10, a1, a2, a3, a4, a5, a6, a7, a8, Q, a9, a10, a11, a12, a13⟩ = (lombardref10_Check.f ⟨10, a1, a2, a3, a4, a5, a6, a7, a8, Q, a9, a10, a11, a12, a13⟩).bind fun t1 => if (t1 != 0) = true then (lombardref10_Check.f ⟨10, a1, a2, a3, a4, a5, a6, a7, a8, Q, a9, a10, a11, a12, a13⟩).bind fun t4 => some ([], t4) else (lombardref09_Int.f 10).bind fun t6 => (tailR ⟨10, a1, a2, a3, a4, a5, a6, a7, a8, Q, a9, a10, a11, a12, a13⟩ t6) := rfl
  have l0 := eI_len 10
  have b : lombardref10_behind.f ⟨10, a1, a2, a3, a4, a5, a6, a7, a8, Q, a9, a10, a11, a12, a13⟩ = (lombardref10_ints.f [a1, a11, a6]).bind fun t => some t := rfl
  have l := nums_len [a1, a11, a6] 3 (Nat.le_refl _)
  rw [e, h, Option.bind_some, if_neg (by decide), ref_int, Option.bind_some]
  refine (tail_of (d := eMsg (.cmsg_Notice ⟨a1, a11, a6⟩)) ?_ ?_ _ (by omega)).trans rfl
  · rw [b, ref_nums _ (by simp)]; rfl
  · show ([a1, a11, a6].flatMap eI).length ≤ _; omega
theorem enc15 (h : lombardref10_Check.f ⟨15, a1, a2, a3, a4, a5, a6, a7, a8, Q, a9, a10, a11, a12, a13⟩ = some 0) : lombardref10_Encode.f ⟨15, a1, a2, a3, a4, a5, a6, a7, a8, Q, a9, a10, a11, a12, a13⟩ = some (toB (eI 15 ++ eMsg (.cmsg_Reset ⟨a11, a6, a13⟩)), 0) := by
  have e : lombardref10_Encode.f ⟨15, a1, a2, a3, a4, a5, a6, a7, a8, Q, a9, a10, a11, a12, a13⟩ = (lombardref10_Check.f ⟨15, a1, a2, a3, a4, a5, a6, a7, a8, Q, a9, a10, a11, a12, a13⟩).bind fun t1 => if (t1 != 0) = true then (lombardref10_Check.f ⟨15, a1, a2, a3, a4, a5, a6, a7, a8, Q, a9, a10, a11, a12, a13⟩).bind fun t4 => some ([], t4) else (lombardref09_Int.f 15).bind fun t6 => (tailR ⟨15, a1, a2, a3, a4, a5, a6, a7, a8, Q, a9, a10, a11, a12, a13⟩ t6) := rfl
  have l0 := eI_len 15
  have b : lombardref10_behind.f ⟨15, a1, a2, a3, a4, a5, a6, a7, a8, Q, a9, a10, a11, a12, a13⟩ = (lombardref10_ints.f [a11, a6, a13]).bind fun t => some t := rfl
  have l := nums_len [a11, a6, a13] 3 (Nat.le_refl _)
  rw [e, h, Option.bind_some, if_neg (by decide), ref_int, Option.bind_some]
  refine (tail_of (d := eMsg (.cmsg_Reset ⟨a11, a6, a13⟩)) ?_ ?_ _ (by omega)).trans rfl
  · rw [b, ref_nums _ (by simp)]; rfl
  · show ([a11, a6, a13].flatMap eI).length ≤ _; omega
theorem enc13 (h : lombardref10_Check.f ⟨13, a1, a2, a3, a4, a5, a6, a7, a8, Q, a9, a10, a11, a12, a13⟩ = some 0) : lombardref10_Encode.f ⟨13, a1, a2, a3, a4, a5, a6, a7, a8, Q, a9, a10, a11, a12, a13⟩ = some (toB (eI 13 ++ eMsg (.cmsg_Default ⟨a1⟩)), 0) := by
  have e : lombardref10_Encode.f ⟨13, a1, a2, a3, a4, a5, a6, a7, a8, Q, a9, a10, a11, a12, a13⟩ = (lombardref10_Check.f ⟨13, a1, a2, a3, a4, a5, a6, a7, a8, Q, a9, a10, a11, a12, a13⟩).bind fun t1 => if (t1 != 0) = true then (lombardref10_Check.f ⟨13, a1, a2, a3, a4, a5, a6, a7, a8, Q, a9, a10, a11, a12, a13⟩).bind fun t4 => some ([], t4) else (lombardref09_Int.f 13).bind fun t6 => (tailR ⟨13, a1, a2, a3, a4, a5, a6, a7, a8, Q, a9, a10, a11, a12, a13⟩ t6) := rfl
  have l0 := eI_len 13
  have b : lombardref10_behind.f ⟨13, a1, a2, a3, a4, a5, a6, a7, a8, Q, a9, a10, a11, a12, a13⟩ = (lombardref09_Int.f a1).bind fun t => some t := rfl
  have l := eI_len a1
  rw [e, h, Option.bind_some, if_neg (by decide), ref_int, Option.bind_some]
  refine (tail_of (d := eI a1) ?_ (by omega) _ (by omega)).trans rfl
  rw [b, ref_int]; rfl
theorem enc12 (h : lombardref10_Check.f ⟨12, a1, a2, a3, a4, a5, a6, a7, a8, Q, a9, a10, a11, a12, a13⟩ = some 0) : lombardref10_Encode.f ⟨12, a1, a2, a3, a4, a5, a6, a7, a8, Q, a9, a10, a11, a12, a13⟩ = some (toB (eI 12 ++ eMsg (.cmsg_Settle ⟨a1, a6, a12⟩)), 0) := by
  have e : lombardref10_Encode.f ⟨12, a1, a2, a3, a4, a5, a6, a7, a8, Q, a9, a10, a11, a12, a13⟩ = (lombardref10_Check.f ⟨12, a1, a2, a3, a4, a5, a6, a7, a8, Q, a9, a10, a11, a12, a13⟩).bind fun t1 => if (t1 != 0) = true then (lombardref10_Check.f ⟨12, a1, a2, a3, a4, a5, a6, a7, a8, Q, a9, a10, a11, a12, a13⟩).bind fun t4 => some ([], t4) else (lombardref09_Int.f 12).bind fun t6 => (tailR ⟨12, a1, a2, a3, a4, a5, a6, a7, a8, Q, a9, a10, a11, a12, a13⟩ t6) := rfl
  have l0 := eI_len 12
  have b : lombardref10_behind.f ⟨12, a1, a2, a3, a4, a5, a6, a7, a8, Q, a9, a10, a11, a12, a13⟩ = (lombardref10_ints.f [a1, a6]).bind fun t63 => (lombardref09_Bool.f a12).bind fun t65 => if (t63.length : Int) + t65.length ≤ 9223372036854775807 then some (t63 ++ t65) else none := rfl
  have l := nums_len [a1, a6] 2 (Nat.le_refl _)
  rw [e, h, Option.bind_some, if_neg (by decide), ref_int, Option.bind_some]
  refine (tail_of (d := [a1, a6].flatMap eI ++ eB a12) ?_ (by rw [List.length_append]; simp only [eB, List.length_singleton]; omega) _ (by omega)).trans rfl
  rw [b, ref_nums _ (by simp), Option.bind_some, ref_bool, Option.bind_some, if_pos (by rw [toB_len, toB_len]; simp only [eB, List.length_singleton]; omega), toB_append]
theorem enc11 (h : lombardref10_Check.f ⟨11, a1, a2, a3, a4, a5, a6, a7, a8, Q, a9, a10, a11, a12, a13⟩ = some 0) (hf : Fit (.cmsg_Swap ⟨a1, a11, a9, a10⟩)) : lombardref10_Encode.f ⟨11, a1, a2, a3, a4, a5, a6, a7, a8, Q, a9, a10, a11, a12, a13⟩ = some (toB (eI 11 ++ eMsg (.cmsg_Swap ⟨a1, a11, a9, a10⟩)), 0) := by
  have e : lombardref10_Encode.f ⟨11, a1, a2, a3, a4, a5, a6, a7, a8, Q, a9, a10, a11, a12, a13⟩ = (lombardref10_Check.f ⟨11, a1, a2, a3, a4, a5, a6, a7, a8, Q, a9, a10, a11, a12, a13⟩).bind fun t1 => if (t1 != 0) = true then (lombardref10_Check.f ⟨11, a1, a2, a3, a4, a5, a6, a7, a8, Q, a9, a10, a11, a12, a13⟩).bind fun t4 => some ([], t4) else (lombardref09_Int.f 11).bind fun t6 => (tailR ⟨11, a1, a2, a3, a4, a5, a6, a7, a8, Q, a9, a10, a11, a12, a13⟩ t6) := rfl
  have l0 := eI_len 11
  obtain ⟨f1, f2⟩ := hf
  simp only at f1 f2
  have f0 := f2.1
  have b : lombardref10_behind.f ⟨11, a1, a2, a3, a4, a5, a6, a7, a8, Q, a9, a10, a11, a12, a13⟩ = (lombardref10_ints.f [a1, a11]).bind fun t9 => (lombardref09_Text.f a9.ISIN).bind fun t11 => if (t9.length : Int) + t11.length ≤ 9223372036854775807 then (lombardref09_Int.f a9.Qty).bind fun t14 =>
    if ((t9 ++ t11).length : Int) + t14.length ≤ 9223372036854775807 then (lombardref09_Uint.f (IntKind.wrap .u64 (List.length a10 : Int))).bind fun t17 => if (((t9 ++ t11) ++ t14).length : Int) + t17.length ≤ 9223372036854775807 then
    (loop (lombardref10_behind.r0 ⟨11, a1, a2, a3, a4, a5, a6, a7, a8, Q, a9, a10, a11, a12, a13⟩) ((((t9 ++ t11) ++ t14) ++ t17), 0)).bind fun o50 => some o50 else none else none else none := rfl
  have l := nums_len [a1, a11] 2 (Nat.le_refl _)
  have l1 := eT_len _ _ f1
  have l2 := eI_len a9.Qty
  have l3 := eU_len (a10.length : Int)
  have l4 := flat_len eLot 32 a10 (fun y hy => eLot_len y (f2.2 y hy))
  have e2 : IntKind.u64.wrap (a10.length : Int) = (a10.length : Int) := u64_id _ (by omega) (by omega)
  rw [e, h, Option.bind_some, if_neg (by decide), ref_int, Option.bind_some]
  refine (tail_of (d := eMsg (.cmsg_Swap ⟨a1, a11, a9, a10⟩)) ?_ ?_ _ (by omega)).trans rfl
  · rw [b, ref_nums _ (by simp), Option.bind_some, ref_text _ (by omega), Option.bind_some, if_pos (by rw [toB_len, toB_len]; omega), ref_int, Option.bind_some, ← toB_append, if_pos (by rw [toB_len, toB_len, List.length_append]; omega), e2, ref_uint _ (by omega) (by omega),
      Option.bind_some, ← toB_append, if_pos (by rw [toB_len, toB_len, List.length_append, List.length_append]; omega), ← toB_append]
    rw [ref_lots ⟨11, a1, a2, a3, a4, a5, a6, a7, a8, Q, a9, a10, a11, a12, a13⟩ f2 _ (by simp only [List.length_append]; omega), Option.bind_some]
    simp only [eMsg, eSwap, eLot, List.append_assoc, List.flatMap_cons, List.flatMap_nil, List.append_nil, List.nil_append]
  · have := eI_len a1
    have := eI_len a11
    simp only [eMsg, eSwap, eLot, List.length_append]; omega
theorem enc1 (h : lombardref10_Check.f ⟨1, a1, a2, a3, a4, a5, a6, a7, a8, Q, a9, a10, a11, a12, a13⟩ = some 0) (hf : Fit (.cmsg_Join ⟨a1, a2⟩)) : lombardref10_Encode.f ⟨1, a1, a2, a3, a4, a5, a6, a7, a8, Q, a9, a10, a11, a12, a13⟩ = some (toB (eI 1 ++ eMsg (.cmsg_Join ⟨a1, a2⟩)), 0) := by
  have e : lombardref10_Encode.f ⟨1, a1, a2, a3, a4, a5, a6, a7, a8, Q, a9, a10, a11, a12, a13⟩ = (lombardref10_Check.f ⟨1, a1, a2, a3, a4, a5, a6, a7, a8, Q, a9, a10, a11, a12, a13⟩).bind fun t1 => if (t1 != 0) = true then (lombardref10_Check.f ⟨1, a1, a2, a3, a4, a5, a6, a7, a8, Q, a9, a10, a11, a12, a13⟩).bind fun t4 => some ([], t4) else (lombardref09_Int.f 1).bind fun t6 => ((lombardref09_Int.f a1).bind fun t19 => if (t6.length : Int) + t19.length ≤ 9223372036854775807 then (lombardref09_Text.f a2).bind fun t22 => if ((t6 ++ t19).length : Int) + t22.length ≤ 9223372036854775807 then some ((t6 ++ t19) ++ t22) else none else none).bind fun o => tailR ⟨1, a1, a2, a3, a4, a5, a6, a7, a8, Q, a9, a10, a11, a12, a13⟩ o := rfl
  have l0 := eI_len 1
  have hf : a2.length ≤ 160 := hf
  have b : lombardref10_behind.f ⟨1, a1, a2, a3, a4, a5, a6, a7, a8, Q, a9, a10, a11, a12, a13⟩ = some (toB []) := rfl
  have l1 := eI_len a1
  have l2 := eT_len a2 160 hf
  rw [e, h, Option.bind_some, if_neg (by decide), ref_int, Option.bind_some, ref_int, Option.bind_some, if_pos (by rw [toB_len, toB_len]; omega), ref_text _ (by omega), Option.bind_some, ← toB_append, if_pos (by rw [toB_len, toB_len, List.length_append]; omega), ← toB_append, Option.bind_some,
    tail_of b (Nat.zero_le _) _ (by simp only [List.length_append]; omega), List.append_nil, List.append_assoc]
  rfl
theorem enc2 (h : lombardref10_Check.f ⟨2, a1, a2, a3, a4, a5, a6, a7, a8, Q, a9, a10, a11, a12, a13⟩ = some 0) (hf : Fit (.cmsg_List ⟨a3⟩)) : lombardref10_Encode.f ⟨2, a1, a2, a3, a4, a5, a6, a7, a8, Q, a9, a10, a11, a12, a13⟩ = some (toB (eI 2 ++ eMsg (.cmsg_List ⟨a3⟩)), 0) := by
  have e : lombardref10_Encode.f ⟨2, a1, a2, a3, a4, a5, a6, a7, a8, Q, a9, a10, a11, a12, a13⟩ = (lombardref10_Check.f ⟨2, a1, a2, a3, a4, a5, a6, a7, a8, Q, a9, a10, a11, a12, a13⟩).bind fun t1 => if (t1 != 0) = true then (lombardref10_Check.f ⟨2, a1, a2, a3, a4, a5, a6, a7, a8, Q, a9, a10, a11, a12, a13⟩).bind fun t4 => some ([], t4) else (lombardref09_Int.f 2).bind fun t6 => ((lombardref09_Text.f a3.ISIN).bind fun t39 => if (t6.length : Int) + t39.length ≤ 9223372036854775807 then (lombardref10_ints.f [a3.Issuer, a3.Rating, a3.Maturity]).bind fun t42 => if ((t6 ++ t39).length : Int) + t42.length ≤ 9223372036854775807 then (lombardref09_Text.f a3.Currency).bind fun t45 => if (((t6 ++ t39) ++ t42).length : Int) + t45.length ≤ 9223372036854775807 then some (((t6 ++ t39) ++ t42) ++ t45) else none else none else none).bind fun o => tailR ⟨2, a1, a2, a3, a4, a5, a6, a7, a8, Q, a9, a10, a11, a12, a13⟩ o := rfl
  have l0 := eI_len 2
  obtain ⟨f1, f2⟩ := hf
  simp only at f1 f2
  have b : lombardref10_behind.f ⟨2, a1, a2, a3, a4, a5, a6, a7, a8, Q, a9, a10, a11, a12, a13⟩ = some (toB []) := rfl
  have l1 := eT_len _ _ f1
  have l2 := eT_len _ _ f2
  have l3 := nums_len [a3.Issuer, a3.Rating, a3.Maturity] 3 (Nat.le_refl _)
  rw [e, h, Option.bind_some, if_neg (by decide), ref_int, Option.bind_some, ref_text _ (by omega), Option.bind_some, if_pos (by rw [toB_len, toB_len]; omega), ref_nums _ (by simp), Option.bind_some, ← toB_append, if_pos (by rw [toB_len, toB_len, List.length_append]; omega), ref_text _ (by omega), Option.bind_some, ← toB_append,
    if_pos (by rw [toB_len, toB_len, List.length_append, List.length_append]; omega), ← toB_append, Option.bind_some, tail_of b (Nat.zero_le _) _ (by simp only [List.length_append]; omega)]
  simp only [eMsg, eAsset, List.append_assoc, List.flatMap_cons, List.flatMap_nil, List.append_nil, List.nil_append]
theorem enc3 (h : lombardref10_Check.f ⟨3, a1, a2, a3, a4, a5, a6, a7, a8, Q, a9, a10, a11, a12, a13⟩ = some 0) (hf : Fit (.cmsg_Rules ⟨a4⟩)) : lombardref10_Encode.f ⟨3, a1, a2, a3, a4, a5, a6, a7, a8, Q, a9, a10, a11, a12, a13⟩ = some (toB (eI 3 ++ eMsg (.cmsg_Rules ⟨a4⟩)), 0) := by
  have e : lombardref10_Encode.f ⟨3, a1, a2, a3, a4, a5, a6, a7, a8, Q, a9, a10, a11, a12, a13⟩ = (lombardref10_Check.f ⟨3, a1, a2, a3, a4, a5, a6, a7, a8, Q, a9, a10, a11, a12, a13⟩).bind fun t1 => if (t1 != 0) = true then (lombardref10_Check.f ⟨3, a1, a2, a3, a4, a5, a6, a7, a8, Q, a9, a10, a11, a12, a13⟩).bind fun t4 => some ([], t4) else (lombardref09_Int.f 3).bind fun t6 => ((lombardref10_ints.f [a4.ID, a4.Version, a4.Rating, a4.Least, a4.Most, a4.Issuer, a4.Asset]).bind fun t99 => if (t6.length : Int) + t99.length ≤ 9223372036854775807 then (lombardref09_Text.f a4.Currency).bind fun t102 => if ((t6 ++ t99).length : Int) + t102.length ≤ 9223372036854775807 then
    (lombardref09_Uint.f (IntKind.wrap .u64 (List.length a4.Cuts : Int))).bind fun t105 => if (((t6 ++ t99) ++ t102).length : Int) + t105.length ≤ 9223372036854775807 then (loop (lombardref10_Encode.r0 ⟨3, a1, a2, a3, a4, a5, a6, a7, a8, Q, a9, a10, a11, a12, a13⟩) ((((t6 ++ t99) ++ t102) ++ t105), 0)).bind fun o132 =>
    (lombardref09_Ints.f a4.Barred).bind fun t142 => if (o132.length : Int) + t142.length ≤ 9223372036854775807 then some (o132 ++ t142) else none else none else none else none).bind fun o => tailR ⟨3, a1, a2, a3, a4, a5, a6, a7, a8, Q, a9, a10, a11, a12, a13⟩ o := rfl
  have l0 := eI_len 3
  obtain ⟨f1, f2, f3⟩ := hf
  simp only at f1 f2 f3
  have b : lombardref10_behind.f ⟨3, a1, a2, a3, a4, a5, a6, a7, a8, Q, a9, a10, a11, a12, a13⟩ = some (toB []) := rfl
  have l1 := eT_len _ _ f1
  have l3 := nums_len [a4.ID, a4.Version, a4.Rating, a4.Least, a4.Most, a4.Issuer, a4.Asset] 7 (Nat.le_refl _)
  have l4 := eU_len (a4.Cuts.length : Int)
  have l5 := eU_len (a4.Barred.length : Int)
  have l6 := flat_len eCut 30 a4.Cuts (fun y _ => eCut_len y)
  have l7 := flat_len eI 10 a4.Barred (fun y _ => eI_len y)
  have e2 : IntKind.u64.wrap (a4.Cuts.length : Int) = (a4.Cuts.length : Int) := u64_id _ (by omega) (by omega)
  rw [e, h, Option.bind_some, if_neg (by decide), ref_int, Option.bind_some, ref_nums _ (by simp), Option.bind_some, if_pos (by rw [toB_len, toB_len]; omega), ref_text _ (by omega), Option.bind_some, ← toB_append, if_pos (by rw [toB_len, toB_len, List.length_append]; omega), e2, ref_uint _ (by omega) (by omega), Option.bind_some, ← toB_append,
    if_pos (by rw [toB_len, toB_len, List.length_append, List.length_append]; omega), ← toB_append]
  rw [ref_cuts ⟨3, a1, a2, a3, a4, a5, a6, a7, a8, Q, a9, a10, a11, a12, a13⟩ f2 _ (by simp only [List.length_append]; omega), Option.bind_some, ref_ints _ (by omega), Option.bind_some, if_pos (by simp only [toB_len, List.length_append]; omega), ← toB_append, Option.bind_some, tail_of b (Nat.zero_le _) _ (by simp only [List.length_append]; omega)]
  simp only [eMsg, eBasket, List.append_assoc, List.append_nil]
theorem enc4 (h : lombardref10_Check.f ⟨4, a1, a2, a3, a4, a5, a6, a7, a8, Q, a9, a10, a11, a12, a13⟩ = some 0) (hf : Fit (.cmsg_Prices ⟨a5⟩)) : lombardref10_Encode.f ⟨4, a1, a2, a3, a4, a5, a6, a7, a8, Q, a9, a10, a11, a12, a13⟩ = some (toB (eI 4 ++ eMsg (.cmsg_Prices ⟨a5⟩)), 0) := by
  have e : lombardref10_Encode.f ⟨4, a1, a2, a3, a4, a5, a6, a7, a8, Q, a9, a10, a11, a12, a13⟩ = (lombardref10_Check.f ⟨4, a1, a2, a3, a4, a5, a6, a7, a8, Q, a9, a10, a11, a12, a13⟩).bind fun t1 => if (t1 != 0) = true then (lombardref10_Check.f ⟨4, a1, a2, a3, a4, a5, a6, a7, a8, Q, a9, a10, a11, a12, a13⟩).bind fun t4 => some ([], t4) else (lombardref09_Int.f 4).bind fun t6 => ((lombardref09_Uint.f (IntKind.wrap .u64 (List.length a5 : Int))).bind fun t195 => if (t6.length : Int) + t195.length ≤ 9223372036854775807 then (loop (lombardref10_Encode.r1 ⟨4, a1, a2, a3, a4, a5, a6, a7, a8, Q, a9, a10, a11, a12, a13⟩) ((t6 ++ t195), 0)).bind fun o228 => some o228 else none).bind fun o => tailR ⟨4, a1, a2, a3, a4, a5, a6, a7, a8, Q, a9, a10, a11, a12, a13⟩ o := rfl
  have l0 := eI_len 4
  have hf : a5.length ≤ 64 ∧ ∀ y ∈ a5, y.ISIN.length ≤ 12 := hf
  have f0 := hf.1
  have b : lombardref10_behind.f ⟨4, a1, a2, a3, a4, a5, a6, a7, a8, Q, a9, a10, a11, a12, a13⟩ = some (toB []) := rfl
  have l4 := eU_len (a5.length : Int)
  have l6 := flat_len ePrice 32 a5 (fun y hy => ePrice_len y (hf.2 y hy))
  have e2 : IntKind.u64.wrap (a5.length : Int) = (a5.length : Int) := u64_id _ (by omega) (by omega)
  rw [e, h, Option.bind_some, if_neg (by decide), ref_int, Option.bind_some, e2, ref_uint _ (by omega) (by omega), Option.bind_some, if_pos (by rw [toB_len, toB_len]; omega), ← toB_append]
  rw [ref_prices ⟨4, a1, a2, a3, a4, a5, a6, a7, a8, Q, a9, a10, a11, a12, a13⟩ hf _ (by simp only [List.length_append]; omega), Option.bind_some, Option.bind_some, tail_of b (Nat.zero_le _) _ (by simp only [List.length_append]; omega)]
  simp only [eMsg, List.append_assoc, List.append_nil]
theorem enc5 (h : lombardref10_Check.f ⟨5, a1, a2, a3, a4, a5, a6, a7, a8, Q, a9, a10, a11, a12, a13⟩ = some 0) : lombardref10_Encode.f ⟨5, a1, a2, a3, a4, a5, a6, a7, a8, Q, a9, a10, a11, a12, a13⟩ = some (toB (eI 5 ++ eMsg (.cmsg_Roll ⟨a6⟩)), 0) := by
  have e : lombardref10_Encode.f ⟨5, a1, a2, a3, a4, a5, a6, a7, a8, Q, a9, a10, a11, a12, a13⟩ = (lombardref10_Check.f ⟨5, a1, a2, a3, a4, a5, a6, a7, a8, Q, a9, a10, a11, a12, a13⟩).bind fun t1 => if (t1 != 0) = true then (lombardref10_Check.f ⟨5, a1, a2, a3, a4, a5, a6, a7, a8, Q, a9, a10, a11, a12, a13⟩).bind fun t4 => some ([], t4) else (lombardref09_Int.f 5).bind fun t6 => ((lombardref09_Int.f a6).bind fun t248 => if (t6.length : Int) + t248.length ≤ 9223372036854775807 then some (t6 ++ t248) else none).bind fun o => tailR ⟨5, a1, a2, a3, a4, a5, a6, a7, a8, Q, a9, a10, a11, a12, a13⟩ o := rfl
  have l0 := eI_len 5
  have b : lombardref10_behind.f ⟨5, a1, a2, a3, a4, a5, a6, a7, a8, Q, a9, a10, a11, a12, a13⟩ = some (toB []) := rfl
  have l1 := eI_len a6
  rw [e, h, Option.bind_some, if_neg (by decide), ref_int, Option.bind_some, ref_int, Option.bind_some, if_pos (by rw [toB_len, toB_len]; omega), ← toB_append, Option.bind_some, tail_of b (Nat.zero_le _) _ (by simp only [List.length_append]; omega), List.append_nil]
  rfl
theorem enc6 (h : lombardref10_Check.f ⟨6, a1, a2, a3, a4, a5, a6, a7, a8, Q, a9, a10, a11, a12, a13⟩ = some 0) (hf : Fit (.cmsg_Cash ⟨a1, a7, a8⟩)) : lombardref10_Encode.f ⟨6, a1, a2, a3, a4, a5, a6, a7, a8, Q, a9, a10, a11, a12, a13⟩ = some (toB (eI 6 ++ eMsg (.cmsg_Cash ⟨a1, a7, a8⟩)), 0) := by
  have e : lombardref10_Encode.f ⟨6, a1, a2, a3, a4, a5, a6, a7, a8, Q, a9, a10, a11, a12, a13⟩ = (lombardref10_Check.f ⟨6, a1, a2, a3, a4, a5, a6, a7, a8, Q, a9, a10, a11, a12, a13⟩).bind fun t1 => if (t1 != 0) = true then (lombardref10_Check.f ⟨6, a1, a2, a3, a4, a5, a6, a7, a8, Q, a9, a10, a11, a12, a13⟩).bind fun t4 => some ([], t4) else (lombardref09_Int.f 6).bind fun t6 => ((lombardref10_ints.f [a1, a8]).bind fun t263 => if (t6.length : Int) + t263.length ≤ 9223372036854775807 then (lombardref09_Text.f a7).bind fun t266 => if ((t6 ++ t263).length : Int) + t266.length ≤ 9223372036854775807 then some ((t6 ++ t263) ++ t266) else none else none).bind fun o => tailR ⟨6, a1, a2, a3, a4, a5, a6, a7, a8, Q, a9, a10, a11, a12, a13⟩ o := rfl
  have l0 := eI_len 6
  have hf : a7.length ≤ 12 := hf
  have b : lombardref10_behind.f ⟨6, a1, a2, a3, a4, a5, a6, a7, a8, Q, a9, a10, a11, a12, a13⟩ = some (toB []) := rfl
  have l1 := nums_len [a1, a8] 2 (Nat.le_refl _)
  have l2 := eT_len a7 12 hf
  rw [e, h, Option.bind_some, if_neg (by decide), ref_int, Option.bind_some, ref_nums _ (by simp), Option.bind_some, if_pos (by rw [toB_len, toB_len]; omega), ref_text _ (by omega), Option.bind_some, ← toB_append, if_pos (by rw [toB_len, toB_len, List.length_append]; omega), ← toB_append, Option.bind_some,
    tail_of b (Nat.zero_le _) _ (by simp only [List.length_append]; omega), List.append_nil, List.append_assoc]
  rfl
theorem enc7 (h : lombardref10_Check.f ⟨7, a1, a2, a3, a4, a5, a6, a7, a8, Q, a9, a10, a11, a12, a13⟩ = some 0) (hf : Fit (.cmsg_Move ⟨a1, a7, a8⟩)) : lombardref10_Encode.f ⟨7, a1, a2, a3, a4, a5, a6, a7, a8, Q, a9, a10, a11, a12, a13⟩ = some (toB (eI 7 ++ eMsg (.cmsg_Move ⟨a1, a7, a8⟩)), 0) := by
  have e : lombardref10_Encode.f ⟨7, a1, a2, a3, a4, a5, a6, a7, a8, Q, a9, a10, a11, a12, a13⟩ = (lombardref10_Check.f ⟨7, a1, a2, a3, a4, a5, a6, a7, a8, Q, a9, a10, a11, a12, a13⟩).bind fun t1 => if (t1 != 0) = true then (lombardref10_Check.f ⟨7, a1, a2, a3, a4, a5, a6, a7, a8, Q, a9, a10, a11, a12, a13⟩).bind fun t4 => some ([], t4) else (lombardref09_Int.f 7).bind fun t6 => ((lombardref10_ints.f [a1, a8]).bind fun t263 => if (t6.length : Int) + t263.length ≤ 9223372036854775807 then (lombardref09_Text.f a7).bind fun t266 => if ((t6 ++ t263).length : Int) + t266.length ≤ 9223372036854775807 then some ((t6 ++ t263) ++ t266) else none else none).bind fun o => tailR ⟨7, a1, a2, a3, a4, a5, a6, a7, a8, Q, a9, a10, a11, a12, a13⟩ o := rfl
  have l0 := eI_len 7
  have hf : a7.length ≤ 12 := hf
  have b : lombardref10_behind.f ⟨7, a1, a2, a3, a4, a5, a6, a7, a8, Q, a9, a10, a11, a12, a13⟩ = some (toB []) := rfl
  have l1 := nums_len [a1, a8] 2 (Nat.le_refl _)
  have l2 := eT_len a7 12 hf
  rw [e, h, Option.bind_some, if_neg (by decide), ref_int, Option.bind_some, ref_nums _ (by simp), Option.bind_some, if_pos (by rw [toB_len, toB_len]; omega), ref_text _ (by omega), Option.bind_some, ← toB_append, if_pos (by rw [toB_len, toB_len, List.length_append]; omega), ← toB_append, Option.bind_some,
    tail_of b (Nat.zero_le _) _ (by simp only [List.length_append]; omega), List.append_nil, List.append_assoc]
  rfl
theorem enc8 (h : lombardref10_Check.f ⟨8, a1, a2, a3, a4, a5, a6, a7, a8, Q, a9, a10, a11, a12, a13⟩ = some 0) : lombardref10_Encode.f ⟨8, a1, a2, a3, a4, a5, a6, a7, a8, Q, a9, a10, a11, a12, a13⟩ = some (toB (eI 8 ++ eMsg (.cmsg_Offer ⟨Q⟩)), 0) := by
  have e : lombardref10_Encode.f ⟨8, a1, a2, a3, a4, a5, a6, a7, a8, Q, a9, a10, a11, a12, a13⟩ = (lombardref10_Check.f ⟨8, a1, a2, a3, a4, a5, a6, a7, a8, Q, a9, a10, a11, a12, a13⟩).bind fun t1 => if (t1 != 0) = true then (lombardref10_Check.f ⟨8, a1, a2, a3, a4, a5, a6, a7, a8, Q, a9, a10, a11, a12, a13⟩).bind fun t4 => some ([], t4) else (lombardref09_Int.f 8).bind fun t6 => (lombardref10_ints.f [Q.ID, Q.Member, Q.Side, Q.Basket, Q.Amount, Q.Rate, Q.Start, Q.End]).bind fun t270 => if (t6.length : Int) + t270.length ≤ 9223372036854775807 then tailR ⟨8, a1, a2, a3, a4, a5, a6, a7, a8, Q, a9, a10, a11, a12, a13⟩ (t6 ++ t270) else none := rfl
  have l0 := eI_len 8
  have b : lombardref10_behind.f ⟨8, a1, a2, a3, a4, a5, a6, a7, a8, Q, a9, a10, a11, a12, a13⟩ = some (toB []) := rfl
  have l1 := nums_len [Q.ID, Q.Member, Q.Side, Q.Basket, Q.Amount, Q.Rate, Q.Start, Q.End] 8 (Nat.le_refl _)
  rw [e, h, Option.bind_some, if_neg (by decide), ref_int, Option.bind_some, ref_nums _ (by simp), Option.bind_some, if_pos (by rw [toB_len, toB_len]; omega), ← toB_append, tail_of b (Nat.zero_le _) _ (by simp only [List.length_append]; omega), List.append_nil]
  rfl
end
theorem enc_both (m : lombardref10_Msg) : ∃ x, lombardlaw10_Of.f m = some x ∧ Bo (msg_Encode.f x) (lombardref10_Encode.f m) := by
  obtain ⟨x, o, v, v1, v2⟩ := check_both m
  obtain ⟨w, w1, w2⟩ := check_tot x
  rw [v1] at w1
  cases w1
  refine ⟨x, o, _, enc_all x v v1 w2, ?_⟩
  by_cases z : v = 0
  · subst z
    obtain ⟨hf, hn⟩ := w2 rfl
    rw [if_pos rfl]
    by_cases hk : m.Kind = 1 ∨ m.Kind = 2 ∨ m.Kind = 3 ∨ m.Kind = 4 ∨ m.Kind = 5 ∨ m.Kind = 6 ∨ m.Kind = 7 ∨ m.Kind = 8 ∨ m.Kind = 9 ∨ m.Kind = 10 ∨ m.Kind = 11 ∨ m.Kind = 12 ∨ m.Kind = 13 ∨ m.Kind = 14 ∨ m.Kind = 15
    · obtain ⟨K, a1, a2, a3, a4, a5, a6, a7, a8, Q, a9, a10, a11, a12, a13⟩ := m
      simp only at hk
      rcases hk with rfl | rfl | rfl | rfl | rfl | rfl | rfl | rfl | rfl | rfl | rfl | rfl | rfl | rfl | rfl
      · cases o; exact enc1 v2 hf
      · cases o; exact enc2 v2 hf
      · cases o; exact enc3 v2 hf
      · cases o; exact enc4 v2 hf
      · cases o; exact enc5 v2
      · cases o; exact enc6 v2 hf
      · cases o; exact enc7 v2 hf
      · cases o; exact enc8 v2
      · cases o; exact enc9 v2
      · cases o; exact enc10 v2
      · cases o; exact enc11 v2 hf
      · cases o; exact enc12 v2
      · cases o; exact enc13 v2
      · cases o; exact enc14 v2
      · cases o; exact enc15 v2
    · exfalso
      have ne : ∀ n : Int, 1 ≤ n → n ≤ 15 → (m.Kind == n) = false := fun n h1 h2 => by
        rw [beq_eq_false_iff_ne]; intro e; apply hk; omega
      apply hn
      unfold lombardlaw10_Of.f at o
      rw [ne 1 (by decide) (by decide), ne 2 (by decide) (by decide), ne 3 (by decide) (by decide), ne 4 (by decide) (by decide), ne 5 (by decide) (by decide), ne 6 (by decide) (by decide), ne 7 (by decide) (by decide), ne 8 (by decide) (by decide),
        ne 9 (by decide) (by decide), ne 10 (by decide) (by decide), ne 11 (by decide) (by decide), ne 12 (by decide) (by decide), ne 13 (by decide) (by decide), ne 14 (by decide) (by decide), ne 15 (by decide) (by decide)] at o
      exact (Option.some.inj o).symm
  · unfold lombardref10_Encode.f
    rw [v2, Option.bind_some, if_pos (by simpa using z), if_neg z]; rfl
end Go.Proofs.YtbmokbkgielmmaaGreat
