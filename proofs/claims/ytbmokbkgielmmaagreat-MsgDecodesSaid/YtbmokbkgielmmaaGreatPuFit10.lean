/- Shows that the check of a message comes to an end, and that what it lets through is short. -/
import Derived.Test.YtbmokbkgielmmaaGreatPuPut10
import Derived.Test.YtbmokbkgielmmaaGreatPuDec
import Derived.Test.YtbmokbkgielmmaaGreatPuCheck10
namespace Go.Proofs.YtbmokbkgielmmaaGreat
open Go Go.Pm Go.Pm.Arith
set_option linter.unusedVariables false
set_option linter.unusedSimpArgs false
theorem shape_tot (s : Bs) (few : s.length ≤ 1000) : ∀ (j i : Nat), s.length = i + j → ∃ o, loop (isin_shape.r0 s) (i : Int) = some o
 | 0, i, h => ⟨.inr (), loop_end (by unfold isin_shape.r0 isin_shape.b0; rw [if_neg (by simp; omega)])⟩
 | j + 1, i, h => by
  have g : (0 : Int) ≤ (i : Int) ∧ (i : Int) < (s.length : Int) := by omega
  have key : ∃ b : Bool, isin_shape.r0 s (i : Int) = if b = true then some (.inr (.inl false)) else some (.inl ((i + 1 : Nat) : Int)) := by
   unfold isin_shape.r0 isin_shape.b0 isin_upper.f isin_digit.f
   rw [if_pos (decide_eq_true g.2), if_pos g, Option.bind_some, if_pos (fun _ => g), i64_nx i (by omega)]
   split
   ·rw [Option.bind_some]; exact ⟨_, rfl⟩
   ·rw [Option.bind_some]; exact ⟨_, rfl⟩
  obtain ⟨b, key⟩ := key
  cases b with
  | true => exact ⟨_, loop_end key⟩
  | false =>
   obtain ⟨o, ho⟩ := shape_tot s few j (i + 1) (by omega)
   exact ⟨o, by rw [loop_next key, ho]⟩
theorem shaped_tot (s : Bs) (few : s.length ≤ 1000) : ∃ b, isin_shape.f s = some b := by
 obtain ⟨o, ho⟩ := shape_tot s few s.length 0 (by omega)
 have ho' : loop (isin_shape.r0 s) 0 = some o := ho
 unfold isin_shape.f
 rw [ho']
 cases o <;> exact ⟨_, rfl⟩
theorem total1_tot (a : Int) (b : Bool) (c : Int) : ∃ r, isin_total_1.f a b c = some r := by
 unfold isin_total_1.f
 split <;> exact ⟨_, rfl⟩
theorem total_tot (s : Bs) (few : s.length ≤ 1000) : ∀ (i : Nat) (b : Bool) (c : Int), i ≤ s.length → ∃ o, loop (isin_total.r0 s) ((i : Int) - 1, b, c) = some o
 | 0, b, c, h => ⟨c, loop_end (by unfold isin_total.r0 isin_total.b0; rw [if_neg (by simp)])⟩
 | i + 1, b, c, h => by
  have e : (((i + 1 : Nat) : Int) - 1) = (i : Int) := by omega
  have g : (0 : Int) ≤ (i : Int) ∧ (i : Int) < (s.length : Int) := by omega
  have w : IntKind.i64.wrap ((i : Int) - 1) = (i : Int) - 1 := i64_idz _ (by omega) (by omega)
  rw [e]
  have key : ∃ b' c', isin_total.r0 s ((i : Int), b, c) = some (.inl ((i : Int) - 1, b', c')) := by
   unfold isin_total.r0 isin_total.b0 isin_digit.f
   simp only
   rw [if_pos (decide_eq_true (by omega)), if_pos g, Option.bind_some, w, if_pos g]
   split
   ·obtain ⟨r, hr⟩ := total1_tot (IntKind.wrap .i64 (IntKind.wrap .u8 (byte s (i : Int) - 48))) b c
    rw [hr]; exact ⟨_, _, rfl⟩
   ·obtain ⟨r, hr⟩ := total1_tot (Int.tmod (IntKind.wrap .i64 (IntKind.wrap .i64 (IntKind.wrap .u8 (byte s (i : Int) - 65)) + 10)) 10) b c
    rw [hr, Option.bind_some]
    obtain ⟨r', hr'⟩ := total1_tot (IntKind.wrap .i64 (Int.tdiv (IntKind.wrap .i64 (IntKind.wrap .i64 (IntKind.wrap .u8 (byte s (i : Int) - 65)) + 10)) 10)) r.1 r.2
    rw [hr']; exact ⟨_, _, rfl⟩
  obtain ⟨b', c', key⟩ := key
  obtain ⟨o, ho⟩ := total_tot s few i b' c' (by omega)
  exact ⟨o, by rw [loop_next key, ho]⟩
theorem digit_tot (s : Bs) (few : s.length ≤ 1000) : ∃ r, isin_Digit.f s = some r := by
 obtain ⟨b, hb⟩ := shaped_tot s few
 obtain ⟨o, ho⟩ := total_tot s few s.length true 0 (Nat.le_refl _)
 have w : IntKind.i64.wrap ((s.length : Int) - 1) = (s.length : Int) - 1 := i64_idz _ (by omega) (by omega)
 unfold isin_Digit.f isin_total.f
 rw [hb, Option.bind_some, w, ho]
 split <;> exact ⟨_, rfl⟩
theorem isin_tot (s : Bs) : ∃ v, isin_Check.f s = some v ∧ (v = 0 → s.length = 12) := by
 unfold isin_Check.f
 by_cases c : ((s.length : Int) != 12) = true
 ·rw [c]
  refine ⟨11, by simp, fun h => by cases h⟩
 ·have c' : ((s.length : Int) != 12) = false := Bool.eq_false_iff.2 c
  have hl : s.length = 12 := by simp at c'; omega
  have g : (0 : Int) ≤ 11 ∧ 11 < (s.length : Int) := by omega
  have l : (List.take (Int.toNat 11 - Int.toNat 0) (List.drop (Int.toNat 0) s)).length ≤ 1000 := by rw [List.length_take]; exact Nat.le_trans (Nat.min_le_left _ _) (by decide)
  obtain ⟨r, hr⟩ := digit_tot _ l
  rw [c', if_pos (fun _ => g), if_pos rfl, hr]
  unfold isin_digit.f
  simp only [Option.bind_some]
  split
  ·exact ⟨_, rfl, fun _ => hl⟩
  ·rw [if_pos (by omega), if_pos (fun _ => g)]
   split <;> exact ⟨_, rfl, fun _ => hl⟩
theorem cur_len {s : Bs} (h : codes.contains s = true) : s.length ≤ 12 := by
 have : s ∈ codes := by simpa using h
 simp [codes] at this
 rcases this with h | h | h | h | h | h | h | h <;> subst h <;> decide
theorem ite_all {α : Type} {p : Prop} [Decidable p] {a b : Option α} {Q : α → Prop} (ha : p → ∃ x, a = some x ∧ Q x) (hb : ¬ p → ∃ x, b = some x ∧ Q x) : ∃ x, (if p then a else b) = some x ∧ Q x := by
 by_cases h : p
 ·rw [if_pos h]; exact ha h
 ·rw [if_neg h]; exact hb h
theorem asset_tot (a : api_Asset) : ∃ v, isin_Asset.f a = some v ∧ (v = 0 → a.ISIN.length ≤ 12 ∧ a.Currency.length ≤ 12) := by
 obtain ⟨v, h1, h2⟩ := isin_tot a.ISIN
 unfold isin_Asset.f
 rw [h1, Option.bind_some, (cur_is a.Currency).1, Option.bind_some]
 refine ite_all (Q := fun v => v = 0 → a.ISIN.length ≤ 12 ∧ a.Currency.length ≤ 12) (fun c => ⟨v, rfl, fun h => by subst h; cases c⟩) (fun c => ?_)
 have v0 : v = 0 := by simpa using c
 have l := h2 v0
 refine ite_all (Q := fun v => v = 0 → a.ISIN.length ≤ 12 ∧ a.Currency.length ≤ 12) (fun c => ⟨_, rfl, fun h => by cases h⟩) (fun c => ?_)
 have l2 := cur_len (s := a.Currency) (by simpa using c)
 refine ite_all (Q := fun v => v = 0 → a.ISIN.length ≤ 12 ∧ a.Currency.length ≤ 12) (fun c => ⟨_, rfl, fun h => by cases h⟩) (fun c => ?_)
 refine ite_all (Q := fun v => v = 0 → a.ISIN.length ≤ 12 ∧ a.Currency.length ≤ 12) (fun c => ⟨_, rfl, fun h => by cases h⟩) (fun c => ?_)
 exact ⟨0, rfl, fun _ => ⟨by omega, l2⟩⟩
theorem basket_tot (x : api_Basket) : ∃ v, msg_Basket.f x = some v ∧ (v = 0 → x.Currency.length ≤ 12 ∧ x.Cuts.length ≤ 64 ∧ x.Barred.length ≤ 64) := by
 obtain ⟨v, h1, _⟩ := basket_both x
 refine ⟨v, h1, fun h => ?_⟩
 subst h
 unfold msg_Basket.f at h1
 have p1 : ∀ n : Int, msg_Basket_1.f n = some (wb n 0 1000000) := fun n => rfl
 simp only [p1, Option.bind_some, (cur_is x.Currency).1] at h1
 by_cases c1 : (((((decide (x.ID < 1) || decide (x.ID > 64)) || decide (x.Version < 1)) || decide (x.Version > 1125899906842624)) || decide (x.Rating < 0)) || decide (x.Rating > 20)) = true
 ·rw [if_pos c1] at h1; cases h1
 rw [if_neg c1] at h1
 have k : ∀ (c : Prop) [Decidable c] (a b : Bool), ∃ t, (if c then some a else some b : Option Bool) = some t := fun c _ a b => by split <;> exact ⟨_, rfl⟩
 obtain ⟨t, ht⟩ := k ((!wb x.Issuer 0 1000000) = false) (wb x.Asset 0 1000000) default
 rw [ht, Option.bind_some] at h1
 by_cases c2 : (((((!wb x.Issuer 0 1000000) || (!t)) || ((x.Cuts.length : Int) == 0)) || decide ((x.Cuts.length : Int) > 64)) || decide ((x.Barred.length : Int) > 64)) = true
 ·rw [if_pos c2] at h1; cases h1
 rw [if_neg c2] at h1
 split at h1
 ·cases h1
 split at h1
 ·cases h1
 rename_i c4
 have l1 := cur_len (s := x.Currency) (by simpa using c4)
 simp only [Bool.or_eq_true, decide_eq_true_eq, not_or] at c2
 refine ⟨l1, ?_, ?_⟩ <;> omega
theorem prices_tot (l : List api_Price) (hl : l.length ≤ 64) : ∀ (j i : Nat), l.length = i + j → ∃ o, loop (msg_prices.r0 l) (i : Int) = some o ∧ (o = .inr () → ∀ k, i ≤ k → k < l.length → (nth l (k : Int)).ISIN.length = 12) ∧ (∀ v, o = .inl v → v ≠ 0)
 | 0, i, h => ⟨.inr (), loop_end (by unfold msg_prices.r0 msg_prices.b0; rw [if_neg (by simp; omega)]), fun _ k h1 h2 => by omega, fun v h => by cases h⟩
 | j + 1, i, h => by
  have g : (0 : Int) ≤ (i : Int) ∧ (i : Int) < (l.length : Int) := by omega
  obtain ⟨v, v1, v2⟩ := isin_tot (nth l (i : Int)).ISIN
  have key : ∃ b : Bool, msg_prices.r0 l (i : Int) = if (v != 0) = true then some (.inr (.inl v)) else if b = true then some (.inr (.inl 31)) else some (.inl ((i + 1 : Nat) : Int)) := by
   unfold msg_prices.r0 msg_prices.b0
   rw [if_pos (decide_eq_true g.2), if_pos g, v1, Option.bind_some, i64_nx i (by omega), if_pos (fun h => by
    have := of_decide_eq_true h.2
    rw [i64_idz _ (by omega) (by omega)]; omega)]
   exact ⟨_, rfl⟩
  obtain ⟨b, key⟩ := key
  by_cases c : (v != 0) = true
  ·rw [if_pos c] at key
   exact ⟨_, loop_end key, (fun h => by cases h), (fun w h => by cases h; simpa using c)⟩
  ·rw [if_neg c] at key
   have v0 : v = 0 := by simpa using c
   cases b with
   | true => exact ⟨_, loop_end key, (fun h => by cases h), (fun w h => by cases h; decide)⟩
   | false =>
    obtain ⟨o, o1, o2, o3⟩ := prices_tot l hl j (i + 1) (by omega)
    refine ⟨o, by rw [loop_next key, o1], fun h k k1 k2 => ?_, o3⟩
    by_cases e : k = i
    ·subst e; exact v2 v0
    ·exact o2 h k (by omega) k2
theorem all_of_nth {α : Type} [Inhabited α] (l : List α) (Q : α → Prop) (h : ∀ k, k < l.length → Q (nth l (k : Int))) : ∀ y ∈ l, Q y := by
 intro y hy
 obtain ⟨k, hk, e⟩ := List.getElem_of_mem hy
 have := h k hk
 rw [nth_at l k hk, e] at this
 exact this
theorem price_tot (l : List api_Price) : ∃ v, msg_prices.f l = some v ∧ (v = 0 → l.length ≤ 64 ∧ ∀ y ∈ l, y.ISIN.length ≤ 12) := by
 unfold msg_prices.f
 refine ite_all (Q := fun v => v = 0 → l.length ≤ 64 ∧ ∀ y ∈ l, y.ISIN.length ≤ 12) (fun c => ⟨_, rfl, fun h => by cases h⟩) (fun c => ?_)
 simp only [Bool.or_eq_true, decide_eq_true_eq, not_or] at c
 obtain ⟨o, o1, o2, o3⟩ := prices_tot l (by omega) l.length 0 (by omega)
 have o1' : loop (msg_prices.r0 l) 0 = some o := o1
 rw [o1', Option.bind_some]
 cases o with
 | inl v => exact ⟨v, rfl, fun h => absurd h (o3 v rfl)⟩
 | inr u => exact ⟨0, rfl, fun _ => ⟨by omega, all_of_nth l _ fun k hk => by rw [o2 rfl k (by omega) hk]; decide⟩⟩
theorem lot_tot (x : api_Lot) : ∃ v, msg_lot.f x = some v ∧ (v = 0 → x.ISIN.length = 12) := by
 obtain ⟨v, h1, h2⟩ := isin_tot x.ISIN
 unfold msg_lot.f
 refine ite_all (Q := fun v => v = 0 → x.ISIN.length = 12) (fun c => ⟨_, rfl, fun h => by cases h⟩) (fun c => ?_)
 rw [h1]
 exact ⟨v, rfl, h2⟩
theorem lots_tot (x : msg_Swap) (hl : x.In.length ≤ 64) : ∀ (j i : Nat), x.In.length = i + j → ∃ o, loop (msg_swap.r0 x) (i : Int) = some o ∧ (o = .inr () → ∀ k, i ≤ k → k < x.In.length → (nth x.In (k : Int)).ISIN.length = 12) ∧ (∀ v, o = .inl v → v ≠ 0)
 | 0, i, h => ⟨.inr (), loop_end (by unfold msg_swap.r0 msg_swap.b0; rw [if_neg (by simp; omega)]), fun _ k h1 h2 => by omega, fun v h => by cases h⟩
 | j + 1, i, h => by
  have g : (0 : Int) ≤ (i : Int) ∧ (i : Int) < (x.In.length : Int) := by omega
  obtain ⟨v, v1, v2⟩ := lot_tot (nth x.In (i : Int))
  have key : msg_swap.r0 x (i : Int) = if (v != 0) = true then some (.inr (.inl v)) else some (.inl ((i + 1 : Nat) : Int)) := by
   unfold msg_swap.r0 msg_swap.b0
   rw [if_pos (decide_eq_true g.2), if_pos g, v1, Option.bind_some, i64_nx i (by omega)]
  by_cases c : (v != 0) = true
  ·rw [if_pos c] at key
   exact ⟨_, loop_end key, (fun h => by cases h), (fun w h => by cases h; simpa using c)⟩
  ·rw [if_neg c] at key
   have v0 : v = 0 := by simpa using c
   obtain ⟨o, o1, o2, o3⟩ := lots_tot x hl j (i + 1) (by omega)
   refine ⟨o, by rw [loop_next key, o1], fun h k k1 k2 => ?_, o3⟩
   by_cases e : k = i
   ·subst e; exact v2 v0
   ·exact o2 h k (by omega) k2
theorem swap_tot (x : msg_Swap) : ∃ v, msg_swap.f x = some v ∧ (v = 0 → x.Out.ISIN.length ≤ 12 ∧ x.In.length ≤ 64 ∧ ∀ y ∈ x.In, y.ISIN.length ≤ 12) := by
 unfold msg_swap.f msg_member.f
 rw [Option.bind_some]
 refine ite_all (Q := fun v => v = 0 → x.Out.ISIN.length ≤ 12 ∧ x.In.length ≤ 64 ∧ ∀ y ∈ x.In, y.ISIN.length ≤ 12) (fun c => ⟨_, rfl, fun h => by cases h⟩) (fun c => ?_)
 simp only [Bool.or_eq_true, decide_eq_true_eq, not_or] at c
 obtain ⟨v, h1, h2⟩ := lot_tot x.Out
 rw [h1, Option.bind_some]
 refine ite_all (Q := fun v => v = 0 → x.Out.ISIN.length ≤ 12 ∧ x.In.length ≤ 64 ∧ ∀ y ∈ x.In, y.ISIN.length ≤ 12) (fun c => ⟨_, rfl, fun h => by subst h; cases c⟩) (fun d => ?_)
 have l := h2 (by simpa using d)
 obtain ⟨o, o1, o2, o3⟩ := lots_tot x (by omega) x.In.length 0 (by omega)
 have o1' : loop (msg_swap.r0 x) 0 = some o := o1
 rw [o1', Option.bind_some]
 cases o with
 | inl v => exact ⟨v, rfl, fun h => absurd h (o3 v rfl)⟩
 | inr u => exact ⟨0, rfl, fun _ => ⟨by omega, by omega, all_of_nth x.In _ fun k hk => by rw [o2 rfl k (by omega) hk]; decide⟩⟩
theorem letter_tot (c : Int) : ∃ b, name_letter.f c = some b := by
 unfold name_letter.f
 split
 ·rw [Option.bind_some]; repeat' split
  all_goals exact ⟨_, rfl⟩
 ·rw [Option.bind_some]; repeat' split
  all_goals exact ⟨_, rfl⟩
theorem joint_tot (c : Int) : ∃ b, name_joint.f c = some b := by
 unfold name_joint.f
 repeat' split
 all_goals exact ⟨_, rfl⟩
theorem way {α : Type} {p : Prop} [Decidable p] {a b : α} {G : α → Prop} (ha : p → G a) (hb : ¬ p → G b) : G (if p then a else b) := by
 by_cases h : p
 ·rw [if_pos h]; exact ha h
 ·rw [if_neg h]; exact hb h
def NameGo (s : Bs) (p : Nat) (z : Option ((Int × Int × Nat) ⊕ ((Int × Int) ⊕ (Int × Int)))) : Prop := (∃ r, z = some (.inr r)) ∨ (∃ i', z = some (.inl (i', nextC s p, nextP s p)))
theorem name_loop_tot (s : Bs) : ∀ (n p : Nat) (i u : Int), s.length ≤ p + n → ∃ o, loop (name_Check.r0 s) (i, u, p) = some o
 | n, p, i, u, h => by
  by_cases c : p < s.length
  ·obtain ⟨n, rfl⟩ : ∃ m, n = m + 1 := ⟨n - 1, by omega⟩
   have hok : nextOk s p = true := decide_eq_true c
   have np := nextP_is s p c
   have key : NameGo s p (name_Check.r0 s (i, u, p)) := by
    unfold name_Check.r0 name_Check.b0
    simp only
    rw [if_pos hok, if_pos hok, if_pos hok]
    obtain ⟨b1, e1⟩ := letter_tot (nextC s p)
    obtain ⟨b2, e2⟩ := joint_tot (nextC s p)
    obtain ⟨b3, e3⟩ := joint_tot u
    have k : ∀ (c : Prop) [Decidable c] (a b : Bool), ∃ t, (if c then some a else some b : Option Bool) = some t := fun c _ a b => by split <;> exact ⟨_, rfl⟩
    refine way (G := NameGo s p) (fun _ => .inl ⟨_, rfl⟩) (fun _ => ?_)
    rw [e1, Option.bind_some]
    obtain ⟨t1, h1⟩ := k ((!b1) = true) (decide (nextC s p ≥ 48) && decide (nextC s p ≤ 57)) default
    have h1' : (if (!b1) = true then name_digit.f (nextC s p) else some default) = some t1 := h1
    rw [h1', Option.bind_some, e2]
    obtain ⟨t2, h2⟩ := k (((!b1) && (!t1)) = true) b2 default
    rw [h2, Option.bind_some]
    refine way (G := NameGo s p) (fun _ => .inl ⟨_, rfl⟩) (fun _ => ?_)
    obtain ⟨t3, h3⟩ := k ((i == 0) = true) b1 default
    rw [h3, Option.bind_some, e3]
    obtain ⟨t4, h4⟩ := k ((nextC s p == 32) = true) b3 default
    rw [h4, Option.bind_some]
    obtain ⟨t5, h5⟩ := k (((i == 0) && (!t3)) = true) ((i == 0) && (!t3)) ((((nextC s p == 32) && t4) && (u != 46)) && (u != 38))
    rw [h5, Option.bind_some]
    exact way (G := NameGo s p) (fun _ => .inl ⟨_, rfl⟩) (fun _ => .inr ⟨_, rfl⟩)
   rcases key with ⟨r, key⟩ | ⟨i', key⟩
   ·exact ⟨r, loop_end key⟩
   ·obtain ⟨o, ho⟩ := name_loop_tot s n (nextP s p) i' (nextC s p) (by omega)
    exact ⟨o, by rw [loop_next key, ho]⟩
  ·refine ⟨.inr (i, u), loop_end ?_⟩
   unfold name_Check.r0 name_Check.b0
   simp only
   rw [if_neg (by simp [nextOk]; omega)]
termination_by n => n
theorem name_tot (s : Bs) : ∃ r, name_Check.f s = some r ∧ (r.2 = 0 → s.length ≤ 160) := by
 unfold name_Check.f
 refine ite_all (Q := fun r : Int × Int => r.2 = 0 → s.length ≤ 160) (fun c => ⟨_, rfl, fun h => by cases h⟩) (fun c => ?_)
 have l : s.length ≤ 160 := by simp at c; omega
 obtain ⟨o, ho⟩ := name_loop_tot s s.length 0 0 32 (by omega)
 rw [ho, Option.bind_some]
 cases o with
 | inl r => exact ⟨r, rfl, fun _ => l⟩
 | inr w => exact ite_all (Q := fun r : Int × Int => r.2 = 0 → s.length ≤ 160) (fun c => ⟨_, rfl, fun _ => l⟩) (fun c => ⟨_, rfl, fun _ => l⟩)
theorem arg_tot (b : Bool) (e : Int) : ∃ v, msg_arg.f b e = some v := by
 unfold msg_arg.f
 split <;> exact ⟨_, rfl⟩
theorem quote_tot (q : api_Quote) : ∃ v, msg_quote.f q = some v := by
 unfold msg_quote.f calendar_Good.f
 split
 ·exact ⟨_, rfl⟩
 ·split
  ·exact ⟨_, rfl⟩
  ·simp only [Option.bind_some]
   split <;> (rw [Option.bind_some]; split <;> exact ⟨_, rfl⟩)
theorem check_tot (m : msg_Message) : ∃ v, msg_Check.f m = some v ∧ (v = 0 → Fit m ∧ m ≠ .nil) := by
 cases m with
 | nil => exact ⟨17, rfl, fun h => by cases h⟩
 | cmsg_Join x =>
  obtain ⟨r, r1, r2⟩ := name_tot x.Name
  have e : msg_Check.f (.cmsg_Join x) = (name_Check.f x.Name).bind fun t2 => (msg_member.f x.Member).bind fun t4 => if t4 = true then some t2.2 else some 1 := rfl
  rw [e, r1]
  unfold msg_member.f
  simp only [Option.bind_some]
  exact ite_all (Q := fun v => v = 0 → Fit (.cmsg_Join x) ∧ msg_Message.cmsg_Join x ≠ .nil) (fun _ => ⟨_, rfl, fun h => ⟨r2 h, fun h => by cases h⟩⟩) (fun _ => ⟨_, rfl, fun h => by cases h⟩)
 | cmsg_List x =>
  obtain ⟨v, h1, h2⟩ := asset_tot x.Asset
  have e : msg_Check.f (.cmsg_List x) = (isin_Asset.f x.Asset).bind fun t => some t := rfl
  rw [e, h1]
  exact ⟨v, rfl, fun h => ⟨h2 h, fun h => by cases h⟩⟩
 | cmsg_Rules x =>
  obtain ⟨v, h1, h2⟩ := basket_tot x.Basket
  have e : msg_Check.f (.cmsg_Rules x) = (msg_Basket.f x.Basket).bind fun t => some t := rfl
  rw [e, h1]
  exact ⟨v, rfl, fun h => ⟨h2 h, fun h => by cases h⟩⟩
 | cmsg_Prices x =>
  obtain ⟨v, h1, h2⟩ := price_tot x.L
  have e : msg_Check.f (.cmsg_Prices x) = (msg_prices.f x.L).bind fun t => some t := rfl
  rw [e, h1]
  exact ⟨v, rfl, fun h => ⟨h2 h, fun h => by cases h⟩⟩
 | cmsg_Roll x =>
  obtain ⟨v, h1⟩ := arg_tot (decide (x.Day ≥ 0) && decide (x.Day ≤ 200000)) 10
  have e : msg_Check.f (.cmsg_Roll x) = (msg_arg.f (decide (x.Day ≥ 0) && decide (x.Day ≤ 200000)) 10).bind fun t => some t := rfl
  rw [e, h1]
  exact ⟨v, rfl, fun h => ⟨trivial, fun h => by cases h⟩⟩
 | cmsg_Cash x =>
  have e : msg_Check.f (.cmsg_Cash x) = (isin_Currency.f x.Currency).bind fun t22 => if (!t22) = true then some 11 else (msg_member.f x.Member).bind fun t25 =>
   (if t25 = true then msg_amount.f x.Amount else some default).bind fun t27 => (msg_arg.f (t25 && t27) 1).bind fun t29 => some t29 := rfl
  rw [e, (cur_is x.Currency).1, Option.bind_some]
  refine ite_all (Q := fun v => v = 0 → Fit (.cmsg_Cash x) ∧ msg_Message.cmsg_Cash x ≠ .nil) (fun _ => ⟨_, rfl, fun h => by cases h⟩) (fun c => ?_)
  have l := cur_len (s := x.Currency) (by simpa using c)
  unfold msg_member.f msg_amount.f
  rw [Option.bind_some]
  have k : ∀ (c : Prop) [Decidable c] (a b : Bool), ∃ t, (if c then some a else some b : Option Bool) = some t := fun c _ a b => by split <;> exact ⟨_, rfl⟩
  obtain ⟨t, ht⟩ := k ((decide (x.Member ≥ 1) && decide (x.Member ≤ 32)) = true) (((x.Amount != 0) && decide (x.Amount ≥ -1125899906842624)) && decide (x.Amount ≤ 1125899906842624)) default
  rw [ht, Option.bind_some]
  obtain ⟨v, h1⟩ := arg_tot ((decide (x.Member ≥ 1) && decide (x.Member ≤ 32)) && t) 1
  rw [h1]
  exact ⟨v, rfl, fun h => ⟨l, fun h => by cases h⟩⟩
 | cmsg_Move x =>
  have e : msg_Check.f (.cmsg_Move x) = (msg_member.f x.Member).bind fun t33 => (if (!t33) = false then msg_amount.f x.Qty else some default).bind fun t35 =>
   if ((!t33) || (!t35)) = true then some 1 else (isin_Check.f x.ISIN).bind fun t39 => some t39 := rfl
  rw [e]
  unfold msg_member.f msg_amount.f
  rw [Option.bind_some]
  have k : ∀ (c : Prop) [Decidable c] (a b : Bool), ∃ t, (if c then some a else some b : Option Bool) = some t := fun c _ a b => by split <;> exact ⟨_, rfl⟩
  obtain ⟨t, ht⟩ := k ((!(decide (x.Member ≥ 1) && decide (x.Member ≤ 32))) = false) (((x.Qty != 0) && decide (x.Qty ≥ -1125899906842624)) && decide (x.Qty ≤ 1125899906842624)) default
  rw [ht, Option.bind_some]
  refine ite_all (Q := fun v => v = 0 → Fit (.cmsg_Move x) ∧ msg_Message.cmsg_Move x ≠ .nil) (fun _ => ⟨_, rfl, fun h => by cases h⟩) (fun c => ?_)
  obtain ⟨v, h1, h2⟩ := isin_tot x.ISIN
  rw [h1]
  exact ⟨v, rfl, fun h => ⟨Nat.le_of_eq (h2 h), fun h => by cases h⟩⟩
 | cmsg_Offer x =>
  have e : msg_Check.f (.cmsg_Offer x) = (msg_member.f x.Quote.Member).bind fun t42 => if (!t42) = true then some 1 else (msg_quote.f x.Quote).bind fun t45 => some t45 := rfl
  rw [e]
  unfold msg_member.f
  rw [Option.bind_some]
  refine ite_all (Q := fun v => v = 0 → Fit (.cmsg_Offer x) ∧ msg_Message.cmsg_Offer x ≠ .nil) (fun _ => ⟨_, rfl, fun h => by cases h⟩) (fun c => ?_)
  obtain ⟨v, h1⟩ := quote_tot x.Quote
  rw [h1]
  exact ⟨v, rfl, fun h => ⟨trivial, fun h => by cases h⟩⟩
 | cmsg_Cancel x =>
  have e : msg_Check.f (.cmsg_Cancel x) = ((msg_arg.f (((decide (x.Member ≥ 1) && decide (x.Member ≤ 32)) && decide (x.Quote ≥ 1)) && decide (x.Quote ≤ 1125899906842624)) 1).bind fun t4 => some t4).bind fun t => some t := rfl
  obtain ⟨v, h1⟩ := arg_tot (((decide (x.Member ≥ 1) && decide (x.Member ≤ 32)) && decide (x.Quote ≥ 1)) && decide (x.Quote ≤ 1125899906842624)) 1
  rw [e, h1]
  exact ⟨v, rfl, fun h => ⟨trivial, fun h => by cases h⟩⟩
 | cmsg_Notice x =>
  have e : msg_Check.f (.cmsg_Notice x) = (if (((!(decide (x.Member ≥ 1) && decide (x.Member ≤ 32))) || decide (x.Trade < 1)) || decide (x.Trade > 1125899906842624)) = true then some 1 else
   (msg_arg.f (decide (x.Day ≥ 0) && decide (x.Day ≤ 200000)) 10).bind fun t => some t).bind fun t => some t := rfl
  obtain ⟨v, h1⟩ := arg_tot (decide (x.Day ≥ 0) && decide (x.Day ≤ 200000)) 10
  rw [e, h1]
  split
  ·exact ⟨1, rfl, fun h => by cases h⟩
  ·exact ⟨v, rfl, fun h => ⟨trivial, fun h => by cases h⟩⟩
 | cmsg_Swap x =>
  obtain ⟨v, h1, h2⟩ := swap_tot x
  have e : msg_Check.f (.cmsg_Swap x) = ((msg_swap.f x).bind fun t => some t).bind fun t => some t := rfl
  rw [e, h1]
  exact ⟨v, rfl, fun h => ⟨h2 h, fun h => by cases h⟩⟩
 | cmsg_Settle x =>
  have e : msg_Check.f (.cmsg_Settle x) = (if (!(decide (x.Member ≥ 1) && decide (x.Member ≤ 32))) = true then some 1 else
   (msg_arg.f (decide (x.Day ≥ 0) && decide (x.Day ≤ 200000)) 10).bind fun t => some t).bind fun t => some t := rfl
  obtain ⟨v, h1⟩ := arg_tot (decide (x.Day ≥ 0) && decide (x.Day ≤ 200000)) 10
  rw [e, h1]
  split
  ·exact ⟨1, rfl, fun h => by cases h⟩
  ·exact ⟨v, rfl, fun h => ⟨trivial, fun h => by cases h⟩⟩
 | cmsg_Default x =>
  have e : msg_Check.f (.cmsg_Default x) = ((msg_arg.f (decide (x.Member ≥ 1) && decide (x.Member ≤ 32)) 1).bind fun t4 => some t4).bind fun t => some t := rfl
  obtain ⟨v, h1⟩ := arg_tot (decide (x.Member ≥ 1) && decide (x.Member ≤ 32)) 1
  rw [e, h1]
  exact ⟨v, rfl, fun h => ⟨trivial, fun h => by cases h⟩⟩
 | cmsg_Bound x =>
  have e : msg_Check.f (.cmsg_Bound x) = ((msg_arg.f (((decide (x.Member ≥ 1) && decide (x.Member ≤ 32)) && decide (x.Amount ≥ 0)) && decide (x.Amount ≤ 1125899906842624)) 1).bind fun t4 => some t4).bind fun t => some t := rfl
  obtain ⟨v, h1⟩ := arg_tot (((decide (x.Member ≥ 1) && decide (x.Member ≤ 32)) && decide (x.Amount ≥ 0)) && decide (x.Amount ≤ 1125899906842624)) 1
  rw [e, h1]
  exact ⟨v, rfl, fun h => ⟨trivial, fun h => by cases h⟩⟩
 | cmsg_Reset x =>
  have e : msg_Check.f (.cmsg_Reset x) = (if ((((decide (x.Trade < 1)) || (decide (x.Trade > 1125899906842624))) || (decide (x.Rate < (-1000000)))) || (decide (x.Rate > 1000000))) = true then some 1 else
   (msg_arg.f (decide (x.Day ≥ 0) && decide (x.Day ≤ 200000)) 10).bind fun t => some t).bind fun t => some t := rfl
  obtain ⟨v, h1⟩ := arg_tot (decide (x.Day ≥ 0) && decide (x.Day ≤ 200000)) 10
  rw [e, h1]
  split
  ·exact ⟨1, rfl, fun h => by cases h⟩
  ·exact ⟨v, rfl, fun h => ⟨trivial, fun h => by cases h⟩⟩
end Go.Proofs.YtbmokbkgielmmaaGreat
