/- Shows that the check of a message, and who sends it, are the document's. -/
import Derived.Test.YtbmokbkgielmmaaGreatPuName
import Derived.Test.YtbmokbkgielmmaaGreatPuIsin
import Derived.Test.YtbmokbkgielmmaaGreatPuCheck10
import Derived.Test.YtbmokbkgielmmaaGreatGx5
import Derived.Test.YtbmokbkgielmmaaGreatGx1
import Derived.Test.YtbmokbkgielmmaaGreatGx6
namespace Go.Proofs.YtbmokbkgielmmaaGreat
open Go Go.Pm Go.Pm.Arith
set_option linter.unusedVariables false
set_option linter.unusedSimpArgs false
def Bo {α : Type} (a b : Option α) : Prop := ∃ v, a = some v ∧ b = some v
theorem Bo.of {α : Type} {a b : Option α} (v : α) (h1 : a = some v) (h2 : b = some v) : Bo a b := ⟨v, h1, h2⟩
theorem Bo.same {α : Type} (v : α) : Bo (some v) (some v) := ⟨v, rfl, rfl⟩
theorem quote_both (q : api_Quote) : Bo (msg_quote.f q) (lombardref10_Quote.f q) := by
 unfold msg_quote.f lombardref10_Quote.f
 have a1 : ∀ n, lombardref10_Amount.f n = some (wb n 1 1125899906842624) := fun n => rfl
 have g1 : ∀ n, calendar_Good.f n = some (wb n 0 200000) := fun n => rfl
 have g2 : ∀ n, lombardref02_Good.f n = some (wb n 0 200000) := fun n => rfl
 have e1 : ∀ a b c : Int, (decide (a < b) || decide (a > c)) = !wb a b c := out_is
 have s1 : ((q.Side != 1) && (q.Side != 2)) = !wb q.Side 1 2 := by
  rw [← out_is]
  by_cases h1 : q.Side = 1
  ·rw [h1]; rfl
  ·by_cases h2 : q.Side = 2
   ·rw [h2]; rfl
   ·have : q.Side < 1 ∨ q.Side > 2 := by omega
    have e1 : (q.Side != 1) = true := by simpa using h1
    have e2 : (q.Side != 2) = true := by simpa using h2
    rw [e1, e2]
    rcases this with h | h <;> simp [h]
 have b1 : (((((decide (q.ID < 1)) || (decide (q.ID > 1125899906842624))) || ((q.Side != 1) && (q.Side != 2))) || (decide (q.Basket < 1))) || (decide (q.Basket > 64))) = ((!wb q.ID 1 1125899906842624) || (!wb q.Side 1 2) || (!wb q.Basket 1 64)) := by
  rw [s1, ← out_is q.ID, ← out_is q.Basket]; simp only [Bool.or_assoc]
 have b2 : ((((decide (q.Amount < 1)) || (decide (q.Amount > 1125899906842624))) || (decide (q.Rate < (-1000000)))) || (decide (q.Rate > 1000000))) = ((!wb q.Amount 1 1125899906842624) || (!wb q.Rate (-1000000) 1000000)) := by
  rw [← out_is q.Amount, ← out_is q.Rate]; simp only [Bool.or_assoc]
 have b3 : wb q.Start 0 200000 = true → wb q.End 0 200000 = true → ((decide (q.End ≤ q.Start)) || (decide ((IntKind.wrap .i64 (q.End - q.Start)) > 3660))) = !wb (IntKind.wrap .i64 (q.End - q.Start)) 1 3660 := fun h1 h2 => by
  rw [wb_iff] at h1 h2
  have w : IntKind.i64.wrap (q.End - q.Start) = q.End - q.Start := i64_idz _ (by omega) (by omega)
  rw [w, ← out_is]
  congr 1
  by_cases h : q.End ≤ q.Start
  ·rw [decide_eq_true h, decide_eq_true (by omega)]
  ·rw [decide_eq_false h, decide_eq_false (by omega)]
 rw [b1, b2]
 simp only [a1, g1, g2, in_is, Option.bind_some]
 simp only [Bool.or_assoc]
 generalize wb (IntKind.wrap .i64 (q.End - q.Start)) 1 3660 = z7 at *
 generalize ((decide (q.End ≤ q.Start)) || (decide ((IntKind.wrap .i64 (q.End - q.Start)) > 3660))) = z8 at *
 generalize wb q.ID 1 1125899906842624 = z1
 generalize wb q.Side 1 2 = z2
 generalize wb q.Basket 1 64 = z3
 generalize wb q.Amount 1 1125899906842624 = z4
 generalize wb q.Rate (-1000000) 1000000 = z5
 generalize wb q.Start 0 200000 = z6 at *
 generalize wb q.End 0 200000 = z9 at *
 generalize (q.End != 0) = z0
 cases z1
 ·exact ⟨1, by simp, by simp⟩
 cases z2
 ·exact ⟨1, by simp, by simp⟩
 cases z3
 ·exact ⟨1, by simp, by simp⟩
 cases z4
 ·exact ⟨1, by simp, by simp⟩
 cases z5
 ·exact ⟨1, by simp, by simp⟩
 cases z6
 ·exact ⟨10, by simp, by simp⟩
 cases z0
 ·exact ⟨0, by simp, by simp⟩
 cases z9
 ·exact ⟨10, by simp, by simp⟩
 have := b3 rfl rfl
 subst this
 cases z7
 ·exact ⟨10, by simp, by simp⟩
 ·exact ⟨0, by simp, by simp⟩
theorem lot_both (x : api_Lot) : Bo (msg_lot.f x) (lombardref10_Lot.f x) := by
 unfold msg_lot.f lombardref10_Lot.f
 have a1 : ∀ n, lombardref10_Amount.f n = some (wb n 1 1125899906842624) := fun n => rfl
 rw [out_is, a1, Option.bind_some]
 obtain ⟨v, v1, v2⟩ := check_is x.ISIN
 rw [v1, v2]
 cases wb x.Qty 1 1125899906842624
 ·exact ⟨1, rfl, rfl⟩
 ·exact ⟨v, rfl, rfl⟩
theorem prices_loop (l : List api_Price) (few : l.length ≤ 64) : ∀ (j i : Nat), l.length = i + j → Bo (loop (msg_prices.r0 l) (i : Int)) (loop (lombardref10_prices.r0 l) (i : Int))
 | 0, i, h => ⟨.inr (), loop_end (by unfold msg_prices.r0 msg_prices.b0; rw [if_neg (by simp; omega)]), loop_end (by unfold lombardref10_prices.r0 lombardref10_prices.b0; rw [if_neg (by simp; omega)])⟩
 | j + 1, i, h => by
  have g : (0 : Int) ≤ (i : Int) ∧ (i : Int) < (l.length : Int) := by omega
  have gp : decide ((i : Int) > 0) = true → (0 : Int) ≤ IntKind.wrap .i64 ((i : Int) - 1) ∧ IntKind.wrap .i64 ((i : Int) - 1) < (l.length : Int) := fun h => by
   have := of_decide_eq_true h
   rw [i64_idz _ (by omega) (by omega)]; omega
  obtain ⟨v, v1, v2⟩ := check_is (nth l (i : Int)).ISIN
  have key : ∃ b : Bool, msg_prices.r0 l (i : Int) = (if (v != 0) = true then some (.inr (.inl v)) else if b = true then some (.inr (.inl 31)) else some (.inl ((i + 1 : Nat) : Int))) ∧
   lombardref10_prices.r0 l (i : Int) = (if (v != 0) = true then some (.inr (.inl v)) else if b = true then some (.inr (.inl 31)) else some (.inl ((i + 1 : Nat) : Int))) := by
   refine ⟨(!wb (nth l (i : Int)).Price 1 4294967296) || (decide ((i : Int) > 0) && (Go.Op.bytesLess (nth l (i : Int)).ISIN (nth l (IntKind.wrap .i64 ((i : Int) - 1))).ISIN || (nth l (i : Int)).ISIN == (nth l (IntKind.wrap .i64 ((i : Int) - 1))).ISIN)), ?_, ?_⟩
   rotate_left
   ·unfold lombardref10_prices.r0 lombardref10_prices.b0
    rw [if_pos (decide_eq_true g.2), if_pos g, v2, Option.bind_some, if_pos g, Option.bind_some, in_is, Option.bind_some, if_pos (fun _ => g), if_pos (fun h => gp h.2), if_pos g, i64_nx i (by omega)]
   ·unfold msg_prices.r0 msg_prices.b0
    rw [if_pos (decide_eq_true g.2), if_pos g, v1, Option.bind_some, if_pos (fun h => gp h.2), i64_nx i (by omega), out_is]
  obtain ⟨b, k1, k2⟩ := key
  by_cases c : (v != 0) = true
  ·rw [if_pos c] at k1 k2
   exact ⟨_, loop_end k1, loop_end k2⟩
  ·rw [if_neg c] at k1 k2
   cases b with
   | true => exact ⟨_, loop_end k1, loop_end k2⟩
   | false =>
    obtain ⟨o, o1, o2⟩ := prices_loop l few j (i + 1) (by omega)
    exact ⟨o, by rw [loop_next k1, o1], by rw [loop_next k2, o2]⟩
theorem prices_both (l : List api_Price) : Bo (msg_prices.f l) (lombardref10_prices.f l) := by
 unfold msg_prices.f lombardref10_prices.f
 by_cases c : (((l.length : Int) == 0) || decide ((l.length : Int) > 64)) = true
 ·rw [if_pos c, if_pos c]; exact ⟨2, rfl, rfl⟩
 ·rw [if_neg c, if_neg c]
  simp only [Bool.or_eq_true, decide_eq_true_eq, not_or] at c
  obtain ⟨o, o1, o2⟩ := prices_loop l (by omega) l.length 0 (by omega)
  have o1' : loop (msg_prices.r0 l) 0 = some o := o1
  have o2' : loop (lombardref10_prices.r0 l) 0 = some o := o2
  rw [o1', o2']
  cases o
  ·exact ⟨_, rfl, rfl⟩
  ·exact ⟨_, rfl, rfl⟩
theorem lots_loop (m : lombardref10_Msg) (a b : Int) (few : m.In.length ≤ 64) : ∀ (j i : Nat), m.In.length = i + j → ∃ (o : Int ⊕ Unit) (v : Int), loop (msg_swap.r0 ⟨a, b, m.Out, m.In⟩) (i : Int) = some o ∧ loop (lombardref10_rest.r0 m) (0, (i : Int)) = some v ∧ (match o with | .inl w => w = v | .inr _ => v = 0)
 | 0, i, h => ⟨.inr (), 0, loop_end (by unfold msg_swap.r0 msg_swap.b0; rw [if_neg (by simp; omega)]), loop_end (by unfold lombardref10_rest.r0 lombardref10_rest.b0; rw [if_neg (by simp; omega)]), rfl⟩
 | j + 1, i, h => by
  have g : (0 : Int) ≤ (i : Int) ∧ (i : Int) < (m.In.length : Int) := by omega
  obtain ⟨v, v1, v2⟩ := lot_both (nth m.In (i : Int))
  have k1 : msg_swap.r0 ⟨a, b, m.Out, m.In⟩ (i : Int) = if (v != 0) = true then some (.inr (.inl v)) else some (.inl ((i + 1 : Nat) : Int)) := by
   unfold msg_swap.r0 msg_swap.b0
   simp only
   rw [if_pos (decide_eq_true g.2), if_pos g, v1, Option.bind_some, i64_nx i (by omega)]
  have k2 : lombardref10_rest.r0 m (0, (i : Int)) = some (.inl (v, ((i + 1 : Nat) : Int))) := by
   unfold lombardref10_rest.r0 lombardref10_rest.b0
   simp only
   rw [if_pos (by simp; omega), if_pos g, v2, Option.bind_some, i64_nx i (by omega)]
  by_cases c : v = 0
  ·subst c
   obtain ⟨o, w, o1, o2, o3⟩ := lots_loop m a b few j (i + 1) (by omega)
   rw [if_neg (by decide)] at k1
   exact ⟨o, w, by rw [loop_next k1, o1], by rw [loop_next k2, o2], o3⟩
  ·rw [if_pos (by simpa using c)] at k1
   refine ⟨_, v, loop_end k1, ?_, rfl⟩
   rw [loop_next k2]
   refine loop_end ?_
   unfold lombardref10_rest.r0 lombardref10_rest.b0
   rw [if_neg (by simp [c])]
theorem swap_both (m : lombardref10_Msg) (h : m.Kind = 11) : Bo (msg_swap.f ⟨m.Member, m.Trade, m.Out, m.In⟩)
 (if (!wb m.Member 1 32) = true then some 1 else if (!wb m.Trade 1 1125899906842624) = true then some 1 else if decide ((m.In.length : Int) > 64) = true then some 1 else
  (lombardref10_Lot.f m.Out).bind fun t50 => (loop (lombardref10_rest.r0 m) (t50, 0)).bind fun o70 => some o70) := by
 have m1 : msg_member.f m.Member = some (wb m.Member 1 32) := rfl
 unfold msg_swap.f
 simp only [m1, Option.bind_some]
 have e : ((((!wb m.Member 1 32) || (decide (m.Trade < 1))) || (decide (m.Trade > 1125899906842624))) || (decide ((m.In.length : Int) > 64))) = ((!wb m.Member 1 32) || (!wb m.Trade 1 1125899906842624) || decide ((m.In.length : Int) > 64)) := by
  rw [← out_is m.Trade]; simp only [Bool.or_assoc]
 rw [e]
 generalize wb m.Member 1 32 = b1
 generalize wb m.Trade 1 1125899906842624 = b2
 cases b1
 ·exact ⟨1, rfl, rfl⟩
 cases b2
 ·exact ⟨1, rfl, rfl⟩
 by_cases c3 : decide ((m.In.length : Int) > 64) = true
 ·rw [c3]; exact ⟨1, rfl, rfl⟩
 ·have few : m.In.length ≤ 64 := by simp at c3; omega
  rw [Bool.eq_false_iff.2 c3]
  simp only [Bool.not_true, Bool.or_false, Bool.false_eq_true, if_false]
  obtain ⟨v, v1, v2⟩ := lot_both m.Out
  rw [v1, v2, Option.bind_some, Option.bind_some]
  by_cases z : v = 0
  ·subst z
   obtain ⟨o, w, o1, o2, o3⟩ := lots_loop m m.Member m.Trade few m.In.length 0 (by omega)
   have o1' : loop (msg_swap.r0 ⟨m.Member, m.Trade, m.Out, m.In⟩) 0 = some o := o1
   have o2' : loop (lombardref10_rest.r0 m) (0, 0) = some w := o2
   rw [if_neg (by decide), o1', o2']
   cases o with
   | inl a => exact ⟨w, by rw [← o3]; rfl, rfl⟩
   | inr a => exact ⟨0, rfl, by rw [o3]; rfl⟩
  ·rw [if_pos (by simpa using z)]
   refine ⟨v, rfl, ?_⟩
   rw [loop_end (show lombardref10_rest.r0 m (v, 0) = some (.inr v) by
    unfold lombardref10_rest.r0 lombardref10_rest.b0
    rw [if_neg (by simp [z])])]
   rfl
section
variable {a1 : Int} {a2 : Bs} {a3 : api_Asset} {a4 : api_Basket} {a5 : List api_Price} {a6 : Int} {a7 : Bs} {a8 : Int} {Q : api_Quote} {a9 : api_Lot} {a10 : List api_Lot} {a11 : Int} {a12 : Bool} {a13 : Int} {b c : Bool} {v : Int}
theorem rest6 (h : lombardref10_signed.f a8 = some b) : lombardref10_rest.f ⟨6, a1, a2, a3, a4, a5, a6, a7, a8, Q, a9, a10, a11, a12, a13⟩ = if b = true then some 0 else some 1 := by
 unfold lombardref10_rest.f
 simp only [h]
 cases b <;> rfl
theorem rest7 (h : lombardref10_signed.f a8 = some b) (h2 : lombardref05_Check.f a7 = some v) : lombardref10_rest.f ⟨7, a1, a2, a3, a4, a5, a6, a7, a8, Q, a9, a10, a11, a12, a13⟩ = if b = true then some v else some 1 := by
 unfold lombardref10_rest.f
 simp only [h, h2]
 cases b <;> rfl
theorem rest9 (h : lombardref10_Amount.f a8 = some b) : lombardref10_rest.f ⟨9, a1, a2, a3, a4, a5, a6, a7, a8, Q, a9, a10, a11, a12, a13⟩ = if b = true then some 0 else some 1 := by
 unfold lombardref10_rest.f
 simp only [h]
 cases b <;> rfl
theorem rest10 (h : lombardref10_Amount.f a11 = some b) (h2 : lombardref10_day.f a6 = some v) : lombardref10_rest.f ⟨10, a1, a2, a3, a4, a5, a6, a7, a8, Q, a9, a10, a11, a12, a13⟩ = if b = true then some v else some 1 := by
 unfold lombardref10_rest.f
 simp only [h, h2]
 cases b <;> rfl
theorem rest11 (h : lombardref10_Amount.f a11 = some b) : lombardref10_rest.f ⟨11, a1, a2, a3, a4, a5, a6, a7, a8, Q, a9, a10, a11, a12, a13⟩ = if (!b) = true then some 1 else if decide ((a10.length : Int) > 64) = true then some 1 else
 (lombardref10_Lot.f a9).bind fun t50 => (loop (lombardref10_rest.r0 ⟨11, a1, a2, a3, a4, a5, a6, a7, a8, Q, a9, a10, a11, a12, a13⟩) (t50, 0)).bind fun o70 => some o70 := by
 unfold lombardref10_rest.f
 simp only [h]
 cases b <;> rfl
theorem rest12 (h2 : lombardref10_day.f a6 = some v) : lombardref10_rest.f ⟨12, a1, a2, a3, a4, a5, a6, a7, a8, Q, a9, a10, a11, a12, a13⟩ = some v := by
 unfold lombardref10_rest.f
 simp only [h2]
 rfl
theorem rest13 : lombardref10_rest.f ⟨13, a1, a2, a3, a4, a5, a6, a7, a8, Q, a9, a10, a11, a12, a13⟩ = some 0 := rfl
theorem rest14 (h : lombardref10_in.f a8 0 1125899906842624 = some b) : lombardref10_rest.f ⟨14, a1, a2, a3, a4, a5, a6, a7, a8, Q, a9, a10, a11, a12, a13⟩ = if b = true then some 0 else some 1 := by
 unfold lombardref10_rest.f
 simp only [h]
 cases b <;> rfl
theorem rest15 (h : lombardref10_Amount.f a11 = some b) (h3 : lombardref10_in.f a13 (-1000000) 1000000 = some c) (h2 : lombardref10_day.f a6 = some v) : lombardref10_rest.f ⟨15, a1, a2, a3, a4, a5, a6, a7, a8, Q, a9, a10, a11, a12, a13⟩ = if (b && c) = true then some v else some 1 := by
 unfold lombardref10_rest.f
 simp only [h, h2, h3]
 cases b <;> cases c <;> rfl
theorem ref_first {K : Int} (hK : K = 1 ∨ K = 7 ∨ K = 9 ∨ K = 10 ∨ K = 11 ∨ K = 12 ∨ K = 13 ∨ K = 14) : lombardref10_Check.f ⟨K, a1, a2, a3, a4, a5, a6, a7, a8, Q, a9, a10, a11, a12, a13⟩ =
 if (!wb a1 1 32) = true then some 1 else (lombardref10_rest.f ⟨K, a1, a2, a3, a4, a5, a6, a7, a8, Q, a9, a10, a11, a12, a13⟩).bind fun t30 => some t30 := by
 rcases hK with rfl | rfl | rfl | rfl | rfl | rfl | rfl | rfl <;> rfl
end
theorem am_is (n : Int) : lombardref10_Amount.f n = some (wb n 1 1125899906842624) := rfl
theorem day_both (n : Int) : Bo (msg_arg.f (wb n 0 200000) 10) (lombardref10_day.f n) := by
 have g : lombardref02_Good.f n = some (wb n 0 200000) := rfl
 unfold msg_arg.f lombardref10_day.f
 rw [g, Option.bind_some]
 cases wb n 0 200000
 ·exact ⟨10, rfl, rfl⟩
 ·exact ⟨0, rfl, rfl⟩
theorem signed_both (n : Int) : msg_amount.f n = lombardref10_signed.f n := by
 unfold msg_amount.f lombardref10_signed.f lombardref10_Amount.f
 rw [Option.bind_some]
 congr 1
 rw [Bool.eq_iff_iff]
 simp
 omega
theorem check_both (m : lombardref10_Msg) : ∃ x, lombardlaw10_Of.f m = some x ∧ Bo (msg_Check.f x) (lombardref10_Check.f m) := by
 by_cases hk : m.Kind = 1 ∨ m.Kind = 2 ∨ m.Kind = 3 ∨ m.Kind = 4 ∨ m.Kind = 5 ∨ m.Kind = 6 ∨ m.Kind = 7 ∨ m.Kind = 8 ∨ m.Kind = 9 ∨ m.Kind = 10 ∨ m.Kind = 11 ∨ m.Kind = 12 ∨ m.Kind = 13 ∨ m.Kind = 14 ∨ m.Kind = 15
 ·obtain ⟨K, a1, a2, a3, a4, a5, a6, a7, a8, Q, a9, a10, a11, a12, a13⟩ := m
  simp only at hk
  rcases hk with rfl | rfl | rfl | rfl | rfl | rfl | rfl | rfl | rfl | rfl | rfl | rfl | rfl | rfl | rfl
  · -- 1
   obtain ⟨r, r1, r2⟩ := name_is a2
   have e1 : msg_Check.f (.cmsg_Join ⟨a1, a2⟩) = (name_Check.f a2).bind fun t2 => if wb a1 1 32 = true then some t2.2 else some 1 := rfl
   have e2 : lombardref10_Check.f ⟨1, a1, a2, a3, a4, a5, a6, a7, a8, Q, a9, a10, a11, a12, a13⟩ = if (!wb a1 1 32) = true then some 1 else ((lombardref04_Check.f a2).bind fun t2 => some t2.2).bind fun t30 => some t30 := rfl
   refine ⟨_, rfl, ?_⟩
   rw [e1, e2, r1, r2]
   cases wb a1 1 32
   ·exact ⟨1, rfl, rfl⟩
   ·exact ⟨r.2, rfl, rfl⟩
  ·obtain ⟨v, v1, v2⟩ := asset_is a3
   exact ⟨_, rfl, v, show ((isin_Asset.f a3).bind fun t => some t) = _ by rw [v1]; rfl, show ((lombardref05_Asset.f a3).bind fun t => some t) = _ by rw [v2]; rfl⟩
  ·obtain ⟨v, v1, v2⟩ := basket_both a4
   exact ⟨_, rfl, v, show ((msg_Basket.f a4).bind fun t => some t) = _ by rw [v1]; rfl, show ((lombardref10_Basket.f a4).bind fun t => some t) = _ by rw [v2]; rfl⟩
  ·obtain ⟨v, v1, v2⟩ := prices_both a5
   exact ⟨_, rfl, v, show ((msg_prices.f a5).bind fun t => some t) = _ by rw [v1]; rfl, show ((lombardref10_prices.f a5).bind fun t => some t) = _ by rw [v2]; rfl⟩
  ·obtain ⟨v, v1, v2⟩ := day_both a6
   exact ⟨_, rfl, v, show ((msg_arg.f (wb a6 0 200000) 10).bind fun t => some t) = _ by rw [v1]; rfl, show ((lombardref10_day.f a6).bind fun t => some t) = _ by rw [v2]; rfl⟩
  · -- 6
   have e1 : msg_Check.f (.cmsg_Cash ⟨a1, a7, a8⟩) = (isin_Currency.f a7).bind fun t22 => if (!t22) = true then some 11 else
    (if wb a1 1 32 = true then msg_amount.f a8 else some default).bind fun t27 => (msg_arg.f (wb a1 1 32 && t27) 1).bind fun t29 => some t29 := rfl
   have e2 : lombardref10_Check.f ⟨6, a1, a2, a3, a4, a5, a6, a7, a8, Q, a9, a10, a11, a12, a13⟩ = (lombardref05_Currency.f a7).bind fun t13 => if ((6 : Int) == 6 && !t13) = true then some 11 else
    if (!wb a1 1 32) = true then some 1 else (lombardref10_rest.f ⟨6, a1, a2, a3, a4, a5, a6, a7, a8, Q, a9, a10, a11, a12, a13⟩).bind fun t30 => some t30 := rfl
   obtain ⟨c1, c2⟩ := cur_is a7
   refine ⟨_, rfl, ?_⟩
   obtain ⟨s, hs⟩ : ∃ s, lombardref10_signed.f a8 = some s := ⟨_, rfl⟩
   rw [e1, e2, c1, c2, signed_both, rest6 hs, hs]
   cases codes.contains a7
   ·exact ⟨11, rfl, rfl⟩
   ·cases wb a1 1 32
    ·exact ⟨1, rfl, rfl⟩
    ·cases s
     ·exact ⟨1, rfl, rfl⟩
     ·exact ⟨0, rfl, rfl⟩
  · -- 7
   have e1 : msg_Check.f (.cmsg_Move ⟨a1, a7, a8⟩) = (if (!wb a1 1 32) = false then msg_amount.f a8 else some default).bind fun t35 => if ((!wb a1 1 32) || (!t35)) = true then some 1 else (isin_Check.f a7).bind fun t39 => some t39 := rfl
   have e2 := ref_first (K := 7) (a1 := a1) (a2 := a2) (a3 := a3) (a4 := a4) (a5 := a5) (a6 := a6) (a7 := a7) (a8 := a8) (Q := Q) (a9 := a9) (a10 := a10) (a11 := a11) (a12 := a12) (a13 := a13) (by decide)
   obtain ⟨v, v1, v2⟩ := check_is a7
   refine ⟨_, rfl, ?_⟩
   obtain ⟨s, hs⟩ : ∃ s, lombardref10_signed.f a8 = some s := ⟨_, rfl⟩
   rw [e1, e2, rest7 hs v2, v1, signed_both, hs]
   cases wb a1 1 32
   ·exact ⟨1, rfl, rfl⟩
   ·cases s
    ·exact ⟨1, rfl, rfl⟩
    ·exact ⟨v, rfl, rfl⟩
  · -- 8
   have e1 : msg_Check.f (.cmsg_Offer ⟨Q⟩) = if (!wb Q.Member 1 32) = true then some 1 else (msg_quote.f Q).bind fun t45 => some t45 := rfl
   have e2 : lombardref10_Check.f ⟨8, a1, a2, a3, a4, a5, a6, a7, a8, Q, a9, a10, a11, a12, a13⟩ = if ((8 : Int) == 8 && (!wb Q.Member 1 32)) = true then some 1 else (lombardref10_Quote.f Q).bind fun t22 => some t22 := rfl
   obtain ⟨v, v1, v2⟩ := quote_both Q
   refine ⟨_, rfl, ?_⟩
   rw [e1, e2, v1, v2]
   cases wb Q.Member 1 32
   ·exact ⟨1, rfl, rfl⟩
   ·exact ⟨v, rfl, rfl⟩
  · -- 9
   have e1 : msg_Check.f (.cmsg_Cancel ⟨a1, a8⟩) = ((msg_arg.f ((wb a1 1 32 && decide (a8 ≥ 1)) && decide (a8 ≤ 1125899906842624)) 1).bind fun t4 => some t4).bind fun t => some t := rfl
   have e2 := ref_first (K := 9) (a1 := a1) (a2 := a2) (a3 := a3) (a4 := a4) (a5 := a5) (a6 := a6) (a7 := a7) (a8 := a8) (Q := Q) (a9 := a9) (a10 := a10) (a11 := a11) (a12 := a12) (a13 := a13) (by decide)
   refine ⟨_, rfl, ?_⟩
   have e3 : ((wb a1 1 32 && decide (a8 ≥ 1)) && decide (a8 ≤ 1125899906842624)) = (wb a1 1 32 && wb a8 1 1125899906842624) := Bool.and_assoc _ _ _
   rw [e1, e2, e3, rest9 (am_is a8)]
   cases wb a1 1 32
   ·exact ⟨1, rfl, rfl⟩
   ·cases wb a8 1 1125899906842624
    ·exact ⟨1, rfl, rfl⟩
    ·exact ⟨0, rfl, rfl⟩
  · -- 10
   have e1 : msg_Check.f (.cmsg_Notice ⟨a1, a11, a6⟩) = (if (((!wb a1 1 32) || decide (a11 < 1)) || decide (a11 > 1125899906842624)) = true then some 1 else (msg_arg.f (wb a6 0 200000) 10).bind fun t => some t).bind fun t => some t := rfl
   have e2 := ref_first (K := 10) (a1 := a1) (a2 := a2) (a3 := a3) (a4 := a4) (a5 := a5) (a6 := a6) (a7 := a7) (a8 := a8) (Q := Q) (a9 := a9) (a10 := a10) (a11 := a11) (a12 := a12) (a13 := a13) (by decide)
   obtain ⟨v, v1, v2⟩ := day_both a6
   refine ⟨_, rfl, ?_⟩
   have e3 : (((!wb a1 1 32) || decide (a11 < 1)) || decide (a11 > 1125899906842624)) = ((!wb a1 1 32) || !wb a11 1 1125899906842624) := by rw [Bool.or_assoc, out_is]
   rw [e1, e2, e3, rest10 (am_is a11) v2, v1]
   cases wb a1 1 32
   ·exact ⟨1, rfl, rfl⟩
   ·cases wb a11 1 1125899906842624
    ·exact ⟨1, rfl, rfl⟩
    ·exact ⟨v, rfl, rfl⟩
  · -- 11
   have e1 : msg_Check.f (.cmsg_Swap ⟨a1, a11, a9, a10⟩) = ((msg_swap.f ⟨a1, a11, a9, a10⟩).bind fun t => some t).bind fun t => some t := rfl
   have e2 := ref_first (K := 11) (a1 := a1) (a2 := a2) (a3 := a3) (a4 := a4) (a5 := a5) (a6 := a6) (a7 := a7) (a8 := a8) (Q := Q) (a9 := a9) (a10 := a10) (a11 := a11) (a12 := a12) (a13 := a13) (by decide)
   obtain ⟨v, v1, v2⟩ := swap_both ⟨11, a1, a2, a3, a4, a5, a6, a7, a8, Q, a9, a10, a11, a12, a13⟩ rfl
   refine ⟨_, rfl, v, by rw [e1, v1]; rfl, ?_⟩
   rw [e2, ← v2, rest11 (am_is a11)]
   cases wb a1 1 32
   ·rfl
   ·cases wb a11 1 1125899906842624
    ·rfl
    ·simp
  · -- 12
   have e1 : msg_Check.f (.cmsg_Settle ⟨a1, a6, a12⟩) = (if (!wb a1 1 32) = true then some 1 else (msg_arg.f (wb a6 0 200000) 10).bind fun t => some t).bind fun t => some t := rfl
   have e2 := ref_first (K := 12) (a1 := a1) (a2 := a2) (a3 := a3) (a4 := a4) (a5 := a5) (a6 := a6) (a7 := a7) (a8 := a8) (Q := Q) (a9 := a9) (a10 := a10) (a11 := a11) (a12 := a12) (a13 := a13) (by decide)
   obtain ⟨v, v1, v2⟩ := day_both a6
   refine ⟨_, rfl, ?_⟩
   rw [e1, e2, rest12 v2, v1]
   cases wb a1 1 32
   ·exact ⟨1, rfl, rfl⟩
   ·exact ⟨v, rfl, rfl⟩
  · -- 13
   have e1 : msg_Check.f (.cmsg_Default ⟨a1⟩) = ((msg_arg.f (wb a1 1 32) 1).bind fun t => some t).bind fun t => some t := rfl
   have e2 := ref_first (K := 13) (a1 := a1) (a2 := a2) (a3 := a3) (a4 := a4) (a5 := a5) (a6 := a6) (a7 := a7) (a8 := a8) (Q := Q) (a9 := a9) (a10 := a10) (a11 := a11) (a12 := a12) (a13 := a13) (by decide)
   refine ⟨_, rfl, ?_⟩
   rw [e1, e2, rest13]
   cases wb a1 1 32
   ·exact ⟨1, rfl, rfl⟩
   ·exact ⟨0, rfl, rfl⟩
  · -- 14
   have e1 : msg_Check.f (.cmsg_Bound ⟨a1, a8⟩) = ((msg_arg.f ((wb a1 1 32 && decide (a8 ≥ 0)) && decide (a8 ≤ 1125899906842624)) 1).bind fun t4 => some t4).bind fun t => some t := rfl
   have e2 := ref_first (K := 14) (a1 := a1) (a2 := a2) (a3 := a3) (a4 := a4) (a5 := a5) (a6 := a6) (a7 := a7) (a8 := a8) (Q := Q) (a9 := a9) (a10 := a10) (a11 := a11) (a12 := a12) (a13 := a13) (by decide)
   refine ⟨_, rfl, ?_⟩
   have e3 : ((wb a1 1 32 && decide (a8 ≥ 0)) && decide (a8 ≤ 1125899906842624)) = (wb a1 1 32 && wb a8 0 1125899906842624) := Bool.and_assoc _ _ _
   rw [e1, e2, e3, rest14 (in_is a8 _ _)]
   cases wb a1 1 32
   ·exact ⟨1, rfl, rfl⟩
   ·cases wb a8 0 1125899906842624
    ·exact ⟨1, rfl, rfl⟩
    ·exact ⟨0, rfl, rfl⟩
  · -- 15
   have e1 : msg_Check.f (.cmsg_Reset ⟨a11, a6, a13⟩) = (if ((((decide (a11 < 1)) || (decide (a11 > 1125899906842624))) || (decide (a13 < (-1000000)))) || (decide (a13 > 1000000))) = true then some 1 else (msg_arg.f (wb a6 0 200000) 10).bind fun t => some t).bind fun t => some t := rfl
   have e2 : lombardref10_Check.f ⟨15, a1, a2, a3, a4, a5, a6, a7, a8, Q, a9, a10, a11, a12, a13⟩ = (lombardref10_rest.f ⟨15, a1, a2, a3, a4, a5, a6, a7, a8, Q, a9, a10, a11, a12, a13⟩).bind fun t30 => some t30 := rfl
   obtain ⟨v, v1, v2⟩ := day_both a6
   refine ⟨_, rfl, ?_⟩
   have e3 : ((((decide (a11 < 1)) || (decide (a11 > 1125899906842624))) || (decide (a13 < (-1000000)))) || (decide (a13 > 1000000))) = ((!wb a11 1 1125899906842624) || !wb a13 (-1000000) 1000000) := by rw [Bool.or_assoc (_ || _), out_is, out_is]
   rw [e1, e2, e3, rest15 (am_is a11) (in_is a13 _ _) v2, v1]
   cases wb a11 1 1125899906842624
   ·exact ⟨1, rfl, rfl⟩
   ·cases wb a13 (-1000000) 1000000
    ·exact ⟨1, rfl, rfl⟩
    ·exact ⟨v, rfl, rfl⟩
 ·have ne : ∀ n : Int, 1 ≤ n → n ≤ 15 → (m.Kind == n) = false := fun n h1 h2 => by
   rw [beq_eq_false_iff_ne]; intro e; apply hk; omega
  refine ⟨.nil, ?_, 17, rfl, ?_⟩
  ·unfold lombardlaw10_Of.f
   rw [ne 1 (by decide) (by decide), ne 2 (by decide) (by decide), ne 3 (by decide) (by decide), ne 4 (by decide) (by decide), ne 5 (by decide) (by decide), ne 6 (by decide) (by decide), ne 7 (by decide) (by decide), ne 8 (by decide) (by decide),
    ne 9 (by decide) (by decide), ne 10 (by decide) (by decide), ne 11 (by decide) (by decide), ne 12 (by decide) (by decide), ne 13 (by decide) (by decide), ne 14 (by decide) (by decide), ne 15 (by decide) (by decide)]
   rfl
  ·unfold lombardref10_Check.f
   rw [ne 2 (by decide) (by decide), ne 3 (by decide) (by decide), ne 4 (by decide) (by decide), ne 5 (by decide) (by decide), ne 6 (by decide) (by decide), ne 8 (by decide) (by decide)]
   have : (decide (m.Kind < 1) || decide (m.Kind > 15)) = true := by simp; omega
   rw [this]
   rfl
end Go.Proofs.YtbmokbkgielmmaaGreat
