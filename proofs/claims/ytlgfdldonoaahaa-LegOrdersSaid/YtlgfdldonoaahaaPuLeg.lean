/- Shows, in plain whole numbers, what the legs of a covered trade are, the program's and the document's, and that the law's own example holds. -/
import Derived.Test.YtlgfdldonoaahaaPuTrade
namespace Go.Proofs.Ytlgfdldonoaahaa
open Go Go.Pm Go.Pm.Arith Go.Pm.Big
set_option linter.unusedVariables false
set_option linter.unusedSimpArgs false

theorem less_total : ∀ a b : Bs, (Go.Op.bytesLess a b || a == b) = !Go.Op.bytesLess b a
  | [], [] => rfl
  | [], _ :: _ => rfl
  | _ :: _, [] => rfl
  | x :: a, y :: b => by
    have ih := less_total a b
    unfold Go.Op.bytesLess
    by_cases e : x = y
    · subst e
      have i : ¬ x < x := UInt8.lt_irrefl x
      rw [decide_eq_false i, beq_self_eq_true, Bool.false_or, Bool.false_or, Bool.true_and, Bool.true_and, ← ih]
      congr 1
      rw [Bool.eq_iff_iff]
      simp
    · have n1 : (x == y) = false := beq_eq_false_iff_ne.mpr e
      have n2 : (y == x) = false := beq_eq_false_iff_ne.mpr (fun h => e h.symm)
      have n3 : (x :: a == y :: b) = false := by
        rw [beq_eq_false_iff_ne]
        intro h
        exact e (List.cons.inj h).1
      rw [n1, n2, n3, Bool.false_and, Bool.false_and, Bool.or_false, Bool.or_false, Bool.or_false]
      by_cases l : x < y
      · rw [decide_eq_true l, decide_eq_false (UInt8.lt_asymm l)]; rfl
      · have g : y < x := by
          rcases UInt8.lt_or_lt_of_ne e with h | h
          · exact absurd h l
          · exact h
        rw [decide_eq_false l, decide_eq_true g]; rfl

def heads (x : api_Trade) : Prop := (1 ≤ x.ID ∧ x.ID ≤ 1125899906842624) ∧ (1 ≤ x.Twin ∧ x.Twin ≤ 1125899906842624) ∧ (x.Side = 1 ∨ x.Side = 2) ∧ (1 ≤ x.Stage ∧ x.Stage ≤ 5)
instance (x : api_Trade) : Decidable (heads x) := by unfold heads; exact inferInstance
def twins (x : api_Trade) : Prop := (x.Side = 1 ∧ x.Twin - x.ID = 1) ∨ (x.Side = 2 ∧ x.ID - x.Twin = 1)
instance (x : api_Trade) : Decidable (twins x) := by unfold twins; exact inferInstance
def spans (s e : Int) : Prop := (0 ≤ s ∧ s ≤ 200000) ∧ (e = 0 ∨ (0 ≤ e ∧ e ≤ 200000 ∧ 1 ≤ e - s ∧ e - s ≤ 3660))
instance (s e : Int) : Decidable (spans s e) := by unfold spans; exact inferInstance

def tchk (x : api_Trade) : Int :=
  if heads x then
    if twins x then
      if checkOf x.Resets = 0 then
        if dayAt x.Resets 0 = x.Start then
          if 1 ≤ x.Member ∧ x.Member ≤ 32 then
            if (1 ≤ x.Basket ∧ x.Basket ≤ 64) ∧ (1 ≤ x.Amount ∧ x.Amount ≤ 1125899906842624) then
              if spans x.Start x.End then 0 else 10
            else 1
          else 22
        else 10
      else checkOf x.Resets
    else 32
  else 1

theorem in_test (x a b : Int) : (decide (x ≥ a) && decide (x ≤ b)) = decide (a ≤ x ∧ x ≤ b) := by
  rw [Bool.eq_iff_iff]; simp

theorem tchk_prog (x : api_Trade) (hx : api_Trade.bd x) : trade_Check.f x = some (tchk x) := by
  have hs : inI64 x.Start := in64 hx.2.2.2.2.2.2.1
  have he : inI64 x.End := in64 hx.2.2.2.2.2.2.2.1
  have hm : inI64 x.Member := in64 hx.2.2.1
  unfold inI64 at hs he hm
  unfold trade_Check.f tchk
  by_cases h : heads x
  · have h' := h
    unfold heads at h'
    rw [if_pos h, if_neg (by simp; omega), i64_id (x.ID + 1) (by omega) (by omega), i64_id (x.ID - 1) (by omega) (by omega)]
    by_cases t : twins x
    · have t' := t
      unfold twins at t'
      rw [if_pos t, if_neg (by simp; omega), (check_is x.Resets).1, Option.bind_some]
      by_cases z : checkOf x.Resets = 0
      · have fi := fine_of z
        have ps := fi.pos
        have e : (nth x.Resets 0).Day = dayAt x.Resets 0 := rfl
        have e2 : (nth x.Resets 0).Rate = rtAt x.Resets 0 := rfl
        have r0 := fi.rate 0 ps
        rw [if_pos z, if_neg (by simpa using z), if_pos (by omega), e]
        by_cases d : dayAt x.Resets 0 = x.Start
        · rw [if_pos d, if_neg (by simpa using d), if_pos (by omega), e2]
          unfold trade_Fill.f trade_Fill_1.f
          rw [Option.bind_some]
          simp only
          by_cases m : 1 ≤ x.Member ∧ x.Member ≤ 32
          · have m1 : (decide (x.Member ≥ 1) && decide (x.Member ≤ 32)) = true := by simp; exact m
            have tm : Int.tmod x.Member 32 = x.Member % 32 := Int.tmod_eq_emod_of_nonneg (by omega)
            have m2 : (decide (x.Member % 32 + 1 ≥ 1) && decide (x.Member % 32 + 1 ≤ 32)) = true := by simp; omega
            have m3 : ¬ (x.Member == x.Member % 32 + 1) = true := by simp; omega
            rw [if_pos m, m1, tm, i64_id (x.Member % 32 + 1) (by omega) (by omega), if_pos (by rfl), m2, Option.bind_some, if_neg (by decide), if_neg m3]
            by_cases b : (1 ≤ x.Basket ∧ x.Basket ≤ 64) ∧ (1 ≤ x.Amount ∧ x.Amount ≤ 1125899906842624)
            · rw [if_pos b, if_neg (by simp; omega), goodCal, goodCal, Option.bind_some]
              by_cases s : 0 ≤ x.Start ∧ x.Start ≤ 200000
              · rw [decide_eq_true s]
                by_cases z0 : x.End = 0
                · rw [if_neg (by simp [z0]), Option.bind_some, if_pos (show spans x.Start x.End from ⟨s, Or.inl z0⟩), if_neg (by simp [z0])]
                  rfl
                · by_cases g : 0 ≤ x.End ∧ x.End ≤ 200000
                  · rw [decide_eq_true g, if_pos (by simp [z0]), Option.bind_some, i64_id (x.End - x.Start) (by omega) (by omega)]
                    by_cases sp : spans x.Start x.End
                    · have sp' := sp
                      unfold spans at sp'
                      rw [if_pos sp, if_neg (by simp; omega)]
                      rfl
                    · have sp' := sp
                      unfold spans at sp'
                      rw [if_neg sp, if_pos (by simp; omega)]
                      rfl
                  · rw [decide_eq_false g, if_pos (by simp [z0]), Option.bind_some, if_neg (show ¬ spans x.Start x.End by unfold spans; omega), if_pos (by simp [z0])]
                    rfl
              · rw [decide_eq_false s, if_neg (by simp), Option.bind_some, if_neg (show ¬ spans x.Start x.End from fun k => s k.1), if_pos (by simp)]
                rfl
            · rw [if_neg b, if_pos (by simp; omega)]
              rfl
          · have m1 : (decide (x.Member ≥ 1) && decide (x.Member ≤ 32)) = false := by simp; omega
            rw [if_neg m, m1]
            rfl
        · rw [if_neg d, if_pos (by simpa using d)]
      · rw [if_neg z, if_pos (by simpa using z)]
    · have t' := t
      unfold twins at t'
      rw [if_neg t, if_pos (by simp; omega)]
  · have h' := h
    unfold heads at h'
    rw [if_neg h, if_pos (by simp; omega)]

theorem tchk_ref (x : api_Trade) (hx : api_Trade.bd x) : lombardref23_Check.f x = some (tchk x) := by
  have hs : inI64 x.Start := in64 hx.2.2.2.2.2.2.1
  have he : inI64 x.End := in64 hx.2.2.2.2.2.2.2.1
  have hm : inI64 x.Member := in64 hx.2.2.1
  unfold inI64 at hs he hm
  unfold lombardref23_Check.f tchk
  rw [in23, Option.bind_some]
  have G : ∀ (a b c d : Prop) [Decidable a] [Decidable b] [Decidable c] [Decidable d] (k : Int → Option Int) (z : Option Int),
      ((if (!decide a) = false then some (decide b) else some default).bind fun t3 => (if ((!decide a) || (!t3)) = false then some (decide c) else some default).bind fun t5 => (if (((!decide a) || (!t3)) || (!t5)) = false then some (decide d) else some default).bind fun t7 =>
        if ((((!decide a) || (!t3)) || (!t5)) || (!t7)) = true then some (1 : Int) else z) = if a ∧ b ∧ c ∧ d then z else some 1 := fun a b c d _ _ _ _ k z => by
    by_cases ha : a
    · by_cases hb : b
      · by_cases hc : c
        · by_cases hd : d
          · simp [ha, hb, hc, hd]
          · simp [ha, hb, hc, hd]
        · simp [ha, hb, hc]
      · simp [ha, hb]
    · simp [ha]
  rw [in23, in23, in23, G _ _ _ _ (fun _ => none)]
  by_cases h : heads x
  · have h' := h
    unfold heads at h'
    rw [if_pos h, if_pos (by omega), i64_id (x.Twin - x.ID) (by omega) (by omega), i64_id (x.ID - x.Twin) (by omega) (by omega)]
    by_cases t : twins x
    · have t' := t
      unfold twins at t'
      rw [if_pos t, if_neg (by simp; omega), (check_is x.Resets).2, Option.bind_some]
      by_cases z : checkOf x.Resets = 0
      · have fi := fine_of z
        have ps := fi.pos
        have e : (nth x.Resets 0).Day = dayAt x.Resets 0 := rfl
        have e2 : (nth x.Resets 0).Rate = rtAt x.Resets 0 := rfl
        have r0 := fi.rate 0 ps
        rw [if_pos z, if_neg (by simpa using z), if_pos (by omega), e]
        by_cases d : dayAt x.Resets 0 = x.Start
        · rw [if_pos d, if_neg (by simpa using d), in23, Option.bind_some]
          by_cases m : 1 ≤ x.Member ∧ x.Member ≤ 32
          · rw [if_pos m, if_neg (by simp [m]), if_pos (show (0 : Int) ≤ 0 ∧ (0 : Int) < (x.Resets.length : Int) by omega), e2]
            unfold lombardref23_Terms.f
            simp only
            rw [in23, in23, in23, Option.bind_some, good02]
            by_cases b1 : 1 ≤ x.Basket ∧ x.Basket ≤ 64
            · by_cases b2 : 1 ≤ x.Amount ∧ x.Amount ≤ 1125899906842624
              · rw [decide_eq_true b1, decide_eq_true b2, decide_eq_true r0, if_pos (show (1 ≤ x.Basket ∧ x.Basket ≤ 64) ∧ (1 ≤ x.Amount ∧ x.Amount ≤ 1125899906842624) from ⟨b1, b2⟩)]
                simp only [Bool.not_true, if_true, Option.bind_some, Bool.or_self, Bool.false_eq_true, if_false]
                rw [good02, in23]
                by_cases s : 0 ≤ x.Start ∧ x.Start ≤ 200000
                · rw [decide_eq_true s]
                  by_cases z0 : x.End = 0
                  · rw [if_pos (show spans x.Start x.End from ⟨s, Or.inl z0⟩)]
                    simp [z0]
                  · by_cases g : 0 ≤ x.End ∧ x.End ≤ 200000
                    · rw [i64_id (x.End - x.Start) (by omega) (by omega)]
                      by_cases g2 : 1 ≤ x.End - x.Start ∧ x.End - x.Start ≤ 3660
                      · rw [if_pos (show spans x.Start x.End from ⟨s, Or.inr ⟨g.1, g.2, g2.1, g2.2⟩⟩), decide_eq_true g, decide_eq_true g2]
                        simp [z0]
                      · rw [if_neg (show ¬ spans x.Start x.End by unfold spans; omega), decide_eq_true g, decide_eq_false g2]
                        simp [z0]
                    · rw [if_neg (show ¬ spans x.Start x.End by unfold spans; omega), decide_eq_false g]
                      simp [z0]
                · rw [decide_eq_false s, if_neg (show ¬ spans x.Start x.End from fun k => s k.1)]
                  simp
              · rw [decide_eq_true b1, decide_eq_false b2, if_neg (fun (k : (1 ≤ x.Basket ∧ x.Basket ≤ 64) ∧ (1 ≤ x.Amount ∧ x.Amount ≤ 1125899906842624)) => b2 k.2)]
                simp
            · rw [decide_eq_false b1, if_neg (fun (k : (1 ≤ x.Basket ∧ x.Basket ≤ 64) ∧ (1 ≤ x.Amount ∧ x.Amount ≤ 1125899906842624)) => b1 k.1)]
              simp
          · rw [if_neg m, if_pos (by simp; omega)]
        · rw [if_neg d, if_pos (by simpa using d)]
      · rw [if_neg z, if_pos (by simpa using z)]
    · have t' := t
      unfold twins at t'
      rw [if_neg t, if_pos (by simp; omega)]
  · have h' := h
    unfold heads at h'
    rw [if_neg h, if_neg (by omega)]

theorem tchk_zero {x : api_Trade} (h : tchk x = 0) : (x.Side = 1 ∨ x.Side = 2) ∧ (1 ≤ x.Amount ∧ x.Amount ≤ 1125899906842624) := by
  unfold tchk at h
  by_cases h1 : heads x
  · rw [if_pos h1] at h
    refine ⟨h1.2.2.1, ?_⟩
    by_cases h2 : twins x
    · rw [if_pos h2] at h
      by_cases h3 : checkOf x.Resets = 0
      · rw [if_pos h3] at h
        by_cases h4 : dayAt x.Resets 0 = x.Start
        · rw [if_pos h4] at h
          by_cases h5 : 1 ≤ x.Member ∧ x.Member ≤ 32
          · rw [if_pos h5] at h
            by_cases h6 : (1 ≤ x.Basket ∧ x.Basket ≤ 64) ∧ (1 ≤ x.Amount ∧ x.Amount ≤ 1125899906842624)
            · exact h6.2
            · rw [if_neg h6] at h; omega
          · rw [if_neg h5] at h; omega
        · rw [if_neg h4] at h; omega
      · rw [if_neg h3] at h; exact absurd h h3
    · rw [if_neg h2] at h; omega
  · rw [if_neg h1] at h; omega

/-! lots -/
theorem lots_step (l : List api_Lot) (i : Nat) (h : i < l.length) (hl : l.length ≤ 64) : ∃ b : Int ⊕ ((Int × Int) ⊕ Unit), (b = .inl ((i + 1 : Nat) : Int) ∨ ∃ r, b = .inr (.inl r)) ∧ lots_Check.r0 l (i : Int) = some b ∧ lombardref17_Check.r0 l (i : Int) = some b := by
  have g : (0 : Int) ≤ (i : Int) ∧ (i : Int) < (l.length : Int) := in_nat h
  have w : IntKind.i64.wrap ((i : Int) + 1) = ((i + 1 : Nat) : Int) := next64 i (by omega)
  have gp : (decide ((i : Int) > 0)) = true → (0 : Int) ≤ (IntKind.wrap .i64 ((i : Int) - 1)) ∧ (IntKind.wrap .i64 ((i : Int) - 1)) < (List.length l : Int) := fun hb => by
    have := of_decide_eq_true hb
    rw [wpred i (by omega) (by omega)]; omega
  unfold lots_Check.r0 lots_Check.b0 lombardref17_Check.r0 lombardref17_Check.b0 lombardref17_good.f
  rw [if_pos (decide_eq_true g.2), if_pos g, if_pos (decide_eq_true g.2), if_pos g, Option.bind_some, w]
  by_cases q : 1 ≤ (nth l (i : Int)).Qty ∧ (nth l (i : Int)).Qty ≤ 1125899906842624
  · rw [if_neg (show ¬ ((decide (((nth l (i : Int)).Qty) < 1)) || (decide (((nth l (i : Int)).Qty) > 1125899906842624))) = true by simp; omega), if_pos gp,
      if_neg (show ¬ (!((decide ((nth l (i : Int)).Qty ≥ 1)) && (decide ((nth l (i : Int)).Qty ≤ 1125899906842624)))) = true by simp; omega), if_pos gp, if_pos (fun _ => g), less_total]
    generalize ((decide ((i : Int) > 0)) && !Go.Op.bytesLess (nth l (IntKind.wrap .i64 ((i : Int) - 1))).ISIN (nth l (i : Int)).ISIN) = b
    cases b
    · exact ⟨_, Or.inl rfl, rfl, rfl⟩
    · exact ⟨_, Or.inr ⟨_, rfl⟩, rfl, rfl⟩
  · rw [if_pos (show ((decide (((nth l (i : Int)).Qty) < 1)) || (decide (((nth l (i : Int)).Qty) > 1125899906842624))) = true by simp; omega),
      if_pos (show (!((decide ((nth l (i : Int)).Qty ≥ 1)) && (decide ((nth l (i : Int)).Qty ≤ 1125899906842624)))) = true by simp; omega)]
    exact ⟨_, Or.inr ⟨_, rfl⟩, rfl, rfl⟩

theorem lots_loop (l : List api_Lot) (hl : l.length ≤ 64) : ∀ j i : Nat, l.length = i + j → ∃ o, loop (lots_Check.r0 l) (i : Int) = some o ∧ loop (lombardref17_Check.r0 l) (i : Int) = some o
  | 0, i, h => by
    refine ⟨.inr (), loop_end ?_, loop_end ?_⟩
    · unfold lots_Check.r0 lots_Check.b0; rw [if_neg (by simp; omega)]
    · unfold lombardref17_Check.r0 lombardref17_Check.b0; rw [if_neg (by simp; omega)]
  | j + 1, i, h => by
    obtain ⟨b, hb, s1, s2⟩ := lots_step l i (by omega) hl
    rcases hb with rfl | ⟨r, rfl⟩
    · obtain ⟨o, h1, h2⟩ := lots_loop l hl j (i + 1) (by omega)
      exact ⟨o, by rw [loop_next s1, h1], by rw [loop_next s2, h2]⟩
    · exact ⟨_, loop_end s1, loop_end s2⟩

theorem lots_is (l : List api_Lot) : ∃ r, lots_Check.f l = some r ∧ lombardref17_Check.f l = some r ∧ (r.2 = 0 → l.length ≤ 64) := by
  unfold lots_Check.f lombardref17_Check.f
  by_cases c : (l.length : Int) > 64
  · rw [if_pos (decide_eq_true c), if_pos (decide_eq_true c)]
    exact ⟨_, rfl, rfl, fun h => by simp at h⟩
  · obtain ⟨o, h1, h2⟩ := lots_loop l (by omega) l.length 0 (by omega)
    have h1' : loop (lots_Check.r0 l) 0 = some o := h1
    have h2' : loop (lombardref17_Check.r0 l) 0 = some o := h2
    rw [if_neg (by simpa using c), if_neg (by simpa using c), h1', h2']
    cases o with
    | inl r => exact ⟨r, rfl, rfl, fun _ => by omega⟩
    | inr w => exact ⟨_, rfl, rfl, fun _ => by omega⟩

/-- Lots with a sign. -/
def signed (l : List api_Lot) (neg : Bool) : List api_Lot := l.map fun y => ⟨y.ISIN, if neg = true then IntKind.wrap .i64 (0 - y.Qty) else y.Qty⟩

theorem take_next (l : List api_Lot) (i : Nat) (h : i < l.length) : l.take (i + 1) = l.take i ++ [nth l (i : Int)] := by
  show _ = l.take i ++ [l.getD i default]
  rw [List.take_add_one, List.getD_eq_getElem?_getD, List.getElem?_eq_getElem h]; rfl

theorem nth_in (l : List api_Lot) (hw : ∀ y ∈ l, api_Lot.bd y) (i : Nat) (h : i < l.length) : inI64 (nth l (i : Int)).Qty := by
  have e : nth l (i : Int) ∈ l := by
    show l.getD i default ∈ l
    rw [List.getD_eq_getElem?_getD, List.getElem?_eq_getElem h]
    exact List.getElem_mem h
  exact in64 (hw _ e).2.1

theorem sign_loop (l : List api_Lot) (hw : ∀ y ∈ l, api_Lot.bd y) (hl : l.length ≤ 64) (neg : Bool) : ∀ j i : Nat, l.length = i + j →
    loop (leg_signed.r0 l (if neg = true then -1 else 1)) ((i : Int), signed (l.take i) neg) = some (signed l neg)
  | 0, i, h => by
    refine loop_end ?_
    unfold leg_signed.r0 leg_signed.b0
    rw [if_neg (by simp; omega), List.take_of_length_le (by omega)]
  | j + 1, i, h => by
    have g : (0 : Int) ≤ (i : Int) ∧ (i : Int) < (l.length : Int) := in_nat (by omega)
    have w : IntKind.i64.wrap ((i : Int) + 1) = ((i + 1 : Nat) : Int) := next64 i (by omega)
    have q := nth_in l hw i (by omega)
    have e : IntKind.wrap .i64 ((if neg = true then -1 else 1) * (nth l (i : Int)).Qty) = (if neg = true then IntKind.wrap .i64 (0 - (nth l (i : Int)).Qty) else (nth l (i : Int)).Qty) := by
      cases neg
      · simp only [Bool.false_eq_true, if_false, Int.one_mul]
        exact i64_id _ q.1 q.2
      · simp only [if_true]
        congr 1; omega
    have key : leg_signed.r0 l (if neg = true then -1 else 1) ((i : Int), signed (l.take i) neg) = some (.inl (((i + 1 : Nat) : Int), signed (l.take (i + 1)) neg)) := by
      unfold leg_signed.r0 leg_signed.b0
      simp only
      rw [if_pos (decide_eq_true g.2), if_pos g, if_pos (by unfold signed; simp; omega), w, e, take_next l i (by omega)]
      unfold signed
      rw [List.map_append]; rfl
    rw [loop_next key]
    exact sign_loop l hw hl neg j (i + 1) (by omega)

theorem signed_lots (l : List api_Lot) (hw : ∀ y ∈ l, api_Lot.bd y) (hl : l.length ≤ 64) (neg : Bool) : leg_signed.f l (if neg = true then -1 else 1) = some (signed l neg) := by
  have e := sign_loop l hw hl neg l.length 0 (by omega)
  have e' : loop (leg_signed.r0 l (if neg = true then -1 else 1)) (0, []) = some (signed l neg) := e
  unfold leg_signed.f
  rw [if_pos (by omega)]
  show (loop (leg_signed.r0 l (if neg = true then -1 else 1)) (0, [])).bind _ = _
  rw [e']; rfl

theorem due_loop (x : lombardref25_Covered) (hl : x.Lots.length ≤ 64) (neg : Bool) : ∀ j i : Nat, x.Lots.length = i + j →
    loop (lombardref25_due.r0 x neg) ((i : Int), signed (x.Lots.take i) neg) = some (signed x.Lots neg)
  | 0, i, h => by
    refine loop_end ?_
    unfold lombardref25_due.r0 lombardref25_due.b0
    rw [if_neg (by simp; omega), List.take_of_length_le (by omega)]
  | j + 1, i, h => by
    have g : (0 : Int) ≤ (i : Int) ∧ (i : Int) < (x.Lots.length : Int) := in_nat (by omega)
    have w : IntKind.i64.wrap ((i : Int) + 1) = ((i + 1 : Nat) : Int) := next64 i (by omega)
    have e : (if neg = true then some (IntKind.wrap .i64 (0 - (nth x.Lots (i : Int)).Qty)) else some (nth x.Lots (i : Int)).Qty : Option Int) = some (if neg = true then IntKind.wrap .i64 (0 - (nth x.Lots (i : Int)).Qty) else (nth x.Lots (i : Int)).Qty) := by
      cases neg <;> rfl
    have key : lombardref25_due.r0 x neg ((i : Int), signed (x.Lots.take i) neg) = some (.inl (((i + 1 : Nat) : Int), signed (x.Lots.take (i + 1)) neg)) := by
      unfold lombardref25_due.r0 lombardref25_due.b0
      simp only
      rw [if_pos (decide_eq_true g.2), if_pos g, e, Option.bind_some, if_pos (by unfold signed; simp; omega), w, take_next x.Lots i (by omega)]
      unfold signed
      rw [List.map_append]; rfl
    rw [loop_next key]
    exact due_loop x hl neg j (i + 1) (by omega)

theorem due_is (x : lombardref25_Covered) (hl : x.Lots.length ≤ 64) (d c : Int) (neg : Bool) :
    lombardref25_due.f x d c neg = some ⟨d, x.Trade.Member, x.Trade.ID, if neg = true then c else IntKind.wrap .i64 (0 - c), signed x.Lots neg⟩ := by
  have e := due_loop x hl neg x.Lots.length 0 (by omega)
  have e' : loop (lombardref25_due.r0 x neg) (0, []) = some (signed x.Lots neg) := e
  unfold lombardref25_due.f
  rw [e']
  cases neg <;> rfl

/-- A leg of a covered trade. -/
def legOf (x : lombardref25_Covered) (d c : Int) (neg : Bool) : api_Leg := ⟨d, x.Trade.Member, x.Trade.ID, if neg = true then c else IntKind.wrap .i64 (0 - c), signed x.Lots neg⟩
def noLeg : api_Leg := ⟨0, 0, 0, 0, []⟩

theorem leg_is (x : lombardref25_Covered) (hw : ∀ y ∈ x.Lots, api_Lot.bd y) (hl : x.Lots.length ≤ 64) (d c : Int) (hc : inI64 c) (neg : Bool) :
    leg_Covered_leg.f ⟨x.Trade, x.Lots⟩ d c (if neg = true then 1 else -1) = some (legOf x d c neg) := by
  unfold leg_Covered_leg.f legOf
  simp only
  have e1 : IntKind.wrap .i64 (0 - (if neg = true then (1 : Int) else -1)) = (if neg = true then -1 else 1) := by cases neg <;> rfl
  rw [e1, signed_lots x.Lots hw hl neg, Option.bind_some]
  cases neg
  · simp only [Bool.false_eq_true, if_false]
    rw [show (-1 : Int) * c = 0 - c by omega]
  · simp only [if_true, Int.one_mul]
    rw [i64_id c hc.1 hc.2]

noncomputable def wrongOf (x : lombardref25_Covered) : Int := if tchk x.Trade ≠ 0 then tchk x.Trade else match lots_Check.f x.Lots with | some r => r.2 | none => 0

theorem wrong_is (x : lombardref25_Covered) (hx : api_Trade.bd x.Trade) : leg_check.f ⟨x.Trade, x.Lots⟩ = some (wrongOf x) ∧ lombardref25_wrong.f x = some (wrongOf x) := by
  unfold leg_check.f lombardref25_wrong.f wrongOf
  rw [tchk_ref x.Trade hx]
  simp only
  rw [tchk_prog x.Trade hx, Option.bind_some, Option.bind_some]
  obtain ⟨r, h1, h2, -⟩ := lots_is x.Lots
  by_cases z : tchk x.Trade = 0
  · rw [if_neg (by simpa using z), if_neg (fun k => k z), h1, h2]
    exact ⟨rfl, by rw [if_neg (by simpa using z)]; rfl⟩
  · rw [if_pos (by simpa using z), if_pos z]
    exact ⟨rfl, by rw [if_pos (by simpa using z)]⟩

theorem wrong_zero {x : lombardref25_Covered} (h : wrongOf x = 0) : tchk x.Trade = 0 ∧ x.Lots.length ≤ 64 := by
  unfold wrongOf at h
  by_cases z : tchk x.Trade = 0
  · rw [if_neg (fun k => k z)] at h
    obtain ⟨r, h1, h2, h3⟩ := lots_is x.Lots
    rw [h1] at h
    exact ⟨z, h3 h⟩
  · rw [if_pos z] at h; exact absurd h z

noncomputable def beginOf (x : lombardref25_Covered) : api_Leg × Int := if wrongOf x = 0 then (legOf x x.Trade.Start x.Trade.Amount (x.Trade.Side == 1), 0) else (noLeg, wrongOf x)

theorem begin_is (x : lombardref25_Covered) (hx : lombardref25_Covered.bd x) : leg_Covered_Begin.f ⟨x.Trade, x.Lots⟩ = some (beginOf x) ∧ lombardref25_Begin.f x = some (beginOf x) := by
  obtain ⟨w1, w2⟩ := wrong_is x hx.1
  have ha : inI64 x.Trade.Amount := in64 hx.1.2.2.2.2.2.1
  unfold leg_Covered_Begin.f lombardref25_Begin.f beginOf leg_Covered_way.f
  rw [w1, w2, Option.bind_some, Option.bind_some]
  by_cases z : wrongOf x = 0
  · obtain ⟨t, hl⟩ := wrong_zero z
    rw [if_pos z, if_neg (by simpa using z)]
    simp only
    have e : (if (x.Trade.Side == 1) = true then some 1 else some (-1) : Option Int) = some (if (x.Trade.Side == 1) = true then 1 else -1) := by split <;> rfl
    rw [e, Option.bind_some, leg_is x hx.2.1.2 hl _ _ ha]
    exact ⟨rfl, by rw [if_neg (by simpa using z), due_is x hl]; rfl⟩
  · rw [if_neg z, if_pos (by simpa using z)]
    exact ⟨rfl, by rw [if_pos (by simpa using z)]; rfl⟩

/-- What is owed at the end. -/
noncomputable def owedOf (x : api_Trade) : Int × Int := if (intOf x x.End).2 ≠ 0 then (0, (intOf x x.End).2) else sumOf (x.Amount + (intOf x x.End).1)

theorem ref_plus_is (a b : Int) (ha : inI64 a) (hb : inI64 b) : lombardref01_Plus.f a b = some (sumOf (a + b)) := by
  unfold inI64 at ha hb
  unfold sumOf
  simp only [lombardref01_Plus.f, i64_wrap, Bool.or_eq_true, Bool.and_eq_true, decide_eq_true_eq]
  repeat' split
  all_goals first
    | (exfalso; omega)
    | rfl
    | (congr 2; omega)

theorem owed_is (x : api_Trade) (hx : api_Trade.bd x) : life_Owed.f x x.End = some (owedOf x) ∧ lombardref24_Owed.f x x.End = some (owedOf x) := by
  have ha : inI64 x.Amount := in64 hx.2.2.2.2.2.1
  have b1 := intOf_in x x.End
  unfold life_Owed.f lombardref24_Owed.f owedOf
  rw [(interest_is x hx x.End).1, (interest_is x hx x.End).2, Option.bind_some, Option.bind_some, plus_is _ _ ha (by unfold inI64; omega), ref_plus_is _ _ ha (by unfold inI64; omega)]
  by_cases c : (intOf x x.End).2 = 0
  · rw [if_neg (show ¬ (intOf x x.End).2 ≠ 0 from fun k => k c), if_neg (by simpa using c)]
    exact ⟨rfl, rfl⟩
  · rw [if_pos (show (intOf x x.End).2 ≠ 0 from c), if_pos (by simpa using c)]
    exact ⟨rfl, rfl⟩

theorem owed_in (x : api_Trade) : inI64 (owedOf x).1 := by
  unfold owedOf
  split
  · exact ⟨by simp, by simp⟩
  · exact sumOf_in _

noncomputable def endOf (x : lombardref25_Covered) : api_Leg × Int :=
  if wrongOf x = 0 then
    if x.Trade.End = 0 then (noLeg, 33) else if (owedOf x.Trade).2 = 0 then (legOf x x.Trade.End (owedOf x.Trade).1 (x.Trade.Side == 2), 0) else (noLeg, (owedOf x.Trade).2)
  else (noLeg, wrongOf x)

theorem end_is (x : lombardref25_Covered) (hx : lombardref25_Covered.bd x) : leg_Covered_End.f ⟨x.Trade, x.Lots⟩ = some (endOf x) ∧ lombardref25_End.f x = some (endOf x) := by
  obtain ⟨w1, w2⟩ := wrong_is x hx.1
  obtain ⟨o1, o2⟩ := owed_is x.Trade hx.1
  unfold leg_Covered_End.f lombardref25_End.f endOf leg_Covered_way.f life_Open.f
  rw [w1, w2, Option.bind_some, Option.bind_some]
  by_cases z : wrongOf x = 0
  · obtain ⟨t, hl⟩ := wrong_zero z
    have z' : (wrongOf x != 0) = false := by simpa using z
    rw [if_pos z]
    simp only [z', Bool.false_eq_true, if_false, Option.bind_some]
    by_cases e : x.Trade.End = 0
    · have e' : (x.Trade.End == 0) = true := by simpa using e
      rw [if_pos e]
      simp only [e', if_true]
      exact ⟨rfl, rfl⟩
    · have e' : (x.Trade.End == 0) = false := by simpa using e
      rw [if_neg e]
      simp only [e', Bool.false_eq_true, if_false]
      rw [o1, o2, Option.bind_some, Option.bind_some]
      by_cases c : (owedOf x.Trade).2 = 0
      · have c' : ((owedOf x.Trade).2 != 0) = false := by simpa using c
        rw [if_pos c]
        simp only [c', Bool.false_eq_true, if_false]
        have sd : IntKind.wrap .i64 (0 - (if (x.Trade.Side == 1) = true then (1 : Int) else -1)) = (if (x.Trade.Side == 2) = true then 1 else -1) := by
          rcases (tchk_zero t).1 with k | k <;> rw [k] <;> rfl
        have e2 : (if (x.Trade.Side == 1) = true then some 1 else some (-1) : Option Int) = some (if (x.Trade.Side == 1) = true then 1 else -1) := by split <;> rfl
        rw [e2, Option.bind_some, sd, leg_is x hx.2.1.2 hl _ _ (owed_in _), due_is x hl]
        exact ⟨rfl, rfl⟩
      · have c' : ((owedOf x.Trade).2 != 0) = true := by simpa using c
        rw [if_neg c]
        simp only [c', if_true]
        exact ⟨rfl, rfl⟩
  · have z' : (wrongOf x != 0) = true := by simpa using z
    rw [if_neg z]
    simp only [z', if_true, Option.bind_some]
    exact ⟨rfl, rfl⟩

theorem same_loop (l : List api_Lot) (hl : l.length < 100000000000000) : ∀ j i : Nat, l.length = i + j → loop (lombardref10_Lots.r0 l l) (i : Int) = some (.inr ())
  | 0, i, h => loop_end (by unfold lombardref10_Lots.r0 lombardref10_Lots.b0; rw [if_neg (by simp; omega)])
  | j + 1, i, h => by
    have g : (0 : Int) ≤ (i : Int) ∧ (i : Int) < (l.length : Int) := in_nat (by omega)
    have w : IntKind.i64.wrap ((i : Int) + 1) = ((i + 1 : Nat) : Int) := next64 i (by omega)
    have key : lombardref10_Lots.r0 l l (i : Int) = some (.inl ((i + 1 : Nat) : Int)) := by
      unfold lombardref10_Lots.r0 lombardref10_Lots.b0
      rw [if_pos (decide_eq_true g.2), if_pos g, if_pos g, if_neg (by simp), w]
    rw [loop_next key]
    exact same_loop l hl j (i + 1) (by omega)

theorem same_is (x : api_Leg) (hl : x.Lots.length < 100000000000000) : lombardref25_Same.f x x = some true := by
  have e : lombardref10_Lots.f x.Lots x.Lots = some true := by
    have e := same_loop x.Lots hl x.Lots.length 0 (by omega)
    have e' : loop (lombardref10_Lots.r0 x.Lots x.Lots) 0 = some (.inr ()) := e
    unfold lombardref10_Lots.f
    rw [if_neg (by simp), e']; rfl
  unfold lombardref25_Same.f
  rw [e]; simp

def C0 : lombardref25_Covered := ⟨(⟨1, 2, 1, 1, 1, 100, 0, 0, [(⟨0, 0⟩ : api_Reset)], 1, false⟩ : api_Trade), [(⟨[65], 7⟩ : api_Lot)]⟩

theorem C0_bd : lombardref25_Covered.bd C0 := by
  refine ⟨⟨?_, ?_, ?_, ?_, ?_, ?_, ?_, ?_, ⟨by decide, fun x hx => ?_⟩, ?_, trivial, trivial⟩, ⟨by decide, fun x hx => ?_⟩, trivial⟩
  case refine_9 =>
    obtain rfl := List.mem_singleton.mp hx
    exact ⟨⟨by decide, by decide⟩, ⟨by decide, by decide⟩, trivial⟩
  case refine_11 =>
    obtain rfl := List.mem_singleton.mp hx
    exact ⟨by decide, ⟨by decide, by decide⟩, trivial⟩
  all_goals exact ⟨by decide, by decide⟩

theorem C0_wrong : wrongOf C0 = 0 := by
  have t : tchk C0.Trade = 0 := by decide
  have l : lots_Check.f C0.Lots = some (1, 0) := by
    have s : lots_Check.r0 C0.Lots 0 = some (.inl 1) := by decide
    have s2 : lots_Check.r0 C0.Lots 1 = some (.inr (.inr ())) := by decide
    unfold lots_Check.f
    rw [if_neg (by decide), loop_next s, loop_end s2]; rfl
  unfold wrongOf
  rw [if_neg (fun k => k t), l]

theorem awake_is : lombardlaw25_awake.f = some true := by
  unfold lombardlaw25_awake.f lombardlaw25_some.f lombardlaw25_of.f
  simp only [Option.bind_some]
  have b : leg_Covered_Begin.f ⟨C0.Trade, C0.Lots⟩ = some (⟨0, 1, 1, 100, [(⟨[65], -7⟩ : api_Lot)]⟩, 0) := by
    rw [(begin_is C0 C0_bd).1]
    unfold beginOf
    rw [if_pos C0_wrong]; rfl
  have e : leg_Covered_End.f ⟨C0.Trade, C0.Lots⟩ = some (noLeg, 33) := by
    rw [(end_is C0 C0_bd).1]
    unfold endOf
    rw [if_pos C0_wrong, if_pos (show C0.Trade.End = 0 from rfl)]
  have b' : leg_Covered_Begin.f (⟨(⟨1, 2, 1, 1, 1, 100, 0, 0, [(⟨0, 0⟩ : api_Reset)], 1, false⟩ : api_Trade), [(⟨[65], 7⟩ : api_Lot)]⟩ : leg_Covered) = _ := b
  have e' : leg_Covered_End.f (⟨(⟨1, 2, 1, 1, 1, 100, 0, 0, [(⟨0, 0⟩ : api_Reset)], 1, false⟩ : api_Trade), [(⟨[65], 7⟩ : api_Lot)]⟩ : leg_Covered) = _ := e
  rw [b', e']
  simp only [Option.bind_some]
  rw [same_is _ (by decide)]
  rfl

theorem leg_len (x : lombardref25_Covered) (d c : Int) (neg : Bool) : (legOf x d c neg).Lots.length = x.Lots.length := by
  unfold legOf signed; simp

theorem begin_len (x : lombardref25_Covered) (hl : x.Lots.length < 100000000000000) : (beginOf x).1.Lots.length < 100000000000000 := by
  unfold beginOf
  split
  · rw [leg_len]; exact hl
  · show 0 < _; decide

theorem end_len (x : lombardref25_Covered) (hl : x.Lots.length < 100000000000000) : (endOf x).1.Lots.length < 100000000000000 := by
  unfold endOf
  split
  · split
    · show 0 < _; decide
    · split
      · rw [leg_len]; exact hl
      · show 0 < _; decide
  · show 0 < _; decide

end Go.Proofs.Ytlgfdldonoaahaa

