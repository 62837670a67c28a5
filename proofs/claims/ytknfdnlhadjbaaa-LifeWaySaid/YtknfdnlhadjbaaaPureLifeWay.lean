/- The plain statement of LifeWay: a trade that begins, is given notice and is closed on its day pays back what both owe each other. -/
import Derived.Test.YtknfdnlhadjbaaaPuSteps
import Derived.Test.YtknfdnlhadjbaaaGx11
namespace Go.Proofs.Ytknfdnlhadjbaaa
open Go Go.Pm Go.Pm.Arith Go.Pm.Big
set_option linter.unusedVariables false
set_option linter.unusedSimpArgs false

theorem ref_plus_is (a b : Int) (ha : inI64 a) (hb : inI64 b) : lombardref01_Plus.f a b = some (sumOf (a + b)) := by
  unfold inI64 at ha hb
  unfold sumOf
  simp only [lombardref01_Plus.f, i64_wrap, Bool.or_eq_true, Bool.and_eq_true, decide_eq_true_eq]
  repeat' split
  all_goals first
    | (exfalso; omega)
    | rfl
    | (congr 2; omega)

theorem chks_fine {l : List api_Reset} (h : Fine l) : ∀ (j i : Nat), l.length = i + j → chks l j i = 0
  | 0, i, e => rfl
  | j + 1, i, e => by
    have c : chk l i = 0 := by
      unfold chk
      have d := h.day i (by omega)
      have r := h.rate i (by omega)
      rw [if_neg, if_neg (by omega)]
      intro q
      rcases q with q | ⟨q1, q2⟩
      · omega
      · have := h.next (i - 1) (by omega)
        rw [show i - 1 + 1 = i by omega] at this
        omega
    show (if chk l i = 0 then chks l j (i + 1) else chk l i) = 0
    rw [if_pos c]
    exact chks_fine h j (i + 1) (by omega)

theorem check_of_fine {l : List api_Reset} (h : Fine l) : checkOf l = 0 := by
  have := h.pos
  have := h.few
  unfold checkOf
  rw [if_neg (by omega), if_neg (by omega)]
  exact chks_fine h l.length 0 (by omega)

theorem at_old (l : List api_Reset) (r : api_Reset) (k : Nat) (h : k < l.length) : (l ++ [r]).getD k default = l.getD k default := by
  rw [List.getD_eq_getElem?_getD, List.getD_eq_getElem?_getD, List.getElem?_append_left h]
theorem at_new (l : List api_Reset) (r : api_Reset) : (l ++ [r]).getD l.length default = r := by
  rw [List.getD_eq_getElem?_getD, List.getElem?_append_right (Nat.le_refl _), Nat.sub_self]; rfl

theorem fine_more {l : List api_Reset} (h : Fine l) (r : api_Reset) (hd : 0 ≤ r.Day ∧ r.Day ≤ 200000) (hr : -1000000 ≤ r.Rate ∧ r.Rate ≤ 1000000) (hl : l.length < 64) (hn : dayAt l (l.length - 1) < r.Day) : Fine (l ++ [r]) := by
  have len : (l ++ [r]).length = l.length + 1 := by simp
  have D : ∀ k, k < l.length → dayAt (l ++ [r]) k = dayAt l k := fun k hk => by unfold dayAt; rw [at_old l r k hk]
  have R : ∀ k, k < l.length → rtAt (l ++ [r]) k = rtAt l k := fun k hk => by unfold rtAt; rw [at_old l r k hk]
  have D' : dayAt (l ++ [r]) l.length = r.Day := by unfold dayAt; rw [at_new]
  have R' : rtAt (l ++ [r]) l.length = r.Rate := by unfold rtAt; rw [at_new]
  refine ⟨by omega, by omega, fun k hk => ?_, fun k hk => ?_, fun k hk => ?_⟩
  · by_cases c : k < l.length
    · rw [D k c]; exact h.day k c
    · obtain rfl : k = l.length := by omega
      rw [D']; exact hd
  · by_cases c : k < l.length
    · rw [R k c]; exact h.rate k c
    · obtain rfl : k = l.length := by omega
      rw [R']; exact hr
  · by_cases c : k + 1 < l.length
    · rw [D k (by omega), D (k + 1) c]; exact h.next k c
    · have e : k + 1 = l.length := by omega
      rw [D k (by omega), e, D', show k = l.length - 1 by omega]; exact hn

theorem way_reset (x : api_Trade) (h : Stands x) (z : x.End = 0) (z2 : x.Stage = 2) (d : Int) (r : api_Reset) :
    ∃ l f, resetOf x d r = (⟨x.ID, x.Twin, x.Member, x.Side, x.Basket, x.Amount, x.Start, x.End, l, x.Stage, x.Short⟩, f) ∧ Fine l ∧ dayAt l 0 = x.Start ∧ (l = x.Resets ∨ l = x.Resets ++ [r]) ∧ ((f == 0) = ((l.length : Int) == (x.Resets.length : Int) + 1)) := by
  have fi := fine_of h.check
  have no : ∀ f : Int, f ≠ 0 → (f == 0) = ((x.Resets.length : Int) == (x.Resets.length : Int) + 1) := fun f hf => by
    rw [beq_false_of_ne hf]
    exact (beq_false_of_ne (by omega)).symm
  unfold resetOf
  rw [if_neg (by omega)]
  by_cases c1 : r.Rate > 1000000 ∨ r.Rate < -1000000
  · rw [if_pos c1]; exact ⟨x.Resets, 1, rfl, fi, h.first, .inl rfl, no 1 (by decide)⟩
  rw [if_neg c1]
  by_cases c2 : ¬ (0 ≤ d ∧ d ≤ 200000) ∨ ¬ (0 ≤ r.Day ∧ r.Day ≤ 200000) ∨ r.Day ≤ d ∨ x.Resets.length = 0 ∨ r.Day ≤ (nth x.Resets ((x.Resets.length : Int) - 1)).Day
  · rw [if_pos c2]; exact ⟨x.Resets, 10, rfl, fi, h.first, .inl rfl, no 10 (by decide)⟩
  rw [if_neg c2]
  by_cases c3 : x.Resets.length ≥ 64
  · rw [if_pos c3]; exact ⟨x.Resets, 2, rfl, fi, h.first, .inl rfl, no 2 (by decide)⟩
  rw [if_neg c3]
  have ps := fi.pos
  refine ⟨x.Resets ++ [r], 0, rfl, fine_more fi r (by omega) (by omega) (by omega) ?_, ?_, .inr rfl, ?_⟩
  · have e : nth x.Resets ((x.Resets.length : Int) - 1) = x.Resets.getD (x.Resets.length - 1) default := by
      rw [show (x.Resets.length : Int) - 1 = ((x.Resets.length - 1 : Nat) : Int) by omega, nth_at]
    rw [e] at c2
    show (x.Resets.getD (x.Resets.length - 1) default).Day < _
    omega
  · have := h.first
    unfold dayAt at this ⊢
    rw [at_old _ _ _ ps]; exact this
  · rw [List.length_append]
    simp

theorem intOf_end {x : api_Trade} (fi : Fine x.Resets) (f0 : dayAt x.Resets 0 = x.Start) (am : 1 ≤ x.Amount ∧ x.Amount ≤ 1125899906842624) (st : 0 ≤ x.Start) (e : Int) (he : x.End = e) (h1 : x.Start < e) (h2 : e ≤ 200000) (h3 : e - x.Start ≤ 3660)
    (d : Int) (hd : e ≤ d ∧ d ≤ 200000) : intOf x d = (x.Amount * S x.Resets x.Start (e - x.Start).toNat / 360000000, 0) := by
  have u : untilOf x d = e := by
    unfold untilOf
    split <;> omega
  have re : runErr x.Amount x.Resets x.Start e = 0 := by
    unfold runErr
    have g : goodSpan x.Resets x.Start e := by
      unfold goodSpan
      omega
    rw [if_neg (fun h => h (check_of_fine fi)), if_neg (fun h => h g), if_neg (by omega)]
  unfold intOf
  rw [if_pos (by omega), u, if_pos re]

theorem owed_end (x : api_Trade) (hx : api_Trade.bd x) (am : 1 ≤ x.Amount ∧ x.Amount ≤ 1125899906842624) (d : Int) (n : Int) (hn : intOf x d = (n, 0)) : life_Owed.f x d = some (x.Amount + n, 0) ∧ lombardref24_Owed.f x d = some (x.Amount + n, 0) := by
  have ha : inI64 x.Amount := in64 hx.2.2.2.2.2.1
  have b1 := intOf_in x d
  rw [hn] at b1
  simp only at b1
  unfold life_Owed.f lombardref24_Owed.f
  rw [(interest_is x hx d).1, (interest_is x hx d).2, hn, Option.bind_some, Option.bind_some]
  simp only
  have s : sumOf (x.Amount + n) = (x.Amount + n, 0) := by unfold sumOf; rw [if_pos (by omega)]
  rw [plus_is _ _ ha (by unfold inI64; omega), ref_plus_is _ _ ha (by unfold inI64; omega), s]
  exact ⟨rfl, rfl⟩

theorem Pure.LifeWay : ∀ (x0 : api_Trade) (x1 : api_Reset) (x2 : Int) (x3 : Int), (api_Trade.bd x0) → (api_Reset.bd x1) → (inK .i64 x2) → (inK .i64 x3) → lombardlaw24_LifeWay.f x0 x1 x2 x3 = some true := by
  intro x r d e hx hr hd he
  obtain ⟨b, hb, k⟩ := good24 x hx
  have len := resets_len hx
  unfold lombardlaw24_LifeWay.f
  rw [hb, awake_is, Option.bind_some]
  cases b with
  | false => rfl
  | true =>
  by_cases c : x.Stage ≠ 1 ∨ x.End ≠ 0
  · rw [if_pos (by simpa using c)]; rfl
  have h := k rfl
  rw [if_neg (by simpa using c), if_pos (by simp; omega)]
  have b1 : beginOf x x.Start = (⟨x.ID, x.Twin, x.Member, x.Side, x.Basket, x.Amount, x.Start, x.End, x.Resets, 2, x.Short⟩, 0) := by
    unfold beginOf
    have := h.start
    rw [if_neg (by omega), if_neg (by omega)]
  rw [begin_is x _, b1, Option.bind_some]
  simp only [bne_self_eq_false, Bool.false_eq_true, if_false]
  obtain ⟨A, hA⟩ : ∃ A : api_Trade, A = ⟨x.ID, x.Twin, x.Member, x.Side, x.Basket, x.Amount, x.Start, x.End, x.Resets, 2, x.Short⟩ := ⟨_, rfl⟩
  have hxA : api_Trade.bd A := by
    rw [hA]
    obtain ⟨i1, i2, i3, i4, i5, i6, i7, i8, i9, i10, i11, i12⟩ := hx
    have q : inK .i64 2 := ⟨by decide, by decide⟩
    exact ⟨i1, i2, i3, i4, i5, i6, i7, i8, i9, q, i11, i12⟩
  have hsA : Stands A := by rw [hA]; exact ⟨h.check, h.first, h.amount, h.start, h.fin, by show (1 : Int) ≤ 2 ∧ (2 : Int) ≤ 5; omega⟩
  rw [← hA, reset_is A hxA hsA.stage d r, Option.bind_some]
  obtain ⟨l, f, e1, fi, f0, hl, hf⟩ := way_reset A hsA (by rw [hA]; show x.End = 0; omega) (by rw [hA]) d r
  rw [e1]
  simp only
  rw [hA] at f0 hl hf ⊢
  simp only at f0 hl hf ⊢
  have rs : lombardref23_Resets.f x.Resets ([] ++ x.Resets) = some true := resets_self x.Resets (by omega)
  rw [notice_is ⟨x.ID, x.Twin, x.Member, x.Side, x.Basket, x.Amount, x.Start, x.End, l, 2, x.Short⟩ h.start d e (in64 he), Option.bind_some]
  have nt : noticeOf (⟨x.ID, x.Twin, x.Member, x.Side, x.Basket, x.Amount, x.Start, x.End, l, 2, x.Short⟩ : api_Trade) d e = if ¬ (0 ≤ d ∧ d ≤ 200000) ∨ ¬ (0 ≤ e ∧ e ≤ 200000) ∨ e ≤ d ∨ e ≤ x.Start ∨ e - x.Start > 3660 then (⟨x.ID, x.Twin, x.Member, x.Side, x.Basket, x.Amount, x.Start, x.End, l, 2, x.Short⟩, 10) else (⟨x.ID, x.Twin, x.Member, x.Side, x.Basket, x.Amount, x.Start, e, l, 3, x.Short⟩, 0) := by
    unfold noticeOf
    exact if_neg (fun h => h.elim (fun h => h rfl) (fun h => c (.inr h)))
  rw [nt]
  by_cases g : ¬ (0 ≤ d ∧ d ≤ 200000) ∨ ¬ (0 ≤ e ∧ e ≤ 200000) ∨ e ≤ d ∨ e ≤ x.Start ∨ e - x.Start > 3660
  · rw [if_pos g, if_pos (by rfl), rs]; rfl
  rw [if_neg g, if_neg (by simp)]
  simp only
  have st := h.start
  have ll : l.length ≤ 64 := fi.few
  have bdR : (fun l : List api_Reset => l.length * 16 ≤ reach ∧ ∀ x ∈ l, api_Reset.bd x) l := by
    refine ⟨by unfold reach; omega, fun y hy => ?_⟩
    rcases hl with q | q
    · rw [q] at hy; exact hx.2.2.2.2.2.2.2.2.1.2 y hy
    · rw [q, List.mem_append] at hy
      rcases hy with hy | hy
      · exact hx.2.2.2.2.2.2.2.2.1.2 y hy
      · rw [List.mem_singleton] at hy; rw [hy]; exact hr
  have bdT : ∀ s : Int, inK .i64 s → api_Trade.bd ⟨x.ID, x.Twin, x.Member, x.Side, x.Basket, x.Amount, x.Start, e, l, s, x.Short⟩ := fun s hs => by
    obtain ⟨i1, i2, i3, i4, i5, i6, i7, i8, i9, i10, i11, i12⟩ := hx
    exact ⟨i1, i2, i3, i4, i5, i6, i7, he, bdR, hs, i11, i12⟩
  have w : IntKind.i64.wrap (e - 1) = e - 1 := i64_id _ (by omega) (by omega)
  rw [close_is _ _, Option.bind_some, w, close_is _ _]
  have c1 : closeOf (⟨x.ID, x.Twin, x.Member, x.Side, x.Basket, x.Amount, x.Start, e, l, 3, x.Short⟩ : api_Trade) (e - 1) = (⟨x.ID, x.Twin, x.Member, x.Side, x.Basket, x.Amount, x.Start, e, l, 3, x.Short⟩, 10) := by
    unfold closeOf
    show (if ¬ ((3 : Int) = 2 ∨ (3 : Int) = 3) ∨ e = 0 then _ else if ¬ (0 ≤ e - 1 ∧ e - 1 ≤ 200000) ∨ e - 1 < e then _ else _) = _
    rw [if_neg (show ¬ (¬ ((3 : Int) = 2 ∨ (3 : Int) = 3) ∨ e = 0) by omega), if_pos (show ¬ (0 ≤ e - 1 ∧ e - 1 ≤ 200000) ∨ e - 1 < e by omega)]
  have c2 : closeOf (⟨x.ID, x.Twin, x.Member, x.Side, x.Basket, x.Amount, x.Start, e, l, 3, x.Short⟩ : api_Trade) e = (⟨x.ID, x.Twin, x.Member, x.Side, x.Basket, x.Amount, x.Start, e, l, 4, x.Short⟩, 0) := by
    unfold closeOf
    show (if ¬ ((3 : Int) = 2 ∨ (3 : Int) = 3) ∨ e = 0 then _ else if ¬ (0 ≤ e ∧ e ≤ 200000) ∨ e < e then _ else _) = _
    rw [if_neg (show ¬ (¬ ((3 : Int) = 2 ∨ (3 : Int) = 3) ∨ e = 0) by omega), if_neg (show ¬ (¬ (0 ≤ e ∧ e ≤ 200000) ∨ e < e) by omega)]
  rw [c1, c2, if_neg (by simp), Option.bind_some]
  simp only
  have i3 := intOf_end (x := ⟨x.ID, x.Twin, x.Member, x.Side, x.Basket, x.Amount, x.Start, e, l, 3, x.Short⟩) fi f0 h.amount st.1 e rfl (by show x.Start < e; omega) (by omega) (by show e - x.Start ≤ _; omega) e (by omega)
  have i4 := intOf_end (x := ⟨x.ID, x.Twin, x.Member, x.Side, x.Basket, x.Amount, x.Start, e, l, 4, x.Short⟩) fi f0 h.amount st.1 e rfl (by show x.Start < e; omega) (by omega) (by show e - x.Start ≤ _; omega) 200000 (by omega)
  rw [(owed_end _ (bdT 3 ⟨by decide, by decide⟩) h.amount e _ i3).2, (owed_end _ (bdT 4 ⟨by decide, by decide⟩) h.amount 200000 _ i4).1]
  simp only [Option.bind_some]
  have wl : IntKind.i64.wrap (((([] : List api_Reset) ++ x.Resets).length : Int) + 1) = (x.Resets.length : Int) + 1 := by
    rw [List.nil_append]; exact i64_id _ (by omega) (by omega)
  rw [rs, wl, hf]
  simp

end Go.Proofs.Ytknfdnlhadjbaaa

