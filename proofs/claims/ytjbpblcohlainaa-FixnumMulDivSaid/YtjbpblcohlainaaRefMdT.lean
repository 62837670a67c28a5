/- Shows, in plain whole numbers, what the printed divided product of the document tells, for every argument and every way to round. -/
import Derived.Test.YtjbpblcohlainaaBigAll
import Derived.Test.YtjbpblcohlainaaMdT
import Derived.Test.YtjbpblcohlainaaPrintx26
namespace Go.Proofs.Ytjbpblcohlainaa.Print
open Go.RowKit Go.Proofs.YtjbpblcohlainaaW.PrintWords Go.Proofs.YtjbpblcohlainaaW.PrintLast Go.Proofs.YtjbpblcohlainaaW.PrintMore Go.Pm.Arith Go.Pm.Big

theorem push_digit (h d : Int) (h0 : 0 ≤ h) (h1 : h < 281474976710656) (d0 : 0 ≤ d) (d1 : d < 65536) : IntKind.u64.wrap (IntKind.u64.wrap (h * 65536) + d) = d + 65536 * h := by
  rw [u64_id (h * 65536) (by omega) (by omega), u64_id _ (by omega) (by omega)]; omega

theorem halves_lo (l : List Int) (hd : Dig l) (hl : l.length < 1000000) (hi : Int) : ∀ i : Nat, i ≤ 4 → i ≤ l.length →
    Ev (fun k => lombardref01_Halves.l0 k l hi (V ((l.take 4).drop i)) ((i : Int) - 1)) (hi, V (l.take 4), true)
  | 0, _, _ => Ev.step (f := fun _ => some (hi, V (l.take 4), true)) (fun k => by rw [lombardref01_Halves.l0, if_neg (by decide)]; rfl) (Ev.now _)
  | i + 1, h4, hl2 => by
    have c1 : ((i + 1 : Nat) : Int) - 1 = (i : Int) := by omega
    have c2 : (i : Int) < (l.length : Int) := by omega
    have c3 : ¬ (i : Int) ≥ 4 := by omega
    have c4 : -9223372036854775808 ≤ (i : Int) - 1 ∧ (i : Int) - 1 < 9223372036854775808 := by omega
    have ht : i < (l.take 4).length := by rw [List.length_take]; omega
    have dr := V_drop (l.take 4) i ht
    rw [take_getD l 4 i (by omega)] at dr
    have hdt : Dig ((l.take 4).drop (i + 1)) := fun x hx => hd x (List.mem_of_mem_take (List.mem_of_mem_drop hx))
    have b0 := V_nonneg hdt
    have b1 := V_lt hdt
    have b2 : P ((l.take 4).drop (i + 1)).length ≤ P 3 := P_mono (by rw [List.length_drop, List.length_take]; omega)
    have b3 : P 3 = 281474976710656 := by decide
    have gd := hd.getD i
    have pd := push_digit (V ((l.take 4).drop (i + 1))) (l.getD i 0) b0 (by omega) gd.1 gd.2
    rw [← dr] at pd
    refine Ev.step (fun k => ?_) (halves_lo l hd hl hi i (by omega) (by omega))
    rw [lombardref01_Halves.l0, c1, if_pos (Int.natCast_nonneg i), if_neg c3, if_pos (Int.natCast_nonneg i), if_pos c2, rd_nat, pd, w64 _ c4.1 c4.2]

theorem halves_hi (l : List Int) (hd : Dig l) (hl : l.length ≤ 8) : ∀ i : Nat, 4 ≤ i → i ≤ l.length →
    Ev (fun k => lombardref01_Halves.l0 k l (V (l.drop i)) 0 ((i : Int) - 1)) (V (l.drop 4), V (l.take 4), true)
  | i, h4, hl2 => by
    by_cases e : i = 4
    · subst e
      have := halves_lo l hd (by omega) (V (l.drop 4)) 4 (Nat.le_refl _) hl2
      have z : V ((l.take 4).drop 4) = 0 := by rw [List.drop_of_length_le (by rw [List.length_take]; omega)]; rfl
      rwa [z] at this
    · obtain ⟨i, rfl⟩ : ∃ j, i = j + 1 := ⟨i - 1, by omega⟩
      have c1 : ((i + 1 : Nat) : Int) - 1 = (i : Int) := by omega
      have c2 : (i : Int) < (l.length : Int) := by omega
      have c3 : (i : Int) ≥ 4 := by omega
      have c4 : -9223372036854775808 ≤ (i : Int) - 1 ∧ (i : Int) - 1 < 9223372036854775808 := by omega
      have dr := V_drop l i (by omega)
      have hdt : Dig (l.drop (i + 1)) := fun x hx => hd x (List.mem_of_mem_drop hx)
      have b0 := V_nonneg hdt
      have b1 := V_lt hdt
      have b2 : P (l.drop (i + 1)).length ≤ P 3 := P_mono (by rw [List.length_drop]; omega)
      have b3 : P 3 = 281474976710656 := by decide
      have gd := hd.getD i
      have pd := push_digit (V (l.drop (i + 1))) (l.getD i 0) b0 (by omega) gd.1 gd.2
      rw [← dr] at pd
      refine Ev.step (fun k => ?_) (halves_hi l hd hl i (by omega) (by omega))
      rw [lombardref01_Halves.l0, c1, if_pos (Int.natCast_nonneg i), if_pos c3, if_pos (Int.natCast_nonneg i), if_pos c2, rd_nat, pd, w64 _ c4.1 c4.2]

theorem halves_is {l : List Int} {m : Int} (h : Is l m) (hl : l.length < 1000000) :
    Ev (fun k => lombardref01_Halves.f k l) (if m < 340282366920938463463374607431768211456 then (m / 18446744073709551616, m % 18446744073709551616, true) else (0, 0, false)) := by
  have p8 : P 8 = 340282366920938463463374607431768211456 := by decide
  have p4 : P 4 = 18446744073709551616 := by decide
  by_cases hm : m < 340282366920938463463374607431768211456
  · rw [if_pos hm]
    have l8 : l.length ≤ 8 := h.len_le (by omega)
    have c0 : ¬ (l.length : Int) > 8 := by omega
    have c4 : -9223372036854775808 ≤ (l.length : Int) - 1 ∧ (l.length : Int) - 1 < 9223372036854775808 := by omega
    have res : V (l.drop 4) = m / 18446744073709551616 ∧ V (l.take 4) = m % 18446744073709551616 := by
      by_cases hs : l.length ≤ 4
      · have b := h.lt
        have b2 := P_mono hs
        rw [List.drop_of_length_le hs, List.take_of_length_le hs, h.val]
        have := h.nonneg
        show (0 : Int) = _ ∧ _
        omega
      · have td := V_take_drop l 4 (by omega)
        have b0 := V_nonneg (h.norm.dig.take 4)
        have b1 := V_lt (h.norm.dig.take 4)
        rw [List.length_take, Nat.min_eq_left (by omega), p4] at b1
        rw [p4, h.val] at td
        omega
    rw [← res.1, ← res.2]
    refine Ev.congr (f := fun k => lombardref01_Halves.l0 k l 0 0 ((l.length : Int) - 1)) (fun k => by unfold lombardref01_Halves.f; rw [if_neg c0, w64 _ c4.1 c4.2]) ?_
    by_cases hs : l.length ≤ 4
    · have := halves_lo l h.norm.dig hl 0 l.length hs (Nat.le_refl _)
      have z : V ((l.take 4).drop l.length) = 0 := by rw [List.drop_of_length_le (by rw [List.length_take]; omega)]; rfl
      have z2 : V (l.drop 4) = 0 := by rw [List.drop_of_length_le hs]; rfl
      rw [z] at this
      rw [z2]
      exact this
    · have := halves_hi l h.norm.dig l8 l.length (by omega) (Nat.le_refl _)
      rw [V_drop_len] at this
      exact this
  · rw [if_neg hm]
    have c0 : (l.length : Int) > 8 := by
      by_cases hs : l.length ≤ 8
      · have b := h.lt
        have b2 := P_mono hs
        omega
      · omega
    exact Ev.congr (fun k => by unfold lombardref01_Halves.f; rw [if_pos c0]) (Ev.now _)

end Go.Proofs.Ytjbpblcohlainaa.Print
namespace Go.Proofs.Ytjbpblcohlainaa.Print
open Go.RowKit Go.Proofs.YtjbpblcohlainaaW.PrintWords Go.Proofs.YtjbpblcohlainaaW.PrintLast Go.Proofs.YtjbpblcohlainaaW.PrintMore Go.Pm.Arith Go.Pm.Big
set_option linter.unusedVariables false
set_option linter.unusedSimpArgs false

theorem ref_j3 (less : Bool) (lo : Int) (h0 : 0 ≤ lo) (h1 : lo ≤ 9223372036854775808) (b : Bool) (hb : b = (lo == 9223372036854775808 && !less)) : Ev (fun k => lombardref01_MulDiv.j3 k less lo b) (signOf lo less) := by
  refine Ev.step (f := fun _ => some (signOf lo less)) (fun k => ?_) (Ev.now _)
  rw [lombardref01_MulDiv.j3]
  subst hb
  unfold signOf
  by_cases c1 : lo = 9223372036854775808
  · subst c1
    cases less
    · rfl
    · rfl
  · have c2 : (lo == 9223372036854775808) = false := beq_eq_false_iff_ne.mpr c1
    have c4 : ¬ (lo > 9223372036854775808 ∨ lo = 9223372036854775808 ∧ less = false) := by omega
    have e1 : wrap64 lo = lo := by unfold wrap64; omega
    have e2 : wrap64 (-lo) = -lo := by unfold wrap64; omega
    rw [c2, Bool.false_and, if_neg (by decide), if_neg c1, if_neg c4, e1, e2]
    cases less
    · rfl
    · rfl

theorem ref_over (less : Bool) (lo : Int) : Ev (fun k => lombardref01_MulDiv.j3 k less lo true) (0, 9) :=
  Ev.step (f := fun _ => some (0, 9)) (fun k => by rw [lombardref01_MulDiv.j3, if_pos rfl]) (Ev.now _)

theorem ref_j2 (less : Bool) (q : List Int) (Q : Int) (hq : Is q Q) (hl : q.length < 1000000) (hQ : Q < 340282366920938463463374607431768211456) : Ev (fun k => lombardref01_MulDiv.j2 k less q) (signOf Q less) := by
  have h0 := hq.nonneg
  have hE := halves_is hq hl
  rw [if_pos hQ] at hE
  refine Ev.step (fun k => by rw [lombardref01_MulDiv.j2]) (Ev.bind hE ?_)
  by_cases c1 : Q / 18446744073709551616 > 0
  · have : signOf Q less = (0, 9) := by unfold signOf; rw [if_pos (Or.inl (by omega))]
    rw [this]
    exact Ev.congr (fun k => by rw [if_pos c1]) (ref_over less _)
  · have e : Q % 18446744073709551616 = Q := by omega
    by_cases c2 : Q > 9223372036854775808
    · have : signOf Q less = (0, 9) := by unfold signOf; rw [if_pos (Or.inl (by omega))]
      rw [this]
      exact Ev.congr (fun k => by rw [if_neg c1]; show (if Q % 18446744073709551616 > 9223372036854775808 then _ else _) = _; rw [e, if_pos c2]) (ref_over less Q)
    · by_cases c3 : Q = 9223372036854775808
      · exact Ev.congr (fun k => by rw [if_neg c1]; show (if Q % 18446744073709551616 > 9223372036854775808 then _ else (if Q % 18446744073709551616 = 9223372036854775808 then _ else _)) = _; rw [if_neg (by rw [e]; exact c2), if_pos (by rw [e]; exact c3)]; show lombardref01_MulDiv.j3 k less (Q % 18446744073709551616) (!less) = _; rw [e])
          (ref_j3 less Q h0 (by omega) (!less) (by rw [beq_iff_eq.mpr c3, Bool.true_and]))
      · exact Ev.congr (fun k => by rw [if_neg c1]; show (if Q % 18446744073709551616 > 9223372036854775808 then _ else (if Q % 18446744073709551616 = 9223372036854775808 then _ else _)) = _; rw [if_neg (by rw [e]; exact c2), if_neg (by rw [e]; exact c3)]; show lombardref01_MulDiv.j3 k less (Q % 18446744073709551616) false = _; rw [e])
          (ref_j3 less Q h0 (by omega) false (by rw [beq_eq_false_iff_ne.mpr c3, Bool.false_and]))

theorem ref_j1 (less : Bool) (q : List Int) (Q : Int) (hq : Is q Q) (hl : q.length ≤ 100) (hQ : Q < 340282366920938463463374607431768211455) (more : Bool) :
    Ev (fun k => lombardref01_MulDiv.j1 k less q more) (signOf (Q + (if more = true then 1 else 0)) less) := by
  cases more
  · exact Ev.step (fun k => by rw [lombardref01_MulDiv.j1, if_neg (by decide)]) (by rw [if_neg (by decide), Int.add_zero]; exact ref_j2 less q Q hq (by omega) (by omega))
  · obtain ⟨t, ht, tl, hE1⟩ := of_is 1 (by decide) (by decide)
    obtain ⟨s, hs, sl, hE2⟩ := add_is hq ht 100 (by decide) hl (by omega)
    show Ev (fun k => lombardref01_MulDiv.j1 k less q true) (signOf (Q + 1) less)
    exact Ev.step (fun k => by rw [lombardref01_MulDiv.j1, if_pos rfl]) (Ev.bind hE1 (Ev.bind hE2 (ref_j2 less s _ hs (by omega) (by omega))))

theorem odd_is {q : List Int} {Q : Int} (hq : Is q Q) (hl : (q.length : Int) > 0) : (Int.tmod (rd q 0) 2 == 1) = (Q % 2 == 1) := by
  have gd := hq.norm.dig.getD 0
  have dr := V_drop q 0 (by omega)
  rw [List.drop_zero, hq.val] at dr
  have e : rd q 0 = q.getD 0 0 := rd_nat q 0
  rw [e, Int.tmod_eq_emod_of_nonneg gd.1]
  have : q.getD 0 0 % 2 = Q % 2 := by omega
  rw [this]

theorem is_pos {r : List Int} {R : Int} (h : Is r R) (hR : R ≠ 0) : (r.length : Int) > 0 := by
  cases r with
  | nil => exact absurd h.val.symm hR
  | cons x l => simp

theorem ref_muldiv_is (a b c how : Int) (ha : -9223372036854775808 ≤ a ∧ a < 9223372036854775808) (hb : -9223372036854775808 ≤ b ∧ b < 9223372036854775808) (hc : -9223372036854775808 ≤ c ∧ c < 9223372036854775808) :
    Ev (fun k => lombardref01_MulDiv.f k a b c how) (mdOf a b c how) := by
  by_cases bad : c = 0 ∨ how < 1 ∨ how > 4
  · have hz : Ev (fun k => lombardref01_MulDiv.j0 k a b c how true) (0, 1) := Ev.step (f := fun _ => some (0, 1)) (fun k => by rw [lombardref01_MulDiv.j0, if_pos rfl]) (Ev.now _)
    unfold mdOf
    rw [if_pos bad]
    refine Ev.congr (fun k => ?_) hz
    unfold lombardref01_MulDiv.f
    by_cases c1 : c = 0
    · rw [if_pos c1]
    · by_cases c2 : how < 1
      · rw [if_neg c1, if_pos c2]
      · rw [if_neg c1, if_neg c2, decide_eq_true (by omega)]
  · unfold mdOf
    rw [if_neg bad]
    have c1 : ¬ c = 0 := fun h => bad (Or.inl h)
    have c2 : ¬ how < 1 := fun h => bad (Or.inr (Or.inl h))
    have c3 : ¬ how > 4 := fun h => bad (Or.inr (Or.inr h))
    have hhow : how = 1 ∨ how = 2 ∨ how = 3 ∨ how = 4 := by omega
    obtain ⟨x, hx, xl, hE1⟩ := size_is2 a ha.1 ha.2
    obtain ⟨y, hy, yl, hE2⟩ := size_is2 b hb.1 hb.2
    obtain ⟨z, hz, zl, hE3⟩ := size_is2 c hc.1 hc.2
    obtain ⟨p, hp, pl, hE4⟩ := mul_is2 hx hy (by omega) (by omega)
    have dp : 0 < (c.natAbs : Int) := by omega
    obtain ⟨q, r, hq, hr, ql, rl, hE5⟩ := div_is2 hp hz dp (by omega) (by omega)
    have bx : (a.natAbs : Int) ≤ 9223372036854775808 := by omega
    have by' : (b.natAbs : Int) ≤ 9223372036854775808 := by omega
    have pz' : (a.natAbs : Int) * (b.natAbs : Int) ≤ 9223372036854775808 * 9223372036854775808 := Int.mul_le_mul bx by' (by omega) (by decide)
    have qb : (a.natAbs : Int) * (b.natAbs : Int) / (c.natAbs : Int) ≤ (a.natAbs : Int) * (b.natAbs : Int) := Int.ediv_le_self _ (Int.mul_nonneg (by omega) (by omega))
    have r0 := Int.emod_nonneg ((a.natAbs : Int) * (b.natAbs : Int)) (show (c.natAbs : Int) ≠ 0 by omega)
    have r1 := Int.emod_lt_of_pos ((a.natAbs : Int) * (b.natAbs : Int)) dp
    obtain ⟨m, hm⟩ : ∃ m : Bool, minusOf a b c = m := ⟨_, rfl⟩
    have hm' : ((decide (a < 0) != decide (b < 0)) != decide (c < 0)) = m := hm
    rw [hm]
    unfold quotOf
    generalize (a.natAbs : Int) * (b.natAbs : Int) / (c.natAbs : Int) = Q at *
    generalize (a.natAbs : Int) * (b.natAbs : Int) % (c.natAbs : Int) = R at *
    generalize (c.natAbs : Int) = d at *
    have fin := ref_j1 m q Q hq (by omega) (by omega) (roundUp Q R d m how)
    refine Ev.congr (f := fun k => lombardref01_MulDiv.j0 k a b c how false) (fun k => by unfold lombardref01_MulDiv.f; rw [if_neg c1, if_neg c2, decide_eq_false c3]) ?_
    refine Ev.step (fun k => by rw [lombardref01_MulDiv.j0, if_neg (by decide)]) (Ev.bind hE1 (Ev.bind hE2 (Ev.bind hE4 (Ev.bind hE3 (Ev.bind hE5 ?_)))))
    simp only [hm']
    by_cases hR : R = 0
    · have hr0 : ¬ (r.length : Int) > 0 := by
        subst hR
        rw [hr.zero]; decide
      have ru : roundUp Q R d m how = false := by unfold roundUp; rw [if_pos hR]
      rw [ru] at fin
      rw [ru]
      exact Ev.congr (fun k => by rw [if_neg hr0]) fin
    · have hr0 := is_pos hr hR
      obtain ⟨t, ht, tl, hE6⟩ := add_is hr hr 100 (by decide) (by omega) (by omega)
      obtain ⟨e, e1, e2, hE7⟩ := compare_is ht hz (by omega) (by omega)
      refine Ev.congr (fun k => by rw [if_pos hr0]) (Ev.bind hE6 (Ev.bind hE3 (Ev.bind hE7 ?_)))
      have k1 : (e > 0) ↔ R > d - R := by omega
      have k2 : (e = 0) ↔ R = d - R := by omega
      refine Ev.congr (fun k => ?_) fin
      have odd : (q.length : Int) > 0 → (Int.tmod (rd q 0) 2 == 1) = (Q % 2 == 1) := odd_is hq
      have even : ¬ (q.length : Int) > 0 → (Q % 2 == 1) = false := fun h => by
        have : Q = 0 := by
          have : q = [] := by cases q with | nil => rfl | cons x l => exact absurd (by simp) h
          rw [← hq.val, this]; rfl
        rw [this]; rfl
      unfold roundUp
      simp only [if_neg hR, ← k1, ← k2]
      by_cases hq0 : (q.length : Int) > 0
      · simp only [if_pos hq0, if_pos (show 0 < (q.length : Int) from hq0), odd hq0]
        rcases hhow with rfl | rfl | rfl | rfl <;> cases m <;> simp only [↓reduceIte, Int.reduceEq, Bool.false_eq_true, Bool.not_false, Bool.not_true] <;> (repeat' split) <;> first | rfl | (exfalso; omega)
      · simp only [if_neg hq0, even hq0]
        rcases hhow with rfl | rfl | rfl | rfl <;> cases m <;> simp only [↓reduceIte, Int.reduceEq, Bool.false_eq_true, Bool.not_false, Bool.not_true] <;> (repeat' split) <;> first | rfl | (exfalso; omega)

end Go.Proofs.Ytjbpblcohlainaa.Print
