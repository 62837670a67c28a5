/- Shows the sum and the difference of every two wide numbers, and which is the lesser one, of the printed functions. -/
import Derived.Test.YtjbpblcohlainaaPrintx41
import Derived.Test.YtjbpblcohlainaaPrintx38
import Derived.Test.YtjbpblcohlainaaPrintx40
import Derived.Test.YtjbpblcohlainaaPrintx39
import Derived.Test.YtjbpblcohlainaaPrintx6
import Derived.Test.YtjbpblcohlainaaLaw01a
import Derived.Test.YtjbpblcohlainaaBigAll
namespace Go.Proofs.Ytjbpblcohlainaa.Print
open Go.RowKit Go.Proofs.YtjbpblcohlainaaW.PrintWords Go.Proofs.YtjbpblcohlainaaW.PrintLast Go.Proofs.YtjbpblcohlainaaW.PrintMore Go.Pm.Arith Go.Pm.Big
theorem is_is (hi lo : Int) (l : List Int) (n : Int) (h0 : 0 ≤ hi) (h1 : hi < 18446744073709551616) (l0 : 0 ≤ lo) (l1 : lo < 18446744073709551616) (hl : Is l n) (ll : l.length < 1000000) :
    Ev (fun k => lombardlaw01_is.f k hi lo l) (decide (hi * 18446744073709551616 + lo = n)) := by
  obtain ⟨r, hr, hrl, hE⟩ := two_is hi lo h0 h1 l0 l1
  obtain ⟨c, c1, c2, hE2⟩ := compare_is hr hl (by omega) ll
  have e : (c == 0) = decide (hi * 18446744073709551616 + lo = n) := by
    by_cases h : hi * 18446744073709551616 + lo = n
    · rw [decide_eq_true h]; exact beq_iff_eq.mpr (c2.mpr h)
    · rw [decide_eq_false h]; exact beq_eq_false_iff_ne.mpr (fun x => h (c2.mp x))
  rw [← e]
  exact Ev.bind hE (Ev.bind hE2 (Ev.now _))

end Go.Proofs.Ytjbpblcohlainaa.Print
namespace Go.Proofs.Ytjbpblcohlainaa.Print
open Go.RowKit Go.Proofs.YtjbpblcohlainaaW.PrintWords Go.Proofs.YtjbpblcohlainaaW.PrintLast Go.Proofs.YtjbpblcohlainaaW.PrintMore Go.Pm.Arith Go.Pm.Big

theorem push_digit (h d : Int) (h0 : 0 ≤ h) (h1 : h < 281474976710656) (d0 : 0 ≤ d) (d1 : d < 65536) : IntKind.u64.wrap (IntKind.u64.wrap (h * 65536) + d) = d + 65536 * h := by
  rw [u64_id (h * 65536) (by omega) (by omega), u64_id _ (by omega) (by omega)]; omega

theorem halves_lo (l : List Int) (hd : Dig l) (hl : l.length < 1000000) (hi : Int) : ∀ i : Nat, i ≤ 4 → i ≤ l.length →
    Ev (fun k => lombardref01_Halves.l0 k l hi (V ((l.take 4).drop i)) ((i : Int) - 1)) (hi, V (l.take 4), true)
  | 0, _, _ => Ev.step (f := fun _ => some (hi, V (l.take 4), true)) (fun k => by rw [lombardref01_Halves.l0, if_neg (by decide)]; rfl) (Ev.now _)
  | i + 1, h4, hl2 => by
    have c1 : ((i + 1 : Nat) : Int) - 1 = (i : Int) := by omega
    have c2 : (i : Int) < (l.length : Int) := by omega
    have c3 : ¬ (i : Int) ≥ 4 := by omega
    have c4 : -9223372036854775808 ≤ (i : Int) - 1 ∧ (i : Int) - 1 < 9223372036854775808 := by omega
    have ht : i < (l.take 4).length := by rw [List.length_take]; omega
    have dr := V_drop (l.take 4) i ht
    rw [take_getD l 4 i (by omega)] at dr
    have hdt : Dig ((l.take 4).drop (i + 1)) := fun x hx => hd x (List.mem_of_mem_take (List.mem_of_mem_drop hx))
    have b0 := V_nonneg hdt
    have b1 := V_lt hdt
    have b2 : P ((l.take 4).drop (i + 1)).length ≤ P 3 := P_mono (by rw [List.length_drop, List.length_take]; omega)
    have b3 : P 3 = 281474976710656 := by decide
    have gd := hd.getD i
    have pd := push_digit (V ((l.take 4).drop (i + 1))) (l.getD i 0) b0 (by omega) gd.1 gd.2
    rw [← dr] at pd
    refine Ev.step (fun k => ?_) (halves_lo l hd hl hi i (by omega) (by omega))
    rw [lombardref01_Halves.l0, c1, if_pos (Int.natCast_nonneg i), if_neg c3, if_pos (Int.natCast_nonneg i), if_pos c2, rd_nat, pd, w64 _ c4.1 c4.2]

theorem halves_hi (l : List Int) (hd : Dig l) (hl : l.length ≤ 8) : ∀ i : Nat, 4 ≤ i → i ≤ l.length →
    Ev (fun k => lombardref01_Halves.l0 k l (V (l.drop i)) 0 ((i : Int) - 1)) (V (l.drop 4), V (l.take 4), true)
  | i, h4, hl2 => by
    by_cases e : i = 4
    · subst e
      have := halves_lo l hd (by omega) (V (l.drop 4)) 4 (Nat.le_refl _) hl2
      have z : V ((l.take 4).drop 4) = 0 := by rw [List.drop_of_length_le (by rw [List.length_take]; omega)]; rfl
      rwa [z] at this
    · obtain ⟨i, rfl⟩ : ∃ j, i = j + 1 := ⟨i - 1, by omega⟩
      have c1 : ((i + 1 : Nat) : Int) - 1 = (i : Int) := by omega
      have c2 : (i : Int) < (l.length : Int) := by omega
      have c3 : (i : Int) ≥ 4 := by omega
      have c4 : -9223372036854775808 ≤ (i : Int) - 1 ∧ (i : Int) - 1 < 9223372036854775808 := by omega
      have dr := V_drop l i (by omega)
      have hdt : Dig (l.drop (i + 1)) := fun x hx => hd x (List.mem_of_mem_drop hx)
      have b0 := V_nonneg hdt
      have b1 := V_lt hdt
      have b2 : P (l.drop (i + 1)).length ≤ P 3 := P_mono (by rw [List.length_drop]; omega)
      have b3 : P 3 = 281474976710656 := by decide
      have gd := hd.getD i
      have pd := push_digit (V (l.drop (i + 1))) (l.getD i 0) b0 (by omega) gd.1 gd.2
      rw [← dr] at pd
      refine Ev.step (fun k => ?_) (halves_hi l hd hl i (by omega) (by omega))
      rw [lombardref01_Halves.l0, c1, if_pos (Int.natCast_nonneg i), if_pos c3, if_pos (Int.natCast_nonneg i), if_pos c2, rd_nat, pd, w64 _ c4.1 c4.2]

theorem halves_is {l : List Int} {m : Int} (h : Is l m) (hl : l.length < 1000000) :
    Ev (fun k => lombardref01_Halves.f k l) (if m < 340282366920938463463374607431768211456 then (m / 18446744073709551616, m % 18446744073709551616, true) else (0, 0, false)) := by
  have p8 : P 8 = 340282366920938463463374607431768211456 := by decide
  have p4 : P 4 = 18446744073709551616 := by decide
  by_cases hm : m < 340282366920938463463374607431768211456
  · rw [if_pos hm]
    have l8 : l.length ≤ 8 := h.len_le (by omega)
    have c0 : ¬ (l.length : Int) > 8 := by omega
    have c4 : -9223372036854775808 ≤ (l.length : Int) - 1 ∧ (l.length : Int) - 1 < 9223372036854775808 := by omega
    have res : V (l.drop 4) = m / 18446744073709551616 ∧ V (l.take 4) = m % 18446744073709551616 := by
      by_cases hs : l.length ≤ 4
      · have b := h.lt
        have b2 := P_mono hs
        rw [List.drop_of_length_le hs, List.take_of_length_le hs, h.val]
        have := h.nonneg
        show (0 : Int) = _ ∧ _
        omega
      · have td := V_take_drop l 4 (by omega)
        have b0 := V_nonneg (h.norm.dig.take 4)
        have b1 := V_lt (h.norm.dig.take 4)
        rw [List.length_take, Nat.min_eq_left (by omega), p4] at b1
        rw [p4, h.val] at td
        omega
    rw [← res.1, ← res.2]
    refine Ev.congr (f := fun k => lombardref01_Halves.l0 k l 0 0 ((l.length : Int) - 1)) (fun k => by unfold lombardref01_Halves.f; rw [if_neg c0, w64 _ c4.1 c4.2]) ?_
    by_cases hs : l.length ≤ 4
    · have := halves_lo l h.norm.dig hl 0 l.length hs (Nat.le_refl _)
      have z : V ((l.take 4).drop l.length) = 0 := by rw [List.drop_of_length_le (by rw [List.length_take]; omega)]; rfl
      have z2 : V (l.drop 4) = 0 := by rw [List.drop_of_length_le hs]; rfl
      rw [z] at this
      rw [z2]
      exact this
    · have := halves_hi l h.norm.dig l8 l.length (by omega) (Nat.le_refl _)
      rw [V_drop_len] at this
      exact this
  · rw [if_neg hm]
    have c0 : (l.length : Int) > 8 := by
      by_cases hs : l.length ≤ 8
      · have b := h.lt
        have b2 := P_mono hs
        omega
      · omega
    exact Ev.congr (fun k => by unfold lombardref01_Halves.f; rw [if_pos c0]) (Ev.now _)

end Go.Proofs.Ytjbpblcohlainaa.Print
namespace Go.Proofs.Ytjbpblcohlainaa.Print
open Go.RowKit Go.Proofs.YtjbpblcohlainaaW.PrintWords Go.Proofs.YtjbpblcohlainaaW.PrintLast Go.Proofs.YtjbpblcohlainaaW.PrintMore Go.Pm.Arith Go.Pm.Big
set_option linter.unusedVariables false
set_option linter.unusedSimpArgs false

def inU64 (a : Int) : Prop := 0 ≤ a ∧ a < 18446744073709551616
def wide (hi lo : Int) : Int := hi * 18446744073709551616 + lo

theorem wide_less (a b c d : Int) (ha : inU64 a) (hb : inU64 b) (hc : inU64 c) (hd : inU64 d) : fixnum_Wide_Less.f a b c d = some (decide (wide a b < wide c d)) := by
  unfold inU64 at *
  unfold fixnum_Wide_Less.f wide
  by_cases h1 : a < c
  · rw [if_pos h1, decide_eq_true (by omega)]
  · by_cases h2 : a = c
    · rw [if_neg h1, if_pos h2]
      congr 1
      exact decide_eq_decide.mpr (by omega)
    · rw [if_neg h1, if_neg h2, decide_eq_false (by omega)]

theorem wide_add (a b c d : Int) (ha : inU64 a) (hb : inU64 b) (hc : inU64 c) (hd : inU64 d) :
    (wide a b + wide c d < 340282366920938463463374607431768211456 ∧ ∃ h l, inU64 h ∧ inU64 l ∧ wide h l = wide a b + wide c d ∧ fixnum_Wide_Add.f a b c d = some (h, l, true)) ∨
    (¬ wide a b + wide c d < 340282366920938463463374607431768211456 ∧ fixnum_Wide_Add.f a b c d = some (0, 0, false)) := by
  unfold inU64 at *
  unfold wide
  simp only [fixnum_Wide_Add.f, u64_wrap]
  by_cases h1 : (b + d) % 18446744073709551616 < b
  · rw [if_pos h1]
    by_cases h2 : (a + c) % 18446744073709551616 < a
    · rw [if_pos h2]; exact Or.inr ⟨by omega, rfl⟩
    · rw [if_neg h2]
      by_cases h3 : ((a + c) % 18446744073709551616 + 1) % 18446744073709551616 < (a + c) % 18446744073709551616
      · rw [if_pos h3]; exact Or.inr ⟨by omega, rfl⟩
      · rw [if_neg h3]; exact Or.inl ⟨by omega, _, _, by omega, by omega, by omega, rfl⟩
  · rw [if_neg h1]
    by_cases h2 : (a + c) % 18446744073709551616 < a
    · rw [if_pos h2]; exact Or.inr ⟨by omega, rfl⟩
    · rw [if_neg h2]
      by_cases h3 : ((a + c) % 18446744073709551616) % 18446744073709551616 < (a + c) % 18446744073709551616
      · omega
      · rw [if_neg h3]; exact Or.inl ⟨by omega, _, _, by omega, by omega, by omega, rfl⟩

theorem wide_sub (a b c d : Int) (ha : inU64 a) (hb : inU64 b) (hc : inU64 c) (hd : inU64 d) :
    (wide c d ≤ wide a b ∧ ∃ h l, inU64 h ∧ inU64 l ∧ wide h l = wide a b - wide c d ∧ fixnum_Wide_Sub.f a b c d = some (h, l, true)) ∨
    (¬ wide c d ≤ wide a b ∧ fixnum_Wide_Sub.f a b c d = some (0, 0, false)) := by
  have hl := wide_less a b c d ha hb hc hd
  unfold inU64 at *
  unfold fixnum_Wide_Sub.f
  rw [hl, Option.bind_some]
  unfold wide
  simp only [u64_wrap]
  by_cases h1 : a * 18446744073709551616 + b < c * 18446744073709551616 + d
  · rw [decide_eq_true h1, if_pos rfl]; exact Or.inr ⟨by omega, rfl⟩
  · rw [decide_eq_false h1, if_neg (by decide)]
    by_cases h2 : b < d
    · rw [if_pos h2]; exact Or.inl ⟨by omega, _, _, by omega, by omega, by omega, rfl⟩
    · rw [if_neg h2]; exact Or.inl ⟨by omega, _, _, by omega, by omega, by omega, rfl⟩

theorem adds_j1 (p q : List Int) (X Y : Int) (hp : Is p X) (hq : Is q Y) (lp : p.length ≤ 8) (lq : q.length ≤ 8) (ok more : Bool) (sh sl th tl : Int)
    (h1 : ok = true → inU64 sh ∧ inU64 sl ∧ wide sh sl = X + Y) (h2 : more = true → Y ≤ X ∧ inU64 th ∧ inU64 tl ∧ wide th tl = X - Y) :
    Ev (fun k => lombardlaw01_FixnumAdds.j1 k p q ok more false sh sl th tl) true := by
  obtain ⟨s, hs, hsl, hE1⟩ := add_is hp hq 8 (by decide) lp lq
  have sub : more = true → Ev (fun k => (lombardref01_Sub.f k p q).bind fun t483 => ((lombardlaw01_is.f k th tl t483).bind fun t486 => (if t486 = true then ((lombardlaw01_awake.f k).bind fun t487 => (some t487)) else (some false)))) true := fun hm => by
    obtain ⟨a1, a2, a3, a4⟩ := h2 hm
    obtain ⟨t, ht, htl, hE2⟩ := sub_is hp hq (by omega) a1
    have hE3 := is_is th tl t (X - Y) a2.1 a2.2 a3.1 a3.2 ht (by omega)
    rw [decide_eq_true (show th * 18446744073709551616 + tl = X - Y from a4)] at hE3
    exact Ev.bind hE2 (Ev.bind hE3 (Ev.congr (fun k => by rw [if_pos rfl]) then_awake))
  have add : ok = true → ∀ g : Nat → Option Bool, Ev g true → Ev (fun k => (lombardref01_Add.f k p q).bind fun t479 => ((lombardlaw01_is.f k sh sl t479).bind fun t482 => (if t482 = true then g k else some false))) true := fun ho g hg => by
    obtain ⟨a1, a2, a3⟩ := h1 ho
    have hE3 := is_is sh sl s (X + Y) a1.1 a1.2 a2.1 a2.2 hs (by omega)
    rw [decide_eq_true (show sh * 18446744073709551616 + sl = X + Y from a3)] at hE3
    exact Ev.bind hE1 (Ev.bind hE3 (Ev.congr (fun k => by rw [if_pos rfl]) hg))
  cases hok : ok
  · cases hmo : more
    · exact Ev.step (fun k => by rw [lombardlaw01_FixnumAdds.j1, if_neg (by decide), if_neg (by decide), if_neg (by decide)]) then_awake
    · exact Ev.step (fun k => by rw [lombardlaw01_FixnumAdds.j1, if_neg (by decide), if_neg (by decide), if_pos rfl]) (sub hmo)
  · cases hmo : more
    · exact Ev.step (fun k => by rw [lombardlaw01_FixnumAdds.j1, if_neg (by decide), if_pos rfl]; simp only [if_neg (show ¬ (false = true) by decide)]) (add hok _ then_awake)
    · exact Ev.step (fun k => by rw [lombardlaw01_FixnumAdds.j1, if_neg (by decide), if_pos rfl]; simp only [if_true]) (add hok _ (sub hmo))

theorem adds_j0 (p q : List Int) (X Y : Int) (hp : Is p X) (hq : Is q Y) (lp : p.length ≤ 8) (lq : q.length ≤ 8) (ok more : Bool) (sh sl th tl : Int)
    (h1 : ok = true → inU64 sh ∧ inU64 sl ∧ wide sh sl = X + Y) (h2 : more = true → Y ≤ X ∧ inU64 th ∧ inU64 tl ∧ wide th tl = X - Y)
    (z1 : ok = false → sh = 0 ∧ sl = 0) (z2 : more = false → th = 0 ∧ tl = 0) :
    Ev (fun k => lombardlaw01_FixnumAdds.j0 k p q ok more false sh sl th tl) true := by
  have key := adds_j1 p q X Y hp hq lp lq ok more sh sl th tl h1 h2
  refine Ev.step (fun k => ?_) key
  rw [lombardlaw01_FixnumAdds.j0, if_neg (by decide)]
  cases hok : ok
  · obtain ⟨rfl, rfl⟩ := z1 hok
    cases hmo : more
    · obtain ⟨rfl, rfl⟩ := z2 hmo
      rfl
    · rfl
  · cases hmo : more
    · obtain ⟨rfl, rfl⟩ := z2 hmo
      rfl
    · rfl

end Go.Proofs.Ytjbpblcohlainaa.Print
namespace Go.Proofs.Ytjbpblcohlainaa.Pure
open Go.RowKit Go.Proofs.Ytjbpblcohlainaa.Print Go.Proofs.YtjbpblcohlainaaW.PrintWords Go.Proofs.YtjbpblcohlainaaW.PrintLast Go.Pm.Arith Go.Pm.Big

theorem FixnumAdds : lombardlaw01_FixnumAdds.Pure := by
  intro a b c d wa wb wc wd
  have ha : inU64 a := wf_u64 wa
  have hb : inU64 b := wf_u64 wb
  have hc : inU64 c := wf_u64 wc
  have hd : inU64 d := wf_u64 wd
  obtain ⟨p, hp, lp, hE1⟩ := two_is a b ha.1 ha.2 hb.1 hb.2
  obtain ⟨q, hq, lq, hE2⟩ := two_is c d hc.1 hc.2 hd.1 hd.2
  obtain ⟨s, hs, ls, hE3⟩ := add_is hp hq 8 (by decide) lp lq
  have hE4 := halves_is (show Is s (wide a b + wide c d) from hs) (by omega)
  obtain ⟨e, e1, e2, hE5⟩ := compare_is hp hq (by omega) (by omega)
  have hless := wide_less a b c d ha hb hc hd
  have cl : (decide (wide a b < wide c d) != decide (e < 0)) = false := by
    have : decide (wide a b < wide c d) = decide (e < 0) := decide_eq_decide.mpr e1.symm
    rw [this]; simp
  refine Ev.rounds (r := true) ?_
  obtain ⟨ok, sh, sl, k1, k2, k3, k4⟩ : ∃ ok sh sl, fixnum_Wide_Add.f a b c d = some (sh, sl, ok) ∧ (ok = true → inU64 sh ∧ inU64 sl ∧ wide sh sl = wide a b + wide c d) ∧ (ok = false → sh = 0 ∧ sl = 0) ∧
      (ok != (if wide a b + wide c d < 340282366920938463463374607431768211456 then ((wide a b + wide c d) / 18446744073709551616, (wide a b + wide c d) % 18446744073709551616, true) else (0, 0, false) : Int × Int × Bool).2.2) = false := by
    rcases wide_add a b c d ha hb hc hd with ⟨g, h, l, g1, g2, g3, g4⟩ | ⟨g, g4⟩
    · exact ⟨true, h, l, g4, fun _ => ⟨g1, g2, g3⟩, fun x => (by cases x), by rw [if_pos g]; rfl⟩
    · exact ⟨false, 0, 0, g4, fun x => (by cases x), fun _ => ⟨rfl, rfl⟩, by rw [if_neg g]; rfl⟩
  obtain ⟨more, th, tl, m1, m2, m3, m4⟩ : ∃ more th tl, fixnum_Wide_Sub.f a b c d = some (th, tl, more) ∧ (more = true → wide c d ≤ wide a b ∧ inU64 th ∧ inU64 tl ∧ wide th tl = wide a b - wide c d) ∧ (more = false → th = 0 ∧ tl = 0) ∧
      (more != decide (e ≥ 0)) = false := by
    rcases wide_sub a b c d ha hb hc hd with ⟨g, h, l, g1, g2, g3, g4⟩ | ⟨g, g4⟩
    · refine ⟨true, h, l, g4, fun _ => ⟨g, g1, g2, g3⟩, fun x => (by cases x), ?_⟩
      have : ¬ e < 0 := fun x => by have := e1.mp x; unfold wide at g; omega
      rw [decide_eq_true (show e ≥ 0 by omega)]; rfl
    · refine ⟨false, 0, 0, g4, fun x => (by cases x), fun _ => ⟨rfl, rfl⟩, ?_⟩
      have : e < 0 := e1.mpr (by unfold wide at g; omega)
      rw [decide_eq_false (show ¬ e ≥ 0 by omega)]; rfl
  refine Ev.congr (fun k => by rw [lombardlaw01_FixnumAdds.f]) (Ev.bind hE1 (Ev.bind hE2 ?_))
  refine Ev.congr (fun k => by rw [k1, Option.bind_some, m1, Option.bind_some]) (Ev.bind hE3 (Ev.bind hE4 ?_))
  refine Ev.congr (fun k => by rw [hless, Option.bind_some]) (Ev.bind hE5 ?_)
  refine Ev.congr (fun k => by rw [cl, if_neg (by decide)]; exact if_neg (by show ¬ (ok != _) = true; rw [show (ok != _) = false from k4]; decide)) (Ev.bind hE5 ?_)
  have fin := adds_j0 p q (wide a b) (wide c d) hp hq lp lq ok more sh sl th tl k2 m2 k3 m3
  exact Ev.congr (fun k => by rw [m4]) fin

end Go.Proofs.Ytjbpblcohlainaa.Pure
