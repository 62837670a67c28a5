/- Shows, in plain whole numbers, what the printed divided product of the program tells, for every argument and every way to round. -/
import Derived.Test.YtjbpblcohlainaaFixN
import Derived.Test.YtjbpblcohlainaaPrintx11
import Derived.Test.YtjbpblcohlainaaPrintx12
import Derived.Test.YtjbpblcohlainaaPrintx13
namespace Go.Proofs.Ytjbpblcohlainaa.Print
open Go.RowKit Go.Proofs.YtjbpblcohlainaaW.PrintWords Go.Proofs.YtjbpblcohlainaaW.PrintLast Go.Proofs.YtjbpblcohlainaaW.PrintMore Go.Pm.Arith
set_option linter.unusedVariables false
set_option linter.unusedSimpArgs false

/-- Is a quotient rounded away from 0? -/
def roundUp (q rest d : Int) (minus : Bool) (how : Int) : Bool :=
  if rest = 0 then false else if how = 1 then minus else if how = 2 then !minus else if how = 4 then (if rest > d - rest then true else if rest = d - rest then q % 2 == 1 else false) else false

/-- A number that is so great, and its sign, or that it has no place. -/
def signOf (u : Int) (minus : Bool) : Int × Int :=
  if u > 9223372036854775808 ∨ u = 9223372036854775808 ∧ minus = false then (0, 9) else if minus = true then (-u, 0) else (u, 0)

def minusOf (a b c : Int) : Bool := (decide (a < 0) != decide (b < 0)) != decide (c < 0)

def quotOf (p d : Int) (minus : Bool) (how : Int) : Int := p / d + (if roundUp (p / d) (p % d) d minus how = true then 1 else 0)

def mdOf (a b c how : Int) : Int × Int :=
  if c = 0 ∨ how < 1 ∨ how > 4 then (0, 1) else signOf (quotOf ((a.natAbs : Int) * (b.natAbs : Int)) (c.natAbs : Int) (minusOf a b c) how) (minusOf a b c)

theorem up_is (q rest d how : Int) (minus : Bool) (hq : 0 ≤ q) (hq' : q < 18446744073709551616) (hr : 0 ≤ rest) (hrd : rest < d) (hd : d < 18446744073709551616) :
    fixnum_up.f q rest d minus how = some (roundUp q rest d minus how) := by
  have e1 : IntKind.u64.wrap (d - rest) = d - rest := u64_id _ (by omega) (by omega)
  have e2 : Go.bits .and .u64 q 1 = q % 2 := and_one q hq hq'
  unfold fixnum_up.f roundUp
  rw [e1, e2]
  split
  · rfl
  · split
    · rfl
    · split
      · rfl
      · split
        · split
          · rfl
          · split
            · rfl
            · rfl
        · rfl

theorem signed_is (u : Int) (minus : Bool) (h0 : 0 ≤ u) (h1 : u < 18446744073709551616) : Ev (fun k => fixnum_signed.f k u minus) (signOf u minus) := by
  have key : ∀ x6 : Bool, x6 = (minus && (u == 9223372036854775808)) → Ev (fun k => fixnum_signed.j0 k u minus x6) (signOf u minus) := fun x6 hx => by
    refine Ev.step (f := fun _ => some (signOf u minus)) (fun k => ?_) (Ev.now _)
    rw [fixnum_signed.j0]
    subst hx
    unfold signOf
    by_cases c1 : u = 9223372036854775808
    · subst c1
      cases minus
      · rfl
      · rfl
    · have c2 : (u == 9223372036854775808) = false := beq_eq_false_iff_ne.mpr c1
      rw [c2, Bool.and_false, if_neg (by decide)]
      by_cases c3 : u ≥ 9223372036854775808
      · rw [if_pos c3, if_pos (Or.inl (by omega))]
      · have c4 : ¬ (u > 9223372036854775808 ∨ u = 9223372036854775808 ∧ minus = false) := by omega
        have e1 : wrap64 u = u := by unfold wrap64; omega
        have e2 : wrap64 (-u) = -u := by unfold wrap64; omega
        rw [if_neg c3, if_neg c4, e1, e2]
        cases minus
        · rfl
        · rfl
  refine Ev.congr (f := fun k => fixnum_signed.j0 k u minus (minus && (u == 9223372036854775808))) (fun k => ?_) (key _ rfl)
  unfold fixnum_signed.f
  cases minus
  · rfl
  · rfl

theorem muldiv_is (a b c how : Int) (ha : -9223372036854775808 ≤ a ∧ a < 9223372036854775808) (hb : -9223372036854775808 ≤ b ∧ b < 9223372036854775808) (hc : -9223372036854775808 ≤ c ∧ c < 9223372036854775808) :
    Ev (fun k => fixnum_MulDiv.f k a b c how) (mdOf a b c how) := by
  by_cases bad : c = 0 ∨ how < 1 ∨ how > 4
  · have hz : Ev (fun k => fixnum_MulDiv.j0 k a b c how true) (0, 1) := Ev.step (f := fun _ => some (0, 1)) (fun k => by rw [fixnum_MulDiv.j0, if_pos rfl]) (Ev.now _)
    unfold mdOf
    rw [if_pos bad]
    refine Ev.congr (fun k => ?_) hz
    unfold fixnum_MulDiv.f
    by_cases c1 : c = 0
    · rw [if_pos c1]
    · by_cases c2 : how < 1
      · rw [if_neg c1, if_pos c2]
      · rw [if_neg c1, if_neg c2, decide_eq_true (by omega)]
  · unfold mdOf
    rw [if_neg bad]
    have c1 : ¬ c = 0 := fun h => bad (Or.inl h)
    have c2 : ¬ how < 1 := fun h => bad (Or.inr (Or.inl h))
    have c3 : ¬ how > 4 := fun h => bad (Or.inr (Or.inr h))
    obtain ⟨x, hx⟩ : ∃ x : Int, (a.natAbs : Int) = x := ⟨_, rfl⟩
    obtain ⟨y, hy⟩ : ∃ y : Int, (b.natAbs : Int) = y := ⟨_, rfl⟩
    obtain ⟨d, hd⟩ : ∃ d : Int, (c.natAbs : Int) = d := ⟨_, rfl⟩
    have bx : 0 ≤ x ∧ x ≤ 9223372036854775808 := by omega
    have by' : 0 ≤ y ∧ y ≤ 9223372036854775808 := by omega
    have bd : 0 < d ∧ d ≤ 9223372036854775808 := by omega
    have s1 := size_is a ha.1 ha.2
    have s2 := size_is b hb.1 hb.2
    have s3 := size_is c hc.1 hc.2
    rw [hx] at s1
    rw [hy] at s2
    rw [hd] at s3
    rw [hx, hy, hd]
    obtain ⟨m, hm⟩ : ∃ m : Bool, minusOf a b c = m := ⟨_, rfl⟩
    rw [hm]
    refine Ev.congr (f := fun k => fixnum_MulDiv.j0 k a b c how false) (fun k => by unfold fixnum_MulDiv.f; rw [if_neg c1, if_neg c2, decide_eq_false c3]) ?_
    have pz : 0 ≤ x * y := Int.mul_nonneg bx.1 by'.1
    have pz' : x * y ≤ 9223372036854775808 * 9223372036854775808 := Int.mul_le_mul bx.2 by'.2 by'.1 (by decide)
    have hq : 0 ≤ hiOf x y ∧ hiOf x y < 18446744073709551616 ∧ 0 ≤ loOf x y ∧ loOf x y < 18446744073709551616 ∧ hiOf x y * 18446744073709551616 + loOf x y = x * y := by unfold hiOf loOf; omega
    have r0 := Int.emod_nonneg (hiOf x y) (show d ≠ 0 by omega)
    have r1 := Int.emod_lt_of_pos (hiOf x y) bd.1
    have hdiv := Int.mul_ediv_add_emod (hiOf x y) d
    -- the whole quotient and the whole rest
    have e : x * y = hiOf x y % d * 18446744073709551616 + loOf x y + d * (hiOf x y / d * 18446744073709551616) := by
      have : d * (hiOf x y / d * 18446744073709551616) = d * (hiOf x y / d) * 18446744073709551616 := by rw [Int.mul_assoc]
      rw [this]; omega
    have eq : x * y / d = hiOf x y / d * 18446744073709551616 + (hiOf x y % d * 18446744073709551616 + loOf x y) / d := by
      rw [e, Int.add_mul_ediv_left _ _ (by omega)]; omega
    have er : x * y % d = (hiOf x y % d * 18446744073709551616 + loOf x y) % d := by rw [e, Int.add_mul_emod_self_left]
    have l0 : 0 ≤ (hiOf x y % d * 18446744073709551616 + loOf x y) / d := Int.ediv_nonneg (by omega) (by omega)
    have l1 : (hiOf x y % d * 18446744073709551616 + loOf x y) / d < 18446744073709551616 := by rw [Int.ediv_lt_iff_lt_mul bd.1]; omega
    have h0 : 0 ≤ hiOf x y / d := Int.ediv_nonneg hq.1 (by omega)
    have t0 := Int.emod_nonneg (hiOf x y % d * 18446744073709551616 + loOf x y) (show d ≠ 0 by omega)
    have t1 := Int.emod_lt_of_pos (hiOf x y % d * 18446744073709551616 + loOf x y) bd.1
    have hE : Ev (fun k => fixnum_Wide_Div.f k (hiOf x y) (loOf x y) d) (hiOf x y / d, (hiOf x y % d * 18446744073709551616 + loOf x y) / d, (hiOf x y % d * 18446744073709551616 + loOf x y) % d) :=
      ⟨65, fun k hk => div_is k (by omega) _ _ d bd.1 (by omega) hq.1 hq.2.1 hq.2.2.1 hq.2.2.2.1⟩
    have hmul := mul_is x y bx.1 (by omega) by'.1 (by omega)
    have hm' : ((decide (a < 0) != decide (b < 0)) != decide (c < 0)) = m := hm
    unfold quotOf
    rw [er]
    generalize (hiOf x y % d * 18446744073709551616 + loOf x y) % d = R at *
    generalize (hiOf x y % d * 18446744073709551616 + loOf x y) / d = Q at *
    generalize hiOf x y / d = H at *
    refine Ev.step (f := fun k => (fixnum_Wide_Div.f k (hiOf x y) (loOf x y) d).bind fun bt113 => (if bt113.1 > 0 then (some (0, 9)) else ((fixnum_up.f bt113.2.1 bt113.2.2 d m how).bind fun t117 => (if t117 = true then (if (IntKind.u64.wrap (bt113.2.1 + 1)) = 0 then (some (0, 9)) else ((fixnum_signed.f k (IntKind.u64.wrap (bt113.2.1 + 1)) m).bind fun bt118 => (some (bt118.1, bt118.2)))) else ((fixnum_signed.f k bt113.2.1 m).bind fun bt120 => (some (bt120.1, bt120.2))))))) (fun k => ?_) (Ev.bind hE ?_)
    · rw [fixnum_MulDiv.j0, if_neg (by decide), s1, Option.bind_some, s2, Option.bind_some, s3, Option.bind_some, hmul, Option.bind_some]
      simp only [hm']
    · by_cases hH : H > 0
      · have big : ∀ t : Int, 0 ≤ t → signOf (x * y / d + t) m = (0, 9) := fun t ht => by unfold signOf; rw [if_pos (Or.inl (by omega))]
        refine Ev.congr (f := fun _ => some (0, 9)) (fun k => by rw [if_pos hH]) ?_
        rw [big _ (by split <;> decide)]
        exact Ev.now _
      · have hq2 : x * y / d = Q := by omega
        rw [hq2]
        have hup := up_is Q R d how m l0 l1 t0 t1 (by omega)
        by_cases hr : roundUp Q R d m how = true
        · rw [if_pos hr]
          by_cases hov : Q + 1 = 18446744073709551616
          · have w : IntKind.u64.wrap (Q + 1) = 0 := by rw [hov]; rfl
            refine Ev.congr (f := fun _ => some (0, 9)) (fun k => by rw [if_neg hH, hup, Option.bind_some, if_pos hr, if_pos w]) ?_
            have : signOf (Q + 1) m = (0, 9) := by unfold signOf; rw [if_pos (Or.inl (by omega))]
            rw [this]
            exact Ev.now _
          · have w : IntKind.u64.wrap (Q + 1) = Q + 1 := u64_id _ (by omega) (by omega)
            have w2 : ¬ Q + 1 = 0 := by omega
            refine Ev.congr (f := fun k => (fixnum_signed.f k (Q + 1) m).bind fun bt => some (bt.1, bt.2)) (fun k => by rw [if_neg hH, hup, Option.bind_some, if_pos hr, w, if_neg w2]) (Ev.bind (signed_is (Q + 1) m (by omega) (by omega)) (Ev.now _))
        · rw [if_neg hr, Int.add_zero]
          exact Ev.congr (f := fun k => (fixnum_signed.f k Q m).bind fun bt => some (bt.1, bt.2)) (fun k => by rw [if_neg hH, hup, Option.bind_some, if_neg hr]) (Ev.bind (signed_is Q m l0 l1) (Ev.now _))

end Go.Proofs.Ytjbpblcohlainaa.Print
