/- The plain statement of LegOrders: any legs in order, and which are each other's. -/
import Derived.Test.YtlgfdldonoaahaaPuLegs25
import Derived.Test.YtlgfdldonoaahaaGx6
namespace Go.Proofs.Ytlgfdldonoaahaa
open Go Go.Pm Go.Pm.Arith Go.Pm.Big
set_option linter.unusedVariables false
set_option linter.unusedSimpArgs false

/-- Not too far below nothing. -/
def Low (x : api_Leg) : Prop := ∀ k : Nat, k < x.Lots.length → -4611686018427387904 ≤ (nth x.Lots (k : Int)).Qty

theorem low0 (x : api_Leg) (hl : x.Lots.length ≤ 100) : ∀ (j i : Nat), x.Lots.length = i + j → (∀ k : Nat, k < i → -4611686018427387904 ≤ (nth x.Lots (k : Int)).Qty) →
    loop (lombardlaw25_LegOrders.r0 x) (i : Int) = some (.inl true) ∨ (Low x ∧ loop (lombardlaw25_LegOrders.r0 x) (i : Int) = some (.inr ()))
  | 0, i, e, h => .inr ⟨fun k hk => h k (by omega), loop_end (by unfold lombardlaw25_LegOrders.r0 lombardlaw25_LegOrders.b0; rw [if_neg (by simp; omega)])⟩
  | j + 1, i, e, h => by
    have g : (0 : Int) ≤ (i : Int) ∧ (i : Int) < (x.Lots.length : Int) := by omega
    by_cases c : (nth x.Lots (i : Int)).Qty < -4611686018427387904
    · left
      refine loop_end ?_
      unfold lombardlaw25_LegOrders.r0 lombardlaw25_LegOrders.b0
      rw [if_pos (decide_eq_true g.2), if_pos g, if_pos (decide_eq_true c), awake_is]; rfl
    · have st : lombardlaw25_LegOrders.r0 x (i : Int) = some (.inl ((i + 1 : Nat) : Int)) := by
        unfold lombardlaw25_LegOrders.r0 lombardlaw25_LegOrders.b0
        rw [if_pos (decide_eq_true g.2), if_pos g, if_neg (fun q => c (of_decide_eq_true q)), sw_nx i (by omega)]
      rw [loop_next st]
      exact low0 x hl j (i + 1) (by omega) (fun k hk => by
        by_cases q : k = i
        · rw [q]; omega
        · exact h k (by omega))
theorem low1 (x : api_Leg) (hl : x.Lots.length ≤ 100) : ∀ (j i : Nat), x.Lots.length = i + j → (∀ k : Nat, k < i → -4611686018427387904 ≤ (nth x.Lots (k : Int)).Qty) →
    loop (lombardlaw25_LegOrders.r1 x) (i : Int) = some (.inl true) ∨ (Low x ∧ loop (lombardlaw25_LegOrders.r1 x) (i : Int) = some (.inr ()))
  | 0, i, e, h => .inr ⟨fun k hk => h k (by omega), loop_end (by unfold lombardlaw25_LegOrders.r1 lombardlaw25_LegOrders.b1; rw [if_neg (by simp; omega)])⟩
  | j + 1, i, e, h => by
    have g : (0 : Int) ≤ (i : Int) ∧ (i : Int) < (x.Lots.length : Int) := by omega
    by_cases c : (nth x.Lots (i : Int)).Qty < -4611686018427387904
    · left
      refine loop_end ?_
      unfold lombardlaw25_LegOrders.r1 lombardlaw25_LegOrders.b1
      rw [if_pos (decide_eq_true g.2), if_pos g, if_pos (decide_eq_true c), awake_is]; rfl
    · have st : lombardlaw25_LegOrders.r1 x (i : Int) = some (.inl ((i + 1 : Nat) : Int)) := by
        unfold lombardlaw25_LegOrders.r1 lombardlaw25_LegOrders.b1
        rw [if_pos (decide_eq_true g.2), if_pos g, if_neg (fun q => c (of_decide_eq_true q)), sw_nx i (by omega)]
      rw [loop_next st]
      exact low1 x hl j (i + 1) (by omega) (fun k hk => by
        by_cases q : k = i
        · rw [q]; omega
        · exact h k (by omega))

theorem l64 {n : Int} (h : inK .i64 n) : -9223372036854775808 ≤ n ∧ n ≤ 9223372036854775807 := h
/-- Which numbers are each other's. -/
theorem counter (a b : Int) (ha : -4611686018427387904 ≤ a ∧ a ≤ 9223372036854775807) (hb : -4611686018427387904 ≤ b ∧ b ≤ 9223372036854775807) : (a != IntKind.wrap .i64 (0 - b)) = (IntKind.wrap .i64 (a + b) != 0) := by
  have e1 : IntKind.wrap .i64 (0 - b) = -b := by rw [sw_id _ (by omega) (by omega)]; omega
  have e2 : IntKind.wrap .i64 (a + b) = 0 ↔ a + b = 0 := by rw [IntKind.wrap_i64]; omega
  rw [e1, Bool.eq_iff_iff, bne_iff_ne, bne_iff_ne, Ne, Ne, e2]
  omega

theorem qty_in (x : api_Leg) (hb : api_Leg.bd x) (hx : Low x) (k : Nat) (hk : k < x.Lots.length) : -4611686018427387904 ≤ (nth x.Lots (k : Int)).Qty ∧ (nth x.Lots (k : Int)).Qty ≤ 9223372036854775807 := by
  refine ⟨hx k hk, ?_⟩
  have mem : nth x.Lots (k : Int) ∈ x.Lots := by
    show x.Lots.getD (Int.toNat (k : Int)) default ∈ x.Lots
    rw [Int.toNat_natCast, List.getD_eq_getElem?_getD, List.getElem?_eq_getElem hk]; exact List.getElem_mem hk
  exact (l64 (hb.2.2.2.2.1.2 _ mem).2.1).2

theorem against_loop (a b : api_Leg) (ba : api_Leg.bd a) (bb : api_Leg.bd b) (ha : Low a) (hb : Low b) (hl : a.Lots.length ≤ 100) (he : a.Lots.length = b.Lots.length) : ∀ (j i : Nat), a.Lots.length = i + j →
    ∃ o, loop (leg_Against.r0 a b) (i : Int) = some o ∧ loop (lombardref25_Against.r0 a b) (i : Int) = some o
  | 0, i, h => ⟨.inr (), loop_end (by unfold leg_Against.r0 leg_Against.b0; rw [if_neg (by simp; omega)]), loop_end (by unfold lombardref25_Against.r0 lombardref25_Against.b0; rw [if_neg (by simp; omega)])⟩
  | j + 1, i, h => by
    have g : (0 : Int) ≤ (i : Int) ∧ (i : Int) < (a.Lots.length : Int) := by omega
    have g' : (0 : Int) ≤ (i : Int) ∧ (i : Int) < (b.Lots.length : Int) := by omega
    have q1 := qty_in a ba ha i (by omega)
    have q2 := qty_in b bb hb i (by omega)
    have ce := counter _ _ q1 q2
    by_cases c : ((!(((nth a.Lots (i : Int)).ISIN) == ((nth b.Lots (i : Int)).ISIN))) || ((IntKind.wrap .i64 (((nth a.Lots (i : Int)).Qty) + ((nth b.Lots (i : Int)).Qty))) != 0)) = true
    · refine ⟨.inl false, loop_end ?_, loop_end ?_⟩
      · unfold leg_Against.r0 leg_Against.b0
        rw [if_pos (decide_eq_true g.2), if_pos g, if_pos g', ce, if_pos c]
      · unfold lombardref25_Against.r0 lombardref25_Against.b0
        rw [if_pos (decide_eq_true g.2), if_pos g, if_pos g', if_pos (fun _ => g), if_pos (fun _ => g'), if_pos c]
    · have s1 : leg_Against.r0 a b (i : Int) = some (.inl ((i + 1 : Nat) : Int)) := by
        unfold leg_Against.r0 leg_Against.b0
        rw [if_pos (decide_eq_true g.2), if_pos g, if_pos g', ce, if_neg c, sw_nx i (by omega)]
      have s2 : lombardref25_Against.r0 a b (i : Int) = some (.inl ((i + 1 : Nat) : Int)) := by
        unfold lombardref25_Against.r0 lombardref25_Against.b0
        rw [if_pos (decide_eq_true g.2), if_pos g, if_pos g', if_pos (fun _ => g), if_pos (fun _ => g'), if_neg c, sw_nx i (by omega)]
      rw [loop_next s1, loop_next s2]
      exact against_loop a b ba bb ha hb hl he j (i + 1) (by omega)

theorem against_is (a b : api_Leg) (ba : api_Leg.bd a) (bb : api_Leg.bd b) (ha : Low a) (hb : Low b) (hl : a.Lots.length ≤ 100) (ca : -4611686018427387904 ≤ a.Cash) (cb : -4611686018427387904 ≤ b.Cash) :
    ∃ v, leg_Against.f a b = some v ∧ lombardref25_Against.f a b = some v := by
  have ce := counter a.Cash b.Cash ⟨ca, (l64 ba.2.2.2.1).2⟩ ⟨cb, (l64 bb.2.2.2.1).2⟩
  unfold leg_Against.f lombardref25_Against.f
  rw [ce]
  by_cases c : (((a.Day != b.Day) || ((IntKind.wrap .i64 (a.Cash + b.Cash)) != 0)) || ((List.length a.Lots : Int) != (List.length b.Lots : Int))) = true
  · rw [if_pos c, if_pos c]
    exact ⟨false, rfl, rfl⟩
  · rw [if_neg c, if_neg c]
    have he : a.Lots.length = b.Lots.length := by
      simp only [Bool.or_eq_true, not_or, bne_iff_ne, ne_eq, Decidable.not_not] at c
      omega
    obtain ⟨o, o1, o2⟩ := against_loop a b ba bb ha hb hl he a.Lots.length 0 (by omega)
    have o1' : loop (leg_Against.r0 a b) 0 = some o := o1
    have o2' : loop (lombardref25_Against.r0 a b) 0 = some o := o2
    rw [o1', o2']
    cases o with
    | inl v => exact ⟨v, rfl, rfl⟩
    | inr u => exact ⟨true, rfl, rfl⟩

theorem Pure.LegOrders : ∀ (x0 : List api_Leg) (x1 : api_Leg) (x2 : api_Leg), (x0.length * 56 ≤ reach ∧ ∀ y ∈ x0, api_Leg.bd y) → (api_Leg.bd x1) → (api_Leg.bd x2) → lombardlaw25_LegOrders.f x0 x1 x2 = some true := by
  intro l a b hl ba bb
  unfold lombardlaw25_LegOrders.f
  by_cases c : (((((decide ((List.length l : Int) > 100)) || (decide ((List.length a.Lots : Int) > 100))) || (decide ((List.length b.Lots : Int) > 100))) || (decide (a.Cash < (-4611686018427387904)))) || (decide (b.Cash < (-4611686018427387904)))) = true
  · rw [if_pos c, awake_is]; rfl
  · rw [if_neg c]
    simp only [Bool.or_eq_true, not_or, decide_eq_true_eq] at c
    obtain ⟨⟨⟨⟨c1, c2⟩, c3⟩, c4⟩, c5⟩ := c
    rcases low0 a (by omega) a.Lots.length 0 (by omega) (fun k hk => by omega) with e | ⟨la, e⟩
    · have e' : loop (lombardlaw25_LegOrders.r0 a) 0 = _ := e
      rw [e']; rfl
    · have e' : loop (lombardlaw25_LegOrders.r0 a) 0 = _ := e
      rw [e', Option.bind_some]
      dsimp only
      rcases low1 b (by omega) b.Lots.length 0 (by omega) (fun k hk => by omega) with f | ⟨lb, f⟩
      · have f' : loop (lombardlaw25_LegOrders.r1 b) 0 = _ := f
        rw [f']; rfl
      · have f' : loop (lombardlaw25_LegOrders.r1 b) 0 = _ := f
        obtain ⟨M, m1, m2, m3, m4⟩ := orders l (by omega)
        obtain ⟨v, v1, v2⟩ := against_is a b ba bb la lb (by omega) (by omega) (by omega)
        have few : Few M := fun x hx => by
          have h := (hl.2 x (m4 x hx)).2.2.2.2.1.1
          unfold reach at h; omega
        rw [f', Option.bind_some]
        dsimp only
        rw [m1, Option.bind_some, m2, Option.bind_some, legs_same M few (by omega), Option.bind_some, if_pos rfl, v1, Option.bind_some, if_pos rfl, v2, Option.bind_some, beq_self_eq_true, if_pos (by rfl), awake_is]
        rfl
end Go.Proofs.Ytlgfdldonoaahaa

