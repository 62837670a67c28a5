/- The plain statement of LegTwins: the legs of a trade and of its twin stand against each other. -/
import Derived.Test.YtlgfdldonoaahaaPuLeg
import Derived.Test.YtlgfdldonoaahaaGx15
namespace Go.Proofs.Ytlgfdldonoaahaa
open Go Go.Pm Go.Pm.Arith Go.Pm.Big
set_option linter.unusedVariables false
set_option linter.unusedSimpArgs false

theorem neg_zero (a : Int) : IntKind.wrap .i64 (a + IntKind.wrap .i64 (-a)) = 0 ∧ IntKind.wrap .i64 (IntKind.wrap .i64 (-a) + a) = 0 := by
  rw [i64_wrap, i64_wrap, i64_wrap]; omega

theorem against_lots (p q : api_Leg) (l : List api_Lot) (neg : Bool) (hp : p.Lots = signed l neg) (hq : q.Lots = signed l (!neg)) (hl : l.length ≤ 64) : ∀ j i : Nat, l.length = i + j → loop (lombardref25_Against.r0 p q) (i : Int) = some (.inr ())
  | 0, i, h => loop_end (by unfold lombardref25_Against.r0 lombardref25_Against.b0; rw [hp, if_neg (by unfold signed; simp; omega)])
  | j + 1, i, h => by
    have w : IntKind.i64.wrap ((i : Int) + 1) = ((i + 1 : Nat) : Int) := next64 i (by omega)
    have n : ∀ b : Bool, nth (signed l b) (i : Int) = ⟨(nth l (i : Int)).ISIN, if b = true then IntKind.wrap .i64 (0 - (nth l (i : Int)).Qty) else (nth l (i : Int)).Qty⟩ := fun b => by
      show (signed l b).getD i default = _
      unfold signed
      rw [List.getD_eq_getElem?_getD, List.getElem?_map, List.getElem?_eq_getElem (by omega)]
      show (⟨(l[i]'_).ISIN, if b = true then IntKind.wrap .i64 (0 - (l[i]'_).Qty) else (l[i]'_).Qty⟩ : api_Lot) = _
      have e : nth l (i : Int) = l[i]'(by omega) := by
        show l.getD i default = _
        rw [List.getD_eq_getElem?_getD, List.getElem?_eq_getElem (by omega)]; rfl
      rw [e]
    have gp : (0 : Int) ≤ (i : Int) ∧ (i : Int) < (p.Lots.length : Int) := by rw [hp]; unfold signed; simp; omega
    have gq : (0 : Int) ≤ (i : Int) ∧ (i : Int) < (q.Lots.length : Int) := by rw [hq]; unfold signed; simp; omega
    have z := neg_zero (nth l (i : Int)).Qty
    have key : lombardref25_Against.r0 p q (i : Int) = some (.inl ((i + 1 : Nat) : Int)) := by
      unfold lombardref25_Against.r0 lombardref25_Against.b0
      rw [if_pos (decide_eq_true gp.2), if_pos gp, if_pos gq, if_pos (fun _ => gp), if_pos (fun _ => gq), hp, hq, n, n, w]
      cases neg
      · simp [z.1]
      · simp [z.2]
    rw [loop_next key]
    exact against_lots p q l neg hp hq hl j (i + 1) (by omega)

theorem against_is (x y : lombardref25_Covered) (hl : x.Lots.length ≤ 64) (he : y.Lots = x.Lots) (d c : Int) (neg : Bool) : lombardref25_Against.f (legOf x d c neg) (legOf y d c (!neg)) = some true := by
  have e := against_lots (legOf x d c neg) (legOf y d c (!neg)) x.Lots neg rfl (by unfold legOf; rw [he]) hl x.Lots.length 0 (by omega)
  have e' : loop (lombardref25_Against.r0 (legOf x d c neg) (legOf y d c (!neg))) 0 = some (.inr ()) := e
  have z := neg_zero c
  unfold lombardref25_Against.f
  rw [e', if_neg]
  · rfl
  · rw [leg_len, leg_len, he]
    unfold legOf
    cases neg
    · simp [z.2]
    · simp [z.1]

theorem against_none : lombardref25_Against.f noLeg noLeg = some true := by
  have e : loop (lombardref25_Against.r0 noLeg noLeg) 0 = some (.inr ()) := loop_end (by decide)
  unfold lombardref25_Against.f
  rw [if_neg (by decide), e]; rfl

/-- The twin of a covered trade. -/
def twin (x : lombardref25_Covered) (m : Int) : lombardref25_Covered :=
  ⟨(⟨x.Trade.Twin, x.Trade.ID, m, (IntKind.wrap .i64 (3 - x.Trade.Side)), x.Trade.Basket, x.Trade.Amount, x.Trade.Start, x.Trade.End, x.Trade.Resets, x.Trade.Stage, x.Trade.Short⟩ : api_Trade), x.Lots⟩

theorem inK64 {a : Int} (h : inI64 a) : inK .i64 a := by
  unfold inI64 at h
  unfold inK
  simp [IntKind.min, IntKind.max, IntKind.signed, IntKind.bits]; omega

theorem Pure.LegTwins : ∀ (x0 : lombardref25_Covered) (x1 : Int), (lombardref25_Covered.bd x0) → (inK .i64 x1) → lombardlaw25_LegTwins.f x0 x1 = some true := by
  intro x m hx hm
  have hy : lombardref25_Covered.bd (twin x m) := by
    obtain ⟨⟨h1, h2, h3, h4, h5, h6, h7, h8, h9, h10, h11⟩, h12, h13⟩ := hx
    exact ⟨⟨h2, h1, hm, inK64 (show inI64 (IntKind.wrap .i64 (3 - x.Trade.Side)) by unfold inI64; rw [i64_wrap]; omega), h5, h6, h7, h8, h9, h10, h11⟩, h12, h13⟩
  obtain ⟨b1, -⟩ := begin_is x hx
  obtain ⟨b2, -⟩ := begin_is (twin x m) hy
  obtain ⟨e1, -⟩ := end_is x hx
  obtain ⟨e2, -⟩ := end_is (twin x m) hy
  have b2' : leg_Covered_Begin.f (⟨(⟨x.Trade.Twin, x.Trade.ID, m, (IntKind.wrap .i64 (3 - x.Trade.Side)), x.Trade.Basket, x.Trade.Amount, x.Trade.Start, x.Trade.End, x.Trade.Resets, x.Trade.Stage, x.Trade.Short⟩ : api_Trade), x.Lots⟩ : leg_Covered) = _ := b2
  have e2' : leg_Covered_End.f (⟨(⟨x.Trade.Twin, x.Trade.ID, m, (IntKind.wrap .i64 (3 - x.Trade.Side)), x.Trade.Basket, x.Trade.Amount, x.Trade.Start, x.Trade.End, x.Trade.Resets, x.Trade.Stage, x.Trade.Short⟩ : api_Trade), x.Lots⟩ : leg_Covered) = _ := e2
  unfold lombardlaw25_LegTwins.f lombardlaw25_short.f lombardlaw25_of.f
  simp only [Option.bind_some]
  rw [awake_is, b1, b2', e1, e2']
  simp only [Option.bind_some]
  split
  · rfl
  · by_cases z1 : wrongOf x = 0
    · by_cases z2 : wrongOf (twin x m) = 0
      · obtain ⟨t1, hl⟩ := wrong_zero z1
        obtain ⟨t2, -⟩ := wrong_zero z2
        have B1 : beginOf x = (legOf x x.Trade.Start x.Trade.Amount (x.Trade.Side == 1), 0) := if_pos z1
        have B2 : beginOf (twin x m) = (legOf (twin x m) x.Trade.Start x.Trade.Amount ((twin x m).Trade.Side == 1), 0) := if_pos z2
        have s1 : ((twin x m).Trade.Side == 1) = !(x.Trade.Side == 1) := by
          show (IntKind.wrap .i64 (3 - x.Trade.Side) == 1) = _
          rcases (tchk_zero t1).1 with k | k <;> rw [k] <;> rfl
        have s2 : ((twin x m).Trade.Side == 2) = !(x.Trade.Side == 2) := by
          show (IntKind.wrap .i64 (3 - x.Trade.Side) == 2) = _
          rcases (tchk_zero t1).1 with k | k <;> rw [k] <;> rfl
        rw [B1, B2, s1, if_neg (by simp), against_is x (twin x m) hl rfl]
        simp only [Option.bind_some]
        have ow : owedOf (twin x m).Trade = owedOf x.Trade := rfl
        have te : (twin x m).Trade.End = x.Trade.End := rfl
        have E : (endOf x).2 = (endOf (twin x m)).2 ∧ lombardref25_Against.f (endOf x).1 (endOf (twin x m)).1 = some true := by
          unfold endOf
          rw [if_pos z1, if_pos z2, ow, te]
          by_cases e : x.Trade.End = 0
          · rw [if_pos e, if_pos e]
            exact ⟨rfl, against_none⟩
          · rw [if_neg e, if_neg e]
            by_cases c : (owedOf x.Trade).2 = 0
            · rw [if_pos c, if_pos c, s2]
              exact ⟨rfl, against_is x (twin x m) hl rfl _ _ _⟩
            · rw [if_neg c, if_neg c]
              exact ⟨rfl, against_none⟩
        rw [← E.1, E.2]
        simp
      · have B2 : beginOf (twin x m) = (noLeg, wrongOf (twin x m)) := if_neg z2
        rw [B2, if_pos (by simp [z2])]
    · have B1 : beginOf x = (noLeg, wrongOf x) := if_neg z1
      rw [B1, if_pos (by simp [z1])]

end Go.Proofs.Ytlgfdldonoaahaa

