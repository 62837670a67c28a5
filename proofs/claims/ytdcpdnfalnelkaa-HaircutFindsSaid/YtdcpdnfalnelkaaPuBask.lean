/- Shows that a basket's rules are looked at to the end, and that its haircut for a security is the document's. -/
import Derived.Test.YtdcpdnfalnelkaaPuCut
namespace Go.Proofs.Ytdcpdnfalnelkaa
open Go Go.Pm Go.Pm.Arith
set_option linter.unusedVariables false

theorem currency_loop (s : Bs) : ∀ j i : Nat, i + j = 8 → ∃ o, loop (lombardref05_Currency.r0 s) ((4 * i : Nat) : Int) = some o
  | 0, i, h => ⟨.inr (), loop_end (by unfold lombardref05_Currency.r0 lombardref05_Currency.b0; rw [if_neg (by simp; omega)])⟩
  | j + 1, i, h => by
    have w3 : IntKind.i64.wrap (((4 * i : Nat) : Int) + 3) = ((4 * i + 3 : Nat) : Int) := by rw [i64_id _ (by omega) (by omega)]; omega
    have w4 : IntKind.i64.wrap (((4 * i : Nat) : Int) + 4) = ((4 * (i + 1) : Nat) : Int) := by rw [i64_id _ (by omega) (by omega)]; omega
    have key : ∃ b : Bool, lombardref05_Currency.r0 s ((4 * i : Nat) : Int) = if b = true then some (.inr (.inl true)) else some (.inl ((4 * (i + 1) : Nat) : Int)) := by
      unfold lombardref05_Currency.r0 lombardref05_Currency.b0
      rw [if_pos (decide_eq_true (by omega)), w3, w4, if_pos (by simp; omega)]
      exact ⟨_, rfl⟩
    obtain ⟨b, key⟩ := key
    cases b with
    | true => exact ⟨_, loop_end key⟩
    | false =>
      obtain ⟨o, ho⟩ := currency_loop s j (i + 1) (by omega)
      exact ⟨o, by rw [loop_next key, ho]⟩

theorem currency_is (s : Bs) : ∃ b, lombardref05_Currency.f s = some b := by
  obtain ⟨o, ho⟩ := currency_loop s 8 0 rfl
  have ho' : loop (lombardref05_Currency.r0 s) 0 = some o := ho
  unfold lombardref05_Currency.f
  rw [ho']
  cases o <;> exact ⟨_, rfl⟩

theorem cuts_loop (x : api_Basket) (hl : x.Cuts.length < 100000000000000) : ∀ j i : Nat, x.Cuts.length = i + j → ∃ o, loop (lombardref10_Basket.r0 x) (i : Int) = some o
  | 0, i, h => ⟨.inr (), loop_end (by unfold lombardref10_Basket.r0 lombardref10_Basket.b0; rw [if_neg (by simp; omega)])⟩
  | j + 1, i, h => by
    have w : IntKind.i64.wrap ((i : Int) + 1) = ((i + 1 : Nat) : Int) := next64 i (by omega)
    have g : (0 : Int) ≤ (i : Int) ∧ (i : Int) < (x.Cuts.length : Int) := in_nat (by omega)
    have key : ∃ b : Bool, lombardref10_Basket.r0 x (i : Int) = if b = true then some (.inr (.inl 1)) else some (.inl ((i + 1 : Nat) : Int)) := by
      unfold lombardref10_Basket.r0 lombardref10_Basket.b0 lombardref10_in.f
      rw [if_pos (decide_eq_true g.2), if_pos g, Option.bind_some, if_pos (fun _ => g), w]
      generalize (decide ((nth x.Cuts (i : Int)).Days ≥ 0) && decide ((nth x.Cuts (i : Int)).Days ≤ 200000)) = a
      generalize (decide ((nth x.Cuts (i : Int)).Rating ≥ 0) && decide ((nth x.Cuts (i : Int)).Rating ≤ 20)) = b
      generalize (decide ((nth x.Cuts (i : Int)).Cut ≥ 0) && decide ((nth x.Cuts (i : Int)).Cut ≤ 999999)) = c
      cases a
      · exact ⟨true, by simp [g]⟩
      · cases b
        · exact ⟨true, by simp [g]⟩
        · cases c
          · exact ⟨true, by simp [g]⟩
          · exact ⟨false, by simp [g]⟩
    obtain ⟨b, key⟩ := key
    cases b with
    | true => exact ⟨_, loop_end key⟩
    | false =>
      obtain ⟨o, ho⟩ := cuts_loop x hl j (i + 1) (by omega)
      exact ⟨o, by rw [loop_next key, ho]⟩

theorem barred_loop (x : api_Basket) (hl : x.Barred.length < 100000000000000) : ∀ j i : Nat, x.Barred.length = i + j → ∃ o, loop (lombardref10_Basket.r1 x) (i : Int) = some o
  | 0, i, h => ⟨.inr (), loop_end (by unfold lombardref10_Basket.r1 lombardref10_Basket.b1; rw [if_neg (by simp; omega)])⟩
  | j + 1, i, h => by
    have w : IntKind.i64.wrap ((i : Int) + 1) = ((i + 1 : Nat) : Int) := next64 i (by omega)
    have g : (0 : Int) ≤ (i : Int) ∧ (i : Int) < (x.Barred.length : Int) := in_nat (by omega)
    have key : ∃ b : Bool, lombardref10_Basket.r1 x (i : Int) = if b = true then some (.inr (.inl 1)) else some (.inl ((i + 1 : Nat) : Int)) := by
      unfold lombardref10_Basket.r1 lombardref10_Basket.b1 lombardref10_in.f
      rw [if_pos (decide_eq_true g.2), if_pos g, Option.bind_some, if_pos (fun _ => g), if_pos (fun h => by
        have := of_decide_eq_true h.2
        rw [i64_id _ (by omega) (by omega)]; omega), w]
      exact ⟨_, rfl⟩
    obtain ⟨b, key⟩ := key
    cases b with
    | true => exact ⟨_, loop_end key⟩
    | false =>
      obtain ⟨o, ho⟩ := barred_loop x hl j (i + 1) (by omega)
      exact ⟨o, by rw [loop_next key, ho]⟩

theorem guarded (a : Bool) (x y z : Int) : ∃ b, (if a = false then lombardref10_in.f x y z else some default) = some b := by
  cases a <;> exact ⟨_, rfl⟩
theorem guarded2 (a : Bool) (x : Int) : ∃ b, (if a = false then lombardref10_Amount.f x else some default) = some b := by
  cases a <;> exact ⟨_, rfl⟩

theorem basket_is (x : api_Basket) (hc : x.Cuts.length < 100000000000000) (hb : x.Barred.length < 100000000000000) : ∃ r, lombardref10_Basket.f x = some r := by
  unfold lombardref10_Basket.f
  obtain ⟨b1, e1⟩ : ∃ b, lombardref10_in.f x.ID 1 64 = some b := ⟨_, rfl⟩
  rw [e1, Option.bind_some]
  obtain ⟨b2, e2⟩ := guarded2 (!b1) x.Version
  rw [e2, Option.bind_some]
  obtain ⟨b3, e3⟩ := guarded ((!b1) || (!b2)) x.Rating 0 20
  rw [e3, Option.bind_some]
  obtain ⟨b4, e4⟩ := guarded (((!b1) || (!b2)) || (!b3)) x.Issuer 0 1000000
  rw [e4, Option.bind_some]
  obtain ⟨b5, e5⟩ := guarded ((((!b1) || (!b2)) || (!b3)) || (!b4)) x.Asset 0 1000000
  rw [e5, Option.bind_some]
  obtain ⟨b6, e6⟩ := guarded (((((!b1) || (!b2)) || (!b3)) || (!b4)) || (!b5)) (List.length x.Cuts : Int) 1 64
  rw [e6, Option.bind_some]
  split
  · exact ⟨_, rfl⟩
  obtain ⟨b7, e7⟩ := guarded (decide (x.Least < 0)) x.Most x.Least 200000
  rw [e7, Option.bind_some]
  split
  · exact ⟨_, rfl⟩
  obtain ⟨b8, e8⟩ := currency_is x.Currency
  rw [e8, Option.bind_some]
  split
  · exact ⟨_, rfl⟩
  obtain ⟨o, ho⟩ := cuts_loop x hc x.Cuts.length 0 (by omega)
  have ho' : loop (lombardref10_Basket.r0 x) 0 = some o := ho
  rw [ho', Option.bind_some]
  cases o with
  | inl r => exact ⟨_, rfl⟩
  | inr r =>
    obtain ⟨o, ho⟩ := barred_loop x hb x.Barred.length 0 (by omega)
    have ho' : loop (lombardref10_Basket.r1 x) 0 = some o := ho
    simp only [ho', Option.bind_some]
    cases o with
    | inl r => exact ⟨r, rfl⟩
    | inr w => exact ⟨0, rfl⟩

theorem of_loops (x : api_Basket) (a : api_Asset) (t : Int) (ht : 0 ≤ t) (hl : x.Cuts.length < 100000000000000) : ∀ j i : Nat, x.Cuts.length = i + j →
    ∃ o, loop (haircut_Of.r0 x a t) (i : Int) = some o ∧ loop (lombardref15_Of.r0 x a t) (i : Int) = some o
  | 0, i, h => ⟨.inr (), loop_end (by unfold haircut_Of.r0 haircut_Of.b0; rw [if_neg (by simp; omega)]), loop_end (by unfold lombardref15_Of.r0 lombardref15_Of.b0; rw [if_neg (by simp; omega)])⟩
  | j + 1, i, h => by
    have w : IntKind.i64.wrap ((i : Int) + 1) = ((i + 1 : Nat) : Int) := next64 i (by omega)
    have g : (0 : Int) ≤ (i : Int) ∧ (i : Int) < (x.Cuts.length : Int) := in_nat (by omega)
    have k1 : haircut_Of.r0 x a t (i : Int) = if (decide (t ≤ (nth x.Cuts (i : Int)).Days) && decide (a.Rating ≤ (nth x.Cuts (i : Int)).Rating)) = true then some (.inr (.inl ((nth x.Cuts (i : Int)).Cut, true))) else some (.inl ((i + 1 : Nat) : Int)) := by
      unfold haircut_Of.r0 haircut_Of.b0
      rw [if_pos (decide_eq_true g.2), if_pos g, w]
    have k2 : lombardref15_Of.r0 x a t (i : Int) = if (decide (t ≤ (nth x.Cuts (i : Int)).Days) && decide (a.Rating ≤ (nth x.Cuts (i : Int)).Rating)) = true then some (.inr (.inl ((nth x.Cuts (i : Int)).Cut, true))) else some (.inl ((i + 1 : Nat) : Int)) := by
      unfold lombardref15_Of.r0 lombardref15_Of.b0
      rw [if_pos (by rw [decide_eq_true g.2, decide_eq_true ht]; rfl), if_pos g, if_pos (fun _ => g), if_pos g, w]
    by_cases c : (decide (t ≤ (nth x.Cuts (i : Int)).Days) && decide (a.Rating ≤ (nth x.Cuts (i : Int)).Rating)) = true
    · rw [if_pos c] at k1 k2
      exact ⟨_, loop_end k1, loop_end k2⟩
    · rw [if_neg c] at k1 k2
      obtain ⟨o, h1, h2⟩ := of_loops x a t ht hl j (i + 1) (by omega)
      exact ⟨o, by rw [loop_next k1, h1], by rw [loop_next k2, h2]⟩

theorem of_both (x : api_Basket) (a : api_Asset) (d : Int) (hc : x.Cuts.length < 100000000000000) : ∃ z, haircut_Of.f x a d = some z ∧ lombardref15_Of.f x a d = some z := by
  unfold haircut_Of.f lombardref15_Of.f asset_Left.f lombardref13_Left.f
  have n : ∀ t : Int, t < 0 → loop (lombardref15_Of.r0 x a t) 0 = some (.inr ()) := fun t ht => loop_end (by
    unfold lombardref15_Of.r0 lombardref15_Of.b0
    rw [if_neg (by simp; omega)])
  have P : ∀ t : Int, ∃ z, (if decide (t < 0) = true then some ((0 : Int), false) else (loop (haircut_Of.r0 x a t) 0).bind fun o18 => match o18 with | .inl r25 => some r25 | .inr w17 => some (0, false)) = some z ∧
      ((loop (lombardref15_Of.r0 x a t) 0).bind fun o26 => match o26 with | .inl r36 => some r36 | .inr w25 => some (0, false)) = some z := fun t => by
    by_cases ht : t < 0
    · rw [if_pos (decide_eq_true ht), n t ht]
      exact ⟨_, rfl, rfl⟩
    · rw [if_neg (by simpa using ht)]
      obtain ⟨o, h1, h2⟩ := of_loops x a t (by omega) hc x.Cuts.length 0 (by omega)
      have h1' : loop (haircut_Of.r0 x a t) 0 = some o := h1
      have h2' : loop (lombardref15_Of.r0 x a t) 0 = some o := h2
      rw [h1', h2']
      cases o <;> exact ⟨_, rfl, rfl⟩
  split
  · rw [Option.bind_some, Option.bind_some]; exact P (-1)
  · rw [Option.bind_some, Option.bind_some]; exact P _

end Go.Proofs.Ytdcpdnfalnelkaa

