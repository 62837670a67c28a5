/- The plain statement of MsgBack: what is encoded is decoded as it was, and what is decoded encoded. -/
import Derived.Test.YtbmokbkgielmmaaPuAw10
import Derived.Test.YtbmokbkgielmmaaPuSame10
import Derived.Test.YtbmokbkgielmmaaPuDecd10
import Derived.Test.YtbmokbkgielmmaaPuGetB10
namespace Go.Proofs.Ytbmokbkgielmmaa
open Go Go.Pm Go.Pm.Arith
set_option linter.unusedVariables false
set_option linter.unusedSimpArgs false

theorem flat64 {α : Type} (E : α → List Int) (K : Nat) (l : List α) (hl : l.length ≤ 64) (h : ∀ y ∈ l, (E y).length ≤ K) : (l.flatMap E).length ≤ K * 64 := by
  have := flat_len E K l h
  exact Nat.le_trans this (Nat.mul_le_mul_left K hl)

theorem eMsg_len (m : msg_Message) (h : Fit m) : (eMsg m).length ≤ 100000 := by
  cases m with
  | nil => simp [eMsg]
  | cmsg_Join x =>
    have := eI_len x.Member; have := eT_len x.Name 160 h
    simp only [eMsg, List.length_append]; omega
  | cmsg_List x =>
    have := eT_len _ _ h.1; have := eT_len _ _ h.2; have := eI_len x.Asset.Issuer; have := eI_len x.Asset.Rating; have := eI_len x.Asset.Maturity
    simp only [eMsg, eAsset, List.length_append]; omega
  | cmsg_Rules x =>
    have := nums_len [x.Basket.ID, x.Basket.Version, x.Basket.Rating, x.Basket.Least, x.Basket.Most, x.Basket.Issuer, x.Basket.Asset] 7 (Nat.le_refl _)
    have := eT_len _ _ h.1; have := eU_len (x.Basket.Cuts.length : Int); have := eU_len (x.Basket.Barred.length : Int)
    have := flat64 eCut 30 _ h.2.1 (fun y _ => eCut_len y); have := flat64 eI 10 _ h.2.2 (fun y _ => eI_len y)
    simp only [eMsg, eBasket, List.length_append]; omega
  | cmsg_Prices x =>
    have := eU_len (x.L.length : Int); have := flat64 ePrice 32 _ h.1 (fun y hy => ePrice_len y (h.2 y hy))
    simp only [eMsg, List.length_append]; omega
  | cmsg_Roll x => have := eI_len x.Day; simp only [eMsg]; omega
  | cmsg_Cash x =>
    have := nums_len [x.Member, x.Amount] 2 (Nat.le_refl _); have := eT_len x.Currency 12 h
    simp only [eMsg, List.length_append]; omega
  | cmsg_Move x =>
    have := nums_len [x.Member, x.Qty] 2 (Nat.le_refl _); have := eT_len x.ISIN 12 h
    simp only [eMsg, List.length_append]; omega
  | cmsg_Offer x =>
    have := nums_len [x.Quote.ID, x.Quote.Member, x.Quote.Side, x.Quote.Basket, x.Quote.Amount, x.Quote.Rate, x.Quote.Start, x.Quote.End] 8 (Nat.le_refl _)
    simp only [eMsg, eQuote]; omega
  | cmsg_Cancel x => have := nums_len [x.Member, x.Quote] 2 (Nat.le_refl _); simp only [eMsg]; omega
  | cmsg_Notice x => have := nums_len [x.Member, x.Trade, x.Day] 3 (Nat.le_refl _); simp only [eMsg]; omega
  | cmsg_Swap x =>
    have := eI_len x.Member; have := eI_len x.Trade; have := eLot_len _ h.1; have := eU_len (x.In.length : Int); have := flat64 eLot 32 _ h.2.1 (fun y hy => eLot_len y (h.2.2 y hy))
    simp only [eMsg, eSwap, List.length_append]; omega
  | cmsg_Settle x =>
    have := nums_len [x.Member, x.Day] 2 (Nat.le_refl _)
    simp only [eMsg, eB, List.length_append, List.length_singleton]; omega
  | cmsg_Default x => have := eI_len x.Member; simp only [eMsg]; omega
  | cmsg_Bound x => have := nums_len [x.Member, x.Amount] 2 (Nat.le_refl _); simp only [eMsg]; omega
  | cmsg_Reset x => have := nums_len [x.Trade, x.Day, x.Rate] 3 (Nat.le_refl _); simp only [eMsg]; omega

theorem kd_in (m : msg_Message) : 0 ≤ kd m ∧ kd m ≤ 15 := by cases m <;> simp [kd]
theorem kd_nil (m : msg_Message) (h : m ≠ .nil) : m.isNil = false := by cases m <;> first | exact absurd rfl h | rfl

/-- What is encoded is decoded. -/
theorem dec_enc (m : msg_Message) (hc : msg_Check.f m = some 0) (hf : Fit m) (hn : m ≠ .nil) (hw : Wd m) : msg_Decode.f (toB (eI (kd m) ++ eMsg m)) = some (m, ((toB (eI (kd m) ++ eMsg m)).length : Int), 0) := by
  have l1 := eI_len (kd m)
  have l2 := eMsg_len m hf
  generalize hsd : toB (eI (kd m) ++ eMsg m) = s
  have sl : s.length = (eI (kd m)).length + (eMsg m).length := by rw [← hsd, toB_len, List.length_append]
  have hl : Lies s 0 (eI (kd m) ++ eMsg m) := ⟨[], by rw [hsd, List.append_nil, List.drop_zero]⟩
  have hs : s.length < 1000000000 := by omega
  obtain ⟨k0, k1⟩ := kd_in m
  have hk : inK .i64 (kd m) := ⟨by show -9223372036854775808 ≤ kd m; omega, by show kd m ≤ 9223372036854775807; omega⟩
  have r1 : wire_Reader_Int.f ⟨s, 0, 0⟩ = _ := rt_int hs hk hl.left
  have r2 := rt_get hs m hf hw hl.right
  rw [Nat.zero_add] at r1 r2
  unfold msg_Decode.f wire_NewReader.f
  rw [Option.bind_some, r1, Option.bind_some]
  simp only
  rw [r2, Option.bind_some]
  unfold wire_Reader_Err.f
  rw [Option.bind_some, kd_nil m hn, if_neg (by simp), show (eI (kd m)).length + (eMsg m).length = s.length from sl.symm, end_done, Option.bind_some, if_neg (by intro h; cases h), hc, Option.bind_some, if_neg (by decide)]

/-- What a message of the program's says is the document's, without what its kind has not. -/
theorem told_plain (m : lombardref10_Msg) (hm : lombardref10_Msg.bd m) : ∃ x, lombardlaw10_Of.f m = some x ∧ Wd x ∧ (x ≠ .nil → ∃ t, lombardlaw10_Told.f x = some t ∧ lombardref10_Plain.f m = some t ∧
    t.Prices.length ≤ m.Prices.length ∧ t.In.length ≤ m.In.length ∧ t.Basket.Cuts.length ≤ m.Basket.Cuts.length ∧ t.Basket.Barred.length ≤ m.Basket.Barred.length) := by
  obtain ⟨K, a1, a2, a3, a4, a5, a6, a7, a8, Q, a9, a10, a11, a12, a13⟩ := m
  obtain ⟨_, w1, _, w3, w4, w5, w6, _, w8, wQ, w9, w10, w11, _, w13, _⟩ := hm
  by_cases hk : K = 1 ∨ K = 2 ∨ K = 3 ∨ K = 4 ∨ K = 5 ∨ K = 6 ∨ K = 7 ∨ K = 8 ∨ K = 9 ∨ K = 10 ∨ K = 11 ∨ K = 12 ∨ K = 13 ∨ K = 14 ∨ K = 15
  · rcases hk with rfl | rfl | rfl | rfl | rfl | rfl | rfl | rfl | rfl | rfl | rfl | rfl | rfl | rfl | rfl
    · exact ⟨_, rfl, w1, fun _ => ⟨_, rfl, rfl, by refine ⟨?_, ?_, ?_, ?_⟩ <;> first | exact Nat.le_refl _ | exact Nat.zero_le _⟩⟩
    · exact ⟨_, rfl, w3, fun _ => ⟨_, rfl, rfl, by refine ⟨?_, ?_, ?_, ?_⟩ <;> first | exact Nat.le_refl _ | exact Nat.zero_le _⟩⟩
    · exact ⟨_, rfl, w4, fun _ => ⟨_, rfl, rfl, by refine ⟨?_, ?_, ?_, ?_⟩ <;> first | exact Nat.le_refl _ | exact Nat.zero_le _⟩⟩
    · exact ⟨_, rfl, w5.2, fun _ => ⟨_, rfl, rfl, by refine ⟨?_, ?_, ?_, ?_⟩ <;> first | exact Nat.le_refl _ | exact Nat.zero_le _⟩⟩
    · exact ⟨_, rfl, w6, fun _ => ⟨_, rfl, rfl, by refine ⟨?_, ?_, ?_, ?_⟩ <;> first | exact Nat.le_refl _ | exact Nat.zero_le _⟩⟩
    · exact ⟨_, rfl, ⟨w1, w8⟩, fun _ => ⟨_, rfl, rfl, by refine ⟨?_, ?_, ?_, ?_⟩ <;> first | exact Nat.le_refl _ | exact Nat.zero_le _⟩⟩
    · exact ⟨_, rfl, ⟨w1, w8⟩, fun _ => ⟨_, rfl, rfl, by refine ⟨?_, ?_, ?_, ?_⟩ <;> first | exact Nat.le_refl _ | exact Nat.zero_le _⟩⟩
    · exact ⟨_, rfl, wQ, fun _ => ⟨_, rfl, rfl, by refine ⟨?_, ?_, ?_, ?_⟩ <;> first | exact Nat.le_refl _ | exact Nat.zero_le _⟩⟩
    · exact ⟨_, rfl, ⟨w1, w8⟩, fun _ => ⟨_, rfl, rfl, by refine ⟨?_, ?_, ?_, ?_⟩ <;> first | exact Nat.le_refl _ | exact Nat.zero_le _⟩⟩
    · exact ⟨_, rfl, ⟨w1, w11, w6⟩, fun _ => ⟨_, rfl, rfl, by refine ⟨?_, ?_, ?_, ?_⟩ <;> first | exact Nat.le_refl _ | exact Nat.zero_le _⟩⟩
    · exact ⟨_, rfl, ⟨w1, w11, w9, w10.2⟩, fun _ => ⟨_, rfl, rfl, by refine ⟨?_, ?_, ?_, ?_⟩ <;> first | exact Nat.le_refl _ | exact Nat.zero_le _⟩⟩
    · exact ⟨_, rfl, ⟨w1, w6⟩, fun _ => ⟨_, rfl, rfl, by refine ⟨?_, ?_, ?_, ?_⟩ <;> first | exact Nat.le_refl _ | exact Nat.zero_le _⟩⟩
    · exact ⟨_, rfl, w1, fun _ => ⟨_, rfl, rfl, by refine ⟨?_, ?_, ?_, ?_⟩ <;> first | exact Nat.le_refl _ | exact Nat.zero_le _⟩⟩
    · exact ⟨_, rfl, ⟨w1, w8⟩, fun _ => ⟨_, rfl, rfl, by refine ⟨?_, ?_, ?_, ?_⟩ <;> first | exact Nat.le_refl _ | exact Nat.zero_le _⟩⟩
    · exact ⟨_, rfl, ⟨w11, w6, w13⟩, fun _ => ⟨_, rfl, rfl, by refine ⟨?_, ?_, ?_, ?_⟩ <;> first | exact Nat.le_refl _ | exact Nat.zero_le _⟩⟩
  · refine ⟨.nil, ?_, trivial, fun h => absurd rfl h⟩
    have ne : ∀ n : Int, 1 ≤ n → n ≤ 15 → (K == n) = false := fun n h1 h2 => by
      rw [beq_eq_false_iff_ne]; intro e; subst e; apply hk; omega
    unfold lombardlaw10_Of.f
    simp only
    rw [ne 1 (by decide) (by decide), ne 2 (by decide) (by decide), ne 3 (by decide) (by decide), ne 4 (by decide) (by decide), ne 5 (by decide) (by decide), ne 6 (by decide) (by decide), ne 7 (by decide) (by decide), ne 8 (by decide) (by decide),
      ne 9 (by decide) (by decide), ne 10 (by decide) (by decide), ne 11 (by decide) (by decide), ne 12 (by decide) (by decide), ne 13 (by decide) (by decide), ne 14 (by decide) (by decide), ne 15 (by decide) (by decide)]
    rfl

theorem second (s : Bs) (hs : s.length < 1000000000) : ((msg_Decode.f s).bind fun t39 =>
      if (t39.2.2 != 0) = true then
        (if t39.1.isNil = true then lombardlaw10_awake.f else some default).bind fun t42 =>
        some (t39.1.isNil && t42)
      else
        (msg_Encode.f t39.1).bind fun t45 =>
        (if ((t45.2 == 0) && (t45.1 == s)) = true then lombardlaw10_awake.f else some default).bind fun t47 =>
        some (((t45.2 == 0) && (t45.1 == s)) && t47)) = some true := by
  obtain ⟨m, n, g, h1, h2, h3⟩ := dec_all s hs
  rw [h1, Option.bind_some]
  by_cases z : g = 0
  · obtain ⟨_, a2, a3, a4⟩ := h3 z
    obtain ⟨v, v1, v2⟩ := check_tot m
    rw [a2] at v1
    cases v1
    subst z
    rw [if_neg (by intro h; cases h), enc_all m 0 a2 v2, if_pos rfl, Option.bind_some, ← a4]
    simp [awake_is]
  · rw [if_pos (by simpa using z), h2 z]
    simp [awake_is, msg_Message.isNil]

theorem Pure.MsgBack : ∀ (x0 : lombardref10_Msg) (x1 : Bs), (lombardref10_Msg.bd x0) → (x1.length ≤ reach) → lombardlaw10_MsgBack.f x0 x1 = some true := by
  intro m s hm _
  have hsm : ∃ t, lombardref10_Small.f m = some t ∧ (t = true → m.Prices.length ≤ 100 ∧ m.In.length ≤ 100 ∧ m.Basket.Cuts.length ≤ 100 ∧ m.Basket.Barred.length ≤ 100) := by
    unfold lombardref10_Small.f
    refine ⟨_, rfl, fun h => ?_⟩
    simp only [Bool.and_eq_true, decide_eq_true_eq] at h
    omega
  obtain ⟨t, t1, t2⟩ := hsm
  unfold lombardlaw10_MsgBack.f
  rw [t1, Option.bind_some]
  by_cases c : ((!t) || decide ((s.length : Int) > 3000)) = true
  · rw [if_pos c, awake_is]; rfl
  rw [if_neg c]
  simp only [Bool.or_eq_true, Bool.not_eq_true', decide_eq_true_eq, not_or, Bool.not_eq_false] at c
  obtain ⟨f1, f2, f3, f4⟩ := t2 c.1
  obtain ⟨x, o1, o2, o3⟩ := told_plain m hm
  obtain ⟨v, v1, v2⟩ := check_tot x
  rw [o1, Option.bind_some, enc_all x v v1 v2, Option.bind_some]
  have sec := second s (by omega)
  by_cases z : v = 0
  · subst z
    obtain ⟨b1, b2⟩ := v2 rfl
    obtain ⟨w, e1, e2, e3, e4, e5, e6⟩ := o3 b2
    rw [if_pos rfl]
    simp only
    rw [if_pos (by rfl), dec_enc x v1 b1 b2 o2, Option.bind_some]
    simp only [bne_self_eq_false, Bool.or_false, Bool.false_or, if_true]
    rw [e1, e2, Option.bind_some, Option.bind_some, msg_self w (by omega) (by omega) (by omega) (by omega), Option.bind_some]
    rw [if_neg (by decide), Option.bind_some]
    exact sec
  · rw [if_neg z]
    simp only
    rw [if_neg (by simpa using z), Option.bind_some]
    exact sec

end Go.Proofs.Ytbmokbkgielmmaa

