/- Shows what the program writes for every message, as a plain list of bytes. -/
import Derived.Test.YtbmokbkgielmmaaGreatPuEnc10
import Derived.Test.YtbmokbkgielmmaaGreatGx1
namespace Go.Proofs.YtbmokbkgielmmaaGreat
open Go Go.Pm Go.Pm.Arith
set_option linter.unusedVariables false
set_option linter.unusedSimpArgs false
noncomputable def eLot (x : api_Lot) : List Int := eT x.ISIN ++ eI x.Qty
noncomputable def ePrice (x : api_Price) : List Int := eT x.ISIN ++ eI x.Price
noncomputable def eCut (x : api_Cut) : List Int := eI x.Days ++ (eI x.Rating ++ eI x.Cut)
noncomputable def eAsset (a : api_Asset) : List Int := eT a.ISIN ++ (eI a.Issuer ++ (eI a.Rating ++ (eI a.Maturity ++ eT a.Currency)))
noncomputable def eBasket (b : api_Basket) : List Int :=
  [b.ID, b.Version, b.Rating, b.Least, b.Most, b.Issuer, b.Asset].flatMap eI ++ (eT b.Currency ++ (eU (b.Cuts.length : Int) ++ (b.Cuts.flatMap eCut ++ (eU (b.Barred.length : Int) ++ b.Barred.flatMap eI))))
noncomputable def eSwap (x : msg_Swap) : List Int := eI x.Member ++ (eI x.Trade ++ (eLot x.Out ++ (eU (x.In.length : Int) ++ x.In.flatMap eLot)))
noncomputable def eQuote (q : api_Quote) : List Int := [q.ID, q.Member, q.Side, q.Basket, q.Amount, q.Rate, q.Start, q.End].flatMap eI
noncomputable def eMsg : msg_Message → List Int
  | .nil => []
  | .cmsg_Join x => eI x.Member ++ eT x.Name
  | .cmsg_List x => eAsset x.Asset
  | .cmsg_Rules x => eBasket x.Basket
  | .cmsg_Prices x => eU (x.L.length : Int) ++ x.L.flatMap ePrice
  | .cmsg_Roll x => eI x.Day
  | .cmsg_Cash x => [x.Member, x.Amount].flatMap eI ++ eT x.Currency
  | .cmsg_Move x => [x.Member, x.Qty].flatMap eI ++ eT x.ISIN
  | .cmsg_Offer x => eQuote x.Quote
  | .cmsg_Cancel x => [x.Member, x.Quote].flatMap eI
  | .cmsg_Notice x => [x.Member, x.Trade, x.Day].flatMap eI
  | .cmsg_Swap x => eSwap x
  | .cmsg_Settle x => [x.Member, x.Day].flatMap eI ++ eB x.Done
  | .cmsg_Default x => eI x.Member
  | .cmsg_Bound x => [x.Member, x.Amount].flatMap eI
  | .cmsg_Reset x => [x.Trade, x.Day, x.Rate].flatMap eI
def kd : msg_Message → Int
  | .nil => 0
  | .cmsg_Join _ => 1
  | .cmsg_List _ => 2
  | .cmsg_Rules _ => 3
  | .cmsg_Prices _ => 4
  | .cmsg_Roll _ => 5
  | .cmsg_Cash _ => 6
  | .cmsg_Move _ => 7
  | .cmsg_Offer _ => 8
  | .cmsg_Cancel _ => 9
  | .cmsg_Notice _ => 10
  | .cmsg_Swap _ => 11
  | .cmsg_Settle _ => 12
  | .cmsg_Default _ => 13
  | .cmsg_Bound _ => 14
  | .cmsg_Reset _ => 15
def Fit : msg_Message → Prop
  | .cmsg_Join x => x.Name.length ≤ 160
  | .cmsg_List x => x.Asset.ISIN.length ≤ 12 ∧ x.Asset.Currency.length ≤ 12
  | .cmsg_Rules x => x.Basket.Currency.length ≤ 12 ∧ x.Basket.Cuts.length ≤ 64 ∧ x.Basket.Barred.length ≤ 64
  | .cmsg_Prices x => x.L.length ≤ 64 ∧ ∀ y ∈ x.L, y.ISIN.length ≤ 12
  | .cmsg_Cash x => x.Currency.length ≤ 12
  | .cmsg_Move x => x.ISIN.length ≤ 12
  | .cmsg_Swap x => x.Out.ISIN.length ≤ 12 ∧ x.In.length ≤ 64 ∧ ∀ y ∈ x.In, y.ISIN.length ≤ 12
  | _ => True
theorem eT_len (s : Bs) (k : Nat) (h : s.length ≤ k) : (eT s).length ≤ 10 + k := by
  have : Sh s k := ⟨h⟩
  exact (shT (s := s)).le
theorem eI_len (n : Int) : (eI n).length ≤ 10 := eU_len _
theorem eCut_len (x : api_Cut) : (eCut x).length ≤ 30 := by
  have := eI_len x.Days; have := eI_len x.Rating; have := eI_len x.Cut
  unfold eCut; simp only [List.length_append]; omega
theorem eLot_len (x : api_Lot) (h : x.ISIN.length ≤ 12) : (eLot x).length ≤ 32 := by
  have := eT_len _ _ h; have := eI_len x.Qty
  unfold eLot; simp only [List.length_append]; omega
theorem ePrice_len (x : api_Price) (h : x.ISIN.length ≤ 12) : (ePrice x).length ≤ 32 := by
  have := eT_len _ _ h; have := eI_len x.Price
  unfold ePrice; simp only [List.length_append]; omega
theorem wr_lot (x : api_Lot) (h : x.ISIN.length ≤ 12) (b : List Int) (hb : b.length ≤ 100000) : msg_encoder_lot.f ⟨⟨b⟩⟩ x = some ⟨⟨b ++ eLot x⟩⟩ := by
  have := eT_len _ _ h
  unfold msg_encoder_lot.f
  rw [wr_text _ (by omega) _ (by omega), Option.bind_some, wr_int _ _ (by simp; omega), Option.bind_some, List.append_assoc]
  rfl
theorem cut_all (x : api_Basket) (hx : x.Cuts.length ≤ 64) (b : List Int) (hb : b.length ≤ 100000) : loop (msg_encoder_basket.r1 x) (0, b) = some (b ++ x.Cuts.flatMap eCut) := by
  refine each_all _ (fun i b => ((i : Int), b)) x.Cuts eCut (fun b => b) 30 100000 (fun y _ => eCut_len y) (fun b => ?_) (fun i b hi hb => ?_) b hb
  · unfold msg_encoder_basket.r1 msg_encoder_basket.b1
    rw [if_neg (by simp)]
  · have h1 := eI_len (nth x.Cuts (i : Int)).Days
    have h2 := eI_len (nth x.Cuts (i : Int)).Rating
    unfold msg_encoder_basket.r1 msg_encoder_basket.b1
    simp only
    rw [if_pos (decide_eq_true (by omega)), if_pos (by omega), wr_int _ _ (by omega), Option.bind_some, wr_int _ _ (by simp; omega), Option.bind_some, wr_int _ _ (by simp; omega), Option.bind_some, i64_nx i (by omega)]
    simp only [eCut, List.append_assoc]
theorem wr_basket (x : api_Basket) (h : x.Currency.length ≤ 12 ∧ x.Cuts.length ≤ 64 ∧ x.Barred.length ≤ 64) (b : List Int) (hb : b.length ≤ 1000) : msg_encoder_basket.f ⟨⟨b⟩⟩ x = some ⟨⟨b ++ eBasket x⟩⟩ := by
  obtain ⟨h1, h2, h3⟩ := h
  have e : IntKind.u64.wrap (x.Cuts.length : Int) = (x.Cuts.length : Int) := u64_id _ (by omega) (by omega)
  have l1 := eT_len _ _ h1
  have l2 := eU_len (x.Cuts.length : Int)
  have l3 := flat_len eCut 30 x.Cuts (fun y _ => eCut_len y)
  have l0 := flat_len eI 10 [x.ID, x.Version, x.Rating, x.Least, x.Most, x.Issuer, x.Asset] (fun y _ => eI_len y)
  have l0' : (b ++ [x.ID, x.Version, x.Rating, x.Least, x.Most, x.Issuer, x.Asset].flatMap eI).length ≤ 1070 := by rw [List.length_append]; simp only [List.length_cons, List.length_nil] at l0; omega
  unfold msg_encoder_basket.f
  simp only
  rw [ints_all [x.ID, x.Version, x.Rating, x.Least, x.Most, x.Issuer, x.Asset] (by simp) (msg_encoder_basket.r0 x) (fun _ _ => rfl) b (by omega), Option.bind_some]
  generalize hq : [x.ID, x.Version, x.Rating, x.Least, x.Most, x.Issuer, x.Asset].flatMap eI = q0 at l0'
  have e5 : eBasket x = [x.ID, x.Version, x.Rating, x.Least, x.Most, x.Issuer, x.Asset].flatMap eI ++ (eT x.Currency ++ (eU (x.Cuts.length : Int) ++ (x.Cuts.flatMap eCut ++ (eU (x.Barred.length : Int) ++ x.Barred.flatMap eI)))) := rfl
  rw [wr_text _ (by omega) _ (by omega), Option.bind_some, e, uint_is _ (by omega) (by omega) _ (by rw [List.length_append]; omega), Option.bind_some]
  simp only
  rw [cut_all x h2 _ (by simp only [List.length_append] at *; omega), Option.bind_some, wr_ints _ (by omega) _ (by simp only [List.length_append] at *; omega), Option.bind_some]
  rw [e5, hq]
  simp only [List.append_assoc]
theorem price_all (l : List api_Price) (hl : l.length ≤ 64 ∧ ∀ y ∈ l, y.ISIN.length ≤ 12) (b : List Int) (hb : b.length ≤ 100000) : loop (msg_encoder_prices.r0 l) (0, b) = some (b ++ l.flatMap ePrice) := by
  refine each_all _ (fun i b => ((i : Int), b)) l ePrice (fun b => b) 32 100000 (fun y hy => ePrice_len y (hl.2 y hy)) (fun b => ?_) (fun i b hi hb => ?_) b hb
  · unfold msg_encoder_prices.r0 msg_encoder_prices.b0
    rw [if_neg (by simp)]
  · have h0 := hl.1
    have h1 := hl.2 _ (nth_in l i hi)
    have h2 := eT_len _ _ h1
    unfold msg_encoder_prices.r0 msg_encoder_prices.b0
    simp only
    rw [if_pos (decide_eq_true (by omega)), if_pos (by omega), wr_text _ (by omega) _ (by omega), Option.bind_some, wr_int _ _ (by simp; omega), Option.bind_some, i64_nx i (by omega)]
    simp only [ePrice, List.append_assoc]
theorem lot_all (x : msg_Swap) (hl : x.In.length ≤ 64 ∧ ∀ y ∈ x.In, y.ISIN.length ≤ 12) (b : List Int) (hb : b.length ≤ 10000) : loop (msg_encoder_swap.r0 x) (0, b) = some (b ++ x.In.flatMap eLot) := by
  refine each_all _ (fun i b => ((i : Int), b)) x.In eLot (fun b => b) 32 10000 (fun y hy => eLot_len y (hl.2 y hy)) (fun b => ?_) (fun i b hi hb => ?_) b hb
  · unfold msg_encoder_swap.r0 msg_encoder_swap.b0
    rw [if_neg (by simp)]
  · have h0 := hl.1
    have h1 := hl.2 _ (nth_in x.In i hi)
    unfold msg_encoder_swap.r0 msg_encoder_swap.b0
    simp only
    rw [if_pos (decide_eq_true (by omega)), if_pos (by omega), wr_lot _ h1 _ (by omega), Option.bind_some, i64_nx i (by omega)]
theorem wr_prices (l : List api_Price) (hl : l.length ≤ 64 ∧ ∀ y ∈ l, y.ISIN.length ≤ 12) (b : List Int) (hb : b.length ≤ 1000) : msg_encoder_prices.f ⟨⟨b⟩⟩ l = some ⟨⟨b ++ (eU (l.length : Int) ++ l.flatMap ePrice)⟩⟩ := by
  have h0 := hl.1
  have e : IntKind.u64.wrap (l.length : Int) = (l.length : Int) := u64_id _ (by omega) (by omega)
  have l2 := eU_len (l.length : Int)
  unfold msg_encoder_prices.f
  rw [e, uint_is _ (by omega) (by omega) _ (by omega), Option.bind_some]
  simp only
  rw [price_all l hl _ (by rw [List.length_append]; omega), Option.bind_some, List.append_assoc]
theorem wr_swap (x : msg_Swap) (h : x.Out.ISIN.length ≤ 12 ∧ x.In.length ≤ 64 ∧ ∀ y ∈ x.In, y.ISIN.length ≤ 12) (b : List Int) (hb : b.length ≤ 1000) : msg_encoder_swap.f ⟨⟨b⟩⟩ x = some ⟨⟨b ++ eSwap x⟩⟩ := by
  obtain ⟨h1, h2⟩ := h
  have h0 := h2.1
  have e : IntKind.u64.wrap (x.In.length : Int) = (x.In.length : Int) := u64_id _ (by omega) (by omega)
  have l1 := eI_len x.Member
  have l2 := eI_len x.Trade
  have l3 := eLot_len _ h1
  have l4 := eU_len (x.In.length : Int)
  unfold msg_encoder_swap.f
  rw [wr_int _ _ (by omega), Option.bind_some, wr_int _ _ (by simp only [List.length_append]; omega), Option.bind_some, wr_lot _ h1 _ (by simp only [List.length_append]; omega), Option.bind_some, e,
    uint_is _ (by omega) (by omega) _ (by simp only [List.length_append]; omega), Option.bind_some]
  simp only
  rw [lot_all x h2 _ (by simp only [List.length_append]; omega), Option.bind_some]
  simp only [eSwap, List.append_assoc]
theorem wr_nums (L : List Int) (hL : L.length ≤ 10) (b : List Int) (hb : b.length ≤ 1000) : msg_encoder_ints.f ⟨⟨b⟩⟩ L = some ⟨⟨b ++ L.flatMap eI⟩⟩ := by
  unfold msg_encoder_ints.f
  simp only
  rw [ints_all L (by omega) (msg_encoder_ints.r0 L) (fun _ _ => rfl) b (by omega), Option.bind_some]
theorem wr_quote (q : api_Quote) (b : List Int) (hb : b.length ≤ 1000) : msg_encoder_quote.f ⟨⟨b⟩⟩ q = some ⟨⟨b ++ eQuote q⟩⟩ := by
  unfold msg_encoder_quote.f
  simp only
  rw [ints_all [q.ID, q.Member, q.Side, q.Basket, q.Amount, q.Rate, q.Start, q.End] (by simp) (msg_encoder_quote.r0 q) (fun _ _ => rfl) b (by omega), Option.bind_some]
  rfl
theorem wr_asset (a : api_Asset) (h : a.ISIN.length ≤ 12 ∧ a.Currency.length ≤ 12) (b : List Int) (hb : b.length ≤ 1000) : msg_encoder_asset.f ⟨⟨b⟩⟩ a = some ⟨⟨b ++ eAsset a⟩⟩ := by
  have l1 := eT_len _ _ h.1
  have l2 := eI_len a.Issuer
  have l3 := eI_len a.Rating
  have l4 := eI_len a.Maturity
  unfold msg_encoder_asset.f
  rw [wr_text _ (by omega) _ (by omega), Option.bind_some, wr_int _ _ (by simp only [List.length_append]; omega), Option.bind_some, wr_int _ _ (by simp only [List.length_append]; omega), Option.bind_some,
    wr_int _ _ (by simp only [List.length_append]; omega), Option.bind_some, wr_text _ (by omega) _ (by simp only [List.length_append]; omega), Option.bind_some]
  simp only [eAsset, List.append_assoc]
theorem nums_len (L : List Int) (k : Nat) (h : L.length ≤ k) : (L.flatMap eI).length ≤ 10 * k := by
  have := flat_len eI 10 L (fun y _ => eI_len y)
  omega
theorem put_all (m : msg_Message) (h : Fit m) (b : List Int) (hb : b.length ≤ 100) : msg_encoder_put.f ⟨⟨b⟩⟩ m = some ⟨⟨b ++ eMsg m⟩⟩ := by
  cases m with
  | nil => show some _ = _; simp [eMsg]
  | cmsg_Join x =>
    have h : x.Name.length ≤ 160 := h
    have e : msg_encoder_put.f ⟨⟨b⟩⟩ (.cmsg_Join x) = (wire_Writer_Int.f ⟨⟨b⟩⟩ x.Member).bind fun t2 => (wire_Writer_Text.f t2 x.Name).bind fun t4 => some t4 := rfl
    have l := eI_len x.Member
    rw [e, wr_int _ _ (by omega), Option.bind_some, wr_text _ (by omega) _ (by simp only [List.length_append]; omega), Option.bind_some, List.append_assoc]; rfl
  | cmsg_List x =>
    have e : msg_encoder_put.f ⟨⟨b⟩⟩ (.cmsg_List x) = (msg_encoder_asset.f ⟨⟨b⟩⟩ x.Asset).bind fun t => some t := rfl
    rw [e, wr_asset _ h _ (by omega)]; rfl
  | cmsg_Rules x =>
    have e : msg_encoder_put.f ⟨⟨b⟩⟩ (.cmsg_Rules x) = (msg_encoder_basket.f ⟨⟨b⟩⟩ x.Basket).bind fun t => some t := rfl
    rw [e, wr_basket _ h _ (by omega)]; rfl
  | cmsg_Prices x =>
    have e : msg_encoder_put.f ⟨⟨b⟩⟩ (.cmsg_Prices x) = (msg_encoder_prices.f ⟨⟨b⟩⟩ x.L).bind fun t => some t := rfl
    rw [e, wr_prices _ h _ (by omega)]; rfl
  | cmsg_Roll x =>
    have e : msg_encoder_put.f ⟨⟨b⟩⟩ (.cmsg_Roll x) = (wire_Writer_Int.f ⟨⟨b⟩⟩ x.Day).bind fun t => some t := rfl
    rw [e, wr_int _ _ (by omega)]; rfl
  | cmsg_Cash x =>
    have h : x.Currency.length ≤ 12 := h
    have e : msg_encoder_put.f ⟨⟨b⟩⟩ (.cmsg_Cash x) = (msg_encoder_ints.f ⟨⟨b⟩⟩ [x.Member, x.Amount]).bind fun t => (wire_Writer_Text.f t x.Currency).bind fun t => some t := rfl
    have l := nums_len [x.Member, x.Amount] 2 (Nat.le_refl _)
    rw [e, wr_nums _ (by simp) _ (by omega), Option.bind_some, wr_text _ (by omega) _ (by rw [List.length_append]; omega), Option.bind_some, List.append_assoc]; rfl
  | cmsg_Move x =>
    have h : x.ISIN.length ≤ 12 := h
    have e : msg_encoder_put.f ⟨⟨b⟩⟩ (.cmsg_Move x) = (msg_encoder_ints.f ⟨⟨b⟩⟩ [x.Member, x.Qty]).bind fun t => (wire_Writer_Text.f t x.ISIN).bind fun t => some t := rfl
    have l := nums_len [x.Member, x.Qty] 2 (Nat.le_refl _)
    rw [e, wr_nums _ (by simp) _ (by omega), Option.bind_some, wr_text _ (by omega) _ (by rw [List.length_append]; omega), Option.bind_some, List.append_assoc]; rfl
  | cmsg_Offer x =>
    have e : msg_encoder_put.f ⟨⟨b⟩⟩ (.cmsg_Offer x) = (msg_encoder_quote.f ⟨⟨b⟩⟩ x.Quote).bind fun t => some t := rfl
    rw [e, wr_quote _ _ (by omega)]; rfl
  | cmsg_Cancel x =>
    have e : msg_encoder_put.f ⟨⟨b⟩⟩ (.cmsg_Cancel x) = (msg_encoder_ints.f ⟨⟨b⟩⟩ [x.Member, x.Quote]).bind fun t => some t := rfl
    rw [e, wr_nums _ (by simp) _ (by omega)]; rfl
  | cmsg_Notice x =>
    have e : msg_encoder_put.f ⟨⟨b⟩⟩ (.cmsg_Notice x) = (msg_encoder_ints.f ⟨⟨b⟩⟩ [x.Member, x.Trade, x.Day]).bind fun t => some t := rfl
    rw [e, wr_nums _ (by simp) _ (by omega)]; rfl
  | cmsg_Swap x =>
    have e : msg_encoder_put.f ⟨⟨b⟩⟩ (.cmsg_Swap x) = (msg_encoder_swap.f ⟨⟨b⟩⟩ x).bind fun t => some t := rfl
    rw [e, wr_swap _ h _ (by omega)]; rfl
  | cmsg_Settle x =>
    have e : msg_encoder_put.f ⟨⟨b⟩⟩ (.cmsg_Settle x) = (msg_encoder_ints.f ⟨⟨b⟩⟩ [x.Member, x.Day]).bind fun t => (wire_Writer_Bool.f t x.Done).bind fun t => some t := rfl
    have l := nums_len [x.Member, x.Day] 2 (Nat.le_refl _)
    rw [e, wr_nums _ (by simp) _ (by omega), Option.bind_some, wr_bool _ _ (by rw [List.length_append]; omega), Option.bind_some, List.append_assoc]; rfl
  | cmsg_Default x =>
    have e : msg_encoder_put.f ⟨⟨b⟩⟩ (.cmsg_Default x) = (wire_Writer_Int.f ⟨⟨b⟩⟩ x.Member).bind fun t => some t := rfl
    rw [e, wr_int _ _ (by omega)]; rfl
  | cmsg_Bound x =>
    have e : msg_encoder_put.f ⟨⟨b⟩⟩ (.cmsg_Bound x) = (msg_encoder_ints.f ⟨⟨b⟩⟩ [x.Member, x.Amount]).bind fun t => some t := rfl
    rw [e, wr_nums _ (by simp) _ (by omega)]; rfl
  | cmsg_Reset x =>
    have e : msg_encoder_put.f ⟨⟨b⟩⟩ (.cmsg_Reset x) = (msg_encoder_ints.f ⟨⟨b⟩⟩ [x.Trade, x.Day, x.Rate]).bind fun t => some t := rfl
    rw [e, wr_nums _ (by simp) _ (by omega)]; rfl
theorem kind_is (m : msg_Message) (h : m ≠ .nil) : msg_Message.mKind.f m = some (kd m) := by
  cases m <;> first | exact absurd rfl h | rfl
theorem enc_all (m : msg_Message) (v : Int) (hv : msg_Check.f m = some v) (hf : v = 0 → Fit m ∧ m ≠ .nil) : msg_Encode.f m = some (if v = 0 then (toB (eI (kd m) ++ eMsg m), 0) else ([], v)) := by
  unfold msg_Encode.f
  rw [hv, Option.bind_some]
  by_cases c : v = 0
  · obtain ⟨h1, h2⟩ := hf c
    have l := eI_len (kd m)
    rw [if_neg (by simp [c]), kind_is m h2, Option.bind_some, wr_int _ _ (by decide), Option.bind_some, List.nil_append, put_all m h1 _ (by omega), if_pos c]
    rfl
  · rw [if_pos (by simp [c]), if_neg c]
end Go.Proofs.YtbmokbkgielmmaaGreat
