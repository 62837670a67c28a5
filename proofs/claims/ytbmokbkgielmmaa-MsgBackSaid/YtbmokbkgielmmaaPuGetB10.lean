/- Shows that the program's decoder reads back what is written of a message. -/
import Derived.Test.YtbmokbkgielmmaaPuGet10
import Derived.Test.YtbmokbkgielmmaaGx2
import Derived.Test.YtbmokbkgielmmaaGx3
namespace Go.Proofs.Ytbmokbkgielmmaa
open Go Go.Pm Go.Pm.Arith
set_option linter.unusedVariables false
set_option linter.unusedSimpArgs false

/-- Bytes that lie there are read as a thing, to their end. -/
def Rt {α : Type} (s : Bs) (p : Nat) (r : Option (α × wire_Reader)) (v : α) (d : List Int) : Prop := Lies s p d → r = some (v, ⟨s, ((p + d.length : Nat) : Int), 0⟩)
theorem Rt.bind {α β : Type} {s : Bs} {p : Nat} {r : Option (α × wire_Reader)} {f : α × wire_Reader → Option (β × wire_Reader)} {v : α} {b : β} {d1 d2 : List Int}
    (h : Rt s p r v d1) (k : ∀ q : Nat, Rt s q (f (v, ⟨s, (q : Int), 0⟩)) b d2) : Rt s p (r.bind f) b (d1 ++ d2) := fun hl => by
  rw [h hl.left, Option.bind_some, k _ hl.right, List.length_append, Nat.add_assoc]
theorem Rt.fin {α : Type} {s : Bs} {p : Nat} (v : α) : Rt s p (some (v, ⟨s, (p : Int), 0⟩)) v [] := fun _ => rfl
theorem Rt.cast {α : Type} {s : Bs} {p : Nat} {r : Option (α × wire_Reader)} {v v' : α} {d d' : List Int} (h : Rt s p r v d) (e : v = v') (e' : d = d') : Rt s p r v' d' := by subst e; subst e'; exact h

theorem Rt.loop {α β : Type} [Inhabited α] {s : Bs} {p : Nat} {F : Bs × Int × Int × List α → Option (β × wire_Reader)} {b : β} {d2 : List Int}
    (g : Int × Bs × Int × Int × List α → Option ((Int × Bs × Int × Int × List α) ⊕ (Bs × Int × Int × List α))) (L : List α) (E : α → List Int)
    (hend : ∀ (at' e : Int) (acc : List α), g ((L.length : Int), s, at', e, acc) = some (.inr (s, at', e, acc)))
    (step : ∀ (i p : Nat), i < L.length → Lies s p (E (nth L (i : Int))) → g ((i : Int), s, (p : Int), 0, L.take i) = some (.inl (((i + 1 : Nat) : Int), s, ((p + (E (nth L (i : Int))).length : Nat) : Int), 0, L.take i ++ [nth L (i : Int)])))
    (k : ∀ q : Nat, Rt s q (F (s, (q : Int), 0, L)) b d2) : Rt s p ((loop g (0, s, (p : Int), 0, [])).bind F) b (L.flatMap E ++ d2) := fun hl => by
  have l1 := each_rt s g L E hend step L.length 0 p (by omega) hl.left
  have l1' : Pm.loop g (0, s, (p : Int), 0, []) = some (s, ((p + (L.flatMap E).length : Nat) : Int), 0, L) := l1
  rw [l1', Option.bind_some, k _ hl.right, List.length_append, Nat.add_assoc]

/-- Numbers that fit their type. -/
def Wd : msg_Message → Prop
  | .nil => True
  | .cmsg_Join x => inK .i64 x.Member
  | .cmsg_List x => api_Asset.bd x.Asset
  | .cmsg_Rules x => api_Basket.bd x.Basket
  | .cmsg_Prices x => ∀ y ∈ x.L, api_Price.bd y
  | .cmsg_Roll x => inK .i64 x.Day
  | .cmsg_Cash x => inK .i64 x.Member ∧ inK .i64 x.Amount
  | .cmsg_Move x => inK .i64 x.Member ∧ inK .i64 x.Qty
  | .cmsg_Offer x => api_Quote.bd x.Quote
  | .cmsg_Cancel x => inK .i64 x.Member ∧ inK .i64 x.Quote
  | .cmsg_Notice x => inK .i64 x.Member ∧ inK .i64 x.Trade ∧ inK .i64 x.Day
  | .cmsg_Swap x => inK .i64 x.Member ∧ inK .i64 x.Trade ∧ api_Lot.bd x.Out ∧ ∀ y ∈ x.In, api_Lot.bd y
  | .cmsg_Settle x => inK .i64 x.Member ∧ inK .i64 x.Day
  | .cmsg_Default x => inK .i64 x.Member
  | .cmsg_Bound x => inK .i64 x.Member ∧ inK .i64 x.Amount
  | .cmsg_Reset x => inK .i64 x.Trade ∧ inK .i64 x.Day ∧ inK .i64 x.Rate

section
variable {s : Bs} (hs : s.length < 1000000000) {p : Nat}
include hs

theorem rti {n : Int} (hn : inK .i64 n) : Rt s p (wire_Reader_Int.f ⟨s, (p : Int), 0⟩) n (eI n) := fun hl => rt_int hs hn hl
theorem rtt12 {t : Bs} (ht : t.length ≤ 12) : Rt s p (wire_Reader_Text.f ⟨s, (p : Int), 0⟩ 12) t (eT t) := fun hl => rt_text hs 12 (by decide) ht hl
theorem rtt160 {t : Bs} (ht : t.length ≤ 160) : Rt s p (wire_Reader_Text.f ⟨s, (p : Int), 0⟩ 160) t (eT t) := fun hl => rt_text hs 160 (by decide) ht hl
theorem rtc {n : Nat} (hn : n ≤ 64) : Rt s p (wire_Reader_Count.f ⟨s, (p : Int), 0⟩ 64) (n : Int) (eU (n : Int)) := fun hl => rt_count hs hn hl
theorem rtb {t : Bool} : Rt s p (wire_Reader_Bool.f ⟨s, (p : Int), 0⟩) t (eB t) := fun hl => rt_bool hs hl
theorem rtl {L : List Int} (hL : L.length ≤ 64) (hw : ∀ y ∈ L, inK .i64 y) : Rt s p (wire_Reader_Ints.f ⟨s, (p : Int), 0⟩ 64) L (eU (L.length : Int) ++ L.flatMap eI) := fun hl => rt_ints hs hL hw hl

theorem rt_lot {x : api_Lot} (h : x.ISIN.length ≤ 12) (hw : api_Lot.bd x) : Rt s p (msg_decoder_lot.f ⟨s, (p : Int), 0⟩) x (eLot x) := by
  unfold msg_decoder_lot.f
  exact ((rtt12 hs h).bind fun q => (rti hs hw.2.1).bind fun q => Rt.fin x).cast rfl (by simp only [eLot, List.append_nil])
theorem rt_asset {x : api_Asset} (h : x.ISIN.length ≤ 12 ∧ x.Currency.length ≤ 12) (hw : api_Asset.bd x) : Rt s p (msg_decoder_asset.f ⟨s, (p : Int), 0⟩) x (eAsset x) := by
  unfold msg_decoder_asset.f
  obtain ⟨_, w1, w2, w3, _, _⟩ := hw
  exact ((rtt12 hs h.1).bind fun q => (rti hs w1).bind fun q => (rti hs w2).bind fun q => (rti hs w3).bind fun q => (rtt12 hs h.2).bind fun q => Rt.fin x).cast rfl (by simp only [eAsset, List.append_nil])
theorem rt_quote {x : api_Quote} (hw : api_Quote.bd x) : Rt s p (msg_decoder_quote.f ⟨s, (p : Int), 0⟩) x (eQuote x) := by
  unfold msg_decoder_quote.f
  obtain ⟨w1, w2, w3, w4, w5, w6, w7, w8, _⟩ := hw
  exact ((rti hs w1).bind fun q => (rti hs w2).bind fun q => (rti hs w3).bind fun q => (rti hs w4).bind fun q => (rti hs w5).bind fun q => (rti hs w6).bind fun q => (rti hs w7).bind fun q => (rti hs w8).bind fun q => Rt.fin x).cast rfl
    (by simp only [eQuote, List.flatMap_cons, List.flatMap_nil])
theorem rt_prices {x : msg_Prices} (h : x.L.length ≤ 64 ∧ ∀ y ∈ x.L, y.ISIN.length ≤ 12) (hw : ∀ y ∈ x.L, api_Price.bd y) : Rt s p (msg_decoder_prices.f ⟨s, (p : Int), 0⟩) x (eU (x.L.length : Int) ++ x.L.flatMap ePrice) := by
  unfold msg_decoder_prices.f
  have h0 := h.1
  refine ((rtc hs h.1).bind fun q => Rt.loop _ x.L ePrice (fun a b c => ?_) (fun i p hi hl => ?_) (fun q => Rt.fin x)).cast rfl (by rw [List.append_nil])
  · unfold msg_decoder_prices.r0 msg_decoder_prices.b0
    rw [if_neg (by simp)]
  · have hm := nth_in x.L i hi
    unfold msg_decoder_prices.r0 msg_decoder_prices.b0
    simp only
    unfold ePrice at hl ⊢
    rw [if_pos (decide_eq_true (by omega)), rtt12 hs (h.2 _ hm) hl.left, Option.bind_some]
    simp only
    rw [rti hs (hw _ hm).2.1 hl.right, Option.bind_some, if_pos (by simp; omega), i64_nx i (by omega), List.length_append, Nat.add_assoc]
theorem rt_swap {x : msg_Swap} (h : x.Out.ISIN.length ≤ 12 ∧ x.In.length ≤ 64 ∧ ∀ y ∈ x.In, y.ISIN.length ≤ 12) (hw : inK .i64 x.Member ∧ inK .i64 x.Trade ∧ api_Lot.bd x.Out ∧ ∀ y ∈ x.In, api_Lot.bd y) :
    Rt s p (msg_decoder_swap.f ⟨s, (p : Int), 0⟩) x (eSwap x) := by
  unfold msg_decoder_swap.f
  have h0 := h.2.1
  refine ((rti hs hw.1).bind fun q => (rti hs hw.2.1).bind fun q => (rt_lot hs h.1 hw.2.2.1).bind fun q => (rtc hs h0).bind fun q => Rt.loop _ x.In eLot (fun a b c => ?_) (fun i p hi hl => ?_) (fun q => Rt.fin x)).cast rfl (by simp only [eSwap, List.append_nil])
  · unfold msg_decoder_swap.r0 msg_decoder_swap.b0
    rw [if_neg (by simp)]
  · have hm := nth_in x.In i hi
    unfold msg_decoder_swap.r0 msg_decoder_swap.b0
    simp only
    rw [if_pos (decide_eq_true (by omega)), rt_lot hs (h.2.2 _ hm) (hw.2.2.2 _ hm) hl, Option.bind_some, if_pos (by simp; omega), i64_nx i (by omega)]
theorem rt_basket {x : api_Basket} (h : x.Currency.length ≤ 12 ∧ x.Cuts.length ≤ 64 ∧ x.Barred.length ≤ 64) (hw : api_Basket.bd x) : Rt s p (msg_decoder_basket.f ⟨s, (p : Int), 0⟩) x (eBasket x) := by
  unfold msg_decoder_basket.f
  obtain ⟨w1, w2, _, w3, w4, w5, w6, w7, w8, w9, _⟩ := hw
  have h0 := h.2.1
  refine ((rti hs w1).bind fun q => (rti hs w2).bind fun q => (rti hs w3).bind fun q => (rti hs w4).bind fun q => (rti hs w5).bind fun q => (rti hs w7).bind fun q => (rti hs w8).bind fun q => (rtt12 hs h.1).bind fun q => (rtc hs h0).bind fun q =>
    Rt.loop _ x.Cuts eCut (fun a b c => ?_) (fun i p hi hl => ?_) (fun q => (rtl hs h.2.2 w9.2).bind fun q => Rt.fin x)).cast rfl (by simp only [eBasket, List.append_nil, List.flatMap_cons, List.flatMap_nil, List.append_assoc])
  · unfold msg_decoder_basket.r0 msg_decoder_basket.b0
    rw [if_neg (by simp)]
  · have hm := nth_in x.Cuts i hi
    obtain ⟨c1, c2, c3, _⟩ := w6.2 _ hm
    unfold msg_decoder_basket.r0 msg_decoder_basket.b0
    simp only
    unfold eCut at hl ⊢
    rw [if_pos (decide_eq_true (by omega)), rti hs c1 hl.left, Option.bind_some]
    simp only
    rw [rti hs c2 hl.right.left, Option.bind_some]
    simp only
    rw [rti hs c3 hl.right.right, Option.bind_some, if_pos (by simp; omega), i64_nx i (by omega)]
    simp only [List.length_append, Nat.add_assoc]

theorem rt_get (m : msg_Message) (h : Fit m) (hw : Wd m) : Rt s p (msg_decoder_get.f ⟨s, (p : Int), 0⟩ (kd m)) m (eMsg m) := by
  cases m with
  | nil => exact Rt.fin msg_Message.nil
  | cmsg_Join x => exact ((rti hs hw).bind fun q => (rtt160 hs h).bind fun q => Rt.fin (msg_Message.cmsg_Join x)).cast rfl (by simp only [eMsg, List.append_nil])
  | cmsg_List x => exact ((rt_asset hs h hw).bind fun q => Rt.fin (msg_Message.cmsg_List x)).cast rfl (by simp only [eMsg, List.append_nil])
  | cmsg_Rules x => exact ((rt_basket hs h hw).bind fun q => Rt.fin (msg_Message.cmsg_Rules x)).cast rfl (by simp only [eMsg, List.append_nil])
  | cmsg_Prices x => exact ((rt_prices hs h hw).bind fun q => Rt.fin (msg_Message.cmsg_Prices x)).cast rfl (by simp only [eMsg, List.append_nil])
  | cmsg_Roll x => exact ((rti hs hw).bind fun q => Rt.fin (msg_Message.cmsg_Roll x)).cast rfl (by simp only [eMsg, List.append_nil])
  | cmsg_Cash x => exact ((rti hs hw.1).bind fun q => (rti hs hw.2).bind fun q => (rtt12 hs h).bind fun q => Rt.fin (msg_Message.cmsg_Cash x)).cast rfl (by simp only [eMsg, List.append_nil, List.flatMap_cons, List.flatMap_nil, List.append_assoc])
  | cmsg_Move x => exact ((rti hs hw.1).bind fun q => (rti hs hw.2).bind fun q => (rtt12 hs h).bind fun q => Rt.fin (msg_Message.cmsg_Move x)).cast rfl (by simp only [eMsg, List.append_nil, List.flatMap_cons, List.flatMap_nil, List.append_assoc])
  | cmsg_Offer x => exact ((rt_quote hs hw).bind fun q => Rt.fin (msg_Message.cmsg_Offer x)).cast rfl (by simp only [eMsg, List.append_nil])
  | cmsg_Cancel x => exact ((rti hs hw.1).bind fun q => (rti hs hw.2).bind fun q => Rt.fin (msg_Message.cmsg_Cancel x)).cast rfl (by simp only [eMsg, List.flatMap_cons, List.flatMap_nil])
  | cmsg_Notice x => exact ((rti hs hw.1).bind fun q => (rti hs hw.2.1).bind fun q => (rti hs hw.2.2).bind fun q => Rt.fin (msg_Message.cmsg_Notice x)).cast rfl (by simp only [eMsg, List.flatMap_cons, List.flatMap_nil])
  | cmsg_Swap x => exact ((rt_swap hs h hw).bind fun q => Rt.fin (msg_Message.cmsg_Swap x)).cast rfl (by simp only [eMsg, List.append_nil])
  | cmsg_Settle x => exact ((rti hs hw.1).bind fun q => (rti hs hw.2).bind fun q => (rtb hs).bind fun q => Rt.fin (msg_Message.cmsg_Settle x)).cast rfl (by simp only [eMsg, List.append_nil, List.flatMap_cons, List.flatMap_nil, List.append_assoc])
  | cmsg_Default x => exact ((rti hs hw).bind fun q => Rt.fin (msg_Message.cmsg_Default x)).cast rfl (by simp only [eMsg, List.append_nil])
  | cmsg_Bound x => exact ((rti hs hw.1).bind fun q => (rti hs hw.2).bind fun q => Rt.fin (msg_Message.cmsg_Bound x)).cast rfl (by simp only [eMsg, List.flatMap_cons, List.flatMap_nil])
  | cmsg_Reset x => exact ((rti hs hw.1).bind fun q => (rti hs hw.2.1).bind fun q => (rti hs hw.2.2).bind fun q => Rt.fin (msg_Message.cmsg_Reset x)).cast rfl (by simp only [eMsg, List.flatMap_cons, List.flatMap_nil])

end
end Go.Proofs.Ytbmokbkgielmmaa

