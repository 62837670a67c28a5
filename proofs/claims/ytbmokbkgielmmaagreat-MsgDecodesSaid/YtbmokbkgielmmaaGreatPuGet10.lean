/- Shows that what the program's decoder makes of bytes is written as these bytes. -/
import Derived.Test.YtbmokbkgielmmaaGreatPuRead10
import Derived.Test.YtbmokbkgielmmaaGreatPuPut10
import Derived.Test.YtbmokbkgielmmaaGreatGx2
namespace Go.Proofs.YtbmokbkgielmmaaGreat
open Go Go.Pm Go.Pm.Arith
set_option linter.unusedVariables false
set_option linter.unusedSimpArgs false
theorem Rd.fin {α : Type} {s : Bs} {p : Nat} {e : Int} {V : α → Prop} (v : α) (hp : p ≤ s.length) (hV : V v) : Rd s p e (some (v, ⟨s, (p : Int), e⟩)) V (fun b d => b = v ∧ d = []) :=
 ⟨v, p, e, rfl, hp, hV, fun z => ⟨z, [], ⟨rfl, rfl⟩, ⟨s.drop p, rfl⟩, rfl⟩⟩
theorem rd_text12 {s : Bs} (hs : s.length < 1000000000) {p : Nat} (hp : p ≤ s.length) (e : Int) : Rd s p e (wire_Reader_Text.f ⟨s, (p : Int), e⟩ 12) (fun t => t.length ≤ 12) (fun t d => d = eT t) := rd_text hs hp e 12 (by decide)
theorem rd_text160 {s : Bs} (hs : s.length < 1000000000) {p : Nat} (hp : p ≤ s.length) (e : Int) : Rd s p e (wire_Reader_Text.f ⟨s, (p : Int), e⟩ 160) (fun t => t.length ≤ 160) (fun t d => d = eT t) := rd_text hs hp e 160 (by decide)
theorem Rd.loop {α β : Type} {s : Bs} {p : Nat} {e : Int} {F : Bs × Int × Int × List α → Option (β × wire_Reader)} {W : β → Prop} {Ψ : List α → β → List Int → Prop}
 (g : Int × Bs × Int × Int × List α → Option ((Int × Bs × Int × Int × List α) ⊕ (Bs × Int × Int × List α))) (n : Int) (hn : 0 ≤ n ∧ n ≤ 64) (hp : p ≤ s.length) (E : α → List Int)
 (hend : ∀ (at' e : Int) (acc : List α), g (n, s, at', e, acc) = some (.inr (s, at', e, acc)))
 (step : ∀ (i p : Nat) (e : Int) (acc : List α), (i : Int) < n → i < 64 → p ≤ s.length → acc.length = i → ∃ (v : α) (q : Nat) (e' : Int), g ((i : Int), s, (p : Int), e, acc) = some (.inl (((i + 1 : Nat) : Int), s, (q : Int), e', acc ++ [v])) ∧ q ≤ s.length ∧
  (e' = 0 → e = 0 ∧ Lies s p (E v) ∧ q = p + (E v).length))
 (k : ∀ (l : List α) (q : Nat) (e' : Int), q ≤ s.length → (l.length : Int) = n → Rd s q e' (F (s, (q : Int), e', l)) W (Ψ l)) :
 Rd s p e ((loop g (0, s, (p : Int), e, [])).bind F) W (fun b d => ∃ l d1 d2, (d1 = l.flatMap E ∧ (l.length : Int) = n) ∧ Ψ l b d2 ∧ d = d1 ++ d2) := by
 obtain ⟨m, rfl⟩ : ∃ m : Nat, n = m := ⟨n.toNat, by omega⟩
 obtain ⟨l, q, e1, l1, l2, l3, l4, l5⟩ := each_rd s g m (fun _ => True) E hend (fun i p e acc hi hp ha => by
  obtain ⟨v, q, e', a, b, c⟩ := step i p e acc (by omega) (by omega) hp ha
  exact ⟨v, q, e', a, b, trivial, c⟩) m 0 p e [] (by omega) hp rfl
 have l1' : Pm.loop g (0, s, (p : Int), e, []) = some (s, (q : Int), e1, l) := l1
 obtain ⟨b, q2, e2, k1, k2, k3, k4⟩ := k l q e1 l3 (by omega)
 refine ⟨b, q2, e2, by rw [l1']; exact k1, k2, k3, fun z => ?_⟩
 obtain ⟨z1, d2, z2, z3, z4⟩ := k4 z
 obtain ⟨y1, y2, y3⟩ := l5 z1
 subst y3
 exact ⟨y1, l.flatMap E ++ d2, ⟨l, _, d2, ⟨rfl, by omega⟩, z2, rfl⟩, y2.app z3, by rw [z4, List.length_append]; omega⟩
section
variable {s : Bs} (hs : s.length < 1000000000) {p : Nat} (hp : p ≤ s.length) (e : Int)
include hs hp
theorem rd_lot : Rd s p e (msg_decoder_lot.f ⟨s, (p : Int), e⟩) (fun _ => True) (fun x d => d = eLot x) := by
 unfold msg_decoder_lot.f
 refine ((rd_text12 hs hp e).bind fun t q e' hq _ => (rd_int hs hq e').bind fun n q e' hq _ => Rd.fin (V := fun _ => True) (⟨t, n⟩ : api_Lot) hq trivial).mono (fun _ h => h) (fun x d _ h => ?_)
 obtain ⟨t, d1, d2, rfl, ⟨n, d3, d4, rfl, ⟨rfl, rfl⟩, rfl⟩, rfl⟩ := h
 simp only [eLot, List.append_nil]
theorem rd_asset : Rd s p e (msg_decoder_asset.f ⟨s, (p : Int), e⟩) (fun _ => True) (fun x d => d = eAsset x) := by
 unfold msg_decoder_asset.f
 refine ((rd_text12 hs hp e).bind fun t q e' hq _ => (rd_int hs hq e').bind fun n q e' hq _ => (rd_int hs hq e').bind fun n2 q e' hq _ => (rd_int hs hq e').bind fun n3 q e' hq _ => (rd_text12 hs hq e').bind fun t2 q e' hq _ => Rd.fin (V := fun _ => True) (⟨t, n, n2, n3, t2⟩ : api_Asset) hq trivial).mono (fun _ h => h) (fun x d _ h => ?_)
 obtain ⟨t, d1, d2, rfl, ⟨n, d3, d4, rfl, ⟨n2, d5, d6, rfl, ⟨n3, d7, d8, rfl, ⟨t2, d9, d10, rfl, ⟨rfl, rfl⟩, rfl⟩, rfl⟩, rfl⟩, rfl⟩, rfl⟩ := h
 simp only [eAsset, List.append_nil]
theorem rd_quote : Rd s p e (msg_decoder_quote.f ⟨s, (p : Int), e⟩) (fun _ => True) (fun x d => d = eQuote x) := by
 unfold msg_decoder_quote.f
 refine ((rd_int hs hp e).bind fun n1 q e' hq _ => (rd_int hs hq e').bind fun n2 q e' hq _ => (rd_int hs hq e').bind fun n3 q e' hq _ => (rd_int hs hq e').bind fun n4 q e' hq _ => (rd_int hs hq e').bind fun n5 q e' hq _ =>
  (rd_int hs hq e').bind fun n6 q e' hq _ => (rd_int hs hq e').bind fun n7 q e' hq _ => (rd_int hs hq e').bind fun n8 q e' hq _ => Rd.fin (V := fun _ => True) (⟨n1, n2, n3, n4, n5, n6, n7, n8⟩ : api_Quote) hq trivial).mono (fun _ h => h) (fun x d _ h => ?_)
 obtain ⟨n1, _, _, rfl, ⟨n2, _, _, rfl, ⟨n3, _, _, rfl, ⟨n4, _, _, rfl, ⟨n5, _, _, rfl, ⟨n6, _, _, rfl, ⟨n7, _, _, rfl, ⟨n8, _, _, rfl, ⟨rfl, rfl⟩, rfl⟩, rfl⟩, rfl⟩, rfl⟩, rfl⟩, rfl⟩, rfl⟩, rfl⟩ := h
 simp only [eQuote, List.flatMap_cons, List.flatMap_nil]
theorem rd_prices : Rd s p e (msg_decoder_prices.f ⟨s, (p : Int), e⟩) (fun _ => True) (fun x d => d = eU (x.L.length : Int) ++ x.L.flatMap ePrice) := by
 unfold msg_decoder_prices.f
 refine ((rd_count hs hp e).bind fun n q e' hq hn => Rd.loop _ n hn hq ePrice (fun a b c => ?_) (fun i p e acc hi h64 hp ha => ?_) (fun l q e' hq hl => Rd.fin (V := fun _ => True) (⟨l⟩ : msg_Prices) hq trivial)).mono (fun _ h => h) (fun x d _ h => ?_)
 ·unfold msg_decoder_prices.r0 msg_decoder_prices.b0
  rw [if_neg (by simp)]
 ·obtain ⟨t, q1, e1, a1, a2, a3, a4⟩ := rd_text12 hs hp e
  obtain ⟨m, q2, e2, b1, b2, b3, b4⟩ := rd_int hs a2 e1
  refine ⟨⟨t, m⟩, q2, e2, ?_, b2, fun z => ?_⟩
  ·unfold msg_decoder_prices.r0 msg_decoder_prices.b0
   simp only
   rw [if_pos (decide_eq_true hi), a1, Option.bind_some, b1, Option.bind_some, if_pos (by simp; omega), i64_nx i (by omega)]
  ·obtain ⟨z1, _, rfl, z2, z3⟩ := b4 z
   obtain ⟨y1, _, rfl, y2, y3⟩ := a4 z1
   subst y3
   exact ⟨y1, y2.app z2, by rw [ePrice, List.length_append, ← Nat.add_assoc]; exact z3⟩
 ·obtain ⟨n, _, _, rfl, ⟨l, _, _, ⟨rfl, hl⟩, ⟨rfl, rfl⟩, rfl⟩, rfl⟩ := h
  simp only [List.append_nil, hl]
theorem rd_swap : Rd s p e (msg_decoder_swap.f ⟨s, (p : Int), e⟩) (fun _ => True) (fun x d => d = eSwap x) := by
 unfold msg_decoder_swap.f
 refine ((rd_int hs hp e).bind fun n1 q e' hq _ => (rd_int hs hq e').bind fun n2 q e' hq _ => (rd_lot hs hq e').bind fun o q e' hq _ => (rd_count hs hq e').bind fun n q e' hq hn =>
  Rd.loop _ n hn hq eLot (fun a b c => ?_) (fun i p e acc hi h64 hp ha => ?_) (fun l q e' hq hl => Rd.fin (V := fun _ => True) (⟨n1, n2, o, l⟩ : msg_Swap) hq trivial)).mono (fun _ h => h) (fun x d _ h => ?_)
 ·unfold msg_decoder_swap.r0 msg_decoder_swap.b0
  rw [if_neg (by simp)]
 ·obtain ⟨t, q1, e1, a1, a2, a3, a4⟩ := rd_lot hs hp e
  refine ⟨t, q1, e1, ?_, a2, fun z => ?_⟩
  ·unfold msg_decoder_swap.r0 msg_decoder_swap.b0
   simp only
   rw [if_pos (decide_eq_true hi), a1, Option.bind_some, if_pos (by simp; omega), i64_nx i (by omega)]
  ·obtain ⟨y1, _, rfl, y2⟩ := a4 z
   exact ⟨y1, y2⟩
 ·obtain ⟨n1, _, _, rfl, ⟨n2, _, _, rfl, ⟨o, _, _, rfl, ⟨n, _, _, rfl, ⟨l, _, _, ⟨rfl, hl⟩, ⟨rfl, rfl⟩, rfl⟩, rfl⟩, rfl⟩, rfl⟩, rfl⟩ := h
  simp only [eSwap, List.append_nil, hl]
theorem rd_basket : Rd s p e (msg_decoder_basket.f ⟨s, (p : Int), e⟩) (fun _ => True) (fun x d => d = eBasket x) := by
 unfold msg_decoder_basket.f
 refine ((rd_int hs hp e).bind fun n1 q e' hq _ => (rd_int hs hq e').bind fun n2 q e' hq _ => (rd_int hs hq e').bind fun n3 q e' hq _ => (rd_int hs hq e').bind fun n4 q e' hq _ => (rd_int hs hq e').bind fun n5 q e' hq _ =>
  (rd_int hs hq e').bind fun n6 q e' hq _ => (rd_int hs hq e').bind fun n7 q e' hq _ => (rd_text12 hs hq e').bind fun t q e' hq _ => (rd_count hs hq e').bind fun n q e' hq hn =>
  Rd.loop _ n hn hq eCut (fun a b c => ?_) (fun i p e acc hi h64 hp ha => ?_) (fun l q e' hq hl => (rd_ints hs hq e').bind fun b q e' hq _ => Rd.fin (V := fun _ => True) (⟨n1, n2, t, n3, n4, n5, l, n6, n7, b⟩ : api_Basket) hq trivial)).mono (fun _ h => h) (fun x d _ h => ?_)
 ·unfold msg_decoder_basket.r0 msg_decoder_basket.b0
  rw [if_neg (by simp)]
 ·obtain ⟨m1, q1, e1, a1, a2, _, a4⟩ := rd_int hs hp e
  obtain ⟨m2, q2, e2, b1, b2, _, b4⟩ := rd_int hs a2 e1
  obtain ⟨m3, q3, e3, c1, c2, _, c4⟩ := rd_int hs b2 e2
  refine ⟨⟨m1, m2, m3⟩, q3, e3, ?_, c2, fun z => ?_⟩
  ·unfold msg_decoder_basket.r0 msg_decoder_basket.b0
   simp only
   rw [if_pos (decide_eq_true hi), a1, Option.bind_some, b1, Option.bind_some, c1, Option.bind_some, if_pos (by simp; omega), i64_nx i (by omega)]
  ·obtain ⟨z1, _, rfl, z2, z3⟩ := c4 z
   obtain ⟨y1, _, rfl, y2, y3⟩ := b4 z1
   obtain ⟨x1, _, rfl, x2, x3⟩ := a4 y1
   subst x3
   subst y3
   exact ⟨x1, x2.app (y2.app z2), by simp only [eCut, List.length_append, ← Nat.add_assoc]; exact z3⟩
 ·obtain ⟨n1, _, _, rfl, ⟨n2, _, _, rfl, ⟨n3, _, _, rfl, ⟨n4, _, _, rfl, ⟨n5, _, _, rfl, ⟨n6, _, _, rfl, ⟨n7, _, _, rfl, ⟨t, _, _, rfl, ⟨n, _, _, rfl, ⟨l, _, _, ⟨rfl, hl⟩, ⟨b, _, _, rfl, ⟨rfl, rfl⟩, rfl⟩, rfl⟩, rfl⟩, rfl⟩, rfl⟩, rfl⟩, rfl⟩, rfl⟩, rfl⟩, rfl⟩, rfl⟩ := h
  simp only [eBasket, List.append_nil, hl, List.flatMap_cons, List.flatMap_nil, List.append_assoc]
theorem rd_get (k : Int) (h1 : 1 ≤ k) (h2 : k ≤ 15) : Rd s p e (msg_decoder_get.f ⟨s, (p : Int), e⟩ k) (fun m => kd m = k) (fun m d => d = eMsg m) := by
 have hk : k = 1 ∨ k = 2 ∨ k = 3 ∨ k = 4 ∨ k = 5 ∨ k = 6 ∨ k = 7 ∨ k = 8 ∨ k = 9 ∨ k = 10 ∨ k = 11 ∨ k = 12 ∨ k = 13 ∨ k = 14 ∨ k = 15 := by omega
 rcases hk with rfl | rfl | rfl | rfl | rfl | rfl | rfl | rfl | rfl | rfl | rfl | rfl | rfl | rfl | rfl
 ·refine ((rd_int hs hp e).bind fun v q e' hq _ => (rd_text160 hs hq e').bind fun t q e' hq _ => Rd.fin (V := fun m => kd m = 1) (msg_Message.cmsg_Join ⟨v, t⟩) hq rfl).mono (fun _ h => h) (fun x d _ h => ?_)
  obtain ⟨v, _, _, rfl, ⟨t, _, _, rfl, ⟨rfl, rfl⟩, rfl⟩, rfl⟩ := h
  simp only [eMsg, List.append_nil]
 ·refine ((rd_asset hs hp e).bind fun v q e' hq _ => Rd.fin (V := fun m => kd m = 2) (msg_Message.cmsg_List ⟨v⟩) hq rfl).mono (fun _ h => h) (fun x d _ h => ?_)
  obtain ⟨v, _, _, rfl, ⟨rfl, rfl⟩, rfl⟩ := h
  simp only [eMsg, List.append_nil]
 ·refine ((rd_basket hs hp e).bind fun v q e' hq _ => Rd.fin (V := fun m => kd m = 3) (msg_Message.cmsg_Rules ⟨v⟩) hq rfl).mono (fun _ h => h) (fun x d _ h => ?_)
  obtain ⟨v, _, _, rfl, ⟨rfl, rfl⟩, rfl⟩ := h
  simp only [eMsg, List.append_nil]
 ·refine ((rd_prices hs hp e).bind fun v q e' hq _ => Rd.fin (V := fun m => kd m = 4) (msg_Message.cmsg_Prices v) hq rfl).mono (fun _ h => h) (fun x d _ h => ?_)
  obtain ⟨v, _, _, rfl, ⟨rfl, rfl⟩, rfl⟩ := h
  simp only [eMsg, List.append_nil]
 ·refine ((rd_int hs hp e).bind fun v q e' hq _ => Rd.fin (V := fun m => kd m = 5) (msg_Message.cmsg_Roll ⟨v⟩) hq rfl).mono (fun _ h => h) (fun x d _ h => ?_)
  obtain ⟨v, _, _, rfl, ⟨rfl, rfl⟩, rfl⟩ := h
  simp only [eMsg, List.append_nil]
 ·refine ((rd_int hs hp e).bind fun v q e' hq _ => (rd_int hs hq e').bind fun w q e' hq _ => (rd_text12 hs hq e').bind fun t q e' hq _ => Rd.fin (V := fun m => kd m = 6) (msg_Message.cmsg_Cash ⟨v, t, w⟩) hq rfl).mono (fun _ h => h) (fun x d _ h => ?_)
  obtain ⟨v, _, _, rfl, ⟨w, _, _, rfl, ⟨t, _, _, rfl, ⟨rfl, rfl⟩, rfl⟩, rfl⟩, rfl⟩ := h
  simp only [eMsg, List.append_nil, List.flatMap_cons, List.flatMap_nil, List.append_assoc]
 ·refine ((rd_int hs hp e).bind fun v q e' hq _ => (rd_int hs hq e').bind fun w q e' hq _ => (rd_text12 hs hq e').bind fun t q e' hq _ => Rd.fin (V := fun m => kd m = 7) (msg_Message.cmsg_Move ⟨v, t, w⟩) hq rfl).mono (fun _ h => h) (fun x d _ h => ?_)
  obtain ⟨v, _, _, rfl, ⟨w, _, _, rfl, ⟨t, _, _, rfl, ⟨rfl, rfl⟩, rfl⟩, rfl⟩, rfl⟩ := h
  simp only [eMsg, List.append_nil, List.flatMap_cons, List.flatMap_nil, List.append_assoc]
 ·refine ((rd_quote hs hp e).bind fun v q e' hq _ => Rd.fin (V := fun m => kd m = 8) (msg_Message.cmsg_Offer ⟨v⟩) hq rfl).mono (fun _ h => h) (fun x d _ h => ?_)
  obtain ⟨v, _, _, rfl, ⟨rfl, rfl⟩, rfl⟩ := h
  simp only [eMsg, List.append_nil]
 ·refine ((rd_int hs hp e).bind fun v q e' hq _ => (rd_int hs hq e').bind fun w q e' hq _ => Rd.fin (V := fun m => kd m = 9) (msg_Message.cmsg_Cancel ⟨v, w⟩) hq rfl).mono (fun _ h => h) (fun x d _ h => ?_)
  obtain ⟨v, _, _, rfl, ⟨w, _, _, rfl, ⟨rfl, rfl⟩, rfl⟩, rfl⟩ := h
  simp only [eMsg, List.append_nil, List.flatMap_cons, List.flatMap_nil]
 ·refine ((rd_int hs hp e).bind fun v q e' hq _ => (rd_int hs hq e').bind fun w q e' hq _ => (rd_int hs hq e').bind fun t q e' hq _ => Rd.fin (V := fun m => kd m = 10) (msg_Message.cmsg_Notice ⟨v, w, t⟩) hq rfl).mono (fun _ h => h) (fun x d _ h => ?_)
  obtain ⟨v, _, _, rfl, ⟨w, _, _, rfl, ⟨t, _, _, rfl, ⟨rfl, rfl⟩, rfl⟩, rfl⟩, rfl⟩ := h
  simp only [eMsg, List.append_nil, List.flatMap_cons, List.flatMap_nil]
 ·refine ((rd_swap hs hp e).bind fun v q e' hq _ => Rd.fin (V := fun m => kd m = 11) (msg_Message.cmsg_Swap v) hq rfl).mono (fun _ h => h) (fun x d _ h => ?_)
  obtain ⟨v, _, _, rfl, ⟨rfl, rfl⟩, rfl⟩ := h
  simp only [eMsg, List.append_nil]
 ·refine ((rd_int hs hp e).bind fun v q e' hq _ => (rd_int hs hq e').bind fun w q e' hq _ => (rd_bool hs hq e').bind fun t q e' hq _ => Rd.fin (V := fun m => kd m = 12) (msg_Message.cmsg_Settle ⟨v, w, t⟩) hq rfl).mono (fun _ h => h) (fun x d _ h => ?_)
  obtain ⟨v, _, _, rfl, ⟨w, _, _, rfl, ⟨t, _, _, rfl, ⟨rfl, rfl⟩, rfl⟩, rfl⟩, rfl⟩ := h
  simp only [eMsg, List.append_nil, List.flatMap_cons, List.flatMap_nil, List.append_assoc]
 ·refine ((rd_int hs hp e).bind fun v q e' hq _ => Rd.fin (V := fun m => kd m = 13) (msg_Message.cmsg_Default ⟨v⟩) hq rfl).mono (fun _ h => h) (fun x d _ h => ?_)
  obtain ⟨v, _, _, rfl, ⟨rfl, rfl⟩, rfl⟩ := h
  simp only [eMsg, List.append_nil]
 ·refine ((rd_int hs hp e).bind fun v q e' hq _ => (rd_int hs hq e').bind fun w q e' hq _ => Rd.fin (V := fun m => kd m = 14) (msg_Message.cmsg_Bound ⟨v, w⟩) hq rfl).mono (fun _ h => h) (fun x d _ h => ?_)
  obtain ⟨v, _, _, rfl, ⟨w, _, _, rfl, ⟨rfl, rfl⟩, rfl⟩, rfl⟩ := h
  simp only [eMsg, List.append_nil, List.flatMap_cons, List.flatMap_nil]
 ·refine ((rd_int hs hp e).bind fun v q e' hq _ => (rd_int hs hq e').bind fun w q e' hq _ => (rd_int hs hq e').bind fun t q e' hq _ => Rd.fin (V := fun m => kd m = 15) (msg_Message.cmsg_Reset ⟨v, w, t⟩) hq rfl).mono (fun _ h => h) (fun x d _ h => ?_)
  obtain ⟨v, _, _, rfl, ⟨w, _, _, rfl, ⟨t, _, _, rfl, ⟨rfl, rfl⟩, rfl⟩, rfl⟩, rfl⟩ := h
  simp only [eMsg, List.append_nil, List.flatMap_cons, List.flatMap_nil]
end
end Go.Proofs.YtbmokbkgielmmaaGreat
