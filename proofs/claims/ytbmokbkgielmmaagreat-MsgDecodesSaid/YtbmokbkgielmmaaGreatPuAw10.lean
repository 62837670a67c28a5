/- Shows that the chapter's example holds. -/
import Derived.Test.YtbmokbkgielmmaaGreatPuCur
import Derived.Test.YtbmokbkgielmmaaGreatGx3
namespace Go.Proofs.YtbmokbkgielmmaaGreat
open Go Go.Pm Go.Pm.Arith
set_option maxRecDepth 10000
set_option linter.unusedVariables false
set_option linter.unusedSimpArgs false
theorem w_uint (b : List Int) (x y : Int) (hx : y = (bits .and .u8 (IntKind.wrap .u8 x) 127)) (h : loop (wire_Writer_Uint.r0 x) 63 = some 0) (hb : b.length < 1000) : wire_Writer_Uint.f ⟨⟨b⟩⟩ x = some ⟨⟨b ++ [y]⟩⟩ := by
 unfold wire_Writer_Uint.f
 have h2 : loop (wire_Writer_Uint.r1 x) (0, b) = some b := loop_end (by unfold wire_Writer_Uint.r1 wire_Writer_Uint.b1; rw [if_neg (fun h => by cases h)])
 rw [h, Option.bind_some, h2, Option.bind_some, if_pos (by simp only [List.length_singleton]; omega), hx]
theorem w_loop (x : Int) (h63 : shrI .u64 x (IntKind.wrap .u64 63) = 0) (h56 : shrI .u64 x (IntKind.wrap .u64 56) = 0) (h49 : shrI .u64 x (IntKind.wrap .u64 49) = 0) (h42 : shrI .u64 x (IntKind.wrap .u64 42) = 0) (h35 : shrI .u64 x (IntKind.wrap .u64 35) = 0)
 (h28 : shrI .u64 x (IntKind.wrap .u64 28) = 0) (h21 : shrI .u64 x (IntKind.wrap .u64 21) = 0) (h14 : shrI .u64 x (IntKind.wrap .u64 14) = 0) (h7 : shrI .u64 x (IntKind.wrap .u64 7) = 0) : loop (wire_Writer_Uint.r0 x) 63 = some 0 := by
 have st : ∀ n : Int, n > 0 → shrI .u64 x (IntKind.wrap .u64 n) = 0 → wire_Writer_Uint.r0 x n = some (.inl (IntKind.wrap .i64 (n - 7))) := fun n hn h => by
  unfold wire_Writer_Uint.r0 wire_Writer_Uint.b0
  rw [h, decide_eq_true hn]; rfl
 rw [loop_next (st 63 (by decide) h63)]
 show loop _ 56 = _
 rw [loop_next (st 56 (by decide) h56)]
 show loop _ 49 = _
 rw [loop_next (st 49 (by decide) h49)]
 show loop _ 42 = _
 rw [loop_next (st 42 (by decide) h42)]
 show loop _ 35 = _
 rw [loop_next (st 35 (by decide) h35)]
 show loop _ 28 = _
 rw [loop_next (st 28 (by decide) h28)]
 show loop _ 21 = _
 rw [loop_next (st 21 (by decide) h21)]
 show loop _ 14 = _
 rw [loop_next (st 14 (by decide) h14)]
 show loop _ 7 = _
 rw [loop_next (st 7 (by decide) h7)]
 show loop _ 0 = _
 exact loop_end (by unfold wire_Writer_Uint.r0 wire_Writer_Uint.b0; rw [if_neg (fun h => by cases h)])
theorem enc_awake : msg_Encode.f (.cmsg_Roll ⟨7⟩) = some ([10, 14], 0) := by
 have hc : msg_Check.f (.cmsg_Roll ⟨7⟩) = some 0 := by rfl
 have hk : msg_Message.mKind.f (.cmsg_Roll ⟨7⟩) = some 5 := by rfl
 have w1 : wire_Writer_Int.f ⟨⟨[]⟩⟩ 5 = some ⟨⟨[10]⟩⟩ := by
  unfold wire_Writer_Int.f
  have e : shlI .u64 (IntKind.wrap .u64 5) 1 = 10 := by rfl
  rw [if_neg (by decide), e, w_uint [] 10 10 (by rfl) (w_loop 10 (by rfl) (by rfl) (by rfl) (by rfl) (by rfl) (by rfl) (by rfl) (by rfl) (by rfl)) (by decide)]
  rfl
 have w2 : wire_Writer_Int.f ⟨⟨[10]⟩⟩ 7 = some ⟨⟨[10, 14]⟩⟩ := by
  unfold wire_Writer_Int.f
  have e : shlI .u64 (IntKind.wrap .u64 7) 1 = 14 := by rfl
  rw [if_neg (by decide), e, w_uint [10] 14 14 (by rfl) (w_loop 14 (by rfl) (by rfl) (by rfl) (by rfl) (by rfl) (by rfl) (by rfl) (by rfl) (by rfl)) (by decide)]
  rfl
 have hp : msg_encoder_put.f ⟨⟨[10]⟩⟩ (.cmsg_Roll ⟨7⟩) = (wire_Writer_Int.f ⟨⟨[10]⟩⟩ 7).bind fun t => some t := by rfl
 unfold msg_Encode.f
 rw [hc, Option.bind_some, if_neg (by decide), hk, Option.bind_some, w1, Option.bind_some, hp, w2]
 rfl
theorem dec_awake : msg_Decode.f [10, 14] = some (.cmsg_Roll ⟨7⟩, 2, 0) := by
 have r1 : wire_Reader_Int.f ⟨[10, 14], 0, 0⟩ = some (5, ⟨[10, 14], 1, 0⟩) := by
  have l : loop (wire_Reader_Uint.r0 ⟨[10, 14], 0, 0⟩) (0, 0) = some (.inl (10, ⟨[10, 14], 1, 0⟩)) := loop_end (by kernel_rfl)
  unfold wire_Reader_Int.f wire_Reader_Uint.f
  rw [l]; rfl
 have r2 : wire_Reader_Int.f ⟨[10, 14], 1, 0⟩ = some (7, ⟨[10, 14], 2, 0⟩) := by
  have l : loop (wire_Reader_Uint.r0 ⟨[10, 14], 1, 0⟩) (0, 0) = some (.inl (14, ⟨[10, 14], 2, 0⟩)) := loop_end (by kernel_rfl)
  unfold wire_Reader_Int.f wire_Reader_Uint.f
  rw [l]; rfl
 have hg : msg_decoder_get.f ⟨[10, 14], 1, 0⟩ 5 = (wire_Reader_Int.f ⟨[10, 14], 1, 0⟩).bind fun t => some (.cmsg_Roll ⟨t.1⟩, t.2) := by rfl
 unfold msg_Decode.f wire_NewReader.f
 rw [Option.bind_some, r1, Option.bind_some]
 simp only
 rw [hg, r2]
 rfl
theorem awake_is : lombardlaw10_awake.f = some true := by
 unfold lombardlaw10_awake.f
 rw [enc_awake, Option.bind_some, dec_awake, Option.bind_some]
 have hs : ∀ m : lombardref10_Msg, m.Prices = [] → m.In = [] → m.Basket.Cuts = [] → m.Basket.Barred = [] → lombardref10_Same.f m m = some true := fun m h1 h2 h3 h4 => by
  have l1 : loop (lombardref09_Same.r0 [] []) 0 = some (.inr ()) := loop_end (by rfl)
  have b : lombardref10_Baskets.f m.Basket m.Basket = some true := by
   have l2 : loop (lombardref10_Baskets.r0 m.Basket m.Basket) 0 = some (.inr ()) := loop_end (by unfold lombardref10_Baskets.r0 lombardref10_Baskets.b0; rw [h3]; rfl)
   unfold lombardref10_Baskets.f lombardref09_Same.f
   rw [h3, h4, l1, l2]
   simp
  have l3 : loop (lombardref10_Same.r0 m m) 0 = some (.inr ()) := loop_end (by unfold lombardref10_Same.r0 lombardref10_Same.b0; rw [h1]; rfl)
  have l4 : lombardref10_Lots.f m.In m.In = some true := by
   have : loop (lombardref10_Lots.r0 [] []) 0 = some (.inr ()) := loop_end (by rfl)
   unfold lombardref10_Lots.f
   rw [h2, this]; simp
  unfold lombardref10_Same.f
  rw [b, l3, l4]
  simp
 have ht : lombardlaw10_Told.f (.cmsg_Roll ⟨7⟩) = some (⟨5, 0, [], (⟨[], 0, 0, 0, []⟩ : api_Asset), (⟨0, 0, [], 0, 0, 0, [], 0, 0, []⟩ : api_Basket), [], 7, [], 0, (⟨0, 0, 0, 0, 0, 0, 0, 0⟩ : api_Quote), (⟨[], 0⟩ : api_Lot), [], 0, false, 0⟩ : lombardref10_Msg) := by rfl
 rw [ht]
 simp only [beq_self_eq_true, Bool.and_true, if_true, Option.bind_some]
 rw [hs _ rfl rfl rfl rfl]
 rfl
end Go.Proofs.YtbmokbkgielmmaaGreat
