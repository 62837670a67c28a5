/- The plain statement of MsgDecodes: which message all bytes are, or where they are wrong. -/
import Derived.Test.YtbmokbkgielmmaaGreatPuAw10
import Derived.Test.YtbmokbkgielmmaaGreatPuSame10
import Derived.Test.YtbmokbkgielmmaaGreatPuDecd10
import Derived.Test.YtbmokbkgielmmaaGreatPuChk10
import Derived.Test.YtbmokbkgielmmaaGreatPuGetR10
import Derived.Test.YtbmokbkgielmmaaGreatGx6
namespace Go.Proofs.YtbmokbkgielmmaaGreat
open Go Go.Pm Go.Pm.Arith
set_option linter.unusedVariables false
set_option linter.unusedSimpArgs false
theorem bd_get {s : Bs} (hs : s.length < 1000000000) {p : Nat} (hp : p ≤ s.length) (e k : Int) (h1 : 1 ≤ k) (h2 : k ≤ 15) : Bd s p e (msg_decoder_get.f ⟨s, (p : Int), e⟩ k) (lombardref10_read.f ⟨s, (p : Int), e⟩ (⟨k, 0, [], (⟨[], 0, 0, 0, []⟩ : api_Asset), (⟨0, 0, [], 0, 0, 0, [], 0, 0, []⟩ : api_Basket), [], 0, [], 0, (⟨0, 0, 0, 0, 0, 0, 0, 0⟩ : api_Quote), (⟨[], 0⟩ : api_Lot), [], 0, false, 0⟩ : lombardref10_Msg)) (fun _ _ => True) (Same10 k) := by
 have hk : k = 1 ∨ k = 2 ∨ k = 3 ∨ k = 4 ∨ k = 5 ∨ k = 6 ∨ k = 7 ∨ k = 8 ∨ k = 9 ∨ k = 10 ∨ k = 11 ∨ k = 12 ∨ k = 13 ∨ k = 14 ∨ k = 15 := by omega
 rcases hk with rfl | rfl | rfl | rfl | rfl | rfl | rfl | rfl | rfl | rfl | rfl | rfl | rfl | rfl | rfl
 ·exact bd_get1 hs hp e
 ·exact bd_get2 hs hp e
 ·exact bd_get3 hs hp e
 ·exact bd_get4 hs hp e
 ·exact bd_get5 hs hp e
 ·exact bd_get6 hs hp e
 ·exact bd_get7 hs hp e
 ·exact bd_get8 hs hp e
 ·exact bd_get9 hs hp e
 ·exact bd_get10 hs hp e
 ·exact bd_get11 hs hp e
 ·exact bd_get12 hs hp e
 ·exact bd_get13 hs hp e
 ·exact bd_get14 hs hp e
 ·exact bd_get15 hs hp e
def zeroM : lombardref10_Msg := (⟨0, 0, [], (⟨[], 0, 0, 0, []⟩ : api_Asset), (⟨0, 0, [], 0, 0, 0, [], 0, 0, []⟩ : api_Basket), [], 0, [], 0, (⟨0, 0, 0, 0, 0, 0, 0, 0⟩ : api_Quote), (⟨[], 0⟩ : api_Lot), [], 0, false, 0⟩ : lombardref10_Msg)
noncomputable def tailD (s : Bs) (r : lombardref09_Reader) (M : lombardref10_Msg) : Option (lombardref10_Msg × Int × Int) := (lombardref09_Reader_End.f r).bind fun t53 => if (t53.1.E != 0) = true then some (zeroM, t53.1.At, t53.1.E) else
 (lombardref10_Check.f M).bind fun t56 => if (t56 != 0) = true then (lombardref10_Check.f M).bind fun t59 => some (zeroM, (s.length : Int), t59) else some (M, (s.length : Int), 0)
section
variable {s : Bs} {q : Nat} {e k : Int}
theorem doc1 (h : lombardref09_Reader_Int.f ⟨s, 0, 0⟩ = some (⟨s, (q : Int), 0⟩, k)) (h1 : 1 ≤ k) (h2 : k ≤ 15) {r : lombardref09_Reader} {M : lombardref10_Msg} (hr : lombardref10_read.f ⟨s, (q : Int), 0⟩ (⟨k, 0, [], (⟨[], 0, 0, 0, []⟩ : api_Asset), (⟨0, 0, [], 0, 0, 0, [], 0, 0, []⟩ : api_Basket), [], 0, [], 0, (⟨0, 0, 0, 0, 0, 0, 0, 0⟩ : api_Quote), (⟨[], 0⟩ : api_Lot), [], 0, false, 0⟩ : lombardref10_Msg) = some (r, M)) : lombardref10_Decode.f s = tailD s r M := by
 unfold lombardref10_Decode.f
 rw [h, Option.bind_some, if_neg (by simp; omega), if_pos (by rfl)]
 simp only
 rw [hr]
 rfl
theorem doc2 (h : lombardref09_Reader_Int.f ⟨s, 0, 0⟩ = some (⟨s, (q : Int), e⟩, k)) (he : ¬ e = 0) : lombardref10_Decode.f s = tailD s ⟨s, (q : Int), e⟩ (⟨k, 0, [], (⟨[], 0, 0, 0, []⟩ : api_Asset), (⟨0, 0, [], 0, 0, 0, [], 0, 0, []⟩ : api_Basket), [], 0, [], 0, (⟨0, 0, 0, 0, 0, 0, 0, 0⟩ : api_Quote), (⟨[], 0⟩ : api_Lot), [], 0, false, 0⟩ : lombardref10_Msg) := by
 unfold lombardref10_Decode.f
 rw [h, Option.bind_some, if_neg (by simp [he]), if_neg (by simp [he])]
 rfl
theorem doc3 (h : lombardref09_Reader_Int.f ⟨s, 0, 0⟩ = some (⟨s, (q : Int), 0⟩, k)) (h1 : ¬ (1 ≤ k ∧ k ≤ 15)) : lombardref10_Decode.f s = some (zeroM, 0, 17) := by
 unfold lombardref10_Decode.f
 rw [h, Option.bind_some, if_pos (by simp; omega)]
 rfl
theorem tail_bad (M : lombardref10_Msg) (he : ¬ e = 0) : tailD s ⟨s, (q : Int), e⟩ M = some (zeroM, (q : Int), e) := by
 have : lombardref09_Reader_End.f ⟨s, (q : Int), e⟩ = some (⟨s, (q : Int), e⟩, false) := by
  have ne : (e == 0) = false := by simpa using he
  unfold lombardref09_Reader_End.f lombardref09_Reader_fail.f
  simp only [ne]
  split <;> simp [ne]
 unfold tailD
 rw [this, Option.bind_some, if_pos (by simpa using he)]
theorem tail_left (M : lombardref10_Msg) (hq : q < s.length) : tailD s ⟨s, (q : Int), 0⟩ M = some (zeroM, (q : Int), 16) := by
 have : lombardref09_Reader_End.f ⟨s, (q : Int), 0⟩ = some (⟨s, (q : Int), 16⟩, false) := by
  unfold lombardref09_Reader_End.f
  rw [if_pos (decide_eq_true (by simp; omega)), dfail0]; rfl
 unfold tailD
 rw [this]; rfl
theorem tail_done (M : lombardref10_Msg) : tailD s ⟨s, (s.length : Int), 0⟩ M = (lombardref10_Check.f M).bind fun t56 => if (t56 != 0) = true then (lombardref10_Check.f M).bind fun t59 => some (zeroM, (s.length : Int), t59) else some (M, (s.length : Int), 0) := by
 have : lombardref09_Reader_End.f ⟨s, (s.length : Int), 0⟩ = some (⟨s, (s.length : Int), 0⟩, true) := by
  unfold lombardref09_Reader_End.f
  rw [if_neg (by simp)]; rfl
 unfold tailD
 rw [this]; rfl
end
theorem dec_both (s : Bs) (hs : s.length < 1000000000) : ∃ (n g : Int), (msg_Decode.f s = some (.nil, n, g) ∧ lombardref10_Decode.f s = some (zeroM, n, g) ∧ g ≠ 0) ∨
 (∃ (m : msg_Message) (M : lombardref10_Msg) (k : Int), msg_Decode.f s = some (m, n, 0) ∧ lombardref10_Decode.f s = some (M, n, 0) ∧ Same10 k m M ∧ Fit m ∧ m.isNil = false) := by
 obtain ⟨k, k', q, e, h1, h2, h3, rfl, h5, _⟩ := bd_int hs (Nat.zero_le _) 0 (p := 0)
 have h1' : wire_Reader_Int.f ⟨s, 0, 0⟩ = some (k, ⟨s, (q : Int), e⟩) := h1
 have h2' : lombardref09_Reader_Int.f ⟨s, 0, 0⟩ = some (⟨s, (q : Int), e⟩, k) := h2
 unfold msg_Decode.f wire_NewReader.f
 rw [Option.bind_some, h1', Option.bind_some]
 simp only
 by_cases c : 1 ≤ k ∧ k ≤ 15
 ·obtain ⟨m, q2, e2, g1, g2, g3, _⟩ := rd_get hs h3 e k c.1 c.2
  obtain ⟨m', M, q3, e3, b1, b2, b3, _, b5, b6⟩ := bd_get hs h3 e k c.1 c.2
  rw [g1] at b1
  obtain ⟨rfl, rfl, rfl⟩ : m = m' ∧ q2 = q3 ∧ e2 = e3 := by
   injection b1 with b1
   injection b1 with a b
   injection b with b1 b2 b3
   exact ⟨a, by omega, b3⟩
  obtain ⟨n1, n2⟩ := kd_pos (m := m) (by rw [g3]; exact c.1)
  rw [g1, Option.bind_some]
  unfold wire_Reader_Err.f wire_Reader_At.f
  rw [Option.bind_some, n1, if_neg (by simp)]
  have dd : (e = 0 ∧ lombardref10_Decode.f s = tailD s ⟨s, (q2 : Int), e2⟩ M) ∨ (e ≠ 0 ∧ q2 = q ∧ e2 = e ∧ lombardref10_Decode.f s = some (zeroM, (q : Int), e)) := by
   by_cases z : e = 0
   ·subst z
    exact .inl ⟨rfl, doc1 h2' c.1 c.2 b2⟩
   ·obtain ⟨rfl, rfl⟩ := b6 z
    exact .inr ⟨z, rfl, rfl, by rw [doc2 h2' z, tail_bad _ z]⟩
  by_cases z : e2 = 0
  ·subst z
   have dd : lombardref10_Decode.f s = tailD s ⟨s, (q2 : Int), 0⟩ M := by
    rcases dd with ⟨_, d⟩ | ⟨a, _, b, _⟩
    ·exact d
    ·exact absurd b.symm a
   obtain ⟨_, s1, s2, s3⟩ := b5 rfl
   by_cases lt : q2 < s.length
   ·rw [end_left s q2 lt, dd, tail_left M lt]
    exact ⟨_, 16, .inl ⟨rfl, rfl, by decide⟩⟩
   ·obtain rfl : q2 = s.length := by omega
    obtain ⟨x, o, v, v1, v2⟩ := check_both M
    rw [s1] at o
    cases o
    obtain ⟨v', w1, w2⟩ := check_tot m
    rw [v1] at w1
    cases w1
    rw [end_done, Option.bind_some, if_neg (by intro h; cases h), v1, Option.bind_some, dd, tail_done, v2, Option.bind_some]
    by_cases vz : v = 0
    ·subst vz
     rw [if_neg (by decide)]
     exact ⟨_, 0, .inr ⟨m, M, k, rfl, rfl, ⟨s1, s2, s3⟩, (w2 rfl).1, n1⟩⟩
    ·rw [if_pos (show (v != 0) = true by simpa using vz), if_pos (show (v != 0) = true by simpa using vz)]
     exact ⟨_, v, .inl ⟨rfl, rfl, vz⟩⟩
  ·have dd : lombardref10_Decode.f s = some (zeroM, (q2 : Int), e2) := by
    rcases dd with ⟨_, d⟩ | ⟨_, rfl, rfl, d⟩
    ·rw [d, tail_bad M z]
    ·exact d
   rw [end_bad s q2 e2 g2 z, dd]
   exact ⟨_, e2, .inl ⟨rfl, rfl, z⟩⟩
 ·rw [get_other s q e k c, Option.bind_some]
  unfold wire_Reader_Err.f wire_Reader_At.f
  rw [Option.bind_some]
  by_cases z : e = 0
  ·subst z
   rw [if_pos (by rfl), doc3 h2' c]
   exact ⟨_, 17, .inl ⟨rfl, rfl, by decide⟩⟩
  ·rw [if_neg (by simp [z]), end_bad s q e h3 z, doc2 h2' z, tail_bad _ z]
   exact ⟨_, e, .inl ⟨rfl, rfl, z⟩⟩
theorem fit_told (k : Int) (m : msg_Message) (M : lombardref10_Msg) (h : Fit m) (hs : lombardlaw10_Told.f m = some M) : M.Prices.length ≤ 64 ∧ M.In.length ≤ 64 ∧ M.Basket.Cuts.length ≤ 64 ∧ M.Basket.Barred.length ≤ 64 := by
 cases m with
 | nil => cases hs; decide
 | cmsg_Rules x => cases hs; exact ⟨Nat.zero_le _, Nat.zero_le _, h.2.1, h.2.2⟩
 | cmsg_Prices x => cases hs; exact ⟨h.1, Nat.zero_le _, Nat.zero_le _, Nat.zero_le _⟩
 | cmsg_Swap x => cases hs; exact ⟨Nat.zero_le _, h.2.1, Nat.zero_le _, Nat.zero_le _⟩
 | _ => cases hs; exact ⟨Nat.zero_le _, Nat.zero_le _, Nat.zero_le _, Nat.zero_le _⟩
theorem Pure.MsgDecodes : ∀ (x0 : Bs), (x0.length ≤ reach) → lombardlaw10_MsgDecodes.f x0 = some true := by
 intro s _
 unfold lombardlaw10_MsgDecodes.f
 rw [awake_is]
 by_cases c : decide ((s.length : Int) > 3000) = true
 ·rw [if_pos c]; rfl
 rw [if_neg c]
 have few : s.length ≤ 3000 := by simp at c; omega
 obtain ⟨n, g, ⟨h1, h2, h3⟩ | ⟨m, M, k, h1, h2, ⟨s1, s2, s3⟩, h4, h5⟩⟩ := dec_both s (by omega)
 ·rw [h1, h2]
  have t1 : lombardlaw10_Told.f .nil = some zeroM := rfl
  have t2 : lombardref10_Plain.f zeroM = some zeroM := rfl
  have t3 := msg_self zeroM (by decide) (by decide) (by decide) (by decide)
  have e1 : (msg_Message.nil.isNil == (g != 0)) = true := by
   have : (g != 0) = true := by simpa using h3
   rw [this]; rfl
  simp only [Option.bind_some, e1, t1, t2, t3, if_true]
  simp
 ·obtain ⟨f1, f2, f3, f4⟩ := fit_told k m M h4 s2
  have t3 := msg_self M (by omega) (by omega) (by omega) (by omega)
  rw [h1, h2]
  simp only [Option.bind_some, h5, s2, s3, t3]
  simp [t3]
end Go.Proofs.YtbmokbkgielmmaaGreat
