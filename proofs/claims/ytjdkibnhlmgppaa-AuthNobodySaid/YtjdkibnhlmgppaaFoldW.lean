/- The walk of name.Fold: a builder that takes the small form of each sign of a text. Conditions: the text takes at most 2^45 bytes; the small form is told by a function low. -/
import Derived.Test.YtjdkibnhlmgppaaBui
import Derived.Test.YtjdkibnhlmgppaaPmS
import Derived.WalkKit
import Derived.BigCall
namespace Go.Proofs.Ytjdkibnhlmgppaa
open Go Go.Proofs Go.RowKit

theorem bui_below {T e : TypeId} {B b : Nat} {p : Value} {bs : List Value} {W W' : World} (h : Lib.BuilderAtF T e B b p bs W) (hb : Below W.heap.size W W') : Lib.BuilderAtF T e B b p bs W' := by
  have hlt := h.lt
  obtain ⟨hB, v, hv, hown, hne⟩ := h
  exact ⟨hB, v, (hb.block b hlt).trans hv, hown.kept (row := none) ⟨hb.os, hb.tape, hb.output, hb.size, fun k hk _ => hb.block k hk⟩ (Classical.em _), hne⟩
theorem builder_below {T e : TypeId} {B b : Nat} {bs : List Value} {W W' : World} (h : Lib.IsBuilderF T e B b bs W) (hb : Below W.heap.size W W') : Lib.IsBuilderF T e B b bs W' :=
  h.elim (fun x => .inl (bui_below x hb)) (fun x => .inr (bui_below x hb))

/-- The small forms of the signs of a text from a place on, by at most 'fuel' signs. -/
def foldFrom (low : Int → Option Int) (s : ByteArray) : Nat → Nat → Option (List UInt8)
  | 0, _ => some []
  | fuel + 1, pos => if pos < s.size then (low ((Utf8.decode s pos).1 : Int)).bind fun c => (foldFrom low s fuel (pos + (Utf8.decode s pos).2)).map (Lib.encodeRune c ++ ·) else some []

theorem width_pos (s : ByteArray) (pos : Nat) (h : pos < s.size) : 1 ≤ (Utf8.decode s pos).2 := by
  by_cases ha : (s[pos]'h).toNat < 128
  · rw [decode_ascii s pos h ha]
    exact Nat.le_refl _
  · exact (decode_high s pos h (by omega)).2

set_option maxHeartbeats 4000000 in
set_option maxRecDepth 1000000 in
theorem fold_walk (low : Int → Option Int) (hlow : ∀ c r w, low c = some r → (-2147483648 ≤ r ∧ r ≤ 2147483647) ∧ Calls Try.prog 54 #[.int .i32 c] w fun e w' => e = .returned (.int .i32 r) ∧ Below w.heap.size w w')
    (s : ByteArray) (w : World) (r : List UInt8) (hs : s.size ≤ 35184372088832) (hf : foldFrom low s s.size 0 = some r) :
    Calls Try.prog 35 #[.string s] w fun e w' => e = .returned (.string ⟨r.toArray⟩) ∧ Below w.heap.size w w' := by
  go_enter Try.func35, Try.ntmps35
  go_wp2
  go_loopw [] (fun wr => ∃ (pos fuel : Nat) (acc r' : List UInt8), Lib.IsBuilderF 110 5 w.heap.size w.heap.size (Lib.byteCells acc) wr ∧ wr.heap[w.heap.size + 1]? = some (.stringIter s pos) ∧ Below w.heap.size w wr ∧ foldFrom low s fuel pos = some r' ∧ acc ++ r' = r ∧ s.size ≤ pos + fuel ∧ acc.length ≤ 4 * pos) (fun wr => s.size - wr.iterPos (w.heap.size + 1))
  case atStart =>
    refine ⟨0, s.size, [], r, (Lib.IsBuilderF.of (Lib.fresh_isBuilder 110 5 w)).alloc _, ?_, ((Below.refl _ w).alloc (Nat.le_refl _) _).alloc (by simp) _, hf, rfl, by omega, by simp⟩
    have := World.iter_heap (w.alloc (.cells #[.pointer none, .slice none 0 0] 110)) s 0
    simpa using this
  case round =>
    obtain ⟨pos, fuel, acc, r', hI, hit, hbw, hfr, hacc, hfu, hal⟩ := hrel
    have hsz : w.heap.size + 1 < wr.heap.size := (Array.getElem?_eq_some_iff.1 hit).1
    by_cases hp : pos < s.size
    · have hnx : ∀ ty, (Instr.next (.pointer (some ⟨w.heap.size + 1, 0, none⟩)) true ty).run Try.prog wr = _ := fun ty => Lib.run_next_any_at wr (w.heap.size + 1) s pos ty hit hp
      have hwd := width_pos s pos hp
      have hd1 := decode_le s pos
      have hI2 := hI.iterAt hit (pos + (Utf8.decode s pos).2)
      have hit2 := Lib.iterAt_heap wr (w.heap.size + 1) s pos (pos + (Utf8.decode s pos).2) hit
      have hbw2 := Lib.below_iterAt hbw (k := w.heap.size + 1) (by omega) s (pos + (Utf8.decode s pos).2)
      have hsz2 : w.heap.size + 1 < (wr.iterAt (w.heap.size + 1) s (pos + (Utf8.decode s pos).2)).heap.size := by rw [Lib.iterAt_size]; omega
      obtain ⟨f, rfl⟩ : ∃ f, fuel = f + 1 := ⟨fuel - 1, by omega⟩
      rw [foldFrom, if_pos hp] at hfr
      obtain ⟨c, hc, hfr⟩ := Option.bind_eq_some_iff.1 hfr
      obtain ⟨r2, hr2, rfl⟩ := Option.map_eq_some_iff.1 hfr
      obtain ⟨⟨hc0, hc1⟩, hcall⟩ := hlow _ c (wr.iterAt (w.heap.size + 1) s (pos + (Utf8.decode s pos).2)) hc
      go_wp2_with (go_at_call 54; refine hcall.mono ?_)
      rintro e W0 ⟨rfl, b0⟩
      have hI3 := builder_below hI2 b0
      have hit3 := (b0.block (w.heap.size + 1) hsz2).trans hit2
      have hbw3 : Below w.heap.size w W0 := hbw2.trans ⟨b0.os, b0.tape, b0.output, b0.size, fun k hk => b0.block k (by omega)⟩
      have hsz3 := b0.size
      go_wp2_with (go_at_call 53; refine (Try.Builder_WriteRune_k w.heap.size w.heap.size _ c hc0 hc1 _ hI3 (by rw [Lib.byteCells_length]; omega) (by omega)).mono ?_)
      rintro e W1 ⟨rfl, h1, b1, k1⟩
      go_wp2
      go_roundw
      case rel =>
        have hl4 := Lib.runeCells_le c
        rw [Lib.runeCells_length] at hl4
        refine ⟨pos + (Utf8.decode s pos).2, f, acc ++ Lib.encodeRune c, r2, ?_, k1.iter hit3 (by omega), hbw3.trans b1, hr2, ?_, by omega, by simp; omega⟩
        · rw [Lib.byteCells_append, Lib.byteCells_encodeRune]; exact Or.inr h1
        · rw [← hacc]; simp
      case measure =>
        simp only [World.iterPos, k1.iter hit3 (by omega), hit]
        omega
    · have hnx : ∀ ty, (Instr.next (.pointer (some ⟨w.heap.size + 1, 0, none⟩)) true ty).run Try.prog wr = _ := fun ty => Lib.run_next_end_at wr (w.heap.size + 1) s pos ty hit hp
      go_wp2_with (go_at_call 55; refine (Try.Builder_String_any_k w.heap.size w.heap.size acc _ hI (by omega)).mono ?_)
      rintro e W1 ⟨rfl, _, b1, _⟩
      go_wp2
      go_ret
      have he : r' = [] := by
        cases fuel with
        | zero => rw [foldFrom] at hfr; exact (Option.some.inj hfr).symm
        | succ f => rw [foldFrom, if_neg hp] at hfr; exact (Option.some.inj hfr).symm
      subst he
      rw [List.append_nil] at hacc
      subst hacc
      exact ⟨rfl, hbw.trans b1⟩

theorem spec_fold {P : Program} {f : FuncId} {s r : Pm.Bs} (h : ∀ w, Calls P f #[.string (Pm.tx s)] w fun e w' => e = .returned (.string (Pm.tx r)) ∧ Below w.heap.size w w') : Pm.Spec P f [.imm (.val (.string (Pm.tx s)))] (.imm (.val (.string (Pm.tx r)))) [none] := by
  intro S w vs F hS hx hn hF
  obtain ⟨vl⟩ := vs
  cases hx with
  | cons _ _ v vs' F1 F2 h1 h2 =>
    cases h2
    cases h1 with
    | imm _ _ ht =>
      cases ht
      refine (h w).mono ?_
      rintro e w' ⟨rfl, hb⟩
      exact ⟨_, S, [], [], rfl, fun _ h => h, fun b hb' => ⟨Nat.lt_of_lt_of_le (hS b hb') hb.size, .inl hb'⟩, .imm _ _ (.val _), .none _ _ _ _ .nil, by simp, by simp,
        hb.os, hb.tape, hb.output, hb.size, fun k hk _ => hb.block k hk⟩
theorem fold_low {P : Program} {f : FuncId} {c r : Int} (h : Pm.Spec P f [.imm (.val (.int .i32 c))] (.imm (.val (.int .i32 r))) [none]) (w : World) : Calls P f #[.int .i32 c] w fun e w' => e = .returned (.int .i32 r) ∧ Below w.heap.size w w' := by
  refine (h (fun _ => False) w #[.int .i32 c] [] (fun _ h => h.elim) (.cons _ _ _ _ [] [] (.imm _ _ (.val _)) .nil) (by simp) (by simp)).mono ?_
  rintro e w' ⟨v, S', Fr', Fs, rfl, hp⟩
  have hr := hp.res
  cases hr with
  | imm _ _ ht => cases ht; exact ⟨rfl, hp.frame.os, hp.frame.tape, hp.frame.output, hp.frame.size, fun k hk => hp.frame.block k hk (by simp)⟩
end Go.Proofs.Ytjdkibnhlmgppaa
