/- The pure machine, part AA: the field of a struct that is at hand as a value. Conditions: none (definitions and lemmas alone). -/
import Derived.Test.YtbmokbkgielmmaaGreatPmZ
namespace Go.Pm
open Go
set_option linter.unusedVariables false
set_option linter.unusedSimpArgs false
section
variable {P : Program} {σ : St} {o : Oper} {cx : Cx} {g : Gh} {a : Act} {w : World}
end
theorem Gives.freezeB {α : Type} {enc : α → List T} {sl : List (Nat × Option AV)} {tk : List (Nat × Option Tok)} {n : Nat} {cs : List AV} (k i p : Nat) {e sz : Nat} {l : List α} {f : Bool} (hk : lkt tk k = some (.box cs)) (hi : cs[i]? = some (.own p)) (hp : lkt tk p = some (.rows e sz (l.map enc) f)) :
 Gives (mkSt sl tk n) (mkSt sl ((k, some (.box (cs.set i (.imm (.row sz (l.map enc)))))) :: (p, some (.rows e sz (l.map enc) true)) :: tk) n) := by
 intro cx g a w h
 have hp' : (mkSt sl tk n).tk p = some (.rows e sz (l.map enc) f) := hp
 have hkp : k ≠ p := fun e0 => by subst e0; rw [hp] at hk; cases hk
 have hil : i < cs.length := (List.getElem?_eq_some_iff.1 hi).1
 have hn := h.freeze p e sz (l.map enc) f hp'
 have hold : ∀ q, (if q = k then some (.box (cs.set i (.imm (.row sz (l.map enc))))) else ((mkSt sl tk n).tok p (.rows e sz (l.map enc) true)).tk q) = (mkSt sl ((k, some (.box (cs.set i (.imm (.row sz (l.map enc)))))) :: (p, some (.rows e sz (l.map enc) true)) :: tk) n).tk q := fun q => by
  simp only [mkSt, lkt_cons, St.tok]
 have hel : ∀ q u, (mkSt sl ((k, some (.box (cs.set i (.imm (.row sz (l.map enc)))))) :: (p, some (.rows e sz (l.map enc) true)) :: tk) n).tk q = some u → ∃ u', ((mkSt sl tk n).tok p (.rows e sz (l.map enc) true)).tk q = some u' ∧ u'.frozen = u.frozen := by
  intro q u hq
  rw [← hold] at hq
  split at hq
  ·rename_i e0; subst e0; cases hq
   exact ⟨.box cs, by simp only [St.tok]; rw [if_neg hkp]; exact hk, rfl⟩
  ·exact ⟨u, hq, rfl⟩
 refine ⟨_, { size := hn.size, defers := hn.defers, sl := hn.sl, tk := ?_, used := hn.used, key := ?_, inj := ?_, live := ?_, blk := ?_, stab := hn.stab, frame := hn.frame, old := hn.old, grew := hn.grew, ent := hn.ent, low := hn.low }⟩
 ·intro q u hq
  rw [← hold] at hq
  split at hq
  ·rename_i e0; subst e0; cases hq
   have hr := hn.tk q (.box cs) (by simp only [St.tok]; rw [if_neg hkp]; exact hk)
   cases hr with
   | box _ b C e1 h1 h2 h3 h4 =>
    refine .box _ b C e1 h1 h2 (by rw [List.length_set]; exact h3) (fun j hj => ?_)
    rw [List.length_set] at hj
    rw [list_set_getD _ _ _ _ hj]
    split
    ·rename_i e0; subst e0
     have h5 := h4 j hj
     rw [List.getD_eq_getElem?_getD, hi] at h5
     obtain ⟨A, c, e1, hl⟩ := rowsOf_rep hn h5 (sz := sz) (es := l.map enc) (by simp [rowsOf, St.tok])
     have hval : C.getD j undef = g.hv p := by
      generalize C.getD j undef = v at h5
      cases h5; rfl
     by_cases hne : l.map enc = []
     ·rw [hne] at e1 ⊢; rw [e1]; exact .imm _ _ (.nilrow _ _ _)
     ·obtain ⟨b, o, vs, rfl, hlies⟩ := hl hne
      have hc : (l.map enc).length ≤ c := by
       cases h.tk p _ hp' with
       | rows _ _ _ _ xs t1 t2 t3 t4 t5 =>
        rcases t1.2 with ⟨e2, e3⟩ | ⟨b2, cap, cur, e2, _, _, hcap, _⟩
        ·rw [hval, e2] at e1; cases e1
        ·rw [hval, e2] at e1; cases e1; exact hcap
      rw [e1]
      exact .imm _ _ (hlies.toT (fun _ x => x) (.inr (by rw [← hval, e1]; rfl)) hc)
    ·exact h4 j hj
  ·exact hn.tk q u hq
 ·intro q u hq
  obtain ⟨u', h1, _⟩ := hel q u hq
  exact hn.key q u' h1
 ·intro q q' u u' b hq hq'
  obtain ⟨v, h1, _⟩ := hel q u hq
  obtain ⟨v', h1', _⟩ := hel q' u' hq'
  exact hn.inj q q' v v' b h1 h1'
 ·intro q u b hq hf
  obtain ⟨v, h1, h2⟩ := hel q u hq
  exact hn.live q v b h1 (h2.trans hf)
 ·intro q u b hq
  obtain ⟨v, h1, _⟩ := hel q u hq
  exact hn.blk q v b h1
theorem BL : (∀ b, (true || b) = true) ∧ (∀ b, (b || true) = true) ∧ (∀ b, (false || b) = b) ∧ (∀ b, (b || false) = b) ∧ (∀ b, (true && b) = b) ∧ (∀ b, (b && true) = b) ∧ (∀ b, (false && b) = false) ∧ (∀ b, (b && false) = false) ∧
 (!true) = false ∧ (!false) = true ∧ (∀ (α : Type) (x y : α), (bif true then x else y) = x) ∧ (∀ (α : Type) (x y : α), (bif false then x else y) = y) := by
 simp
theorem RS.e {ρ : Nat → Nat} {n : Nat} {f : Nat → Option AV} : ∀ {l : List (Nat × Option AV)}, l.map (fun p => f p.1) = l.map (fun p => p.2.map (AV.ren ρ)) → (l.all fun p => match p.2 with | some x => keysOk n x.keys | none => false) = true → RS ρ n f l
 | [], _, _ => .n
 | (i, none) :: r, _, h => by simp at h
 | (i, some x) :: r, h, h' => by
  rw [List.map_cons, List.map_cons] at h
  rw [List.all_cons, Bool.and_eq_true] at h'
  injection h with h1 h2
  exact .c (y := x.ren ρ) h1 (.rfl _) h'.1 (RS.e h2 h'.2)
theorem RT.e {ρ : Nat → Nat} {n : Nat} {f : Nat → Option Tok} : ∀ {l : List (Nat × Option Tok)}, l.map (fun p => f (ρ p.1)) = l.map (fun p => p.2.map (Tok.ren ρ)) → (l.all fun p => match p.2 with | some x => Nat.blt p.1 n && keysOk n x.keys | none => false) = true → RT ρ n f l
 | [], _, _ => .n
 | (i, none) :: r, _, h => by simp at h
 | (i, some x) :: r, h, h' => by
  rw [List.map_cons, List.map_cons] at h
  rw [List.all_cons, Bool.and_eq_true, Bool.and_eq_true] at h'
  injection h with h1 h2
  exact .c (y := x.ren ρ) h1 (.rfl _) h'.1.1 h'.1.2 (RT.e h2 h'.2)
end Go.Pm
