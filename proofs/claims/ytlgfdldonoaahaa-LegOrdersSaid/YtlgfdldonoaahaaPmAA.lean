/- The pure machine, part AA: the field of a struct that is at hand as a value. Conditions: none (definitions and lemmas alone). -/
import Derived.Test.YtlgfdldonoaahaaPmZ
namespace Go.Pm
open Go
set_option linter.unusedVariables false
set_option linter.unusedSimpArgs false

/-- A field: is it a row of cells, how many has it, and where does it begin? -/
def fieldT (P : Program) (s f : Nat) : Option (Bool × Nat × Nat) :=
  match P.underlying s with
  | some (.struct fs) => match fs[f]? with
    | some fd => (tyV P fd.type).map fun p => (p.1, p.2, fd.offset)
    | none => none
  | _ => none

theorem fieldT_some {P : Program} {s f n off : Nat} {b : Bool} (h : fieldT P s f = some (b, n, off)) :
    ∃ fs fd d i, P.underlying s = some (.struct fs) ∧ fs[f]? = some fd ∧ P.underlying fd.type = some d ∧ P.info? fd.type = some i ∧ d.isRow = b ∧ i.size = n ∧ fd.offset = off := by
  unfold fieldT at h
  split at h
  · rename_i fs hs
    split at h
    · rename_i fd hf
      unfold tyV at h
      split at h
      · rename_i d i hd hi
        simp only [Option.map_some, Option.some.injEq, Prod.mk.injEq] at h
        exact ⟨fs, fd, d, i, hs, hf, hd, hi, h.1, h.2.1, h.2.2⟩
      · cases h
    · cases h
  · cases h

theorem isAgg_run {P : Program} {t : TypeId} {d : TypeDesc} (h : P.underlying t = some d) (w : World) : (isAgg t).run P w = .ok d.isRow w := by
  unfold isAgg
  rw [Sem.run_bind, run_underlying h]
  cases d <;> rfl

section
variable {P : Program} {σ : St} {o : Oper} {cx : Cx} {g : Gh} {a : Act} {w : World}

theorem O.fldV {s f n off : Nat} {x : Operand} {cs : List AV} {y : AV} (hb : fieldT P s f = some (false, n, off)) (ho : o.op = .field s x f) (hx : rd σ x = some (.agg cs)) (hy : cs[off]? = some y) : OpL P o σ [] ⟨some y, [], []⟩ := by
  obtain ⟨fs, fd, d, i, h1, h2, h3, h4, h5, h6, rfl⟩ := fieldT_some hb
  intro σ' hs _ _
  have hx' := (hs x (by simp [ho, Op.operands])).trans hx
  refine .of_value fun cx g a w h => ?_
  have hr := rd_rep h x _ hx'
  generalize hv : a.eval x = v at hr
  have hi : fd.offset < cs.length := (List.getElem?_eq_some_iff.1 hy).1
  cases hr with
  | agg _ vs e1 e2 =>
    have h := e2 _ hi
    rw [List.getD_eq_getElem?_getD, hy] at h
    have hu : vs[fd.offset]? = some (vs.getD fd.offset undef) := getD_some (by omega)
    generalize vs.getD fd.offset undef = u at hu h
    refine ⟨u, ?_, h⟩
    have hg := isAgg_run h3 w
    rw [h5] at hg
    simp [execOp, ho, hv, Instr.field, run_underlying h1, h2, Go.part, asAgg, hg, hu]

theorem O.fldN {s f n off : Nat} {x : Operand} {cs out : List AV} (hb : fieldT P s f = some (true, n, off)) (ho : o.op = .field s x f) (hx : rd σ x = some (.agg cs)) (hl : off + n ≤ cs.length) (hy : (cs.drop off).take n = out) : OpL P o σ [] ⟨some (.agg out), [], []⟩ := by
  obtain ⟨fs, fd, d, i, h1, h2, h3, h4, h5, h6, rfl⟩ := fieldT_some hb
  intro σ' hs _ _
  have hx' := (hs x (by simp [ho, Op.operands])).trans hx
  refine .of_value fun cx g a w h => ?_
  have hr := rd_rep h x _ hx'
  generalize hv : a.eval x = v at hr
  cases hr with
  | agg _ vs e1 e2 =>
    have hg := isAgg_run h3 w
    rw [h5] at hg
    have hn : (sizeOf fd.type).run P w = .ok n w := by simp [sizeOf, typeInfo, h4, h6]
    subst hy
    refine ⟨.agg (vs.extract fd.offset (fd.offset + n)), by simp [execOp, ho, hv, Instr.field, run_underlying h1, h2, Go.part, asAgg, hg, hn], .agg _ _ (by simp; omega) fun k hk => ?_⟩
    have hk' : k < n := by simp at hk; omega
    have h := e2 (fd.offset + k) (by omega)
    have q1 : ((cs.drop fd.offset).take n).getD k default = cs.getD (fd.offset + k) default := by
      simp only [List.getD_eq_getElem?_getD, List.getElem?_take, List.getElem?_drop]
      rw [if_pos hk']
    have q2 : (vs.extract fd.offset (fd.offset + n)).getD k undef = vs.getD (fd.offset + k) undef := by
      have b1 : k < (vs.extract fd.offset (fd.offset + n)).size := by simp; omega
      have b2 : fd.offset + k < vs.size := by omega
      simp only [Array.getD_eq_getD_getElem?, Array.getElem?_eq_getElem b1, Array.getElem?_eq_getElem b2, Option.getD_some]
      exact Array.getElem_extract ..
    rw [q1, q2]
    exact h
end

/-- A row of ours in a variable, as one that is lent. -/
theorem Gives.freezeB {α : Type} {enc : α → List T} {sl : List (Nat × Option AV)} {tk : List (Nat × Option Tok)} {n : Nat} {cs : List AV} (k i p : Nat) {e sz : Nat} {l : List α} {f : Bool} (hk : lkt tk k = some (.box cs)) (hi : cs[i]? = some (.own p)) (hp : lkt tk p = some (.rows e sz (l.map enc) f)) :
    Gives (mkSt sl tk n) (mkSt sl ((k, some (.box (cs.set i (.imm (.row sz (l.map enc)))))) :: (p, some (.rows e sz (l.map enc) true)) :: tk) n) := by
  intro cx g a w h
  have hp' : (mkSt sl tk n).tk p = some (.rows e sz (l.map enc) f) := hp
  have hkp : k ≠ p := fun e0 => by subst e0; rw [hp] at hk; cases hk
  have hil : i < cs.length := (List.getElem?_eq_some_iff.1 hi).1
  have hn := h.freeze p e sz (l.map enc) f hp'
  have hold : ∀ q, (if q = k then some (.box (cs.set i (.imm (.row sz (l.map enc))))) else ((mkSt sl tk n).tok p (.rows e sz (l.map enc) true)).tk q) = (mkSt sl ((k, some (.box (cs.set i (.imm (.row sz (l.map enc)))))) :: (p, some (.rows e sz (l.map enc) true)) :: tk) n).tk q := fun q => by
    simp only [mkSt, lkt_cons, St.tok]
  have hel : ∀ q u, (mkSt sl ((k, some (.box (cs.set i (.imm (.row sz (l.map enc)))))) :: (p, some (.rows e sz (l.map enc) true)) :: tk) n).tk q = some u → ∃ u', ((mkSt sl tk n).tok p (.rows e sz (l.map enc) true)).tk q = some u' ∧ u'.frozen = u.frozen := by
    intro q u hq
    rw [← hold] at hq
    split at hq
    · rename_i e0; subst e0; cases hq
      exact ⟨.box cs, by simp only [St.tok]; rw [if_neg hkp]; exact hk, rfl⟩
    · exact ⟨u, hq, rfl⟩
  refine ⟨_, { size := hn.size, defers := hn.defers, sl := hn.sl, tk := ?_, used := hn.used, key := ?_, inj := ?_, live := ?_, blk := ?_, stab := hn.stab, frame := hn.frame, old := hn.old, grew := hn.grew, ent := hn.ent, low := hn.low }⟩
  · intro q u hq
    rw [← hold] at hq
    split at hq
    · rename_i e0; subst e0; cases hq
      have hr := hn.tk q (.box cs) (by simp only [St.tok]; rw [if_neg hkp]; exact hk)
      cases hr with
      | box _ b C e1 h1 h2 h3 h4 =>
        refine .box _ b C e1 h1 h2 (by rw [List.length_set]; exact h3) (fun j hj => ?_)
        rw [List.length_set] at hj
        rw [list_set_getD _ _ _ _ hj]
        split
        · rename_i e0; subst e0
          have h5 := h4 j hj
          rw [List.getD_eq_getElem?_getD, hi] at h5
          obtain ⟨A, c, e1, hl⟩ := rowsOf_rep hn h5 (sz := sz) (es := l.map enc) (by simp [rowsOf, St.tok])
          have hval : C.getD j undef = g.hv p := by
            generalize C.getD j undef = v at h5
            cases h5; rfl
          by_cases hne : l.map enc = []
          · rw [hne] at e1 ⊢; rw [e1]; exact .imm _ _ (.nilrow _ _ _)
          · obtain ⟨b, o, vs, rfl, hlies⟩ := hl hne
            have hc : (l.map enc).length ≤ c := by
              cases h.tk p _ hp' with
              | rows _ _ _ _ xs t1 t2 t3 t4 t5 =>
                rcases t1.2 with ⟨e2, e3⟩ | ⟨b2, cap, cur, e2, _, _, hcap, _⟩
                · rw [hval, e2] at e1; cases e1
                · rw [hval, e2] at e1; cases e1; exact hcap
            rw [e1]
            exact .imm _ _ (hlies.toT (fun _ x => x) (.inr (by rw [← hval, e1]; rfl)) hc)
        · exact h4 j hj
    · exact hn.tk q u hq
  · intro q u hq
    obtain ⟨u', h1, _⟩ := hel q u hq
    exact hn.key q u' h1
  · intro q q' u u' b hq hq'
    obtain ⟨v, h1, _⟩ := hel q u hq
    obtain ⟨v', h1', _⟩ := hel q' u' hq'
    exact hn.inj q q' v v' b h1 h1'
  · intro q u b hq hf
    obtain ⟨v, h1, h2⟩ := hel q u hq
    exact hn.live q v b h1 (h2.trans hf)
  · intro q u b hq
    obtain ⟨v, h1, _⟩ := hel q u hq
    exact hn.blk q v b h1

/-- How truths come out. -/
theorem BL : (∀ b, (true || b) = true) ∧ (∀ b, (b || true) = true) ∧ (∀ b, (false || b) = b) ∧ (∀ b, (b || false) = b) ∧ (∀ b, (true && b) = b) ∧ (∀ b, (b && true) = b) ∧ (∀ b, (false && b) = false) ∧ (∀ b, (b && false) = false) ∧
    (!true) = false ∧ (!false) = true ∧ (∀ (α : Type) (x y : α), (bif true then x else y) = x) ∧ (∀ (α : Type) (x y : α), (bif false then x else y) = y) := by
  simp

/-! ### slots and tokens that stay as they are, all at once -/
theorem RS.e {ρ : Nat → Nat} {n : Nat} {f : Nat → Option AV} : ∀ {l : List (Nat × Option AV)}, l.map (fun p => f p.1) = l.map (fun p => p.2.map (AV.ren ρ)) → (l.all fun p => match p.2 with | some x => keysOk n x.keys | none => false) = true → RS ρ n f l
  | [], _, _ => .n
  | (i, none) :: r, _, h => by simp at h
  | (i, some x) :: r, h, h' => by
    rw [List.map_cons, List.map_cons] at h
    rw [List.all_cons, Bool.and_eq_true] at h'
    injection h with h1 h2
    exact .c (y := x.ren ρ) h1 (.rfl _) h'.1 (RS.e h2 h'.2)
theorem RT.e {ρ : Nat → Nat} {n : Nat} {f : Nat → Option Tok} : ∀ {l : List (Nat × Option Tok)}, l.map (fun p => f (ρ p.1)) = l.map (fun p => p.2.map (Tok.ren ρ)) → (l.all fun p => match p.2 with | some x => Nat.blt p.1 n && keysOk n x.keys | none => false) = true → RT ρ n f l
  | [], _, _ => .n
  | (i, none) :: r, _, h => by simp at h
  | (i, some x) :: r, h, h' => by
    rw [List.map_cons, List.map_cons] at h
    rw [List.all_cons, Bool.and_eq_true, Bool.and_eq_true] at h'
    injection h with h1 h2
    exact .c (y := x.ren ρ) h1 (.rfl _) h'.1.1 h'.1.2 (RT.e h2 h'.2)

end Go.Pm
