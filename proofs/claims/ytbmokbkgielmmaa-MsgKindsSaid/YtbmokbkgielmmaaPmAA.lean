/- The pure machine, part AA: the field of a struct that is at hand as a value. Conditions: none (definitions and lemmas alone). -/
import Derived.Test.YtbmokbkgielmmaaPmZ
namespace Go.Pm
open Go
set_option linter.unusedVariables false
set_option linter.unusedSimpArgs false

/-- A field: is it a row of cells, how many has it, and where does it begin? -/
def fieldT (P : Program) (s f : Nat) : Option (Bool × Nat × Nat) :=
  match P.underlying s with
  | some (.struct fs) => match fs[f]? with
    | some fd => (tyV P fd.type).map fun p => (p.1, p.2, fd.offset)
    | none => none
  | _ => none

theorem fieldT_some {P : Program} {s f n off : Nat} {b : Bool} (h : fieldT P s f = some (b, n, off)) :
    ∃ fs fd d i, P.underlying s = some (.struct fs) ∧ fs[f]? = some fd ∧ P.underlying fd.type = some d ∧ P.info? fd.type = some i ∧ d.isRow = b ∧ i.size = n ∧ fd.offset = off := by
  unfold fieldT at h
  split at h
  · rename_i fs hs
    split at h
    · rename_i fd hf
      unfold tyV at h
      split at h
      · rename_i d i hd hi
        simp only [Option.map_some, Option.some.injEq, Prod.mk.injEq] at h
        exact ⟨fs, fd, d, i, hs, hf, hd, hi, h.1, h.2.1, h.2.2⟩
      · cases h
    · cases h
  · cases h

theorem isAgg_run {P : Program} {t : TypeId} {d : TypeDesc} (h : P.underlying t = some d) (w : World) : (isAgg t).run P w = .ok d.isRow w := by
  unfold isAgg
  rw [Sem.run_bind, run_underlying h]
  cases d <;> rfl

section
variable {P : Program} {σ : St} {o : Oper} {cx : Cx} {g : Gh} {a : Act} {w : World}

theorem O.fldN {s f n off : Nat} {x : Operand} {cs out : List AV} (hb : fieldT P s f = some (true, n, off)) (ho : o.op = .field s x f) (hx : rd σ x = some (.agg cs)) (hl : off + n ≤ cs.length) (hy : (cs.drop off).take n = out) : OpL P o σ [] ⟨some (.agg out), [], []⟩ := by
  obtain ⟨fs, fd, d, i, h1, h2, h3, h4, h5, h6, rfl⟩ := fieldT_some hb
  intro σ' hs _ _
  have hx' := (hs x (by simp [ho, Op.operands])).trans hx
  refine .of_value fun cx g a w h => ?_
  have hr := rd_rep h x _ hx'
  generalize hv : a.eval x = v at hr
  cases hr with
  | agg _ vs e1 e2 =>
    have hg := isAgg_run h3 w
    rw [h5] at hg
    have hn : (sizeOf fd.type).run P w = .ok n w := by simp [sizeOf, typeInfo, h4, h6]
    subst hy
    refine ⟨.agg (vs.extract fd.offset (fd.offset + n)), by simp [execOp, ho, hv, Instr.field, run_underlying h1, h2, Go.part, asAgg, hg, hn], .agg _ _ (by simp; omega) fun k hk => ?_⟩
    have hk' : k < n := by simp at hk; omega
    have h := e2 (fd.offset + k) (by omega)
    have q1 : ((cs.drop fd.offset).take n).getD k default = cs.getD (fd.offset + k) default := by
      simp only [List.getD_eq_getElem?_getD, List.getElem?_take, List.getElem?_drop]
      rw [if_pos hk']
    have q2 : (vs.extract fd.offset (fd.offset + n)).getD k undef = vs.getD (fd.offset + k) undef := by
      have b1 : k < (vs.extract fd.offset (fd.offset + n)).size := by simp; omega
      have b2 : fd.offset + k < vs.size := by omega
      simp only [Array.getD_eq_getD_getElem?, Array.getElem?_eq_getElem b1, Array.getElem?_eq_getElem b2, Option.getD_some]
      exact Array.getElem_extract ..
    rw [q1, q2]
    exact h
end

/-- How truths come out. -/
theorem BL : (∀ b, (true || b) = true) ∧ (∀ b, (b || true) = true) ∧ (∀ b, (false || b) = b) ∧ (∀ b, (b || false) = b) ∧ (∀ b, (true && b) = b) ∧ (∀ b, (b && true) = b) ∧ (∀ b, (false && b) = false) ∧ (∀ b, (b && false) = false) ∧
    (!true) = false ∧ (!false) = true ∧ (∀ (α : Type) (x y : α), (bif true then x else y) = x) ∧ (∀ (α : Type) (x y : α), (bif false then x else y) = y) := by
  simp

theorem RS.e {ρ : Nat → Nat} {n : Nat} {f : Nat → Option AV} : ∀ {l : List (Nat × Option AV)}, l.map (fun p => f p.1) = l.map (fun p => p.2.map (AV.ren ρ)) → (l.all fun p => match p.2 with | some x => keysOk n x.keys | none => false) = true → RS ρ n f l
  | [], _, _ => .n
  | (i, none) :: r, _, h => by simp at h
  | (i, some x) :: r, h, h' => by
    rw [List.map_cons, List.map_cons] at h
    rw [List.all_cons, Bool.and_eq_true] at h'
    injection h with h1 h2
    exact .c (y := x.ren ρ) h1 (.rfl _) h'.1 (RS.e h2 h'.2)
theorem RT.e {ρ : Nat → Nat} {n : Nat} {f : Nat → Option Tok} : ∀ {l : List (Nat × Option Tok)}, l.map (fun p => f (ρ p.1)) = l.map (fun p => p.2.map (Tok.ren ρ)) → (l.all fun p => match p.2 with | some x => Nat.blt p.1 n && keysOk n x.keys | none => false) = true → RT ρ n f l
  | [], _, _ => .n
  | (i, none) :: r, _, h => by simp at h
  | (i, some x) :: r, h, h' => by
    rw [List.map_cons, List.map_cons] at h
    rw [List.all_cons, Bool.and_eq_true, Bool.and_eq_true] at h'
    injection h with h1 h2
    exact .c (y := x.ren ρ) h1 (.rfl _) h'.1.1 h'.1.2 (RT.e h2 h'.2)

end Go.Pm
