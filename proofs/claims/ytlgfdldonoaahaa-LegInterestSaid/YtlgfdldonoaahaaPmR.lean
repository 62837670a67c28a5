/- The pure machine, part R: more operations: structs compared, the greater and the lesser one, a nil behind a row, is a slice nil. Conditions: none (definitions and lemmas alone). -/
import Derived.Laws.StructEq
import Derived.Test.YtlgfdldonoaahaaPmQ
namespace Go.Pm
open Go
set_option linter.unusedVariables false
set_option linter.unusedSimpArgs false
set_option linter.unusedSectionVars false

/-! ### structs compared -/
/-- What a field is: a number, a truth, a text. -/
inductive Sk where
  | i | b | s
def skOf : TypeDesc → Option Sk
  | .int _ => some .i
  | .bool => some .b
  | .string => some .s
  | _ => none
def eqSc : Sk → T → T → Option Bool
  | .i, .val (.int k a), .val (.int k' b) => if k = k' then some (a == b) else none
  | .b, .val (.bool a), .val (.bool b) => some (a == b)
  | .s, .val (.string a), .val (.string b) => some (a.data.toList == b.data.toList)
  | _, _, _ => none
def eqCs : List Sk → List T → List T → Option Bool
  | [k], [a], [b] => eqSc k a b
  | k :: ks, a :: l, b :: m => match eqSc k a b, eqCs ks l m with
    | some r, some s => some (r && s)
    | _, _ => none
  | _, _, _ => none

/-- The fields lie one behind the other from off on, each one cell, none of them a struct. -/
def flatFs (P : Program) : Nat → List Field → Option (List Sk)
  | _, [] => some []
  | off, f :: fs => if (f.name == "_") || !(Nat.beq f.offset off) then none else match (P.underlying f.type).bind skOf, flatFs P (off + 1) fs with
    | some k, some ks => some (k :: ks)
    | _, _ => none
def flatT (P : Program) (t : TypeId) : Option (List Sk) :=
  match P.underlying t with
  | some (.struct fs) => if P.stoodInHeld t || P.eqGuardType P.depth t then none else flatFs P 0 fs.toList
  | _ => none

theorem run_part_cell {P : Program} {w : World} {e : TypeId} {d : TypeDesc} {xs : Array Value} {off : Nat} {v : Value} (hd : P.underlying e = some d) (hr : d.isRow = false) (hx : xs[off]? = some v) : (part e xs off).run P w = .ok v w := by
  have hagg : (isAgg e).run P w = .ok false w := by
    unfold isAgg
    rw [Sem.run_bind, run_underlying hd w]
    cases d <;> simp_all
  simp [part, hagg, hx]

section
variable {P : Program} {σ : St} {o : Oper} {cx : Cx} {g : Gh} {a : Act} {w : World}

theorem eqSc_run {d : Nat} {t : TypeId} {td : TypeDesc} {k : Sk} {x y : T} {u v : Value} {S : Nat → Prop} {r : Bool} (h : eqSc k x y = some r) (hx : RepT S w x u) (hy : RepT S w y v) (ht : P.underlying t = some td) (hk : skOf td = some k) :
    (Op.equalIn (d + 1) t u v).run P w = .ok r w := by
  unfold eqSc at h
  split at h
  · split at h
    · rename_i e; subst e; cases h; cases hx; cases hy
      cases td <;> simp only [skOf] at hk <;> first | (cases hk; done) | exact run_equalIn_int w d t _ _ _ _ ht
    · cases h
  · cases h; cases hx; cases hy
    cases td <;> simp only [skOf] at hk <;> first | (cases hk; done) | exact run_equalIn_bool' w d t _ _ ht
  · cases h; cases hx; cases hy
    cases td <;> simp only [skOf] at hk <;> first | (cases hk; done) | (rw [← ba_toList, ← ba_toList]; exact run_equalIn_string w d t _ _ ht)
  · cases h

theorem eqFs_run {d : Nat} {xs ys : Array Value} {S : Nat → Prop} : ∀ (fs : List Field) (off : Nat) (ks : List Sk) (l m : List T) (r : Bool), flatFs P off fs = some ks → eqCs ks l m = some r →
    (∀ i, i < l.length → RepT S w (l.getD i default) (xs.getD (off + i) undef) ∧ off + i < xs.size) → (∀ i, i < m.length → RepT S w (m.getD i default) (ys.getD (off + i) undef) ∧ off + i < ys.size) →
    (Op.eqFields (d + 1) xs ys fs).run P w = .ok r w
  | [], off, ks, l, m, r, hf, he, _, _ => by cases hf; cases l <;> cases m <;> simp [eqCs] at he
  | f :: fs, off, ks, l, m, r, hf, he, hx, hy => by
    simp only [flatFs] at hf
    split at hf
    · cases hf
    · rename_i hn
      simp only [Bool.or_eq_true, Bool.not_eq_true', not_or, Bool.not_eq_true, Bool.not_eq_false] at hn
      have hne : f.name ≠ "_" := by simpa using hn.1
      have hoff := Nat.eq_of_beq_eq_true hn.2
      cases hu : P.underlying f.type with
      | none => rw [hu] at hf; cases hf
      | some td =>
        rw [hu] at hf
        simp only [Option.bind_some] at hf
        cases hk : skOf td with
        | none => rw [hk] at hf; cases hf
        | some k =>
          rw [hk] at hf
          cases hf2 : flatFs P (off + 1) fs with
          | none => rw [hf2] at hf; cases hf
          | some ks' =>
            rw [hf2] at hf
            cases hf
            cases l with
            | nil => cases ks' <;> cases m <;> simp [eqCs] at he
            | cons c l =>
              cases m with
              | nil => cases ks' <;> cases l <;> simp [eqCs] at he
              | cons e m =>
                have hrow : td.isRow = false := by cases td <;> first | rfl | (simp [skOf] at hk)
                have h1 := hx 0 (by simp)
                have h2 := hy 0 (by simp)
                simp only [Nat.add_zero, List.getD_cons_zero] at h1 h2
                have p1 := run_part_cell (w := w) hu hrow (getD_some h1.2)
                have p2 := run_part_cell (w := w) hu hrow (getD_some h2.2)
                have hx' : ∀ i, i < l.length → RepT S w (l.getD i default) (xs.getD (off + 1 + i) undef) ∧ off + 1 + i < xs.size := fun i hi => by
                  have := hx (i + 1) (by simpa using hi)
                  rwa [show off + (i + 1) = off + 1 + i by omega] at this
                have hy' : ∀ i, i < m.length → RepT S w (m.getD i default) (ys.getD (off + 1 + i) undef) ∧ off + 1 + i < ys.size := fun i hi => by
                  have := hy (i + 1) (by simpa using hi)
                  rwa [show off + (i + 1) = off + 1 + i by omega] at this
                have hgen : ∀ (q s : Bool), eqSc k c e = some q → (Op.eqFields (d + 1) xs ys fs).run P w = .ok s w → (Op.eqFields (d + 1) xs ys (f :: fs)).run P w = .ok (q && s) w := by
                  intro q s hq hs
                  have he' := eqSc_run (d := d) hq h1.1 h2.1 hu hk
                  rw [Op.eqFields]
                  simp only [if_pos hne, hoff, Sem.run_bind, p1, p2, he', Result.andThen_ok]
                  cases q
                  · simp
                  · simpa using hs
                cases ks' with
                | nil =>
                  cases fs with
                  | cons f' fs' =>
                    simp only [flatFs] at hf2
                    split at hf2
                    · cases hf2
                    · split at hf2
                      · simp at hf2
                      · cases hf2
                  | nil =>
                    cases l with
                    | cons _ _ => simp [eqCs] at he
                    | nil =>
                      cases m with
                      | cons _ _ => simp [eqCs] at he
                      | nil =>
                        simp only [eqCs] at he
                        have := hgen r true he (by simp [Op.eqFields])
                        rwa [Bool.and_true] at this
                | cons k2 ks2 =>
                  simp only [eqCs] at he
                  cases hq : eqSc k c e with
                  | none => rw [hq] at he; cases he
                  | some q =>
                    rw [hq] at he
                    cases hs : eqCs (k2 :: ks2) l m with
                    | none => rw [hs] at he; cases he
                    | some s =>
                      rw [hs] at he; cases he
                      exact hgen q s hq (eqFs_run fs (off + 1) _ l m s hf2 hs hx' hy')

theorem flatT_some {t : TypeId} {ks : List Sk} (h : flatT P t = some ks) : ∃ fs, P.underlying t = some (.struct fs) ∧ P.stoodInHeld t = false ∧ P.eqGuardType P.depth t = false ∧ flatFs P 0 fs.toList = some ks := by
  unfold flatT at h
  split at h
  · rename_i fs hu
    split at h
    · cases h
    · rename_i hn
      simp only [Bool.or_eq_true, not_or, Bool.not_eq_true] at hn
      exact ⟨fs, hu, hn.1, hn.2, h⟩
  · cases h

theorem eqAgg_run (h : SR cx g σ a w) {t : TypeId} {ks : List Sk} {cs ds : List AV} {l m : List T} {u v : Value} {r : Bool} (hf : flatT P t = some ks) (hu : RepA g w (.agg cs) u) (hv : RepA g w (.agg ds) v) (hl : cellsT cs = some l) (hm : cellsT ds = some m) (he : eqCs ks l m = some r) :
    ∃ xs ys, u = .agg xs ∧ v = .agg ys ∧ (Op.equalIn 10000 t (.agg xs) (.agg ys)).run P w = .ok r w ∧ P.eqGuardType P.depth t = false := by
  obtain ⟨fs, h1, h2, h3, h4⟩ := flatT_some hf
  cases hu with
  | agg _ xs a1 a2 =>
    cases hv with
    | agg _ ys b1 b2 =>
      refine ⟨xs, ys, rfl, rfl, ?_, h3⟩
      have hfo : P.fieldsOf t = fs := by simp [Program.fieldsOf, h1]
      rw [run_equalIn_struct (P := P) w 9999 t xs ys (by rw [hfo]; exact h1) h2, hfo]
      obtain ⟨c1, c2⟩ := cellsT_get _ _ hl
      obtain ⟨d1, d2⟩ := cellsT_get _ _ hm
      refine eqFs_run (S := g.S) fs.toList 0 ks l m r h4 he (fun i hi => ?_) (fun i hi => ?_)
      · have := a2 i (by omega)
        rw [c2 i (by omega)] at this
        rw [Nat.zero_add]
        cases this with
        | imm _ _ h => exact ⟨h, by omega⟩
      · have := b2 i (by omega)
        rw [d2 i (by omega)] at this
        rw [Nat.zero_add]
        cases this with
        | imm _ _ h => exact ⟨h, by omega⟩

theorem O.eqS {t t' : TypeId} {x y : Operand} {ks : List Sk} {cs ds : List AV} {l m : List T} {r : Bool} (hf : flatT P t = some ks) (ho : o.op = .binOp .eql t x y t') (hx : rd σ x = some (.agg cs)) (hy : rd σ y = some (.agg ds)) (hl : cellsT cs = some l) (hm : cellsT ds = some m) (he : eqCs ks l m = some r) :
    OpL P o σ [] ⟨some (.imm (.val (.bool r))), [], []⟩ := by
  intro σ' hs _ _
  have hx' := (hs x (by simp [ho, Op.operands])).trans hx
  have hy' := (hs y (by simp [ho, Op.operands])).trans hy
  refine .of_value fun cx g a w h => ?_
  obtain ⟨xs, ys, e1, e2, e3, e4⟩ := eqAgg_run h hf (rd_rep h x _ hx') (rd_rep h y _ hy') hl hm he
  exact ⟨.bool r, by simp [execOp, ho, e1, e2, run_eqGuard_agg (P := P) w .eql t x y xs ys e4, run_eql_struct, e3], .ofVal g w _⟩
theorem O.neS {t t' : TypeId} {x y : Operand} {ks : List Sk} {cs ds : List AV} {l m : List T} {r : Bool} (hf : flatT P t = some ks) (ho : o.op = .binOp .neq t x y t') (hx : rd σ x = some (.agg cs)) (hy : rd σ y = some (.agg ds)) (hl : cellsT cs = some l) (hm : cellsT ds = some m) (he : eqCs ks l m = some r) :
    OpL P o σ [] ⟨some (.imm (.val (.bool (!r)))), [], []⟩ := by
  intro σ' hs _ _
  have hx' := (hs x (by simp [ho, Op.operands])).trans hx
  have hy' := (hs y (by simp [ho, Op.operands])).trans hy
  refine .of_value fun cx g a w h => ?_
  obtain ⟨xs, ys, e1, e2, e3, e4⟩ := eqAgg_run h hf (rd_rep h x _ hx') (rd_rep h y _ hy') hl hm he
  exact ⟨.bool (!r), by simp [execOp, ho, e1, e2, run_eqGuard_agg (P := P) w .neq t x y xs ys e4, run_neq_struct, e3], .ofVal g w _⟩

/-! ### the greater, the lesser one -/
def maxI (x y : Int) : Int := if y > x then y else x
def minI (x y : Int) : Int := if y < x then y else x
theorem O.max2 {x y : Operand} {ts : Array TypeId} {k k' : IntKind} {m n : Int} (ho : o.op = .call { callee := .builtin .max, args := #[x, y], argTypes := ts }) (hx : rd σ x = some (.imm (.val (.int k m)))) (hy : rd σ y = some (.imm (.val (.int k' n)))) :
    OpL P o σ [] ⟨some (.imm (.val (.int k (maxI m n)))), [], []⟩ := by
  intro σ' hs _ _
  have hx' := (hs x (by simp [ho, Op.operands, Call.operands])).trans hx
  have hy' := (hs y (by simp [ho, Op.operands, Call.operands])).trans hy
  refine .of_value fun cx g a w h => ?_
  have ex := (rd_rep h x _ hx').int
  have ey := (rd_rep h y _ hy').int
  exact ⟨.int k (maxI m n), by simp [execOp, ho, resolve, ex, ey, invoke, builtin, Builtin.max_, Builtin.max2, maxI], .ofVal g w _⟩
theorem O.min2 {x y : Operand} {ts : Array TypeId} {k k' : IntKind} {m n : Int} (ho : o.op = .call { callee := .builtin .min, args := #[x, y], argTypes := ts }) (hx : rd σ x = some (.imm (.val (.int k m)))) (hy : rd σ y = some (.imm (.val (.int k' n)))) :
    OpL P o σ [] ⟨some (.imm (.val (.int k (minI m n)))), [], []⟩ := by
  intro σ' hs _ _
  have hx' := (hs x (by simp [ho, Op.operands, Call.operands])).trans hx
  have hy' := (hs y (by simp [ho, Op.operands, Call.operands])).trans hy
  refine .of_value fun cx g a w h => ?_
  have ex := (rd_rep h x _ hx').int
  have ey := (rd_rep h y _ hy').int
  exact ⟨.int k (minI m n), by simp [execOp, ho, resolve, ex, ey, invoke, builtin, Builtin.min_, Builtin.min2, minI], .ofVal g w _⟩

/-! ### a nil behind a row -/
theorem O.appV {α : Type} [Inhabited α] {enc : α → List T} {t e sz bytes n j : Nat} {zs : List Value} {x y : Operand} {l : List α} (S : SlT P t e sz bytes zs) (E : EncOk enc sz) (h : l.length * bytes ≤ 140737488355328) (ho : o.op = .call { callee := .builtin .append, args := #[x, y], argTypes := #[t, t] })
    (hx : rd σ x = some (.own j)) (hk : σ.tk j = some (.rows e sz (l.map enc) false)) (hy : rd σ y = some (.imm (.val (.slice none 0 0)))) :
    OpL P o σ [j] ⟨some (.own n), [(j, none), (n, some (.rows e sz (l.map enc) false))], [n]⟩ := by
  obtain ⟨ie, z, h1, h2, h3, h4, rfl, rfl⟩ := S.parts
  have := OpL.append (P := P) (σ := σ) (o := o) (k := n) (es2 := []) ho S.ht h1 h2 h4 S.pos.1 S.pos.2 hx hy (.own j _ hk) rfl (fun z hz => by cases hz) (fun z hz => by cases hz) (by simpa using h)
  rw [List.append_nil] at this
  exact this
end
theorem notT {b : Bool} (h : b = true) : (!b) = false := by rw [h]; rfl
theorem notF {b : Bool} (h : b = false) : (!b) = true := by rw [h]; rfl
end Go.Pm
