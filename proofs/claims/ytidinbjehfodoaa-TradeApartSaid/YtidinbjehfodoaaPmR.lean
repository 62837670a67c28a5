/- The pure machine, part R: more operations: structs compared, the greater and the lesser one, a nil behind a row, is a slice nil. Conditions: none (definitions and lemmas alone). -/
import Derived.Laws.StructEq
import Derived.Laws.BytesString
import Derived.Laws.Cells
import Derived.Lib.SliceRun
import Derived.Test.YtidinbjehfodoaaPmQ
namespace Go.Pm
open Go
set_option linter.unusedVariables false
set_option linter.unusedSimpArgs false
set_option linter.unusedSectionVars false

abbrev AV.i (n : Int) : AV := .imm (.val (.int .i64 n))
abbrev AV.b (b : Bool) : AV := .imm (.val (.bool b))
abbrev AV.s (l : Bs) : AV := .imm (.val (.string (tx l)))

/-- What a field is: a number, a truth, a text. -/
inductive Sk where
  | i | b | s
def skOf : TypeDesc → Option Sk
  | .int _ => some .i
  | .bool => some .b
  | .string => some .s
  | _ => none
def eqSc : Sk → T → T → Option Bool
  | .i, .val (.int k a), .val (.int k' b) => if k = k' then some (a == b) else none
  | .b, .val (.bool a), .val (.bool b) => some (a == b)
  | .s, .val (.string a), .val (.string b) => some (a.data.toList == b.data.toList)
  | _, _, _ => none
def eqCs : List Sk → List T → List T → Option Bool
  | [k], [a], [b] => eqSc k a b
  | k :: ks, a :: l, b :: m => match eqSc k a b, eqCs ks l m with
    | some r, some s => some (r && s)
    | _, _ => none
  | _, _, _ => none

/-- The fields lie one behind the other from off on, each one cell, none of them a struct. -/
def flatFs (P : Program) : Nat → List Field → Option (List Sk)
  | _, [] => some []
  | off, f :: fs => if (f.name == "_") || !(Nat.beq f.offset off) then none else match (P.underlying f.type).bind skOf, flatFs P (off + 1) fs with
    | some k, some ks => some (k :: ks)
    | _, _ => none
def flatT (P : Program) (t : TypeId) : Option (List Sk) :=
  match P.underlying t with
  | some (.struct fs) => if P.stoodInHeld t || P.eqGuardType P.depth t then none else flatFs P 0 fs.toList
  | _ => none

theorem run_part_cell {P : Program} {w : World} {e : TypeId} {d : TypeDesc} {xs : Array Value} {off : Nat} {v : Value} (hd : P.underlying e = some d) (hr : d.isRow = false) (hx : xs[off]? = some v) : (part e xs off).run P w = .ok v w := by
  have hagg : (isAgg e).run P w = .ok false w := by
    unfold isAgg
    rw [Sem.run_bind, run_underlying hd w]
    cases d <;> simp_all
  simp [part, hagg, hx]

section
variable {P : Program} {σ : St} {o : Oper} {cx : Cx} {g : Gh} {a : Act} {w : World}

theorem eqSc_run {d : Nat} {t : TypeId} {td : TypeDesc} {k : Sk} {x y : T} {u v : Value} {S : Nat → Prop} {r : Bool} (h : eqSc k x y = some r) (hx : RepT S w x u) (hy : RepT S w y v) (ht : P.underlying t = some td) (hk : skOf td = some k) :
    (Op.equalIn (d + 1) t u v).run P w = .ok r w := by
  unfold eqSc at h
  split at h
  · split at h
    · rename_i e; subst e; cases h; cases hx; cases hy
      cases td <;> simp only [skOf] at hk <;> first | (cases hk; done) | exact run_equalIn_int w d t _ _ _ _ ht
    · cases h
  · cases h; cases hx; cases hy
    cases td <;> simp only [skOf] at hk <;> first | (cases hk; done) | exact run_equalIn_bool' w d t _ _ ht
  · cases h; cases hx; cases hy
    cases td <;> simp only [skOf] at hk <;> first | (cases hk; done) | (rw [← ba_toList, ← ba_toList]; exact run_equalIn_string w d t _ _ ht)
  · cases h

theorem eqFs_run {d : Nat} {xs ys : Array Value} {S : Nat → Prop} : ∀ (fs : List Field) (off : Nat) (ks : List Sk) (l m : List T) (r : Bool), flatFs P off fs = some ks → eqCs ks l m = some r →
    (∀ i, i < l.length → RepT S w (l.getD i default) (xs.getD (off + i) undef) ∧ off + i < xs.size) → (∀ i, i < m.length → RepT S w (m.getD i default) (ys.getD (off + i) undef) ∧ off + i < ys.size) →
    (Op.eqFields (d + 1) xs ys fs).run P w = .ok r w
  | [], off, ks, l, m, r, hf, he, _, _ => by cases hf; cases l <;> cases m <;> simp [eqCs] at he
  | f :: fs, off, ks, l, m, r, hf, he, hx, hy => by
    simp only [flatFs] at hf
    split at hf
    · cases hf
    · rename_i hn
      simp only [Bool.or_eq_true, Bool.not_eq_true', not_or, Bool.not_eq_true, Bool.not_eq_false] at hn
      have hne : f.name ≠ "_" := by simpa using hn.1
      have hoff := Nat.eq_of_beq_eq_true hn.2
      cases hu : P.underlying f.type with
      | none => rw [hu] at hf; cases hf
      | some td =>
        rw [hu] at hf
        simp only [Option.bind_some] at hf
        cases hk : skOf td with
        | none => rw [hk] at hf; cases hf
        | some k =>
          rw [hk] at hf
          cases hf2 : flatFs P (off + 1) fs with
          | none => rw [hf2] at hf; cases hf
          | some ks' =>
            rw [hf2] at hf
            cases hf
            cases l with
            | nil => cases ks' <;> cases m <;> simp [eqCs] at he
            | cons c l =>
              cases m with
              | nil => cases ks' <;> cases l <;> simp [eqCs] at he
              | cons e m =>
                have hrow : td.isRow = false := by cases td <;> first | rfl | (simp [skOf] at hk)
                have h1 := hx 0 (by simp)
                have h2 := hy 0 (by simp)
                simp only [Nat.add_zero, List.getD_cons_zero] at h1 h2
                have p1 := run_part_cell (w := w) hu hrow (getD_some h1.2)
                have p2 := run_part_cell (w := w) hu hrow (getD_some h2.2)
                have hx' : ∀ i, i < l.length → RepT S w (l.getD i default) (xs.getD (off + 1 + i) undef) ∧ off + 1 + i < xs.size := fun i hi => by
                  have := hx (i + 1) (by simpa using hi)
                  rwa [show off + (i + 1) = off + 1 + i by omega] at this
                have hy' : ∀ i, i < m.length → RepT S w (m.getD i default) (ys.getD (off + 1 + i) undef) ∧ off + 1 + i < ys.size := fun i hi => by
                  have := hy (i + 1) (by simpa using hi)
                  rwa [show off + (i + 1) = off + 1 + i by omega] at this
                have hgen : ∀ (q s : Bool), eqSc k c e = some q → (Op.eqFields (d + 1) xs ys fs).run P w = .ok s w → (Op.eqFields (d + 1) xs ys (f :: fs)).run P w = .ok (q && s) w := by
                  intro q s hq hs
                  have he' := eqSc_run (d := d) hq h1.1 h2.1 hu hk
                  rw [Op.eqFields]
                  simp only [if_pos hne, hoff, Sem.run_bind, p1, p2, he', Result.andThen_ok]
                  cases q
                  · simp
                  · simpa using hs
                cases ks' with
                | nil =>
                  cases fs with
                  | cons f' fs' =>
                    simp only [flatFs] at hf2
                    split at hf2
                    · cases hf2
                    · split at hf2
                      · simp at hf2
                      · cases hf2
                  | nil =>
                    cases l with
                    | cons _ _ => simp [eqCs] at he
                    | nil =>
                      cases m with
                      | cons _ _ => simp [eqCs] at he
                      | nil =>
                        simp only [eqCs] at he
                        have := hgen r true he (by simp [Op.eqFields])
                        rwa [Bool.and_true] at this
                | cons k2 ks2 =>
                  simp only [eqCs] at he
                  cases hq : eqSc k c e with
                  | none => rw [hq] at he; cases he
                  | some q =>
                    rw [hq] at he
                    cases hs : eqCs (k2 :: ks2) l m with
                    | none => rw [hs] at he; cases he
                    | some s =>
                      rw [hs] at he; cases he
                      exact hgen q s hq (eqFs_run fs (off + 1) _ l m s hf2 hs hx' hy')

theorem flatT_some {t : TypeId} {ks : List Sk} (h : flatT P t = some ks) : ∃ fs, P.underlying t = some (.struct fs) ∧ P.stoodInHeld t = false ∧ P.eqGuardType P.depth t = false ∧ flatFs P 0 fs.toList = some ks := by
  unfold flatT at h
  split at h
  · rename_i fs hu
    split at h
    · cases h
    · rename_i hn
      simp only [Bool.or_eq_true, not_or, Bool.not_eq_true] at hn
      exact ⟨fs, hu, hn.1, hn.2, h⟩
  · cases h

theorem eqAgg_run (h : SR cx g σ a w) {t : TypeId} {ks : List Sk} {cs ds : List AV} {l m : List T} {u v : Value} {r : Bool} (hf : flatT P t = some ks) (hu : RepA g w (.agg cs) u) (hv : RepA g w (.agg ds) v) (hl : cellsT cs = some l) (hm : cellsT ds = some m) (he : eqCs ks l m = some r) :
    ∃ xs ys, u = .agg xs ∧ v = .agg ys ∧ (Op.equalIn 10000 t (.agg xs) (.agg ys)).run P w = .ok r w ∧ P.eqGuardType P.depth t = false := by
  obtain ⟨fs, h1, h2, h3, h4⟩ := flatT_some hf
  cases hu with
  | agg _ xs a1 a2 =>
    cases hv with
    | agg _ ys b1 b2 =>
      refine ⟨xs, ys, rfl, rfl, ?_, h3⟩
      have hfo : P.fieldsOf t = fs := by simp [Program.fieldsOf, h1]
      rw [run_equalIn_struct (P := P) w 9999 t xs ys (by rw [hfo]; exact h1) h2, hfo]
      obtain ⟨c1, c2⟩ := cellsT_get _ _ hl
      obtain ⟨d1, d2⟩ := cellsT_get _ _ hm
      refine eqFs_run (S := g.S) fs.toList 0 ks l m r h4 he (fun i hi => ?_) (fun i hi => ?_)
      · have := a2 i (by omega)
        rw [c2 i (by omega)] at this
        rw [Nat.zero_add]
        cases this with
        | imm _ _ h => exact ⟨h, by omega⟩
      · have := b2 i (by omega)
        rw [d2 i (by omega)] at this
        rw [Nat.zero_add]
        cases this with
        | imm _ _ h => exact ⟨h, by omega⟩

theorem O.neS {t t' : TypeId} {x y : Operand} {ks : List Sk} {cs ds : List AV} {l m : List T} {r : Bool} (hf : flatT P t = some ks) (ho : o.op = .binOp .neq t x y t') (hx : rd σ x = some (.agg cs)) (hy : rd σ y = some (.agg ds)) (hl : cellsT cs = some l) (hm : cellsT ds = some m) (he : eqCs ks l m = some r) :
    OpL P o σ [] ⟨some (.imm (.val (.bool (!r)))), [], []⟩ := by
  intro σ' hs _ _
  have hx' := (hs x (by simp [ho, Op.operands])).trans hx
  have hy' := (hs y (by simp [ho, Op.operands])).trans hy
  refine .of_value fun cx g a w h => ?_
  obtain ⟨xs, ys, e1, e2, e3, e4⟩ := eqAgg_run h hf (rd_rep h x _ hx') (rd_rep h y _ hy') hl hm he
  exact ⟨.bool (!r), by simp [execOp, ho, e1, e2, run_eqGuard_agg (P := P) w .neq t x y xs ys e4, run_neq_struct, e3], .ofVal g w _⟩


end
theorem notT {b : Bool} (h : b = true) : (!b) = false := by rw [h]; rfl
theorem notF {b : Bool} (h : b = false) : (!b) = true := by rw [h]; rfl

inductive Told : T → T → Prop where
  | same (x : T) : Told x x
  | none (sz : Nat) : Told (.val (.slice none 0 0)) (.row sz [])
inductive TRow : List T → List T → Prop where
  | nil : TRow [] []
  | cons {x y : T} {a b : List T} : Told x y → TRow a b → TRow (x :: a) (y :: b)
inductive TRows : List (List T) → List (List T) → Prop where
  | nil : TRows [] []
  | cons {x y : List T} {a b : List (List T)} : TRow x y → TRows a b → TRows (x :: a) (y :: b)

theorem Told.rep {S : Nat → Prop} {w : World} {x y : T} {v : Value} (h : Told x y) (r : RepT S w x v) : RepT S w y v := by
  cases h with
  | same => exact r
  | none sz => cases r; exact .nilrow sz 0 Option.none

theorem TRow.len {a b : List T} (h : TRow a b) : a.length = b.length := by
  induction h with
  | nil => rfl
  | cons _ _ ih => simp [ih]
theorem TRow.at {a b : List T} (h : TRow a b) : ∀ j, Told (a.getD j default) (b.getD j default) := by
  induction h with
  | nil => intro j; exact .same _
  | cons h1 _ ih =>
    intro j
    cases j with
    | zero => exact h1
    | succ j => exact ih j
theorem TRows.len {a b : List (List T)} (h : TRows a b) : a.length = b.length := by
  induction h with
  | nil => rfl
  | cons _ _ ih => simp [ih]
theorem TRows.at {a b : List (List T)} (h : TRows a b) : ∀ i, TRow (a.getD i []) (b.getD i []) := by
  induction h with
  | nil => intro i; exact .nil
  | cons h1 _ ih =>
    intro i
    cases i with
    | zero => exact h1
    | succ i => exact ih i
theorem TRows.sizes {sz : Nat} {a b : List (List T)} (h : TRows a b) (hs : ∀ e ∈ a, e.length = sz) : ∀ e ∈ b, e.length = sz := by
  induction h with
  | nil => intro e he; cases he
  | cons h1 _ ih =>
    intro e he
    cases he with
    | head => rw [← h1.len]; exact hs _ List.mem_cons_self
    | tail _ he => exact ih (fun e he => hs e (List.mem_cons_of_mem _ he)) e he
theorem TRows.rep {a b : List T} (h : TRow a b) : ∀ n, TRows (List.replicate n a) (List.replicate n b)
  | 0 => .nil
  | n + 1 => .cons h (TRows.rep h n)

theorem TokRep.told {g : Gh} {w : World} {k e sz : Nat} {es es' : List (List T)} {f : Bool} (ht : TRows es es') (h : TokRep g w k (.rows e sz es f)) : TokRep g w k (.rows e sz es' f) := by
  cases h with
  | rows _ _ _ _ xs h1 h2 h3 h4 h5 =>
    refine .rows e sz es' f xs (by rw [← ht.len]; exact h1) (ht.sizes h2) (fun i j hi hj => ?_) h4 h5
    exact ((ht.at i).at j).rep (h3 i j (by rw [ht.len]; exact hi) hj)

theorem SR.told {cx : Cx} {g : Gh} {σ : St} {a : Act} {w : World} {d : Option Nat} {v : Option AV} {n e sz : Nat} {es es' : List (List T)} {f : Bool} {u : List Nat} (ht : TRows es es')
    (h : SR cx g (σ.out d ⟨v, [(n, some (.rows e sz es f))], u⟩) a w) : SR cx g (σ.out d ⟨v, [(n, some (.rows e sz es' f))], u⟩) a w := by
  have M : ∀ k t, (σ.out d ⟨v, [(n, some (.rows e sz es' f))], u⟩).tk k = some t → ∃ t', (σ.out d ⟨v, [(n, some (.rows e sz es f))], u⟩).tk k = some t' ∧ t'.frozen = t.frozen ∧ (TokRep g w k t' → TokRep g w k t) := by
    intro k t hk
    by_cases c : k = n
    · simp only [St.out, lkp, if_pos c] at hk ⊢
      cases hk
      exact ⟨_, rfl, rfl, fun r => r.told ht⟩
    · simp only [St.out, lkp, if_neg c] at hk ⊢
      exact ⟨t, hk, rfl, fun r => r⟩
  exact {
    size := h.size, defers := h.defers, sl := h.sl
    tk := fun k t hk => let ⟨t', e1, _, e3⟩ := M k t hk; e3 (h.tk k t' e1)
    used := h.used
    key := fun k t hk => let ⟨t', e1, _, _⟩ := M k t hk; h.key k t' e1
    inj := fun k k' t t' b hk hk' => let ⟨s, e1, _, _⟩ := M k t hk; let ⟨s', e2, _, _⟩ := M k' t' hk'; h.inj k k' s s' b e1 e2
    live := fun k t b hk hf => let ⟨s, e1, e2, _⟩ := M k t hk; h.live k s b e1 (e2.trans hf)
    blk := fun k t b hk => let ⟨s, e1, _, _⟩ := M k t hk; h.blk k s b e1
    stab := h.stab, frame := h.frame, old := h.old, grew := h.grew, ent := h.ent, low := h.low }

theorem OpL.told {P : Program} {o : Oper} {σ : St} {fp : List Nat} {v : Option AV} {n e sz : Nat} {es es' : List (List T)} {f : Bool} {u : List Nat} (ht : TRows es es')
    (h : OpL P o σ fp ⟨v, [(n, some (.rows e sz es f))], u⟩) : OpL P o σ fp ⟨v, [(n, some (.rows e sz es' f))], u⟩ := by
  intro σ' h1 h2 h3 cx g a w hd hs next Q hn
  exact h σ' h1 h2 h3 cx g a w hd hs next Q fun g' a' w' hr => hn g' a' w' (hr.told ht)

/-- make, of structs with nil rows. -/
theorem O.makeN {α : Type} {enc : α → List T} {P : Program} {o : Oper} {σ : St} {t e sz bytes n : Nat} {zs : List Value} {x y : Operand} {k1 k2 : IntKind} {l c : Int} {z : α} (S : SlT P t e sz bytes zs) (h : 0 ≤ l ∧ l ≤ c ∧ (bytes : Int) * c ≤ 281474976710656) (hz : TRow (zs.map T.val) (enc z)) (h1 : (zs.all Value.oneCell') = true)
    (ho : o.op = .makeSlice t x y) (hx : rd σ x = some (.imm (.val (.int k1 l)))) (hy : rd σ y = some (.imm (.val (.int k2 c)))) :
    OpL P o σ [] ⟨some (.own n), [(n, some (.rows e sz ((List.replicate l.toNat z).map enc) false))], [n]⟩ := by
  have h := O.make (α := List T) (enc := fun x => x) (z := zs.map T.val) (n := n) S h rfl h1 ho hx hy
  rw [List.map_id'] at h
  rw [List.map_replicate]
  exact OpL.told (TRows.rep hz _) h


def toB (l : List Int) : Bs := l.map fun n => UInt8.ofNat n.toNat

theorem RepT.row_slice {S : Nat → Prop} {w : World} {sz : Nat} {es : List (List T)} {v : Value} (h : RepT S w (.row sz es) v) : ∃ A c, v = .slice A es.length c ∧ (es ≠ [] → A ≠ none) := by
  cases h with
  | nilrow _ c A => exact ⟨A, c, rfl, fun h => (h rfl).elim⟩
  | row _ _ b o c u h1 h2 h3 h4 h5 => exact ⟨_, c, rfl, fun _ h => by cases h⟩

/-- A row that has nothing, as the slice that it is. -/
theorem W.emptyS {P : Program} {code : Code} {KK : Px → St → Prop} {sl : List (Nat × Option AV)} {tk : List (Nat × Option Tok)} {n sz : Nat} (i : Nat) (hi : lks sl i = some (.imm (.row sz [])))
    (h : ∀ A c, W P code (mkSt ((i, some (.imm (.val (.slice A 0 c)))) :: sl) tk n) KK) : W P code (mkSt sl tk n) KK := by
  intro cx g a w hs
  obtain ⟨A, c, e, _⟩ : ∃ A c, a.tmps.getD i undef = .slice A 0 c ∧ True := by
    have hr := hs.sl i (.imm (.row sz [])) hi
    generalize a.tmps.getD i undef = v at hr
    cases hr with
    | imm _ _ hr =>
      obtain ⟨A, c, e, _⟩ := hr.row_slice
      exact ⟨A, c, e, trivial⟩
  refine h A c cx g a w { hs with sl := fun j x hx => ?_ }
  simp only [mkSt, lks_cons] at hx
  split at hx
  · rename_i ej; cases hx; rw [ej, e]; exact .ofVal g w _
  · exact hs.sl j x hx

/-- A slice that has nothing, as a row. -/
theorem Gives.emptyS {sl : List (Nat × Option AV)} {tk : List (Nat × Option Tok)} {n c : Nat} {A : Option Addr} (i sz : Nat) (hi : lks sl i = some (.imm (.val (.slice A 0 c)))) :
    Gives (mkSt sl tk n) (mkSt ((i, some (.imm (.row sz []))) :: sl) tk n) := by
  intro cx g a w hs
  refine ⟨g, { hs with sl := fun j x hx => ?_ }⟩
  simp only [mkSt, lks_cons] at hx
  split at hx
  · rename_i ej; cases hx
    have hv := (hs.sl i _ hi).valEq
    rw [ej, hv]; exact .imm _ _ (.nilrow _ _ _)
  · exact hs.sl j x hx

section
variable {P : Program} {o : Oper} {σ : St}
theorem O.eqSl {t e sz bytes n c : Nat} {zs : List Value} {A : Option Addr} {x y : Operand} {t' : TypeId} (S : SlT P t e sz bytes zs) (ho : o.op = .binOp .eql t x y t') (hx : rd σ x = some (.imm (.val (.slice A n c)))) (hy : rd σ y = some (.imm (.val (.slice none 0 0)))) :
    OpL P o σ [] ⟨some (.imm (.val (.bool A.isNone))), [], []⟩ := by
  intro σ' hs _ _
  have hx' := (hs x (by simp [ho, Op.operands])).trans hx
  have hy' := (hs y (by simp [ho, Op.operands])).trans hy
  refine .of_value fun cx g a w h => ?_
  have ex := (rd_rep h x _ hx').valEq
  have ey := (rd_rep h y _ hy').valEq
  exact ⟨.bool A.isNone, by simp [execOp, ho, ex, ey, eqGuard_at_slice, Lib.run_eql_slice_nil w t e A n c 0 0 S.ht], .ofVal g w _⟩

theorem O.eqRow {t e sz bytes : Nat} {zs : List Value} {r : List T} {rs : List (List T)} {x y : Operand} {t' : TypeId} (S : SlT P t e sz bytes zs) (ho : o.op = .binOp .eql t x y t') (hx : rd σ x = some (.imm (.row sz (r :: rs)))) (hy : rd σ y = some (.imm (.val (.slice none 0 0)))) :
    OpL P o σ [] ⟨some (.imm (.val (.bool false))), [], []⟩ := by
  intro σ' hs _ _
  have hx' := (hs x (by simp [ho, Op.operands])).trans hx
  have hy' := (hs y (by simp [ho, Op.operands])).trans hy
  refine .of_value fun cx g a w h => ?_
  have hr := rd_rep h x _ hx'
  have ey := (rd_rep h y _ hy').valEq
  generalize he : a.eval x = v at hr
  cases hr with
  | imm _ _ hr =>
    obtain ⟨A, c, rfl, hn⟩ := hr.row_slice
    have : A.isNone = false := by cases A with | none => exact (hn (by simp) rfl).elim | some _ => rfl
    exact ⟨.bool false, by simp [execOp, ho, he, ey, eqGuard_at_slice, Lib.run_eql_slice_nil w t e A _ c 0 0 S.ht, this], .ofVal g w _⟩

end

inductive DropOk (σ : St) (fp : List Nat) (ts : List (Nat × Option Tok)) : List Nat → Prop where
  | n : DropOk σ fp ts []
  | c {q : Nat} {D : List Nat} : fp.contains q = true → lkp ts q = some (σ.tk q) → DropOk σ fp ts D → DropOk σ fp ts (q :: D)

theorem DropOk.at {σ : St} {fp : List Nat} {ts : List (Nat × Option Tok)} {D : List Nat} (h : DropOk σ fp ts D) : ∀ q, q ∈ D → q ∈ fp ∧ lkp ts q = some (σ.tk q) := by
  induction h with
  | n => intro q h; cases h
  | c h1 h2 _ ih =>
    intro q h
    cases h with
    | head => exact ⟨by simpa using h1, h2⟩
    | tail _ h => exact ih q h

theorem lkp_drop (D : List Nat) (k : Nat) : ∀ ts : List (Nat × Option Tok), lkp (ts.filter fun p => !D.contains p.1) k = if k ∈ D then none else lkp ts k
  | [] => by simp [lkp]
  | (q, x) :: ts => by
    rw [List.filter_cons]
    by_cases hq : q ∈ D
    · rw [if_neg (by simpa using hq), lkp_drop D k ts]
      by_cases hk : k ∈ D
      · rw [if_pos hk, if_pos hk]
      · rw [if_neg hk, if_neg hk]
        show _ = if k = q then some x else lkp ts k
        rw [if_neg (fun e : k = q => hk (e ▸ hq))]
    · rw [if_pos (by simpa using hq)]
      show (if k = q then some x else lkp _ k) = if k ∈ D then none else if k = q then some x else lkp ts k
      rw [lkp_drop D k ts]
      by_cases hk : k = q
      · rw [if_pos hk, if_pos hk, if_neg (fun h => hq (hk ▸ h))]
      · rw [if_neg hk, if_neg hk]

theorem OpL.thin {P : Program} {o : Oper} {σ : St} {fp u : List Nat} {v : Option AV} {ts : List (Nat × Option Tok)} {D : List Nat} (h : OpL P o σ fp ⟨v, ts, u⟩) (hD : DropOk σ fp ts D) : OpL P o σ fp ⟨v, ts.filter fun p => !D.contains p.1, u⟩ := by
  intro σ' h1 h2 h3 cx g a w hd hs next Q hK
  refine h σ' h1 h2 h3 cx g a w hd hs next Q fun g' a' w' hsr => hK g' a' w' ?_
  refine hsr.eqv _ (fun _ => rfl) (fun k => ?_) (fun _ h => h)
  show (match lkp (ts.filter fun p => !D.contains p.1) k with | some t => t | none => σ'.tk k) = (match lkp ts k with | some t => t | none => σ'.tk k)
  rw [lkp_drop]
  by_cases hk : k ∈ D
  · obtain ⟨h4, h5⟩ := hD.at k hk
    rw [if_pos hk, h5, h2 k h4]
  · rw [if_neg hk]

section
variable {P : Program} {ops : Array Oper} {o : Oper} {l : List Oper} {sl : List (Nat × Option AV)} {tk : List (Nat × Option Tok)} {n d : Nat} {K : List Stp → St → Prop} {f : FuncId}
variable {fo : Operand} {args : Array Operand} {ats : Array TypeId} {cap avs : List AV} {xs : List X} {r : X} {ss : List (Option X)} {C Z : List Nat}
/-- A call that leaves the tokens of D as they were. -/
theorem RunK.callD (av : AV) (ts : List (Nat × Option Tok)) (D : List Nat) (ts' : List (Nat × Option Tok)) (m : Nat) (hsp : Spec P f xs r ss) (hd : o.dst = some d) (hg : Met ops (mkSt sl tk n) o.guard true) (ho : o.op = .call { callee := .value fo, args := args, argTypes := ats }) (hok : callOk P f = true)
    (hf : rd (mkSt sl tk n) fo = some (.fn f cap)) (ha : rds (mkSt sl tk n) args.toList = some avs) (hc : Cfs (mkSt sl tk n) (avs ++ cap) xs C Z) (hC : nodupB C = true) (hZ : disjB C Z = true) (hav : (imp r n).1 = av)
    (hts : (callOut (mkSt sl tk n) (imp r n).1 (imp r n).2.1 (backo (avs ++ cap) xs ss (imp r n).2.2).1 C Z n (backo (avs ++ cap) xs ss (imp r n).2.2).2).tk = ts) (hm : (backo (avs ++ cap) xs ss (imp r n).2.2).2 = n + m)
    (hD : DropOk (mkSt sl tk n) (C ++ Z) ts D) (ht' : (ts.filter fun p => !D.contains p.1) = ts')
    (k : RunK P ops l (mkSt ((d, some av) :: sl) (ts' ++ tk) (n + m)) (fun ms => K ((C ++ Z, .out ⟨some av, ts', List.range' n m⟩) :: ms))) :
    RunK P ops (o :: l) (mkSt sl tk n) K := by
  obtain ⟨_, _, k, hK⟩ := k
  refine ⟨_, _, .c hd hg ?_ k, hK⟩
  have := OpL.call (P := P) (o := o) (σ := mkSt sl tk n) n ho hf hok ha hsp hc (nodupB_some hC) (disjB_some hZ)
  have e : callOut (mkSt sl tk n) (imp r n).1 (imp r n).2.1 (backo (avs ++ cap) xs ss (imp r n).2.2).1 C Z n (backo (avs ++ cap) xs ss (imp r n).2.2).2 = ⟨some av, ts, List.range' n m⟩ := by
    rw [← hts, ← hav]
    simp only [callOut, hm, Nat.add_sub_cancel_left]
  rw [e] at this
  rw [← ht']
  exact this.thin hD
end

def unm (n : Nat) (l : List Nat) : List (List Nat) := l.map fun m => (List.range n).filter fun i => m.testBit i
theorem RS.r {ρ : Nat → Nat} {n : Nat} {f : Nat → Option AV} {i : Nat} {x : AV} {r : List (Nat × Option AV)} (h1 : f i = some (x.ren ρ)) (h2 : keysOk n x.keys = true) (k : RS ρ n f r) : RS ρ n f ((i, some x) :: r) := .c h1 (.rfl _) h2 k
theorem RT.r {ρ : Nat → Nat} {n : Nat} {f : Nat → Option Tok} {i : Nat} {x : Tok} {r : List (Nat × Option Tok)} (h1 : f (ρ i) = some (x.ren ρ)) (h2 : Nat.blt i n = true) (h3 : keysOk n x.keys = true) (k : RT ρ n f r) : RT ρ n f ((i, some x) :: r) := .c h1 (.rfl _) h2 h3 k
section
variable {P : Program} {ops : Array Oper} {o : Oper} {l : List Oper} {sl : List (Nat × Option AV)} {tk : List (Nat × Option Tok)} {n d : Nat} {K : List Stp → St → Prop}
theorem RunK.m {x : Operand} {y : AV} (hd : o.dst = some d) (hg : Met ops (mkSt sl tk n) o.guard true) (ho : o.op = .move x) (hx : rd (mkSt sl tk n) x = some y) (k : RunK P ops l (mkSt ((d, some y) :: sl) tk n) (fun ms => K (([], .out ⟨some y, [], []⟩) :: ms))) :
    RunK P ops (o :: l) (mkSt sl tk n) K := .v hd hg (OpL.move (.inl ho) hx) k
theorem RunK.a {x : Operand} {y : AV} (hd : o.dst = some d) (hg : Met ops (mkSt sl tk n) o.guard true) (ho : o.op = .assign x) (hx : rd (mkSt sl tk n) x = some y) (k : RunK P ops l (mkSt ((d, some y) :: sl) tk n) (fun ms => K (([], .out ⟨some y, [], []⟩) :: ms))) :
    RunK P ops (o :: l) (mkSt sl tk n) K := .v hd hg (OpL.move (.inr ho) hx) k
end

theorem Spec.cast {P : Program} {f : FuncId} {xs : List X} {r : X} {ss : List (Option X)} (r' : X) (e : r = r') (h : Spec P f xs r ss) : Spec P f xs r' ss := e ▸ h

section
variable {P : Program} {o : Oper} {σ : St}
theorem O.eqPnn {t t' : TypeId} {x y : Operand} (ho : o.op = .binOp .eql t x y t') (ht : P.underlying t = some (.pointer (P.pointee t))) (hx : rd σ x = some (.imm (.val (.pointer none)))) (hy : rd σ y = some (.imm (.val (.pointer none)))) : OpL P o σ [] ⟨some (.imm (.val (.bool true))), [], []⟩ := OpL.eqPn ho ht hx hy
theorem O.nePnn {t t' : TypeId} {x y : Operand} (ho : o.op = .binOp .neq t x y t') (ht : P.underlying t = some (.pointer (P.pointee t))) (hx : rd σ x = some (.imm (.val (.pointer none)))) (hy : rd σ y = some (.imm (.val (.pointer none)))) : OpL P o σ [] ⟨some (.imm (.val (.bool false))), [], []⟩ := OpL.nePn ho ht hx hy
end

theorem OpL.frz {P : Program} {o : Oper} {σ : St} {fp : List Nat} {n e sz : Nat} {es : List (List T)} (h : OpL P o σ fp ⟨some (.own n), [(n, some (.rows e sz es false))], [n]⟩) {d : Nat} (hd : o.dst = some d) :
    OpL P o σ fp ⟨some (.imm (.row sz es)), [(n, some (.rows e sz es true))], [n]⟩ := by
  intro σ' h1 h2 h3 cx g a w hdn hs next Q hK
  refine h σ' h1 h2 h3 cx g a w hdn hs next Q fun g' a' w' hsr => ?_
  rw [hd] at hsr hK
  obtain ⟨g'', hf⟩ := Gives.freeze (σ := σ'.out (some d) ⟨some (.own n), [(n, some (.rows e sz es false))], [n]⟩) (i := d) (k := n) (e := e) (sz := sz) (es := es) (f := false) (by simp [St.out]) (by simp [St.out, lkp]) cx g' a' w' hsr
  refine hK g'' a' w' (hf.eqv _ (fun i => ?_) (fun k => ?_) (fun k hk => hk))
  · simp only [St.out]
    split <;> rfl
  · simp only [St.out, lkp]
    by_cases e : k = n <;> simp [e]

theorem kro {α : Type} {enc : α → List T} {e sz : Nat} {f : Bool} {a b : List α} (h : a = b) : Tk (.rows e sz (a.map enc) f) (.rows e sz (b.map enc) f) := by rw [h]; exact .rfl _

end Go.Pm
