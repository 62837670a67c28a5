/- The pure machine, part X: equality of structs that hold structs. Conditions: none (definitions and lemmas alone). -/
import Derived.Test.YtlgfdldonoaahaaPmU
namespace Go.Pm
open Go
set_option linter.unusedVariables false
set_option linter.unusedSimpArgs false

def eqAll : List Sk → List T → List T → Option Bool
  | [], [], [] => some true
  | k :: ks, a :: l, b :: m => match eqSc k a b, eqAll ks l m with
    | some q, some s => some (q && s)
    | _, _ => none
  | _, _, _ => none

theorem eqCs_all : ∀ (ks : List Sk) (l m : List T) (r : Bool), eqCs ks l m = some r → eqAll ks l m = some r
  | [], [], [], r, h => by simp [eqCs] at h
  | [], [], _ :: _, r, h => by simp [eqCs] at h
  | [], _ :: _, _, r, h => by simp [eqCs] at h
  | [k], [a], [b], r, h => by simp only [eqCs] at h; simp [eqAll, h]
  | [k], [a], [], r, h => by simp [eqCs] at h
  | [k], [], _, r, h => by simp [eqCs] at h
  | [k], [a], b :: c :: m, r, h => by simp [eqCs] at h
  | [k], a :: c :: l, [], r, h => by simp [eqCs] at h
  | [k], a :: c :: l, [b], r, h => by simp [eqCs] at h
  | [k], a :: c :: l, b :: e :: m, r, h => by simp [eqCs] at h
  | k :: k2 :: ks, [], m, r, h => by simp [eqCs] at h
  | k :: k2 :: ks, a :: l, [], r, h => by simp [eqCs] at h
  | k :: k2 :: ks, a :: l, b :: m, r, h => by
    simp only [eqCs] at h
    cases hq : eqSc k a b with
    | none => rw [hq] at h; cases h
    | some q =>
      rw [hq] at h
      cases hs : eqCs (k2 :: ks) l m with
      | none => rw [hs] at h; cases h
      | some s =>
        rw [hs] at h; cases h
        have := eqCs_all (k2 :: ks) l m s hs
        simp only [eqAll, hq] at this ⊢
        rw [this]

theorem eqAll_len : ∀ (ks : List Sk) (l m : List T) (r : Bool), eqAll ks l m = some r → l.length = ks.length ∧ m.length = ks.length
  | [], [], [], r, h => ⟨rfl, rfl⟩
  | [], [], _ :: _, r, h => by simp [eqAll] at h
  | [], _ :: _, _, r, h => by simp [eqAll] at h
  | k :: ks, [], m, r, h => by simp [eqAll] at h
  | k :: ks, a :: l, [], r, h => by simp [eqAll] at h
  | k :: ks, a :: l, b :: m, r, h => by
    simp only [eqAll] at h
    cases hq : eqSc k a b with
    | none => rw [hq] at h; cases h
    | some q =>
      rw [hq] at h
      cases hs : eqAll ks l m with
      | none => rw [hs] at h; cases h
      | some s =>
        have := eqAll_len ks l m s hs
        simp only [List.length_cons]; omega

theorem eqAll_app : ∀ (ka kb : List Sk) (l m : List T) (r : Bool), eqAll (ka ++ kb) l m = some r →
    ∃ q s, eqAll ka (l.take ka.length) (m.take ka.length) = some q ∧ eqAll kb (l.drop ka.length) (m.drop ka.length) = some s ∧ r = (q && s)
  | [], kb, l, m, r, h => ⟨true, r, by simp [eqAll], by simpa using h, by simp⟩
  | k :: ka, kb, [], m, r, h => by simp [eqAll] at h
  | k :: ka, kb, a :: l, [], r, h => by simp [eqAll] at h
  | k :: ka, kb, a :: l, b :: m, r, h => by
    simp only [List.cons_append, eqAll] at h
    cases hq : eqSc k a b with
    | none => rw [hq] at h; cases h
    | some q =>
      rw [hq] at h
      cases hs : eqAll (ka ++ kb) l m with
      | none => rw [hs] at h; cases h
      | some s =>
        rw [hs] at h; cases h
        obtain ⟨q2, s2, h1, h2, rfl⟩ := eqAll_app ka kb l m s hs
        refine ⟨q && q2, s2, ?_, by simpa using h2, by rw [Bool.and_assoc]⟩
        simp only [List.length_cons, List.take_succ_cons, eqAll, hq, h1]

def deepFs (P : Program) (rec : TypeId → Option (List Sk)) : Nat → List Field → Option (List Sk)
  | _, [] => some []
  | off, f :: fs => if (f.name == "_") || !(Nat.beq f.offset off) then none else match rec f.type with
    | none => none
    | some ks => if ((P.info? f.type).map (·.size)) = some ks.length then
        match deepFs P rec (off + ks.length) fs with
        | some ks' => some (ks ++ ks')
        | none => none
      else none
def deepT (P : Program) : Nat → TypeId → Option (List Sk)
  | 0, _ => none
  | n + 1, t => match P.underlying t with
    | some (.struct fs) => if P.stoodInHeld t then none else deepFs P (deepT P n) 0 fs.toList
    | some d => match skOf d with
      | some k => some [k]
      | none => none
    | none => none
def deepG (P : Program) (t : TypeId) : Option (List Sk) :=
  match P.underlying t with
  | some (.struct _) => if P.eqGuardType P.depth t then none else deepT P 6 t
  | _ => none

/-- A value's cells, by its type. -/
def CellsOf (P : Program) (S : Nat → Prop) (w : World) (t : TypeId) (l : List T) (u : Value) : Prop :=
  (∃ fs xs, P.underlying t = some (.struct fs) ∧ u = .agg xs ∧ ∀ i, i < l.length → RepT S w (l.getD i default) (xs.getD i undef) ∧ i < xs.size) ∨
  (∃ d x, P.underlying t = some d ∧ d.isRow = false ∧ l = [x] ∧ RepT S w x u)

theorem getD_extract (xs : Array Value) (a b i : Nat) (h : a + i < b) (hb : b ≤ xs.size) : (xs.extract a b).getD i undef = xs.getD (a + i) undef := by
  rw [Array.getD_eq_getD_getElem?, Array.getD_eq_getD_getElem?, Array.getElem?_extract]
  rw [if_pos (by omega)]

section
variable {P : Program} {S : Nat → Prop} {w : World}

/-- A field's value. -/
theorem part_cells {t : TypeId} {n : Nat} {ks : List Sk} (hk : deepT P n t = some ks) (hsz : (P.info? t).map (·.size) = some ks.length) {xs : Array Value} {off : Nat} {l : List T} (hl : l.length = ks.length)
    (hx : ∀ i, i < l.length → RepT S w (l.getD i default) (xs.getD (off + i) undef) ∧ off + i < xs.size) : ∃ u, (part t xs off).run P w = .ok u w ∧ CellsOf P S w t l u := by
  cases n with
  | zero => cases hk
  | succ n =>
    simp only [deepT] at hk
    cases hu : P.underlying t with
    | none => rw [hu] at hk; cases hk
    | some d =>
      rw [hu] at hk
      by_cases hs : ∃ fs, d = .struct fs
      · obtain ⟨fs, rfl⟩ := hs
        have hagg : (isAgg t).run P w = .ok true w := by
          unfold isAgg
          rw [Sem.run_bind, run_underlying hu w]
          simp
        cases hi : P.info? t with
        | none => rw [hi] at hsz; cases hsz
        | some ie =>
          have hz : ie.size = ks.length := by rw [hi] at hsz; simpa using hsz
          refine ⟨.agg (xs.extract off (off + ie.size)), by simp [part, hagg, sizeOf, typeInfo, hi], .inl ⟨fs, _, hu, rfl, fun i hi' => ?_⟩⟩
          have h0 := hx i hi'
          have hlast : off + ie.size ≤ xs.size := by
            have := (hx (l.length - 1) (by omega)).2
            omega
          rw [getD_extract xs off _ i (by omega) hlast]
          exact ⟨h0.1, by rw [Array.size_extract]; omega⟩
      · have hd : ∃ k, skOf d = some k ∧ ks = [k] := by
          cases d <;> first | (exact absurd ⟨_, rfl⟩ hs) | (simp only [skOf] at hk; first | (cases hk; exact ⟨_, rfl, rfl⟩) | cases hk)
        obtain ⟨k, hk1, rfl⟩ := hd
        have hrow : d.isRow = false := by cases d <;> first | rfl | (simp [skOf] at hk1)
        obtain ⟨x, rfl⟩ : ∃ x, l = [x] := by
          match l, hl with
          | [x], _ => exact ⟨x, rfl⟩
        have h0 := hx 0 (by simp)
        simp only [Nat.add_zero, List.getD_cons_zero] at h0
        exact ⟨_, run_part_cell hu hrow (getD_some h0.2), .inr ⟨d, x, hu, hrow, rfl, h0.1⟩⟩

theorem deepFs_run {n d : Nat} {xs ys : Array Value} (hrec : ∀ t ks, deepT P n t = some ks → ∀ l m r u v, CellsOf P S w t l u → CellsOf P S w t m v → eqAll ks l m = some r → (Op.equalIn d t u v).run P w = .ok r w) :
    ∀ (fs : List Field) (off : Nat) (ks : List Sk) (l m : List T) (r : Bool), deepFs P (deepT P n) off fs = some ks → eqAll ks l m = some r →
    (∀ i, i < l.length → RepT S w (l.getD i default) (xs.getD (off + i) undef) ∧ off + i < xs.size) → (∀ i, i < m.length → RepT S w (m.getD i default) (ys.getD (off + i) undef) ∧ off + i < ys.size) →
    (Op.eqFields d xs ys fs).run P w = .ok r w
  | [], off, ks, l, m, r, hf, he, _, _ => by
    cases hf
    have := eqAll_len _ _ _ _ he
    have e1 : l = [] := List.eq_nil_of_length_eq_zero this.1
    have e2 : m = [] := List.eq_nil_of_length_eq_zero this.2
    subst e1 e2
    simp only [eqAll] at he
    cases he
    simp [Op.eqFields]
  | f :: fs, off, ks, l, m, r, hf, he, hx, hy => by
    simp only [deepFs] at hf
    split at hf
    · cases hf
    · rename_i hn
      simp only [Bool.or_eq_true, Bool.not_eq_true', not_or, Bool.not_eq_true, Bool.not_eq_false] at hn
      have hne : f.name ≠ "_" := by simpa using hn.1
      have hoff := Nat.eq_of_beq_eq_true hn.2
      cases hk : deepT P n f.type with
      | none => rw [hk] at hf; cases hf
      | some ka =>
        rw [hk] at hf
        simp only at hf
        split at hf
        · rename_i hsz
          cases hr : deepFs P (deepT P n) (off + ka.length) fs with
          | none => rw [hr] at hf; cases hf
          | some kb =>
            rw [hr] at hf
            cases hf
            have len := eqAll_len _ _ _ _ he
            rw [List.length_append] at len
            obtain ⟨q, s, h1, h2, rfl⟩ := eqAll_app ka kb l m r he
            have tk : ∀ (z : List T), z.length = ka.length + kb.length → ∀ (A : Array Value), (∀ i, i < z.length → RepT S w (z.getD i default) (A.getD (off + i) undef) ∧ off + i < A.size) →
                (∀ i, i < (z.take ka.length).length → RepT S w ((z.take ka.length).getD i default) (A.getD (off + i) undef) ∧ off + i < A.size) ∧
                (∀ i, i < (z.drop ka.length).length → RepT S w ((z.drop ka.length).getD i default) (A.getD (off + ka.length + i) undef) ∧ off + ka.length + i < A.size) := fun z hz A hA => by
              refine ⟨fun i hi => ?_, fun i hi => ?_⟩
              · rw [List.length_take] at hi
                have := hA i (by omega)
                rw [List.getD_eq_getElem?_getD (l := List.take _ _), List.getElem?_take, if_pos (by omega), ← List.getD_eq_getElem?_getD]
                exact this
              · rw [List.length_drop] at hi
                have := hA (ka.length + i) (by omega)
                rw [List.getD_eq_getElem?_getD (l := List.drop _ _), List.getElem?_drop, ← List.getD_eq_getElem?_getD, Nat.add_assoc]
                exact this
            obtain ⟨x1, x2⟩ := tk l len.1 xs hx
            obtain ⟨y1, y2⟩ := tk m len.2 ys hy
            obtain ⟨u, pu, cu⟩ := part_cells hk hsz (by rw [List.length_take]; omega) x1
            obtain ⟨v, pv, cv⟩ := part_cells hk hsz (by rw [List.length_take]; omega) y1
            have he' := hrec _ _ hk _ _ q u v cu cv h1
            have ih := deepFs_run hrec fs (off + ka.length) kb _ _ s hr h2 x2 y2
            rw [Op.eqFields]
            simp only [if_pos hne, hoff, Sem.run_bind, pu, pv, he', Result.andThen_ok]
            cases q
            · simp
            · simpa using ih
        · cases hf

theorem deep_run : ∀ (n : Nat) (t : TypeId) (ks : List Sk), deepT P n t = some ks → ∀ (d : Nat), n ≤ d → ∀ l m r u v, CellsOf P S w t l u → CellsOf P S w t m v → eqAll ks l m = some r → (Op.equalIn d t u v).run P w = .ok r w
  | 0, t, ks, hk, _, _, _, _, _, _, _, _, _, _ => by cases hk
  | n + 1, t, ks, hk, d, hd, l, m, r, u, v, hu, hv, he => by
    obtain ⟨d, rfl⟩ : ∃ e, d = e + 1 := ⟨d - 1, by omega⟩
    simp only [deepT] at hk
    rcases hu with ⟨fs, xs, h1, rfl, h2⟩ | ⟨dd, x, h1, h2, rfl, h3⟩
    · rcases hv with ⟨gs, ys, g1, rfl, g2⟩ | ⟨dd, y, g1, g2, _, _⟩
      · rw [h1] at hk
        simp only at hk
        split at hk
        · cases hk
        · rename_i hst
          have hfo : P.fieldsOf t = fs := by simp [Program.fieldsOf, h1]
          rw [run_equalIn_struct (P := P) w d t xs ys (by rw [hfo]; exact h1) (by simpa using hst), hfo]
          exact deepFs_run (fun t ks hk => deep_run n t ks hk d (by omega)) fs.toList 0 ks l m r hk he (fun i hi => by rw [Nat.zero_add]; exact h2 i hi) (fun i hi => by rw [Nat.zero_add]; exact g2 i hi)
      · rw [h1] at g1; cases g1; cases g2
    · rcases hv with ⟨gs, ys, g1, _, _⟩ | ⟨de, y, g1, g2, rfl, g3⟩
      · rw [h1] at g1; cases g1; cases h2
      · rw [h1] at hk
        have hd : ∃ k, skOf dd = some k ∧ ks = [k] := by
          cases dd <;> first | (simp [TypeDesc.isRow] at h2; done) | (simp only [skOf] at hk; first | (cases hk; exact ⟨_, rfl, rfl⟩) | cases hk)
        obtain ⟨k, hk1, rfl⟩ := hd
        have h0 : eqSc k x y = some r := by
          simp only [eqAll] at he
          cases hq : eqSc k x y with
          | none => rw [hq] at he; cases he
          | some q => rw [hq] at he; simpa using he
        exact eqSc_run h0 h3 g3 h1 hk1
end

section
variable {P : Program} {σ : St} {o : Oper} {cx : Cx} {g : Gh} {a : Act} {w : World}
theorem eqDeep_run (h : SR cx g σ a w) {t : TypeId} {ks : List Sk} {cs ds : List AV} {l m : List T} {u v : Value} {r : Bool} (hf : deepG P t = some ks) (hu : RepA g w (.agg cs) u) (hv : RepA g w (.agg ds) v) (hl : cellsT cs = some l) (hm : cellsT ds = some m) (he : eqCs ks l m = some r) :
    ∃ xs ys, u = .agg xs ∧ v = .agg ys ∧ (Op.equalIn 10000 t (.agg xs) (.agg ys)).run P w = .ok r w ∧ P.eqGuardType P.depth t = false := by
  unfold deepG at hf
  split at hf
  · rename_i fs h1
    split at hf
    · cases hf
    · rename_i h3
      obtain ⟨c1, c2⟩ := cellsT_get _ _ hl
      obtain ⟨d1, d2⟩ := cellsT_get _ _ hm
      cases hu with
      | agg _ xs a1 a2 =>
        cases hv with
        | agg _ ys b1 b2 =>
          refine ⟨xs, ys, rfl, rfl, ?_, by simpa using h3⟩
          refine deep_run (S := g.S) 6 t ks hf 10000 (by omega) l m r _ _ (.inl ⟨fs, xs, h1, rfl, fun i hi => ?_⟩) (.inl ⟨fs, ys, h1, rfl, fun i hi => ?_⟩) (eqCs_all _ _ _ _ he)
          · have := a2 i (by omega)
            rw [c2 i (by omega)] at this
            cases this with
            | imm _ _ h => exact ⟨h, by omega⟩
          · have := b2 i (by omega)
            rw [d2 i (by omega)] at this
            cases this with
            | imm _ _ h => exact ⟨h, by omega⟩
  · cases hf
theorem O.eqD {t t' : TypeId} {x y : Operand} {ks : List Sk} {cs ds : List AV} {l m : List T} {r : Bool} (hf : deepG P t = some ks) (ho : o.op = .binOp .eql t x y t') (hx : rd σ x = some (.agg cs)) (hy : rd σ y = some (.agg ds)) (hl : cellsT cs = some l) (hm : cellsT ds = some m) (he : eqCs ks l m = some r) :
    OpL P o σ [] ⟨some (.imm (.val (.bool r))), [], []⟩ := by
  intro σ' hs _ _
  have hx' := (hs x (by simp [ho, Op.operands])).trans hx
  have hy' := (hs y (by simp [ho, Op.operands])).trans hy
  refine .of_value fun cx g a w h => ?_
  obtain ⟨xs, ys, e1, e2, e3, e4⟩ := eqDeep_run h hf (rd_rep h x _ hx') (rd_rep h y _ hy') hl hm he
  exact ⟨.bool r, by simp [execOp, ho, e1, e2, run_eqGuard_agg (P := P) w .eql t x y xs ys e4, run_eql_struct, e3], .ofVal g w _⟩
theorem O.neD {t t' : TypeId} {x y : Operand} {ks : List Sk} {cs ds : List AV} {l m : List T} {r : Bool} (hf : deepG P t = some ks) (ho : o.op = .binOp .neq t x y t') (hx : rd σ x = some (.agg cs)) (hy : rd σ y = some (.agg ds)) (hl : cellsT cs = some l) (hm : cellsT ds = some m) (he : eqCs ks l m = some r) :
    OpL P o σ [] ⟨some (.imm (.val (.bool (!r)))), [], []⟩ := by
  intro σ' hs _ _
  have hx' := (hs x (by simp [ho, Op.operands])).trans hx
  have hy' := (hs y (by simp [ho, Op.operands])).trans hy
  refine .of_value fun cx g a w h => ?_
  obtain ⟨xs, ys, e1, e2, e3, e4⟩ := eqDeep_run h hf (rd_rep h x _ hx') (rd_rep h y _ hy') hl hm he
  exact ⟨.bool (!r), by simp [execOp, ho, e1, e2, run_eqGuard_agg (P := P) w .neq t x y xs ys e4, run_neq_struct, e3], .ofVal g w _⟩
end

end Go.Pm
