/- The pure machine, part G: what one operation does to the abstract state: make, append, bytes and texts, interfaces, closures, stores into rows. Conditions: none (definitions and lemmas alone). -/
import Derived.Deep.AppendSrc
import Derived.Deep.Upon
import Derived.Laws.BytesString
import Derived.Test.YtidinbjehfodoaaPmF
namespace Go.Pm
open Go
set_option linter.unusedVariables false
set_option linter.unusedSimpArgs false

section
variable {cx : Cx} {g : Gh} {σ : St} {a : Act} {w : World} {P : Program} {o : Oper}

def rowsT (sz : Nat) : T → Option (List (List T))
  | .row sz' es => if sz = sz' then some es else none
  | .val v => if lenV v = some 0 then some [] else none
  | _ => none

/-- The elements of a slice, sz cells each. -/
def rowsOf (σ : St) (sz : Nat) : AV → Option (List (List T))
  | .own k => match σ.tk k with
    | some (.rows _ sz' es _) => if sz = sz' then some es else none
    | _ => none
  | .view k sz' off n => match σ.tk k with
    | some (.rows _ sz2 es _) => if sz = sz' ∧ sz = sz2 ∧ off + n ≤ es.length then some ((es.drop off).take n) else none
    | _ => none
  | .imm x => rowsT sz x
  | _ => none

theorem rowsOf_agree {σ σ' : St} {sz : Nat} {x : AV} (h : ∀ k, k ∈ keyOf x → σ'.tk k = σ.tk k) : rowsOf σ' sz x = rowsOf σ sz x := by
  cases x <;> simp only [rowsOf]
  · rw [h _ (by simp only [keyOf, List.mem_singleton])]
  · rw [h _ (by simp only [keyOf, List.mem_singleton])]

/-- Where the elements lie. -/
structure Lies (g : Gh) (w : World) (sz : Nat) (es : List (List T)) (b o : Nat) (vs : List Value) : Prop where
  len : vs.length = es.length * sz
  range : w.rangeAt b o vs
  uni : ∀ e ∈ es, e.length = sz
  rep : ∀ i j, i < es.length → j < sz → RepT g.S w ((es.getD i []).getD j default) (vs.getD (i * sz + j) undef)

theorem rowsOf_rep (h : SR cx g σ a w) {x : AV} {v : Value} {sz : Nat} {es : List (List T)} (hx : RepA g w x v) (hr : rowsOf σ sz x = some es) :
    ∃ A c, v = .slice A es.length c ∧ (es ≠ [] → ∃ b o vs, A = some ⟨b, o, none⟩ ∧ Lies g w sz es b o vs) := by
  cases hx with
  | imm X v hX =>
    cases hX with
    | val v =>
      simp only [rowsOf, rowsT] at hr
      split at hr
      · rename_i h0
        cases hr
        obtain ⟨A, c, rfl⟩ := lenV_some h0
        exact ⟨A, c, rfl, fun e => (e rfl).elim⟩
      · cases hr
    | nilrow sz' c A =>
      simp only [rowsOf, rowsT] at hr
      split at hr
      · cases hr; exact ⟨A, c, rfl, fun e => (e rfl).elim⟩
      · cases hr
    | row sz' es' b o' c u h1 h2 h3 h4 h5 =>
      simp only [rowsOf, rowsT] at hr
      split at hr
      · rename_i e; subst e; cases hr
        refine ⟨_, c, rfl, fun _ => ⟨b, o', (List.range (es.length * sz)).map (fun q => u (q / sz) (q % sz)), rfl, by simp, ?_, h2, ?_⟩⟩
        · intro j x hx
          have hj : j < es.length * sz := by
            rcases Nat.lt_or_ge j (es.length * sz) with h' | h'
            · exact h'
            · rw [List.getElem?_eq_none (by simp; exact h')] at hx; cases hx
          have hsz : 0 < sz := by
            rcases Nat.eq_zero_or_pos sz with h' | h'
            · subst h'; simp at hj
            · exact h'
          simp [List.getElem?_map, List.getElem?_range hj] at hx
          have := h4 (j / sz) (j % sz) ((Nat.div_lt_iff_lt_mul hsz).2 hj) (Nat.mod_lt _ hsz)
          rw [Nat.div_add_mod'] at this
          rw [this, hx]
        · intro i j hi hj
          have hlt := row_index hi hj
          have hsz : 0 < sz := by omega
          rw [listD_map (d := 0) _ _ _ _ (by simp; exact hlt)]
          have e : (List.range (es.length * sz)).getD (i * sz + j) 0 = i * sz + j := by simp [List.getD_eq_getElem?_getD, List.getElem?_range hlt]
          rw [e, Nat.mul_comm i sz, Nat.mul_add_div hsz, Nat.div_eq_of_lt hj, Nat.mul_add_mod, Nat.mod_eq_of_lt hj, Nat.add_zero]
          exact h5 i j hi hj
      · cases hr
    | agg => cases hr
    | ifc => cases hr
    | fp => cases hr
    | wit => cases hr
    | awaynil => cases hr
    | away => cases hr
  | own k hk =>
    simp only [rowsOf] at hr
    cases ht : σ.tk k with
    | none => rw [ht] at hr; cases hr
    | some t =>
      rw [ht] at hr
      cases t with
      | box all => cases hr
      | iter s p => cases hr
      | rows e0 sz' es' f =>
        simp only at hr
        split at hr
        · rename_i e; subst e; cases hr
          cases h.tk k _ ht with
          | rows _ _ _ _ xs h1 h2 h3 h4 h5 =>
            rcases h1.2 with ⟨e1, e2⟩ | ⟨b, cap, cur, e1, _⟩
            · refine ⟨none, 0, by rw [e1, e2], fun hne => ?_⟩
              exact (hne (List.eq_nil_of_length_eq_zero e2)).elim
            · obtain ⟨_, cur', hh, _, _, _, hcell⟩ := own_cells h1 e1
              refine ⟨_, cap, e1, fun _ => ⟨b, 0, xs, rfl, h1.1, ?_, h2, h3⟩⟩
              intro j x hx
              have hj : j < es.length * sz := by rw [← h1.1]; exact (List.getElem?_eq_some_iff.1 hx).1
              rw [Nat.zero_add, hcell j hj, List.getD_eq_getElem?_getD, hx]; rfl
        · cases hr
  | view k sz' off n b n0 c0 c hk g1 g2 g3 =>
    simp only [rowsOf] at hr
    cases ht : σ.tk k with
    | none => rw [ht] at hr; cases hr
    | some t =>
      rw [ht] at hr
      cases t with
      | box all => cases hr
      | iter s p => cases hr
      | rows e0 sz2 es' f =>
        simp only at hr
        split at hr
        · rename_i hc
          obtain ⟨rfl, rfl, hle⟩ := hc
          cases hr
          cases h.tk k _ ht with
          | rows _ _ _ _ xs h1 h2 h3 h4 h5 =>
            obtain ⟨e0, cur', hh, _, _, _, hcell⟩ := own_cells h1 g1
            have hlen := listLen_drop_take es' off n hle
            refine ⟨_, c, by rw [hlen], fun _ => ⟨b, off * sz, (xs.drop (off * sz)).take (n * sz), rfl, ?_, ?_, fun z hz => h2 z (List.mem_of_mem_drop (List.mem_of_mem_take hz)), ?_⟩⟩
            · rw [hlen, List.length_take, List.length_drop, h1.1]
              have : off * sz + n * sz ≤ es'.length * sz := by rw [← Nat.add_mul]; exact Nat.mul_le_mul_right _ hle
              omega
            · intro j x hx
              rw [List.getElem?_take] at hx
              split at hx
              · rename_i hj
                rw [List.getElem?_drop] at hx
                have hlt : off * sz + j < es'.length * sz := by rw [← h1.1]; exact (List.getElem?_eq_some_iff.1 hx).1
                rw [hcell _ hlt, List.getD_eq_getElem?_getD, hx]; rfl
              · cases hx
            · intro i j hi hj
              rw [hlen] at hi
              rw [listD_take_drop _ _ _ _ _ hi, listD_take_drop _ _ _ _ _ (row_index hi hj)]
              have := h3 (off + i) j (by omega) hj
              rwa [Nat.add_mul, Nat.add_assoc] at this
        · cases hr
  | view0 k sz' off c A hk =>
    simp only [rowsOf] at hr
    cases ht : σ.tk k with
    | none => rw [ht] at hr; cases hr
    | some t =>
      rw [ht] at hr
      cases t with
      | box all => cases hr
      | iter s p => cases hr
      | rows e0 sz2 es' f =>
        simp only at hr
        split at hr
        · cases hr
          refine ⟨A, c, by simp, fun e => ?_⟩
          simp at e
        · cases hr
  | ptr k off b hk hv => cases hr
  | eptr k sz' i j b n0 c0 hk hv => cases hr
  | cap k sz' off n c b n0 c0 hk h1 h2 h3 => cases hr
  | rptr cs off b o' u e1 e2 e3 => cases hr
  | agg cs vs h1 h2 => cases hr
  | tup cs vs h1 h2 => cases hr
  | fn f cap vs h1 h2 => cases hr

/-- n elements more, out of whatever source: where the row lies then. -/
theorem run_append_src_at (w : World) (t tx ty e : TypeId) (i : TypeInfo) (z : Value) (ht : P.underlying t = some (.slice e)) (hi : P.info? e = some i) (hz : i.zero = some z) (hzs : z.cells.size = i.size) (hsz : 0 < i.size)
    (v : Value) (n : Nat) (xs : List Value) (hown : w.ownsRow 0 e i.size v n xs) (x : Value) (m : Nat) (news : List Value) (hs : Src P i.size tx x m news w)
    (h63 : n + m ≤ maxLen) (hbytes : (n + m) * i.bytes ≤ 140737488355328) :
    ∃ v' w', (Builtin.append_ #[t, tx] ty #[v, x]).run P w = .ok v' w' ∧ w'.ownsRow 0 e i.size v' (n + m) (xs ++ news) ∧ w.grownBy w' v.ownBlock ∧ (v'.ownBlock = v.ownBlock ∨ v'.ownBlock = some w.heap.size) := by
  have hsmall : n + m ≤ 9223372036854775807 := by simp only [maxLen] at h63; omega
  have hlen : (xs ++ news).length = (n + m) * i.size := by rw [List.length_append, hown.1, hs.newsLen, Nat.add_mul]
  have grown : ∀ (old : Nat), old < n + m → ∀ (row : Option Nat),
      (w.drew.alloc (.cells ((xs ++ news).toArray ++ Builtin.zeroCells z.cells (grownCap w (n + m) old e - (n + m))) e)).ownsRow 0 e i.size
        (.slice (some ⟨w.heap.size, 0, none⟩) (n + m) (grownCap w (n + m) old e)) (n + m) (xs ++ news) ∧
      w.grownBy (w.drew.alloc (.cells ((xs ++ news).toArray ++ Builtin.zeroCells z.cells (grownCap w (n + m) old e - (n + m))) e)) row := by
    intro old ho row
    have hge := grownCap_ge w (n + m) old e
    have hcm : grownCap w (n + m) old e ≤ maxLen := grownCap_le_maxLen w (n + m) old e h63
    refine ⟨⟨hlen, .inr ⟨w.heap.size, _, _, rfl, Nat.zero_le _, heap_alloc_new w.drew _, hge, hcm, ?_, ?_⟩⟩, ⟨rfl, rfl, rfl, by simp, fun k hk _ => RowKit.Below.heap_alloc w.drew _ k hk⟩⟩
    · rw [Array.size_append, size_zeroCells, List.size_toArray, hlen, hzs, ← Nat.add_mul]
      congr 1
      omega
    · rw [Array.toList_append, ← hlen]
      exact List.take_left
  rcases hown.2 with ⟨rfl, rfl⟩ | ⟨b, cap, cur, rfl, hbg, hg, hnc, hcm, hcs, htake⟩
  · have hx : xs = [] := List.eq_nil_of_length_eq_zero (by simpa using hown.1)
    subst hx
    by_cases hm : m = 0
    · subst hm
      have hn : news = [] := List.eq_nil_of_length_eq_zero (by simpa using hs.newsLen)
      subst hn
      exact ⟨_, _, run_append_nothing w t tx ty e i ht hi none 0 0 (Nat.le_refl _) x hs, World.ownsRow_nil w 0 e i.size, ⟨rfl, rfl, rfl, Nat.le_refl _, fun _ _ _ => rfl⟩, .inl rfl⟩
    · have hr := run_append_grow_src (P := P) w t tx ty e i z ht hi hz none 0 0 [] (run_firstCells_none w.drew i.size 0 0 0) x m news hs (by omega) (by omega) (growslice_fits (by omega) hbytes)
      have hgr := grown 0 (by omega) (Value.ownBlock (.slice none 0 0))
      simp only [Nat.zero_add, List.nil_append] at hr hgr ⊢
      exact ⟨_, _, hr, hgr.1, hgr.2, .inr rfl⟩
  · by_cases hroom : n + m ≤ cap
    · have hfit : n * i.size + news.length ≤ cur.size := by rw [hs.newsLen, hcs, ← Nat.add_mul]; exact Nat.mul_le_mul_right _ hroom
      have hr := run_append_room_src (P := P) w t tx ty e i ht hi b 0 n cap x m news hs hroom
        (fun j hj => by rw [Nat.zero_add, cell_of_row w b _ cur e (0, 0) hg, Array.getElem?_eq_getElem (by omega)]; rfl)
        (fun j hj => frozen_of_row w b _ cur e hg)
      rw [Nat.zero_add] at hr
      obtain ⟨hf, C', hh, hs', hC⟩ := heap_setCells b e news (n * i.size) w cur hg hfit
      refine ⟨_, _, hr, ⟨hlen, .inr ⟨b, cap, C', rfl, hbg, hh, hroom, hcm, by rw [hs', hcs], ?_⟩⟩, ⟨hf.os, hf.tape, hf.output, hf.size, fun k hk hne => hf.block k hk (fun e' => hne (by simp [Value.ownBlock, e']))⟩, .inl rfl⟩
      have hns : n * i.size ≤ cur.size := by omega
      have hxl := hown.1
      refine List.ext_getElem? (fun q => ?_)
      rw [List.getElem?_take]
      by_cases hq : q < (n + m) * i.size
      · rw [if_pos hq]
        have hqs : q < C'.size := by rw [hs', hcs]; exact Nat.lt_of_lt_of_le hq (Nat.mul_le_mul_right _ hroom)
        rw [Array.getElem?_toList, getD_some hqs, hC q]
        rw [Nat.add_mul, ← hs.newsLen] at hq
        by_cases h1 : q < n * i.size
        · rw [if_neg (by omega), List.getElem?_append_left (by omega), ← htake, List.getElem?_take, if_pos h1, Array.getElem?_toList, getD_some (by omega)]
        · rw [if_pos (by omega), List.getElem?_append_right (by omega), hxl, List.getD_eq_getElem?_getD, List.getElem?_eq_getElem (by omega)]; rfl
      · rw [if_neg hq, List.getElem?_eq_none (by omega)]
    · have holds : ∀ j u, xs[j]? = some u → w.drew.cell? ((⟨b, 0, none⟩ : Addr).add j) = some u := fun j u hu => hown.cells (g := b) rfl j u hu
      have hr := run_append_grow_src (P := P) w t tx ty e i z ht hi hz (some ⟨b, 0, none⟩) n cap xs (run_firstCells_some w.drew i.size n ⟨b, 0, none⟩ n cap xs hown.1 holds) x m news hs (by omega) (by omega) (growslice_fits (by omega) hbytes)
      have hgr := grown cap (by omega) (Value.ownBlock (.slice (some ⟨b, 0, none⟩) n cap))
      exact ⟨_, _, hr, hgr.1, hgr.2, .inr rfl⟩

/-- What an append begins with: a row of ours, or nil. -/
inductive Base (σ : St) (e sz : Nat) : AV → Option Nat → List (List T) → Prop where
  | own (j : Nat) (es : List (List T)) : σ.tk j = some (.rows e sz es false) → Base σ e sz (.own j) (some j) es
  | nil : Base σ e sz (.imm (.val (.slice none 0 0))) none []

/-- What an append leaves. -/
def appOut (k : Nat) (j : Option Nat) (e sz : Nat) (es : List (List T)) : Out :=
  match j with
  | none => ⟨some (.own k), [(k, some (.rows e sz es false))], [k]⟩
  | some j => ⟨some (.own k), [(j, none), (k, some (.rows e sz es false))], [k]⟩

def jKeys : Option Nat → List Nat
  | none => []
  | some j => [j]

theorem ownBlock_hblk {w : World} {e sz n : Nat} {xs : List Value} {v : Value} (hv : w.ownsRow 0 e sz v n xs) : hblk v = v.ownBlock ∧ ∀ b, hblk v = some b → b < w.heap.size := by
  refine ⟨?_, fun b hb' => ?_⟩
  · rcases hv.2 with ⟨rfl, _⟩ | ⟨b, cap, cur, rfl, _⟩ <;> rfl
  · rcases hv.2 with ⟨rfl, _⟩ | ⟨b2, cap, cur, rfl, _⟩
    · cases hb'
    · exact (hv.lt b (by simpa [hblk, Value.ownBlock] using hb')).2

theorem rep_append {g : Gh} {w : World} {sz : Nat} {es es2 : List (List T)} {xs vs : List Value} (hl : xs.length = es.length * sz)
    (h1 : ∀ i q, i < es.length → q < sz → RepT g.S w ((es.getD i []).getD q default) (xs.getD (i * sz + q) undef))
    (h2 : ∀ i q, i < es2.length → q < sz → RepT g.S w ((es2.getD i []).getD q default) (vs.getD (i * sz + q) undef)) :
    ∀ i q, i < (es ++ es2).length → q < sz → RepT g.S w (((es ++ es2).getD i []).getD q default) ((xs ++ vs).getD (i * sz + q) undef) := by
  intro i q hi hq
  rw [List.length_append] at hi
  by_cases h : i < es.length
  · have := row_index h hq
    have e1 : (es ++ es2).getD i [] = es.getD i [] := by simp only [List.getD_eq_getElem?_getD, List.getElem?_append_left h]
    have e2 : (xs ++ vs).getD (i * sz + q) undef = xs.getD (i * sz + q) undef := by simp only [List.getD_eq_getElem?_getD, List.getElem?_append_left (by omega : i * sz + q < xs.length)]
    rw [e1, e2]; exact h1 i q h hq
  · obtain ⟨m, rfl⟩ : ∃ m, i = es.length + m := ⟨i - es.length, by omega⟩
    have e1 : (es ++ es2).getD (es.length + m) [] = es2.getD m [] := by
      simp only [List.getD_eq_getElem?_getD, List.getElem?_append_right (Nat.le_add_right _ _), Nat.add_sub_cancel_left]
    have e2 : (xs ++ vs).getD ((es.length + m) * sz + q) undef = vs.getD (m * sz + q) undef := by
      rw [Nat.add_mul, Nat.add_assoc, ← hl]
      simp only [List.getD_eq_getElem?_getD, List.getElem?_append_right (Nat.le_add_right _ _), Nat.add_sub_cancel_left]
    rw [e1, e2]; exact h2 m q (by omega) hq

theorem uni_append {sz : Nat} {es es2 : List (List T)} (h1 : ∀ z ∈ es, z.length = sz) (h2 : ∀ z ∈ es2, z.length = sz) : ∀ z ∈ es ++ es2, z.length = sz := by
  intro z hz
  rcases List.mem_append.1 hz with h | h
  · exact h1 z h
  · exact h2 z h

/-- An append, its source told by Src. -/
theorem OpD.of_append {t tx e k : Nat} {x y : Operand} {j : Option Nat} {p : AV} {es es2 : List (List T)} {ie : TypeInfo} {z : Value} (ho : o.op = .call { callee := .builtin .append, args := #[x, y], argTypes := #[t, tx] })
    (ht : P.underlying t = some (.slice e)) (hi : P.info? e = some ie) (hz : ie.zero = some z) (hzs : z.cells.size = ie.size) (hsz : 0 < ie.size) (hby : 0 < ie.bytes)
    (hk : σ.free k) (hx : rd σ x = some p) (hb : Base σ e ie.size p j es) (hlen : (es.length + es2.length) * ie.bytes ≤ 140737488355328) (huni : ∀ z ∈ es2, z.length = ie.size)
    (hsrc : ∀ cx g a w, SR cx g σ a w → ∃ news, Src P ie.size tx (a.eval y) es2.length news w ∧ ∀ i q, i < es2.length → q < ie.size → RepT g.S w ((es2.getD i []).getD q default) (news.getD (i * ie.size + q) undef)) :
    OpD P o σ (appOut k j e ie.size (es ++ es2)) := by
  have h63 : es.length + es2.length ≤ maxLen := by
    have : es.length + es2.length ≤ (es.length + es2.length) * ie.bytes := Nat.le_mul_of_pos_right _ hby
    simp only [maxLen]; omega
  cases hb with
  | nil =>
    refine .of_new hk rfl fun cx g a w hs => ?_
    have ev := (rd_rep hs x _ hx).valEq
    obtain ⟨news, hsr, hrep⟩ := hsrc cx g a w hs
    obtain ⟨v', w', hrun, hown, hg, hat⟩ := run_append_src_at w t tx o.type e ie z ht hi hz hzs hsz (.slice none 0 0) 0 [] (World.ownsRow_nil w 0 e ie.size) (a.eval y) es2.length news hsr (by simpa using h63) (by simpa using hlen)
    simp only [Nat.zero_add, List.nil_append] at hown
    have hf : Fr (fun _ => False) w w' := (Fr.grown hg).mono (fun b _ e => by simp [Value.ownBlock] at e)
    have hst : ∀ b, g.S b → w'.heap[b]? = w.heap[b]? := fun b hb => hf.block b (hs.stab b hb) (fun x => x)
    obtain ⟨hh1, hh2⟩ := ownBlock_hblk hown
    refine ⟨v', v', w', by simp [execOp, ho, resolve, invoke, builtin, ev, hrun], hf, ?_, fun b hb => ⟨?_, hh2 b hb⟩, ?_⟩
    · refine .rows e _ _ false news (by rw [Gh.put_same]; simpa using hown) (by simpa using huni) (fun i q hi hq => ?_) (fun u hu => .inl (hsr.one u hu)) (fun hf => by cases hf)
      simp only [List.nil_append] at hi ⊢
      exact (hrep i q hi hq).mono (fun _ x => x) hst
    · rw [hh1] at hb
      rcases hat with h' | h'
      · rw [h'] at hb; simp [Value.ownBlock] at hb
      · rw [h'] at hb; cases hb; exact Nat.le_refl _
    · have := RepA.own (g := g.put k v') (w := w') k (.inl rfl)
      rwa [Gh.put_same] at this
  | own j _ htj =>
    refine .of_instead hk rfl htj rfl fun cx g a w hs => ?_
    have hrx := rd_rep hs x _ hx
    generalize hv : a.eval x = v at hrx
    cases hrx with
    | own _ hkj =>
      cases hs.tk j _ htj with
      | rows _ _ _ _ xs t1 t2 t3 t4 t5 =>
        obtain ⟨news, hsr, hrep⟩ := hsrc cx g a w hs
        obtain ⟨v', w', hrun, hown, hg, hat⟩ := run_append_src_at w t tx o.type e ie z ht hi hz hzs hsz (g.hv j) es.length xs t1 (a.eval y) es2.length news hsr h63 hlen
        obtain ⟨hg1, hg2⟩ := ownBlock_hblk t1
        obtain ⟨hh1, hh2⟩ := ownBlock_hblk hown
        have hf : Fr (fun b => hblk (g.hv j) = some b) w w' := (Fr.grown hg).mono (fun b _ e => by rw [hg1]; exact e)
        have hst : ∀ b, g.S b → w'.heap[b]? = w.heap[b]? := fun b hb => hf.block b (hs.stab b hb) (fun e => (hs.live j _ b htj rfl e).1 hb)
        refine ⟨v', v', w', by simp [execOp, ho, resolve, invoke, builtin, hv, hrun], hf, ?_, fun b hb => ⟨hh2 b hb, ?_⟩, ?_⟩
        · refine .rows e _ _ false (xs ++ news) (by rw [Gh.put_same, List.length_append]; exact hown) (uni_append t2 huni) ?_ (fun u hu => ?_) (fun hf => by cases hf)
          · exact rep_append t1.1 (fun i q hi hq => (t3 i q hi hq).mono (fun _ x => x) hst) (fun i q hi hq => (hrep i q hi hq).mono (fun _ x => x) hst)
          · rcases List.mem_append.1 hu with h' | h'
            · exact t4 u h'
            · exact .inl (hsr.one u h')
        · rw [hh1] at hb; rw [hg1]
          rcases hat with h' | h'
          · exact .inr (h' ▸ hb)
          · rw [h'] at hb; cases hb; exact .inl (Nat.le_refl _)
        · have := RepA.own (g := g.put k v') (w := w') k (.inl rfl)
          rwa [Gh.put_same] at this

theorem Base.agree {σ σ' : St} {e sz : Nat} {p : AV} {j : Option Nat} {es : List (List T)} (h : Base σ e sz p j es) (hfp : ∀ k, k ∈ jKeys j → σ'.tk k = σ.tk k) : Base σ' e sz p j es := by
  cases h with
  | nil => exact .nil
  | own j es h => exact .own j es ((hfp j (by simp [jKeys])).trans h)

theorem getD_mem {α : Type} {l : List α} {i : Nat} {d : α} (h : i < l.length) : l.getD i d ∈ l := by
  rw [List.getD_eq_getElem?_getD, List.getElem?_eq_getElem h]; exact List.getElem_mem h

/-- A slice's elements behind a row. -/
theorem OpL.append {t e k : Nat} {x y : Operand} {j : Option Nat} {p q : AV} {es es2 : List (List T)} {ie : TypeInfo} {z : Value} (ho : o.op = .call { callee := .builtin .append, args := #[x, y], argTypes := #[t, t] })
    (ht : P.underlying t = some (.slice e)) (hi : P.info? e = some ie) (hz : ie.zero = some z) (hzs : z.cells.size = ie.size) (hsz : 0 < ie.size) (hby : 0 < ie.bytes)
    (hx : rd σ x = some p) (hy : rd σ y = some q) (hb : Base σ e ie.size p j es) (hr : rowsOf σ ie.size q = some es2) (huni : ∀ z ∈ es2, z.length = ie.size) (hone : ∀ e ∈ es2, ∀ x ∈ e, (AV.imm x).one = true)
    (hlen : (es.length + es2.length) * ie.bytes ≤ 140737488355328) : OpL P o σ (jKeys j ++ keyOf q) (appOut k j e ie.size (es ++ es2)) := by
  intro σ' hs hfp hfree
  have hx' := (hs x (by simp [ho, Op.operands, Call.operands])).trans hx
  have hy' := (hs y (by simp [ho, Op.operands, Call.operands])).trans hy
  have hr' : rowsOf σ' ie.size q = some es2 := (rowsOf_agree (fun k hk => hfp k (by simp [hk]))).trans hr
  refine .of_append ho ht hi hz hzs hsz hby (hfree k (by cases j <;> simp [appOut])) hx' (hb.agree (fun k hk => hfp k (by simp [hk]))) hlen huni ?_
  intro cx g a w h
  obtain ⟨A, c, e1, hlies⟩ := rowsOf_rep h (rd_rep h y _ hy') hr'
  rw [e1]
  by_cases hne : es2 = []
  · subst hne
    refine ⟨[], ?_, fun i q hi => by simp at hi⟩
    cases A with
    | none => exact Src.ofNil w ht c
    | some ad => exact Src.ofSlice w ht ad 0 c [] (by simp) (fun j u hu => by simp at hu) (fun u hu => by cases hu)
  · obtain ⟨b, o', vs, rfl, hl⟩ := hlies hne
    refine ⟨vs, Src.ofSlice w ht _ _ c vs hl.len (fun j u hu => by rw [Addr.add_mid]; exact hl.range j u hu) (fun u hu => ?_), hl.rep⟩
    obtain ⟨q', hq, rfl⟩ := List.getElem_of_mem hu
    rw [hl.len] at hq
    have hi' : q' / ie.size < es2.length := (Nat.div_lt_iff_lt_mul hsz).2 hq
    have hj' : q' % ie.size < ie.size := Nat.mod_lt _ hsz
    have hrp := hl.rep _ _ hi' hj'
    rw [Nat.div_add_mod'] at hrp
    have e5 : ∀ (hq' : q' < vs.length), vs.getD q' undef = vs[q'] := fun hq' => by rw [List.getD_eq_getElem?_getD, List.getElem?_eq_getElem hq']; rfl
    rw [e5 (by rw [hl.len]; exact hq)] at hrp
    have hmem : es2.getD (q' / ie.size) [] ∈ es2 := by rw [List.getD_eq_getElem?_getD, List.getElem?_eq_getElem hi']; exact List.getElem_mem hi'
    exact one_of_imm hrp (hone _ hmem _ (getD_mem (by rw [hl.uni _ hmem]; exact hj')))

/-- A byte, a text's bytes. -/
def encB (b : UInt8) : List T := [.val (.int .u8 b.toNat)]

theorem OpL.make {t e k : Nat} {x y : Operand} {k1 k2 : IntKind} {l c : Int} {ie : TypeInfo} {z : Value} {zs : List Value} (ho : o.op = .makeSlice t x y)
    (ht : P.underlying t = some (.slice e)) (hi : P.info? e = some ie) (hz : ie.zero = some z) (hzs : z.cells.toList = zs) (hzl : z.cells.size = ie.size) (hsz : 0 < ie.size) (h1 : ∀ v ∈ zs, v.oneCell' = true)
    (hx : rd σ x = some (.imm (.val (.int k1 l)))) (hy : rd σ y = some (.imm (.val (.int k2 c)))) (h0 : 0 ≤ l) (hlc : l ≤ c) (hby : (ie.bytes : Int) * c ≤ 281474976710656) (hc : c ≤ 281474976710656) :
    OpL P o σ [] ⟨some (.own k), [(k, some (.rows e ie.size (List.replicate l.toNat (zs.map T.val)) false))], [k]⟩ := by
  intro σ' hs hfp hfree
  have hx' := (hs x (by simp [ho, Op.operands])).trans hx
  have hy' := (hs y (by simp [ho, Op.operands])).trans hy
  refine .of_new (hfree k (by simp)) rfl fun cx g a w h => ?_
  have ex := (rd_rep h x _ hx').int
  have ey := (rd_rep h y _ hy').int
  have hrun := run_make (P := P) w t e ie z ht hi hz k1 k2 l c h0 hlc hby (by omega)
  have hzl' : zs.length = ie.size := by rw [← hzs]; simpa using hzl
  have hcell : ∀ q, q < c.toNat * ie.size → (madeCells z.cells (c.toNat * ie.size)).getD q undef = zs.getD (q % ie.size) undef := by
    intro q hq
    unfold madeCells
    rw [Array.getD_eq_getD_getElem?, Array.getElem?_map, Array.getElem?_range, if_pos hq]
    have hm : q % z.cells.size < z.cells.size := by rw [hzl]; exact Nat.mod_lt _ hsz
    simp only [Option.map_some, Option.getD_some]
    rw [getElem!_pos z.cells _ hm, ← hzs, toList_getD, Array.getD_eq_getD_getElem?, ← hzl, Array.getElem?_eq_getElem hm]; rfl
  refine ⟨_, .slice (some ⟨w.heap.size, 0, none⟩) l.toNat c.toNat, _, by simp [execOp, ho, ex, ey, hrun]; exact ⟨rfl, rfl⟩, Fr.alloc w _, ?_, ?_, ?_⟩
  · refine .rows e _ _ false ((madeCells z.cells (c.toNat * ie.size)).toList.take (l.toNat * ie.size)) ?_ (fun r hr => ?_) (fun i q hi' hq => ?_) (fun u hu => .inl ?_) (fun hf => by cases hf)
    · rw [Gh.put_same, List.length_replicate]
      have hle : l.toNat * ie.size ≤ c.toNat * ie.size := Nat.mul_le_mul_right _ (by omega)
      refine ⟨by rw [List.length_take, Array.length_toList, size_madeCells]; omega, .inr ⟨w.heap.size, c.toNat, _, rfl, Nat.zero_le _, alloc_cells _ _ _, by omega, ?_, size_madeCells _ _, rfl⟩⟩
      unfold maxLen; omega
    · rw [List.eq_of_mem_replicate hr]; simp [hzl']
    · rw [List.length_replicate] at hi'
      have hlt : i * ie.size + q < l.toNat * ie.size := row_index hi' hq
      have e1 : (List.replicate l.toNat (zs.map T.val)).getD i [] = zs.map T.val := by simp [List.getD_eq_getElem?_getD, List.getElem?_replicate, hi']
      rw [e1, listD_map (d := undef) _ _ _ _ (by omega)]
      have e2 : ((madeCells z.cells (c.toNat * ie.size)).toList.take (l.toNat * ie.size)).getD (i * ie.size + q) undef = zs.getD q undef := by
        rw [List.getD_eq_getElem?_getD, List.getElem?_take, if_pos hlt, ← List.getD_eq_getElem?_getD, toList_getD, hcell _ (Nat.lt_of_lt_of_le hlt (Nat.mul_le_mul_right _ (by omega)))]
        rw [Nat.mul_comm, Nat.mul_add_mod, Nat.mod_eq_of_lt hq]
      rw [e2]; exact .val _
    · have hu' := List.mem_of_mem_take hu
      obtain ⟨q, hq, rfl⟩ := List.getElem_of_mem hu'
      have hq' : q < c.toNat * ie.size := by simpa [size_madeCells] using hq
      have := hcell q hq'
      rw [Array.getD_eq_getD_getElem?, Array.getElem?_eq_getElem (by rw [size_madeCells]; exact hq')] at this
      simp only [Option.getD_some] at this
      rw [Array.getElem_toList, this]
      refine h1 _ ?_
      have hm : q % ie.size < zs.length := by rw [hzl']; exact Nat.mod_lt _ hsz
      rw [List.getD_eq_getElem?_getD, List.getElem?_eq_getElem hm]
      exact List.getElem_mem hm
  · intro b hb; simp only [hblk, Option.some.injEq] at hb; subst hb; simp
  · have := RepA.own (g := g.put k (.slice (some ⟨w.heap.size, 0, none⟩) l.toNat c.toNat)) (w := w.alloc (.cells (madeCells z.cells (c.toNat * ie.size)) e)) k (.inl rfl)
    rwa [Gh.put_same] at this

end
end Go.Pm
