/- The pure machine, part U: copies into a row of ours, one element more in its place, a make appended, rows that lie apart. Conditions: none (definitions and lemmas alone). -/
import Derived.Lib.Overlaps
import Derived.Lib.AppendZerosOnto
import Derived.Test.YtlgfdldonoaahaaPmV
namespace Go.Pm
open Go
set_option linter.unusedVariables false
set_option linter.unusedSimpArgs false

/-- A row of ours, there is room: one element more in its place, whatever lies there. -/
theorem W.growC {P : Program} {code : Code} {KK : Px → St → Prop} {sl : List (Nat × Option AV)} {tk : List (Nat × Option Tok)} {n e sz k m C : Nat} {es : List (List T)} (i : Nat) (hi : lks sl i = some (.cap k sz 0 m C)) (hk : lkt tk k = some (.rows e sz es false)) (hm : m = es.length) (hroom : m + 1 ≤ C)
    (h : ∀ junk : List T, junk.length = sz → W P code (mkSt ((i, some (.cap n sz 0 m C)) :: sl) ((k, none) :: (n, some (.rows e sz (es ++ [junk]) false)) :: tk) (n + 1)) KK) : W P code (mkSt sl tk n) KK := by
  subst hm
  intro cx g a w hs
  have hr := hs.sl i _ hi
  generalize hv : a.tmps.getD i undef = v at hr
  cases hr with
  | cap _ _ _ _ _ b n0 c0 g1 g2 g3 g4 =>
  cases hs.tk k _ hk with
  | rows _ _ _ _ xs t1 t2 t3 t4 t5 =>
    rcases t1.2 with ⟨e1, e2⟩ | ⟨b', cap, cur, e1, e0, e2, e3, e4, e5, e6⟩
    · rw [g2] at e1; cases e1
    · rw [g2] at e1; cases e1
      obtain rfl : C = c0 := by omega
      have fit : (es.length + 1) * sz ≤ C * sz := Nat.mul_le_mul_right _ hroom
      have e7 : (es.length + 1) * sz = es.length * sz + sz := by rw [Nat.add_mul, Nat.one_mul]
      have lC : cur.toList.length = C * sz := by rw [Array.length_toList, e5]
      have jl : (((cur.toList.drop (es.length * sz)).take sz).map T.val).length = sz := by
        rw [List.length_map, List.length_take, List.length_drop]; omega
      have nu : (⟨lks sl, lkt tk, fun k => n ≤ k⟩ : St).free n := Nat.le_refl n
      have hle := g.put_le n (.slice (some ⟨b, 0, none⟩) (es.length + 1) C) (fun hu => hs.used n hu nu)
      have hnk : k ≠ n := fun e => by have := hs.fresh nu; rw [e] at hk; rw [show (mkSt sl tk n).tk n = _ from hk] at this; cases this
      have hT : TokRep (g.put n (.slice (some ⟨b, 0, none⟩) (es.length + 1) C)) w n (.rows e sz (es ++ [((cur.toList.drop (es.length * sz)).take sz).map T.val]) false) := by
        refine .rows e _ _ false (cur.toList.take ((es.length + 1) * sz)) ?_ (fun r hr => ?_) (fun p q hp hq => ?_) (fun _ _ => .inr trivial) (fun hf => by cases hf)
        · rw [Gh.put_same, List.length_append, List.length_singleton]
          exact ⟨by rw [List.length_take]; omega, .inr ⟨b, C, cur, rfl, e0, e2, hroom, e4, e5, rfl⟩⟩
        · rcases List.mem_append.1 hr with hr | hr
          · exact t2 r hr
          · rw [List.mem_singleton.1 hr]; exact jl
        · rw [List.length_append, List.length_singleton] at hp
          have lt : p * sz + q < (es.length + 1) * sz := row_index hp hq
          rw [List.getD_eq_getElem?_getD (l := cur.toList.take _), List.getElem?_take, if_pos lt, ← List.getD_eq_getElem?_getD]
          by_cases c1 : p < es.length
          · have lt2 : p * sz + q < es.length * sz := row_index c1 hq
            have := t3 p q c1 hq
            rw [← e6, List.getD_eq_getElem?_getD (l := cur.toList.take _), List.getElem?_take, if_pos lt2, ← List.getD_eq_getElem?_getD] at this
            rw [List.getD_eq_getElem?_getD (l := es ++ _), List.getElem?_append_left c1, ← List.getD_eq_getElem?_getD]
            exact this.mono (fun _ x => x) (fun _ _ => rfl)
          · obtain rfl : p = es.length := by omega
            rw [List.getD_eq_getElem?_getD (l := es ++ _), List.getElem?_append_right (Nat.le_refl _), Nat.sub_self]
            simp only [List.getElem?_cons_zero, Option.getD_some]
            rw [listD_map (d := undef) _ _ _ _ (by rw [List.length_take, List.length_drop]; omega), List.getD_eq_getElem?_getD (l := List.take _ _), List.getElem?_take, if_pos hq, List.getElem?_drop, ← List.getD_eq_getElem?_getD]
            exact .val _
      have hn := hs.newTok (Fr.refl (fun _ => False) w) n nu (.slice (some ⟨b, 0, none⟩) (es.length + 1) C) _ (fun i => i = k) hT rfl
        (fun b' hb' => ⟨hs.blk k _ b' hk (by rw [g2]; exact hb'), .inr ⟨k, _, rfl, hk, rfl, by rw [g2]; exact hb'⟩⟩) (fun _ _ x => x.elim)
        (fun i => if i = k then none else if i = n then some (.rows e sz (es ++ [((cur.toList.drop (es.length * sz)).take sz).map T.val]) false) else lkt tk i) (fun i => n ≤ i ∧ i ≠ n) (fun i hi => hi) (fun i u hi => by
          by_cases ej : i = k
          · simp only [ej, if_true] at hi; cases hi
          · simp only [ej, if_false] at hi
            by_cases e : i = n
            · simp only [e, if_true] at hi; cases hi; exact .inl ⟨e, rfl⟩
            · simp only [e, if_false] at hi; exact .inr ⟨e, ej, hi⟩)
      refine h _ jl cx _ a w { hn with sl := fun j x hx => ?_, tk := fun q t hq => ?_, used := fun q hq hf => ?_, key := fun q t hq => ?_, inj := fun q q' t t' b h1 h2 => ?_, live := fun q t b h1 => ?_, blk := fun q t b h1 => ?_, low := fun q hq hf => ?_ }
      · simp only [mkSt, lks_cons] at hx
        split at hx
        · rename_i ej; cases hx
          rw [ej, hv]
          exact .cap n sz 0 es.length C b (es.length + 1) C (.inl rfl) (Gh.put_same _ _ _) (by omega) (by omega)
        · exact hn.sl j x hx
      all_goals first
        | (simp only [mkSt, lkt_cons] at hq; exact hn.tk q t hq)
        | (refine hn.used q hq ?_; have : n + 1 ≤ q := hf; exact ⟨by omega, by omega⟩)
        | (simp only [mkSt, lkt_cons] at hq; exact hn.key q t hq)
        | (simp only [mkSt, lkt_cons] at h1 h2; exact hn.inj q q' t t' b h1 h2)
        | (simp only [mkSt, lkt_cons] at h1; exact hn.live q t b h1)
        | (simp only [mkSt, lkt_cons] at h1; exact hn.blk q t b h1)
        | (refine hn.low q hq ?_; have : n + 1 ≤ q := hf; exact ⟨by omega, by omega⟩)

theorem run_copy_rows {P : Program} (w : World) (dT sT ty elem : TypeId) (ie : TypeInfo) (b o dLen dCap : Nat) (a : Addr) (sLen sCap c : Nat) (cs : List Value)
    (hu : P.underlying dT = some (.slice elem)) (hi : P.info? elem = some ie) (hn : c = Nat.min sLen dLen) (hl : cs.length = c * ie.size)
    (hsrc : ∀ j v, cs[j]? = some v → w.cell? (a.add j) = some v) (hc : ∀ j, j < cs.length → (w.cell? ⟨b, o + j, none⟩).isSome = true) (hf : ∀ j, j < cs.length → w.frozen? ⟨b, o + j, none⟩ = false) (h1 : ∀ v ∈ cs, v.oneCell' = true) :
    (Builtin.copy_ #[dT, sT] ty #[.slice (some ⟨b, o, none⟩) dLen dCap, .slice (some a) sLen sCap]).run P w = .ok (goInt c) (w.setCells b o cs) := by
  have hst := run_storeCells_cells (P := P) b o cs 0 w (by simpa using hc) (by simpa using hf) h1
  have hfc := run_firstCells_some (P := P) w ie.size c a sLen sCap cs hl hsrc
  simp only [Nat.add_zero] at hst
  simp [Builtin.copy_, run_underlying hu, Builtin.lenOf, sizeOf, typeInfo, hi, ← hn, hfc, hst]

/-- Elements copied into a part of a row of ours. -/
theorem OpL.copy {P : Program} {o : Oper} {σ : St} {t t' e sz bytes k off m c : Nat} {zs : List Value} {x y : Operand} {q : AV} {es es2 : List (List T)} (S : SlT P t e sz bytes zs)
    (ho : o.op = .call { callee := .builtin .copy, args := #[x, y], argTypes := #[t, t'] }) (hx : rd σ x = some (.view k sz off m)) (hk : σ.tk k = some (.rows e sz es false)) (hy : rd σ y = some q) (hr : rowsOf σ sz q = some es2)
    (hc : c = Nat.min es2.length m) (hc0 : 0 < c) (hm : off + m ≤ es.length) (huni : ∀ z ∈ es2.take c, z.length = sz) (hone : ∀ z ∈ es2.take c, ∀ x ∈ z, (AV.imm x).one = true) :
    OpL P o σ (k :: keyOf q) ⟨some (.imm (.val (.int .i64 c))), [(k, some (.rows e sz (splice es off (es2.take c)) false))], []⟩ := by
  obtain ⟨ie, z, h1, h2, h3, h4, rfl, h6⟩ := S.parts
  have pos := S.pos.1
  intro σ' hs hfp hfree cx g a w hdn h next Q hK
  have hx' := (hs x (by simp [ho, Op.operands, Call.operands])).trans hx
  have hy' := (hs y (by simp [ho, Op.operands, Call.operands])).trans hy
  have hk' := (hfp k (by simp)).trans hk
  have hr' : rowsOf σ' ie.size q = some es2 := (rowsOf_agree (fun k hk => hfp k (by simp [hk]))).trans hr
  have cm : c ≤ m := by rw [hc]; exact Nat.min_le_right _ _
  have c2 : c ≤ es2.length := by rw [hc]; exact Nat.min_le_left _ _
  have hrx := rd_rep h x _ hx'
  generalize hex : a.eval x = vx at hrx
  show o.upon P a next Q ((execOp a.eval o).run P w)
  obtain ⟨A, sc, ey, hlies⟩ := rowsOf_rep h (rd_rep h y _ hy') hr'
  obtain ⟨b2, o2, vs, rfl, hl⟩ := hlies (fun e => by rw [e] at c2; simp at c2; omega)
  have lt2 : (es2.take c).length = c := by rw [List.length_take]; omega
  have fit2 : c * ie.size ≤ es2.length * ie.size := Nat.mul_le_mul_right _ c2
  have vl := hl.len
  have vtl : (vs.take (c * ie.size)).length = c * ie.size := by rw [List.length_take]; omega
  have vget : ∀ j, j < c * ie.size → (vs.take (c * ie.size)).getD j undef = vs.getD j undef := fun j hj => by
    rw [List.getD_eq_getElem?_getD, List.getElem?_take, if_pos hj, ← List.getD_eq_getElem?_getD]
  have vone : ∀ v ∈ vs.take (c * ie.size), v.oneCell' = true := by
    intro v hv
    obtain ⟨q', hq, rfl⟩ := List.getElem_of_mem hv
    rw [vtl] at hq
    have hi' : q' / ie.size < c := (Nat.div_lt_iff_lt_mul pos).2 hq
    have hj' : q' % ie.size < ie.size := Nat.mod_lt _ pos
    have hrp := hl.rep _ _ (by omega : q' / ie.size < es2.length) hj'
    rw [Nat.div_add_mod'] at hrp
    have e5 : vs.getD q' undef = (vs.take (c * ie.size))[q'] := by
      rw [← vget q' hq, List.getD_eq_getElem?_getD, List.getElem?_eq_getElem (by rw [vtl]; exact hq)]; rfl
    rw [e5] at hrp
    have e6 : es2.getD (q' / ie.size) [] = (es2.take c).getD (q' / ie.size) [] := by
      rw [List.getD_eq_getElem?_getD (l := es2.take c), List.getElem?_take, if_pos hi', ← List.getD_eq_getElem?_getD]
    have hmem : es2.getD (q' / ie.size) [] ∈ es2.take c := by rw [e6]; exact getD_mem (by rw [lt2]; exact hi')
    exact one_of_imm hrp (hone _ hmem _ (getD_mem (by rw [huni _ hmem]; exact hj')))
  cases hrx with
  | view0 => omega
  | view _ _ _ _ b m0 c0 cc hu hv g1 g2 =>
  cases h.tk k _ hk' with
  | rows _ _ _ _ xs t1 t2 t3 t4 t5 =>
    rcases t1.2 with ⟨e1, e2⟩ | ⟨b', cap, cur, e1, e0, e2, e3, e4, e5, e6⟩
    · rw [hv] at e1; cases e1
    · rw [hv] at e1; cases e1
      have hsz : off * ie.size + c * ie.size ≤ es.length * ie.size := by rw [← Nat.add_mul]; exact Nat.mul_le_mul_right _ (by omega)
      have hcap : es.length * ie.size ≤ c0 * ie.size := Nat.mul_le_mul_right _ e3
      have hrun0 := run_copy_rows (P := P) w t t' o.type e ie b (off * ie.size) m cc ⟨b2, o2, none⟩ es2.length sc c (vs.take (c * ie.size)) S.ht h1 hc vtl
        (fun j v hj => by
          rw [Addr.add_mid]
          rw [List.getElem?_take] at hj
          split at hj
          · exact hl.range j v hj
          · cases hj)
        (fun j hj => by
          rw [vtl] at hj
          rw [cell_of_row w b (off * ie.size + j) cur e (0, 0) e2, Array.getElem?_eq_getElem (by omega)]; rfl)
        (fun j hj => frozen_of_row w b _ cur e e2) vone
      have hrun : (execOp a.eval o).run P w = .ok (.value (goInt c)) (w.setCells b (off * ie.size) (vs.take (c * ie.size))) := by
        simp [execOp, ho, hex, ey, resolve, invoke, builtin, hrun0]
      obtain ⟨hf, C', hh', hs', hC'⟩ := heap_setCells b e (vs.take (c * ie.size)) (off * ie.size) w cur e2 (by rw [vtl]; omega)
      have lC : C'.toList.length = c0 * ie.size := by rw [Array.length_toList, hs', e5]
      rw [hrun]
      have hkb : ∀ q, hblk (g.hv k) = some q ↔ q = b := fun q => by rw [hv]; simp [hblk, eq_comm]
      have spl : off + (es2.take c).length ≤ es.length := by rw [lt2]; omega
      have hset := h.setTok k (.rows e ie.size es false) (.rows e ie.size (splice es off (es2.take c)) false) hk' rfl (hf.mono (fun q _ e => (hkb q).2 e)) (by
        have hstb : ∀ q, g.S q → (w.setCells b (off * ie.size) (vs.take (c * ie.size))).heap[q]? = w.heap[q]? := fun q hq =>
          hf.block q (h.stab q hq) (fun e => by subst e; exact (h.live k _ q hk' rfl ((hkb q).2 rfl)).1 hq)
        have L : (splice es off (es2.take c)).length = es.length := splice_length _ _ _ spl
        refine .rows e _ _ false (C'.toList.take (es.length * ie.size)) ?_ (fun r hr => ?_) (fun i j hi hj => ?_) (fun _ _ => .inr trivial) (fun hf => by cases hf)
        · rw [L, hv]
          refine ⟨by rw [List.length_take, lC]; omega, .inr ⟨b, c0, C', rfl, e0, hh', e3, e4, by rw [hs', e5], rfl⟩⟩
        · rcases List.mem_append.1 hr with hr | hr
          · rcases List.mem_append.1 hr with hr | hr
            · exact t2 r (List.mem_of_mem_take hr)
            · exact huni r hr
          · exact t2 r (List.mem_of_mem_drop hr)
        · rw [L] at hi
          have lt := row_index hi hj
          rw [List.getD_eq_getElem?_getD (l := C'.toList.take _), List.getElem?_take, if_pos lt, ← List.getD_eq_getElem?_getD, toList_getD, hC', vtl, splice_getD _ _ _ _ spl, lt2]
          by_cases c1 : off ≤ i ∧ i < off + c
          · obtain ⟨p, rfl⟩ : ∃ p, i = off + p := ⟨i - off, by omega⟩
            have lt3 : p * ie.size + j < c * ie.size := row_index (by omega) hj
            have e8 : (off + p) * ie.size + j = off * ie.size + (p * ie.size + j) := by rw [Nat.add_mul]; omega
            rw [if_pos c1, e8, if_pos (by omega), show off + p - off = p by omega, show off * ie.size + (p * ie.size + j) - off * ie.size = p * ie.size + j by omega, vget _ lt3]
            rw [List.getD_eq_getElem?_getD (l := es2.take c), List.getElem?_take, if_pos (by omega), ← List.getD_eq_getElem?_getD]
            exact (hl.rep p j (by omega) hj).mono (fun _ x => x) hstb
          · have out : ¬ (off * ie.size ≤ i * ie.size + j ∧ i * ie.size + j < off * ie.size + c * ie.size) := by
              rintro ⟨a1, a2⟩
              refine c1 ⟨?_, ?_⟩
              · by_cases x : i < off
                · have : i * ie.size + j < off * ie.size := row_index x hj
                  omega
                · omega
              · by_cases x : i < off + c
                · exact x
                · have : (off + c) * ie.size ≤ i * ie.size := Nat.mul_le_mul_right _ (by omega)
                  rw [Nat.add_mul] at this
                  omega
            rw [if_neg c1, if_neg out]
            have := t3 i j hi hj
            rw [← e6, List.getD_eq_getElem?_getD (l := cur.toList.take _), List.getElem?_take, if_pos lt, ← List.getD_eq_getElem?_getD, toList_getD] at this
            exact this.mono (fun _ x => x) hstb)
      refine hK g _ _ ?_
      refine hset.outSlot o.dst hdn _ _ (fun y' hy' => by cases hy'; exact RepA.ofVal _ _ _) (fun i => ?_) (fun i hi => hi.1)
      simp only [St.out, St.tok, lkp]
      by_cases e : i = k <;> simp [e]

/-- A make behind the front of a row of ours that has no room for it: a new row. -/
theorem OpL.appMake {P : Program} {o : Oper} {σ : St} {t tn e sz bytes k n i C : Nat} {kn kq : IntKind} {q : Nat} {zs : List Value} {x y : Operand} {es : List (List T)} {zr : List T} (S : SlT P t e sz bytes zs) (htn : P.underlying tn = some (.int kn)) (hz : TRow (zs.map .val) zr)
    (ho : o.op = .call { callee := .builtin .append, args := #[x, y], argTypes := #[t, tn] }) (hx : rd σ x = some (.cap k sz 0 i C)) (hk : σ.tk k = some (.rows e sz es false)) (hy : rd σ y = some (.imm (.val (.int kq q))))
    (hi : i ≤ es.length) (hq : 0 < q) (hC : C < i + q) (hby : (i + q) * bytes ≤ 140737488355328) :
    OpL P o σ [k] ⟨some (.own n), [(n, some (.rows e sz (es.take i ++ List.replicate q zr) false))], [n]⟩ := by
  obtain ⟨ie, z, h1, h2, h3, h4, rfl, rfl⟩ := S.parts
  have pos := S.pos
  have zl : zs.length = ie.size := S.hz
  have zl2 : zr.length = ie.size := by have := hz.len; rw [List.length_map] at this; omega
  intro σ' hs hfp hfree
  have hx' := (hs x (by simp [ho, Op.operands, Call.operands])).trans hx
  have hy' := (hs y (by simp [ho, Op.operands, Call.operands])).trans hy
  have hk' := (hfp k (by simp)).trans hk
  refine OpD.of_new (hfree n (by simp)) rfl fun cx g a w h => ?_
  have ey := (rd_rep h y _ hy').int
  have hrx := rd_rep h x _ hx'
  generalize hex : a.eval x = vx at hrx
  cases hrx with
  | cap _ _ _ _ _ b n0 c0 g1 g2 g3 g4 =>
  cases h.tk k _ hk' with
  | rows _ _ _ _ xs t1 t2 t3 t4 t5 =>
    rcases t1.2 with ⟨e1, e2⟩ | ⟨b', cap, cur, e1, e0, e2, e3, e4, e5, e6⟩
    · rw [g2] at e1; cases e1
    · rw [g2] at e1; cases e1
      have fi : i * ie.size ≤ es.length * ie.size := Nat.mul_le_mul_right _ hi
      have fc : es.length * ie.size ≤ c0 * ie.size := Nat.mul_le_mul_right _ e3
      have lx := t1.1
      have ol : (xs.take (i * ie.size)).length = i * ie.size := by rw [List.length_take]; omega
      have hold : (Builtin.firstCells ie.size i (.slice (some ⟨b, 0 * ie.size, none⟩) i C)).run P w.drew = .ok (xs.take (i * ie.size)).toArray w.drew := by
        refine run_firstCells_some w.drew ie.size i _ i C _ ol (fun j v hj => ?_)
        rw [List.getElem?_take] at hj
        split at hj
        · rw [Addr.add_mid, Nat.zero_mul, Nat.zero_add]
          show w.cell? ⟨b, j, none⟩ = some v
          rename_i lt
          rw [cell_of_row w b j cur e (0, 0) e2, ← hj, ← e6, List.getElem?_take, if_pos (by omega), Array.getElem?_toList]
        · cases hj
      have hb63 : i + q ≤ (i + q) * ie.bytes := Nat.le_mul_of_pos_right _ pos.2
      have hq48 : q * ie.bytes ≤ (i + q) * ie.bytes := Nat.mul_le_mul_right _ (by omega)
      have hrun := Lib.run_append_grow_zeros (P := P) w t tn o.type e ie z kq kn S.ht htn h1 h2 (some ⟨b, 0 * ie.size, none⟩) i C (xs.take (i * ie.size)) hold q hq pos.1 hC (by omega) (by omega) (growslice_fits hC hby)
      have hge := grownCap_ge w (i + q) C e
      have hcm : grownCap w (i + q) C e ≤ maxLen := grownCap_le_maxLen w (i + q) C e (by simp only [maxLen]; omega)
      generalize hG : grownCap w (i + q) C e = G at hrun hge hcm
      have zcl : ∀ r, (Builtin.zeroCells z.cells r).size = r * ie.size := fun r => by rw [size_zeroCells, h4]
      have zcv : ∀ r j, j < r * ie.size → (Builtin.zeroCells z.cells r).getD j undef = zs.getD (j % ie.size) undef := by
        intro r j hj
        unfold Builtin.zeroCells
        rw [Array.getD_eq_getD_getElem?, Array.getElem?_map, Array.getElem?_range, h4, if_pos hj]
        have hm : j % ie.size < z.cells.size := by rw [h4]; exact Nat.mod_lt _ pos.1
        simp only [Option.map_some, Option.getD_some]
        rw [getElem!_pos z.cells _ hm, ← h3, toList_getD, Array.getD_eq_getD_getElem?, Array.getElem?_eq_getElem hm]; rfl
      have eR : (i + q) * ie.size = i * ie.size + q * ie.size := Nat.add_mul _ _ _
      generalize hA : (xs.take (i * ie.size)).toArray ++ Builtin.zeroCells z.cells q ++ Builtin.zeroCells z.cells (G - (i + q)) = A at hrun
      have hAs : A.size = G * ie.size := by
        rw [← hA, Array.size_append, Array.size_append, List.size_toArray, zcl, zcl, ol, ← eR, ← Nat.add_mul]
        congr 1; omega
      have hAt : A.toList.take ((i + q) * ie.size) = xs.take (i * ie.size) ++ (Builtin.zeroCells z.cells q).toList := by
        have lq : (Builtin.zeroCells z.cells q).toList.length = q * ie.size := by rw [Array.length_toList, zcl]
        rw [← hA, Array.toList_append, Array.toList_append]
        show (((xs.take (i * ie.size)) ++ _) ++ _).take _ = _
        rw [List.take_append_of_le_length (by rw [List.length_append, ol, lq]; omega), List.take_of_length_le (by rw [List.length_append, ol, lq]; omega)]
      have tl : (es.take i).length = i := by rw [List.length_take]; omega
      simp only [Nat.zero_mul] at hrun hex
      refine ⟨.slice (some ⟨w.heap.size, 0, none⟩) (i + q) G, .slice (some ⟨w.heap.size, 0, none⟩) (i + q) G, w.drew.alloc (.cells A e), by simp [execOp, ho, hex, ey, resolve, invoke, builtin, hrun], (Fr.drew w).trans (Fr.alloc w.drew _), ?_, ?_, ?_⟩
      · refine .rows e _ _ false (xs.take (i * ie.size) ++ (Builtin.zeroCells z.cells q).toList) ?_ (fun r hr => ?_) ?_ (fun _ _ => .inr trivial) (fun hf => by cases hf)
        · rw [Gh.put_same, List.length_append, List.length_replicate, tl]
          exact ⟨by rw [List.length_append, ol, Array.length_toList, zcl, eR], .inr ⟨w.heap.size, G, A, rfl, Nat.zero_le _, heap_alloc_new w.drew _, hge, hcm, hAs, hAt⟩⟩
        · rcases List.mem_append.1 hr with hr | hr
          · exact t2 r (List.mem_of_mem_take hr)
          · rw [List.eq_of_mem_replicate hr]; exact zl2
        · refine rep_append (by rw [ol, tl]) (fun p j hp hj => ?_) (fun p j hp hj => ?_)
          · rw [tl] at hp
            have lt2 : p * ie.size + j < i * ie.size := row_index hp hj
            rw [List.getD_eq_getElem?_getD (l := xs.take _), List.getElem?_take, if_pos lt2, ← List.getD_eq_getElem?_getD, List.getD_eq_getElem?_getD (l := es.take i), List.getElem?_take, if_pos hp, ← List.getD_eq_getElem?_getD]
            exact (t3 p j (by omega) hj).mono (fun _ x => x) (fun b' hb' => ((Fr.drew w).trans (Fr.alloc w.drew _)).block b' (h.stab b' hb') (fun x => x))
          · rw [List.length_replicate] at hp
            have lt2 : p * ie.size + j < q * ie.size := row_index hp hj
            rw [toList_getD, zcv q _ lt2, Nat.mul_comm, Nat.mul_add_mod, Nat.mod_eq_of_lt hj]
            rw [List.getD_eq_getElem?_getD (l := List.replicate _ _), List.getElem?_replicate, if_pos hp, Option.getD_some]
            refine (hz.at j).rep ?_
            rw [listD_map (d := undef) _ _ _ _ (by omega)]
            exact .val _
      · intro b' hb'; simp only [hblk, Option.some.injEq] at hb'; subst hb'; exact ⟨Nat.le_refl _, by simp⟩
      · have := RepA.own (g := g.put n (.slice (some ⟨w.heap.size, 0, none⟩) (i + q) G)) (w := w.drew.alloc (.cells A e)) n (.inl rfl)
        rwa [Gh.put_same] at this

/-- Two rows of ours lie apart. -/
theorem OpL.apart {P : Program} {o : Oper} {σ : St} {t e sz bytes f k1 k2 off m : Nat} {zs : List Value} {x y : Operand} {es1 es2 : List (List T)} {e1 e2 : TypeId} {fn : Func} {tR : TypeId} (S : SlT P t e sz bytes zs)
    (hfn : P.funcs[f]? = some fn) (hname : (fn.name == "runtime.NumGoroutine") = false) (hb : fn.body.isNone = true) (hn : Extern.findNext fn = none) (he : Extern.find fn = some (Extern.SlicesOverlaps.overlaps #[t, t] #[tR]))
    (ho : o.op = .call { callee := .value (.func f), args := #[x, y], argTypes := #[t, t] }) (hx : rd σ x = some (.own k1)) (h1 : σ.tk k1 = some (.rows e1 sz es1 false)) (hy : rd σ y = some (.view k2 sz off m)) (h2 : σ.tk k2 = some (.rows e2 sz es2 false))
    (hne : k1 ≠ k2) (p1 : 0 < es1.length) (p2 : 0 < m) : OpL P o σ [k1, k2] ⟨some (.imm (.val (.bool false))), [], []⟩ := by
  obtain ⟨ie, z, j1, j2, j3, j4, rfl, rfl⟩ := S.parts
  have pos := S.pos
  intro σ' hs hfp hfree
  have hx' := (hs x (by simp [ho, Op.operands, Call.operands])).trans hx
  have hy' := (hs y (by simp [ho, Op.operands, Call.operands])).trans hy
  have h1' := (hfp k1 (by simp)).trans h1
  have h2' := (hfp k2 (by simp)).trans h2
  refine .of_value fun cx g a w h => ⟨_, ?_, RepA.ofVal _ _ _⟩
  have hrx := rd_rep h x _ hx'
  have hry := rd_rep h y _ hy'
  generalize hex : a.eval x = vx at hrx
  generalize hey : a.eval y = vy at hry
  cases hrx with
  | own _ u1 =>
  cases hry with
  | view0 => omega
  | view _ _ _ _ b2 m0 c0 cc u2 hv2 g1 g2 =>
  cases h.tk k1 _ h1' with
  | rows _ _ _ _ xs t1 t2 t3 t4 t5 =>
  cases h.tk k2 _ h2' with
  | rows _ _ _ _ ys r1 r2 r3 r4 r5 =>
    rcases t1.2 with ⟨a1, a2⟩ | ⟨b1, cap1, cur1, a1, a0, a2, a3, a4, a5, a6⟩
    · omega
    · rcases r1.2 with ⟨d1, d2⟩ | ⟨b2', cap2, cur2, d1, d0, d2, d3, d4, d5, d6⟩
      · rw [hv2] at d1; cases d1
      · rw [hv2] at d1; cases d1
        have hbb : b1 ≠ b2 := fun q => hne (h.inj k1 k2 _ _ b1 h1' h2' (by rw [a1]; rfl) (by rw [hv2, q]; rfl))
        have big : ∀ (n c : Nat), 0 < n → n ≤ c → c * ie.size ≠ 0 := fun n c h1 h2 => Nat.mul_ne_zero (by omega) (by omega)
        have hov := Lib.run_overlaps_apart (P := P) w t tR e S.ht ie.size (fun w => by simp [sizeOf, typeInfo, j1]) ⟨b1, 0, none⟩ ⟨b2, off * ie.size, none⟩ es1.length cap1 m cc hbb e1 e2 cur1.size cur2.size
          (by simp [World.shape?, a2]) (by simp [World.shape?, d2]) (by rw [d5]; exact big es2.length _ (by omega) d3) (frozen_of_row w b1 0 cur1 e1 a2) (frozen_of_row w b1 cur1.size cur1 e1 a2)
        have hcf := run_callFunc_extern hfn hname hb hn he #[.slice (some ⟨b1, 0, none⟩) es1.length cap1, .slice (some ⟨b2, off * ie.size, none⟩) m cc] w
        rw [hov] at hcf
        have ef : a.eval (.func f) = .func (.func f) #[] #[] := rfl
        simp [execOp, ho, resolve, invoke, hex, hey, a1, ef, Deferred.ofValue, hcf]

/-! ### in the words of lists -/
theorem W.capM {α : Type} {enc : α → List T} {P : Program} {code : Code} {KK : Px → St → Prop} {sl : List (Nat × Option AV)} {tk : List (Nat × Option Tok)} {n e sz k : Nat} {f : Bool} {l : List α} (i : Nat) (hi : lks sl i = some (.own k)) (hk : lkt tk k = some (.rows e sz (l.map enc) f)) (hne : 0 < l.length)
    (h : ∀ C, l.length ≤ C → C ≤ maxLen → W P code (mkSt ((i, some (.cap k sz 0 l.length C)) :: sl) tk n) KK) : W P code (mkSt sl tk n) KK := by
  refine W.capO i hi hk (by rw [List.length_map]; exact hne) fun C h1 h2 => ?_
  rw [List.length_map] at h1 ⊢
  exact h C h1 h2
theorem Gives.capM {sl : List (Nat × Option AV)} {tk : List (Nat × Option Tok)} {n e sz k c m : Nat} {f : Bool} {es : List (List T)} (hm : m = es.length) (i : Nat) (hi : lks sl i = some (.cap k sz 0 m c)) (hk : lkt tk k = some (.rows e sz es f)) :
    Gives (mkSt sl tk n) (mkSt ((i, some (.own k)) :: sl) tk n) := by subst hm; exact .capOwn i hi hk

theorem addN {a b : Nat} (h : a + b ≤ 9223372036854775807) : Pm.binI .add .i64 (a : Int) (b : Int) = some (.int .i64 ((a + b : Nat) : Int)) := by
  have e : IntKind.i64.wrap ((a : Int) + (b : Int)) = ((a + b : Nat) : Int) := by rw [IntKind.wrap_i64]; omega
  show some (Value.int .i64 (IntKind.i64.wrap ((a : Int) + (b : Int)))) = _
  rw [e]
theorem subN {a b : Nat} (h : b ≤ a) (h2 : a ≤ 9223372036854775807) : Pm.binI .sub .i64 (a : Int) (b : Int) = some (.int .i64 ((a - b : Nat) : Int)) := by
  have e : IntKind.i64.wrap ((a : Int) - (b : Int)) = ((a - b : Nat) : Int) := by rw [IntKind.wrap_i64]; omega
  show some (Value.int .i64 (IntKind.i64.wrap ((a : Int) - (b : Int)))) = _
  rw [e]

theorem TRow.refl : ∀ l : List T, TRow l l
  | [] => .nil
  | x :: l => .cons (.same x) (TRow.refl l)

section
variable {P : Program} {o : Oper} {σ : St}
theorem O.partE {t e e' sz bytes q l N : Nat} {kq : IntKind} {zs : List Value} {x y : Operand} {es : List (List T)} {f : Bool} (S : SlT P t e sz bytes zs) (h : l ≤ N) (hN : N = es.length) (ho : o.op = .slice t x (some y) none none)
    (hx : rd σ x = some (.own q)) (hk : σ.tk q = some (.rows e' sz es f)) (hy : rd σ y = some (.imm (.val (.int kq (l : Int))))) : OpL P o σ [q] ⟨some (.view q sz l (N - l)), [], []⟩ := by
  subst hN
  obtain ⟨ie, z, h1, h2, h3, h4, rfl, h6⟩ := S.parts
  refine OpL.part (n := es.length) (l := (l : Int)) (u := (es.length : Int)) ho S.ht h1 hx (by simp [lenOf, hk]) (by simp [bnd, hy, AV.num, numT, numV]) (by simp [bnd]) (by omega) (by omega) (by omega) ?_
  simp only [partOf, hk]
  rw [if_pos ⟨trivial, by simp only [Int.toNat_natCast]; omega⟩]
  simp
theorem O.sliceF {t e sz bytes k n c u : Nat} {kq : IntKind} {zs : List Value} {x y : Operand} (S : SlT P t e sz bytes zs) (h : u ≤ c ∧ 0 < c) (ho : o.op = .slice t x none (some y) none) (hx : rd σ x = some (.cap k sz 0 n c))
    (hy : rd σ y = some (.imm (.val (.int kq (u : Int))))) : OpL P o σ [] ⟨some (.cap k sz 0 u c), [], []⟩ :=
  O.sliceC (l := 0) S ⟨Nat.zero_le _, h.1, h.2⟩ ho hx (by simp [bnd]) (by simp [bnd, hy, AV.num, numT, numV])

theorem copy_min {a m c : Nat} (h : c ≤ a ∧ c ≤ m ∧ (a ≤ c ∨ m ≤ c)) : c = Nat.min a m := by
  show c = min a m
  rw [Nat.min_def]; split <;> omega

theorem O.copyO {α : Type} {enc : α → List T} {t t' e e' sz bytes k k2 off m c : Nat} {zs : List Value} {x y : Operand} {es es2 L : List (List T)} {l : List α} {f : Bool} (S : SlT P t e sz bytes zs) (E : EncOk enc sz) (h : 0 < c ∧ off + m ≤ es.length ∧ c ≤ es2.length ∧ c ≤ m ∧ (es2.length ≤ c ∨ m ≤ c))
    (hl : es2.take c = l.map enc) (hL : splice es off (l.map enc) = L) (ho : o.op = .call { callee := .builtin .copy, args := #[x, y], argTypes := #[t, t'] }) (hx : rd σ x = some (.view k sz off m)) (hk : σ.tk k = some (.rows e sz es false))
    (hy : rd σ y = some (.own k2)) (hk2 : σ.tk k2 = some (.rows e' sz es2 f)) : OpL P o σ [k, k2] ⟨some (.imm (.val (.int .i64 c))), [(k, some (.rows e sz L false))], []⟩ := by
  subst hL
  have := OpL.copy S ho hx hk hy (show rowsOf σ sz (.own k2) = some es2 by simp [rowsOf, hk2]) (copy_min h.2.2) h.1 h.2.1 (by rw [hl]; exact E.uni l) (by rw [hl]; exact E.ones l)
  rwa [hl] at this
theorem O.copyV {α : Type} {enc : α → List T} {t t' e e' sz bytes k k2 off m off2 m2 c : Nat} {zs : List Value} {x y : Operand} {es es2 L : List (List T)} {l : List α} {f : Bool} (S : SlT P t e sz bytes zs) (E : EncOk enc sz) (h : 0 < c ∧ off + m ≤ es.length ∧ c ≤ m2 ∧ c ≤ m ∧ (m2 ≤ c ∨ m ≤ c) ∧ off2 + m2 ≤ es2.length)
    (hl : (es2.drop off2).take c = l.map enc) (hL : splice es off (l.map enc) = L) (ho : o.op = .call { callee := .builtin .copy, args := #[x, y], argTypes := #[t, t'] }) (hx : rd σ x = some (.view k sz off m)) (hk : σ.tk k = some (.rows e sz es false))
    (hy : rd σ y = some (.view k2 sz off2 m2)) (hk2 : σ.tk k2 = some (.rows e' sz es2 f)) : OpL P o σ [k, k2] ⟨some (.imm (.val (.int .i64 c))), [(k, some (.rows e sz L false))], []⟩ := by
  subst hL
  have e1 : ((es2.drop off2).take m2).take c = l.map enc := by rw [List.take_take, Nat.min_eq_left h.2.2.1, hl]
  have e2 : ((es2.drop off2).take m2).length = m2 := by rw [List.length_take, List.length_drop]; omega
  have := OpL.copy S ho hx hk hy (show rowsOf σ sz (.view k2 sz off2 m2) = some ((es2.drop off2).take m2) by simp [rowsOf, hk2, h.2.2.2.2.2]) (copy_min (c := c) (by rw [e2]; exact ⟨h.2.2.1, h.2.2.2.1, h.2.2.2.2.1⟩)) h.1 h.2.1 (by rw [e1]; exact E.uni l) (by rw [e1]; exact E.ones l)
  rwa [e1] at this

variable {sl : List (Nat × Option AV)} {tk : List (Nat × Option Tok)} {n d : Nat} {ops : Array Oper} {l : List Oper} {fp : List Nat} {K : List Stp → St → Prop}
/-- A value, and tokens that turn. -/
theorem RunK.k {v : AV} {ts : List (Nat × Option Tok)} (hd : o.dst = some d) (hg : Met ops (mkSt sl tk n) o.guard true) (h : OpL P o (mkSt sl tk n) fp ⟨some v, ts, []⟩) (k : RunK P ops l (mkSt ((d, some v) :: sl) (ts ++ tk) n) (fun ms => K ((fp, .out ⟨some v, ts, []⟩) :: ms))) :
    RunK P ops (o :: l) (mkSt sl tk n) K := let ⟨_, _, k, hK⟩ := k; ⟨_, _, .c (m := 0) hd hg h k, hK⟩
end

/-! ### one more in the middle -/
noncomputable def insF {α : Type} (bytes : Nat) (l : List α) (i : Int) (v : List α) : Option (List α) :=
  if 0 ≤ i ∧ i ≤ (l.length : Int) ∧ v.length = 1 ∧ (l.length + 1) * bytes ≤ 140737488355328 then some (l.take i.toNat ++ v ++ l.drop i.toNat) else none
theorem insF_some {α : Type} {bytes : Nat} {l : List α} {i : Int} {v r : List α} (hb : 0 < bytes) (h : insF bytes l i v = some r) : ∃ (j : Nat) (x : α), i = (j : Int) ∧ v = [x] ∧ j ≤ l.length ∧ (l.length + 1) * bytes ≤ 140737488355328 ∧ l.length + 1 ≤ 140737488355328 ∧ r = l.take j ++ [x] ++ l.drop j := by
  unfold insF at h
  split at h
  · rename_i c; cases h
    obtain ⟨c1, c2, c3, c4⟩ := c
    match v, c3 with
    | [x], _ => exact ⟨i.toNat, x, by omega, rfl, by omega, c4, Nat.le_trans (Nat.le_mul_of_pos_right _ hb) c4, rfl⟩
  · cases h

variable {α : Type} {enc : α → List T}
theorem ins0 {l : List α} {x : α} {i : Nat} (h : i = l.length) : l.take i ++ [x] ++ l.drop i = l ++ [x] := by subst h; simp
theorem ins1 {l : List α} {x : α} {z : List T} {i : Nat} (h : i < l.length) : splice ((l.map enc).take i ++ List.replicate (l.length + 1 - i) z) i ([x].map enc) = (l.take i ++ [x]).map enc ++ List.replicate (l.length - i) z := by
  have e : ((l.map enc).take i).length = i := by rw [List.length_take, List.length_map]; omega
  simp only [splice, List.length_map, List.length_singleton]
  rw [List.take_append_of_le_length (by omega), List.take_of_length_le (by omega), List.drop_append, e, List.drop_of_length_le (by omega), show i + 1 - i = 1 by omega, List.drop_replicate, show l.length + 1 - i - 1 = l.length - i by omega]
  simp
theorem ins2 {l : List α} {x : α} {z : List T} {i : Nat} (h : i < l.length) : splice ((l.take i ++ [x]).map enc ++ List.replicate (l.length - i) z) (i + 1) ((l.drop i).map enc) = (l.take i ++ [x] ++ l.drop i).map enc := by
  have e : ((l.take i ++ [x]).map enc).length = i + 1 := by simp; omega
  have e2 : ((l.drop i).map enc).length = l.length - i := by simp
  have d : ((l.take i ++ [x]).map enc).drop (i + 1 + (l.length - i)) = [] := List.drop_of_length_le (by rw [e]; omega)
  unfold splice
  rw [e2, List.take_append_of_le_length (Nat.le_of_eq e.symm), List.take_of_length_le (Nat.le_of_eq e), List.drop_append, e, d, List.drop_replicate, show l.length - i - (i + 1 + (l.length - i) - (i + 1)) = 0 by omega]
  simp
theorem ins3 {l : List α} {j : List T} {i : Nat} (h : i < l.length) : splice (l.map enc ++ [j]) (i + 1) ((l.drop i).map enc) = (l.take (i + 1) ++ l.drop i).map enc := by
  have e2 : ((l.drop i).map enc).length = l.length - i := by simp
  have e3 : (l.map enc ++ [j]).length = l.length + 1 := by simp
  have d : (l.map enc ++ [j]).drop (i + 1 + (l.length - i)) = [] := List.drop_of_length_le (by rw [e3]; omega)
  unfold splice
  rw [e2, List.take_append_of_le_length (by rw [List.length_map]; omega), d]
  simp [List.map_take]
theorem ins4 {l : List α} {x : α} {i : Nat} (h : i < l.length) : splice ((l.take (i + 1) ++ l.drop i).map enc) i ([x].map enc) = (l.take i ++ [x] ++ l.drop i).map enc := by
  have e : (l.take (i + 1)).length = i + 1 := by rw [List.length_take]; omega
  simp only [splice, List.length_map, List.length_singleton]
  rw [← List.map_take, ← List.map_drop, ← List.map_append, ← List.map_append]
  congr 1
  rw [List.take_append_of_le_length (by omega), List.take_take, Nat.min_eq_left (by omega), List.drop_append, e, List.drop_of_length_le (by omega)]
  simp
theorem ins5 {l : List α} {j : List T} {i : Nat} (h : i < l.length) : ((l.map enc ++ [j]).drop i).take (l.length - i) = (l.drop i).map enc := by
  rw [List.drop_append_of_le_length (by rw [List.length_map]; omega), ← List.map_drop, List.take_append_of_le_length (by rw [List.length_map, List.length_drop]; omega), List.take_of_length_le (by rw [List.length_map, List.length_drop]; omega)]

end Go.Pm
