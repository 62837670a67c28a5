/- The pure machine, part O: the operations' laws with the types' facts in a small form, and over typed rows. Conditions: none (definitions and lemmas alone). -/
import Derived.KernelRfl
import Derived.Test.YtidinbjehfodoaaPmN
namespace Go.Pm
open Go
set_option linter.unusedVariables false
set_option linter.unusedSimpArgs false
set_option linter.unusedSectionVars false

/-- The element at i. -/
def nth {α : Type} [Inhabited α] (l : List α) (i : Int) : α := l.getD i.toNat default
/-- A text of bytes. -/
def tx (l : List UInt8) : ByteArray := ⟨l.toArray⟩
abbrev Bs := List UInt8

def encI (k : IntKind) (n : Int) : List T := [.val (.int k n)]
def encBo (b : Bool) : List T := [.val (.bool b)]
def encR {α : Type} (sz : Nat) (enc : α → List T) (l : List α) : List T := [.row sz (l.map enc)]

structure EncOk {α : Type} (enc : α → List T) (sz : Nat) : Prop where
  len : ∀ a, (enc a).length = sz
  one : ∀ a, (enc a).all (fun x => (AV.imm x).one) = true

theorem EncOk.int (k : IntKind) : EncOk (encI k) 1 := ⟨fun _ => rfl, fun _ => rfl⟩
theorem EncOk.bool : EncOk encBo 1 := ⟨fun _ => rfl, fun _ => rfl⟩
theorem EncOk.row {α : Type} (sz : Nat) (enc : α → List T) : EncOk (encR sz enc) 1 := ⟨fun _ => rfl, fun _ => rfl⟩
theorem EncOk.uni {α : Type} {enc : α → List T} {sz : Nat} (h : EncOk enc sz) (l : List α) : ∀ z ∈ l.map enc, z.length = sz := by
  intro z hz
  obtain ⟨a, _, rfl⟩ := List.mem_map.1 hz
  exact h.len a
theorem EncOk.ones {α : Type} {enc : α → List T} {sz : Nat} (h : EncOk enc sz) (l : List α) : ∀ z ∈ l.map enc, ∀ x ∈ z, (AV.imm x).one = true := by
  intro z hz x hx
  obtain ⟨a, _, rfl⟩ := List.mem_map.1 hz
  exact List.all_eq_true.1 (h.one a) x hx

theorem map_nth {α : Type} [Inhabited α] (enc : α → List T) {l : List α} {i : Nat} (h : i < l.length) : (l.map enc).getD i [] = enc (l.getD i default) := by
  simp [List.getD_eq_getElem?_getD, List.getElem?_map, List.getElem?_eq_getElem h]
theorem map_nthI {α : Type} [Inhabited α] (enc : α → List T) {l : List α} {i : Int} (h : 0 ≤ i ∧ i < (l.length : Int)) : (l.map enc).getD i.toNat [] = enc (nth l i) :=
  map_nth enc (by omega)

structure SlT (P : Program) (t e sz bytes : Nat) (zs : List Value) : Prop where
  ht : P.underlying t = some (.slice e)
  hi : (P.info? e).map (fun i => (i.zero.map (·.cells.toList), i.size, i.bytes)) = some (some zs, sz, bytes)
  hz : zs.length = sz
  pos : 0 < sz ∧ 0 < bytes

theorem SlT.parts {P : Program} {t e sz bytes : Nat} {zs : List Value} (h : SlT P t e sz bytes zs) : ∃ ie z, P.info? e = some ie ∧ ie.zero = some z ∧ z.cells.toList = zs ∧ z.cells.size = ie.size ∧ ie.size = sz ∧ ie.bytes = bytes := by
  have h1 := h.hi
  cases hq : P.info? e with
  | none => rw [hq] at h1; cases h1
  | some ie =>
    rw [hq] at h1
    cases hz : ie.zero with
    | none => simp [hz] at h1
    | some z =>
      simp [hz] at h1
      obtain ⟨a, b, c⟩ := h1
      refine ⟨ie, z, rfl, hz, a, ?_, b, c⟩
      have := h.hz
      rw [← a] at this
      simp at this; omega

def fieldB (P : Program) (s f off : Nat) : Bool :=
  match P.underlying s with
  | some (.struct fs) => match fs[f]? with
    | some fd => match P.info? fd.type with
      | some i => !(Nat.beq i.size 0) && Nat.beq fd.offset off
      | none => false
    | none => false
  | _ => false

theorem fieldB_some {P : Program} {s f off : Nat} (h : fieldB P s f off = true) : ∃ fs fd i, P.underlying s = some (.struct fs) ∧ fs[f]? = some fd ∧ P.info? fd.type = some i ∧ i.size ≠ 0 ∧ fd.offset = off := by
  unfold fieldB at h
  split at h
  · rename_i fs hs
    split at h
    · rename_i fd hf
      split at h
      · rename_i i hi
        rw [Bool.and_eq_true] at h
        refine ⟨fs, fd, i, hs, hf, hi, fun e => ?_, Nat.eq_of_beq_eq_true h.2⟩
        have := h.1
        rw [e] at this; cases this
      · cases h
    · cases h
  · cases h

section
variable {P : Program} {σ : St} {o : Oper} {α : Type} [Inhabited α] {enc : α → List T}

theorem O.quo {t t' : TypeId} {x y : Operand} {k : IntKind} {m n : Int} (ho : o.op = .binOp .quo t x y t') (hx : rd σ x = some (.imm (.val (.int k m)))) (hy : rd σ y = some (.imm (.val (.int k n)))) (h : n ≠ 0) :
    OpL P o σ [] ⟨some (.imm (.val (.int k (k.wrap (m.tdiv n))))), [], []⟩ := OpL.binI ho hx hy (by simp only [binI]; rw [if_neg h])
theorem O.rem {t t' : TypeId} {x y : Operand} {k : IntKind} {m n : Int} (ho : o.op = .binOp .rem t x y t') (hx : rd σ x = some (.imm (.val (.int k m)))) (hy : rd σ y = some (.imm (.val (.int k n)))) (h : n ≠ 0) :
    OpL P o σ [] ⟨some (.imm (.val (.int k (m.tmod n)))), [], []⟩ := OpL.binI ho hx hy (by simp only [binI]; rw [if_neg h])
theorem O.conv {s d : TypeId} {x : Operand} {k k' : IntKind} {n : Int} (hs : (P.underlying s).isSome = true) (hd : P.underlying d = some (.int k')) (ho : o.op = .convert s d x) (hx : rd σ x = some (.imm (.val (.int k n)))) :
    OpL P o σ [] ⟨some (.imm (.val (.int k' (k'.wrap n)))), [], []⟩ := by
  obtain ⟨dd, e⟩ := Option.isSome_iff_exists.1 hs
  exact .convI ho e hd hx

theorem tx_size (l : Bs) : (tx l).size = l.length := by simp [tx, ByteArray.size]
theorem ba_loop (b : ByteArray) : ∀ (n i : Nat) (r : List UInt8), b.size - i = n → ByteArray.toList.loop b i r = r.reverse ++ b.data.toList.drop i := by
  intro n
  induction n with
  | zero =>
    intro i r h
    unfold ByteArray.toList.loop
    have h' : ¬ i < b.size := by omega
    rw [if_neg h', List.drop_eq_nil_of_le (by rw [Array.length_toList]; exact Nat.not_lt.1 h'), List.append_nil]
  | succ n ih =>
    intro i r h
    unfold ByteArray.toList.loop
    have h' : i < b.size := by omega
    rw [if_pos h', ih (i + 1) _ (by omega)]
    have hlt : i < b.data.toList.length := by rw [Array.length_toList]; exact h'
    rw [List.drop_eq_getElem_cons hlt, List.reverse_cons, List.append_assoc]
    congr 1
    simp only [List.singleton_append, List.cons.injEq, and_true]
    show b.data[i]! = _
    rw [getElem!_pos b.data i (by exact h'), Array.getElem_toList]
theorem ba_toList (b : ByteArray) : b.toList = b.data.toList := by
  unfold ByteArray.toList
  rw [ba_loop b _ 0 [] rfl]; simp

theorem O.lenS {t : TypeId} {x : Operand} {s : Bs} (ht : P.underlying t = some .string) (ho : o.op = .call { callee := .builtin .len, args := #[x], argTypes := #[t] }) (hx : rd σ x = some (.imm (.val (.string (tx s))))) :
    OpL P o σ [] ⟨some (.imm (.val (.int .i64 s.length))), [], []⟩ := by
  have := OpL.lenS ho ht hx
  rwa [tx_size] at this

/-- A text's byte. -/
def byte (s : Bs) (i : Int) : Int := (nth s i).toNat

theorem O.idxS {t : TypeId} {x y : Operand} {s : Bs} {k : IntKind} {i : Int} (ht : P.underlying t = some .string) (h : 0 ≤ i ∧ i < (s.length : Int)) (ho : o.op = .index t x y) (hx : rd σ x = some (.imm (.val (.string (tx s)))))
    (hy : rd σ y = some (.imm (.val (.int k i)))) : OpL P o σ [] ⟨some (.imm (.val (.int .u8 (byte s i)))), [], []⟩ := by
  have hlt : i < ((tx s).size : Int) := by rw [tx_size]; exact h.2
  have := OpL.idxS ho ht hx hy h.1 hlt
  have e : byteAt (tx s) i = byte s i := by
    have h2 : i.toNat < s.length := by omega
    have h3 : i.toNat < (tx s).size := by rw [tx_size]; exact h2
    unfold byteAt byte nth
    rw [dif_pos h3]
    simp only [List.getD_eq_getElem?_getD, List.getElem?_eq_getElem h2, Option.getD_some]
    rfl
  rwa [e] at this

theorem O.fld {s f off : Nat} {x : Operand} {p q : AV} (hb : fieldB P s f off = true) (ho : o.op = .fieldAddr s x f) (hx : rd σ x = some p) (hq : p.plus off = some q) : OpL P o σ [] ⟨some q, [], []⟩ := by
  obtain ⟨fs, fd, i, h1, h2, h3, h4, rfl⟩ := fieldB_some hb
  exact .fieldAddr ho h1 h2 h3 h4 hx hq

theorem O.ld {t n : Nat} {x : Operand} {p y : AV} (ht : tyV P t = some (false, n)) (ho : o.op = .load t x) (hx : rd σ x = some p) (hs : seen σ p 1 = some [y]) : OpL P o σ (keyOf p) ⟨some y, [], []⟩ := by
  obtain ⟨d, i, h1, h2, h3, h4⟩ := tyV_some ht
  exact .load1 ho h1 h3 hx hs
theorem O.ldN {t n : Nat} {x : Operand} {p : AV} {cs : List AV} (ht : tyV P t = some (true, n)) (ho : o.op = .load t x) (hx : rd σ x = some p) (hs : seen σ p n = some cs) : OpL P o σ (keyOf p) ⟨some (.agg cs), [], []⟩ := by
  obtain ⟨d, i, h1, h2, h3, h4⟩ := tyV_some ht
  exact .loadN ho h1 h3 (by rw [h2]; exact congrArg some h4) hx hs

theorem seen_e {k sz j n e : Nat} {i : Int} {l : List α} {f : Bool} {cs : List T} (ht : σ.tk k = some (.rows e sz (l.map enc) f)) (h : 0 ≤ i ∧ i < (l.length : Int)) (hj : j + n ≤ sz) (hc : ((enc (nth l i)).drop j).take n = cs) :
    seen σ (.eptr k sz i.toNat j) n = some (cs.map .imm) := by
  simp only [seen, ht]
  rw [if_pos ⟨trivial, by simp; omega, hj⟩, map_nthI enc h, hc]

theorem O.ldE {t n k sz j e : Nat} {x : Operand} {i : Int} {l : List α} {f : Bool} {c : T} (ht : tyV P t = some (false, n)) (h : 0 ≤ i ∧ i < (l.length : Int)) (ho : o.op = .load t x) (hx : rd σ x = some (.eptr k sz i.toNat j))
    (hk : σ.tk k = some (.rows e sz (l.map enc) f)) (hj : Nat.ble (j + 1) sz = true) (hc : ((enc (nth l i)).drop j).take 1 = [c]) : OpL P o σ [k] ⟨some (.imm c), [], []⟩ :=
  O.ld ht ho hx (seen_e hk h (Nat.le_of_ble_eq_true hj) hc)
theorem O.ldEN {t n k sz j e : Nat} {x : Operand} {i : Int} {l : List α} {f : Bool} {cs : List T} (ht : tyV P t = some (true, n)) (h : 0 ≤ i ∧ i < (l.length : Int)) (ho : o.op = .load t x) (hx : rd σ x = some (.eptr k sz i.toNat j))
    (hk : σ.tk k = some (.rows e sz (l.map enc) f)) (hj : Nat.ble (j + n) sz = true) (hc : ((enc (nth l i)).drop j).take n = cs) : OpL P o σ [k] ⟨some (.agg (cs.map .imm)), [], []⟩ :=
  O.ldN ht ho hx (seen_e hk h (Nat.le_of_ble_eq_true hj) hc)

theorem O.idx {t e sz bytes : Nat} {zs : List Value} {x y : Operand} {k : IntKind} {i : Int} {l : List α} (S : SlT P t e sz bytes zs) (h : 0 ≤ i ∧ i < (l.length : Int)) (ho : o.op = .indexAddr t x y)
    (hx : rd σ x = some (.imm (.row sz (l.map enc)))) (hy : rd σ y = some (.imm (.val (.int k i)))) : OpL P o σ [] ⟨some (.rptr (enc (nth l i)) 0), [], []⟩ := by
  obtain ⟨ie, z, h1, h2, h3, h4, rfl, h6⟩ := S.parts
  refine OpL.indexAddr ho S.ht h1 hx hy h.1 ?_
  simp only [elemAt]
  rw [if_pos ⟨trivial, by simp; omega⟩, map_nthI enc h]
theorem O.idxO {t e e' sz bytes q : Nat} {zs : List Value} {x y : Operand} {k : IntKind} {i : Int} {l : List α} {f : Bool} (S : SlT P t e sz bytes zs) (h : 0 ≤ i ∧ i < (l.length : Int)) (ho : o.op = .indexAddr t x y)
    (hx : rd σ x = some (.own q)) (hk : σ.tk q = some (.rows e' sz (l.map enc) f)) (hy : rd σ y = some (.imm (.val (.int k i)))) : OpL P o σ [q] ⟨some (.eptr q sz i.toNat 0), [], []⟩ := by
  obtain ⟨ie, z, h1, h2, h3, h4, rfl, h6⟩ := S.parts
  refine OpL.indexAddr ho S.ht h1 hx hy h.1 ?_
  simp only [elemAt, hk]
  rw [if_pos ⟨trivial, by simp; omega⟩]
theorem O.len {t e sz bytes n : Nat} {zs : List Value} {x : Operand} {p : AV} (S : SlT P t e sz bytes zs) (ho : o.op = .call { callee := .builtin .len, args := #[x], argTypes := #[t] }) (hx : rd σ x = some p) (hn : lenOf σ p = some n) :
    OpL P o σ (keyOf p) ⟨some (.imm (.val (.int .i64 n))), [], []⟩ := .len ho S.ht hx hn
theorem O.lenR {t e sz bytes : Nat} {zs : List Value} {x : Operand} {l : List α} (S : SlT P t e sz bytes zs) (ho : o.op = .call { callee := .builtin .len, args := #[x], argTypes := #[t] }) (hx : rd σ x = some (.imm (.row sz (l.map enc)))) :
    OpL P o σ [] ⟨some (.imm (.val (.int .i64 l.length))), [], []⟩ := .len ho S.ht hx (by simp [lenOf, lenT])
theorem O.lenO {t e e' sz bytes q : Nat} {zs : List Value} {x : Operand} {l : List α} {f : Bool} (S : SlT P t e sz bytes zs) (ho : o.op = .call { callee := .builtin .len, args := #[x], argTypes := #[t] }) (hx : rd σ x = some (.own q)) (hk : σ.tk q = some (.rows e' sz (l.map enc) f)) :
    OpL P o σ [q] ⟨some (.imm (.val (.int .i64 l.length))), [], []⟩ := .len ho S.ht hx (by simp [lenOf, hk])

/-- A part of a row. -/
theorem O.part {t e sz bytes : Nat} {zs : List Value} {x : Operand} {lo hi : Option Operand} {l u : Int} {m : List α} (S : SlT P t e sz bytes zs) (h : 0 ≤ l ∧ l ≤ u ∧ u ≤ (m.length : Int)) (ho : o.op = .slice t x lo hi none)
    (hx : rd σ x = some (.imm (.row sz (m.map enc)))) (hlo : bnd σ 0 lo = some l) (hhi : bnd σ m.length hi = some u) : OpL P o σ [] ⟨some (.imm (.row sz (((m.drop l.toNat).take (u.toNat - l.toNat)).map enc))), [], []⟩ := by
  obtain ⟨ie, z, h1, h2, h3, h4, rfl, h6⟩ := S.parts
  refine OpL.part (n := m.length) ho S.ht h1 hx (by simp [lenOf, lenT]) hlo hhi h.1 h.2.1 h.2.2 ?_
  simp only [partOf]
  rw [if_pos ⟨trivial, by simp; omega⟩]
  simp [List.map_drop, List.map_take]
theorem O.partO {t e e' sz bytes q : Nat} {zs : List Value} {x : Operand} {lo hi : Option Operand} {l u : Int} {m : List α} {f : Bool} (S : SlT P t e sz bytes zs) (h : 0 ≤ l ∧ l ≤ u ∧ u ≤ (m.length : Int)) (ho : o.op = .slice t x lo hi none)
    (hx : rd σ x = some (.own q)) (hk : σ.tk q = some (.rows e' sz (m.map enc) f)) (hlo : bnd σ 0 lo = some l) (hhi : bnd σ m.length hi = some u) : OpL P o σ [q] ⟨some (.view q sz l.toNat (u.toNat - l.toNat)), [], []⟩ := by
  obtain ⟨ie, z, h1, h2, h3, h4, rfl, h6⟩ := S.parts
  refine OpL.part (n := m.length) ho S.ht h1 hx (by simp [lenOf, hk]) hlo hhi h.1 h.2.1 h.2.2 ?_
  simp only [partOf, hk]
  rw [if_pos ⟨trivial, by simp; omega⟩]

def ones (cs : List AV) : Bool := cs.all AV.one
theorem ones_mem {cs : List AV} (h : ones cs = true) : ∀ c ∈ cs, c.one = true := List.all_eq_true.1 h
def live (σ : St) (ks : List Nat) : Bool := ks.all fun q => (σ.tk q).isSome
theorem live_mem {ks : List Nat} (h : live σ ks = true) : ∀ q ∈ ks, σ.tk q ≠ none := by
  intro q hq e
  have := List.all_eq_true.1 h q hq
  rw [e] at this; cases this

theorem O.alloc {e n : Nat} {zs : List Value} (hi : (P.info? e).map (fun i => i.zero.map (·.cells.toList)) = some (some zs)) (ho : o.op = .alloc e) : OpL P o σ [] ⟨some (.ptr n 0), [(n, some (.box (zs.map fun v => .imm (.val v))))], [n]⟩ := by
  cases hq : P.info? e with
  | none => rw [hq] at hi; cases hi
  | some ie =>
    rw [hq] at hi
    cases hz : ie.zero with
    | none => simp [hz] at hi
    | some z => simp [hz] at hi; exact .alloc ho hq hz hi
theorem O.box {e n : Nat} {x : Operand} {z : AV} {cs : List AV} (ho : o.op = .box e x) (hx : rd σ x = some z) (hc : z.cells = cs) (h1 : ones cs = true) (h2 : live σ (ownKeys cs) = true) :
    OpL P o σ (ownKeys cs) ⟨some (.ptr n 0), [(n, some (.box cs))], [n]⟩ := by
  subst hc
  exact .box ho hx (ones_mem h1) (live_mem h2)
theorem O.st {t m k off : Nat} {b : Bool} {x y : Operand} {all cs all' : List AV} {z : AV} (ht : tyV P t = some (b, m)) (ho : o.op = .store t x y) (hd : o.dst = none) (hx : rd σ x = some (.ptr k off)) (hy : rd σ y = some z) (hc : z.cells = cs)
    (hm : cs.length = m) (hk : σ.tk k = some (.box all)) (hfit : Nat.ble (off + m) all.length = true) (h1 : ones cs = true) (h2 : live σ (ownKeys cs) = true) (ha : splice all off cs = all') :
    OpL P o σ (k :: ownKeys cs) ⟨none, [(k, some (.box all'))], []⟩ := by
  subst hc ha
  obtain ⟨d, i, e1, e2, e3, e4⟩ := tyV_some ht
  exact .storeP ho hd (by rw [e2, hm]; exact congrArg some e4) hx hy hk (by rw [hm]; exact Nat.le_of_ble_eq_true hfit) (ones_mem h1) (live_mem h2)

/-- A struct literal. -/
def placesB (P : Program) (t : Nat) : Option (List Value × List (Nat × Nat)) :=
  match P.info? t, P.underlying t with
  | some it, some (.struct fs) => match it.zero, fs.toList.mapM (fun f => (P.info? f.type).map fun i => (f.offset, i.size)) with
    | some z, some pl => some (z.cells.toList, pl)
    | _, _ => none
  | _, _ => none
theorem placesB_some {t : Nat} {zs : List Value} {pl : List (Nat × Nat)} (h : placesB P t = some (zs, pl)) : ∃ it fs z, P.info? t = some it ∧ P.underlying t = some (.struct fs) ∧ it.zero = some z ∧
    fs.toList.mapM (fun f => (P.info? f.type).map fun i => (f.offset, i.size)) = some pl ∧ z.cells.toList = zs := by
  unfold placesB at h
  split at h
  · rename_i it fs h1 h2
    split at h
    · rename_i z pl' h3 h4
      cases h
      exact ⟨it, fs, z, h1, h2, h3, h4, rfl⟩
    · cases h
  · cases h
def onesP (ps : List (Nat × AV)) : Bool := ps.all fun p => ones p.2.cells
theorem O.build {t : Nat} {parts : Array (Nat × Operand)} {zs : List Value} {pl : List (Nat × Nat)} {ps : List (Nat × AV)} {out : List AV} (hb : placesB P t = some (zs, pl)) (ho : o.op = .build t parts) (hps : rdParts σ parts.toList = some ps)
    (hone : onesP ps = true) (hown : live σ (partKeys ps) = true) (hout : fillA (pl[·]?) (zs.map fun v => .imm (.val v)) ps = some out) : OpL P o σ (partKeys ps) ⟨some (.agg out), [], []⟩ := by
  obtain ⟨it, fs, z, h1, h2, h3, h4, rfl⟩ := placesB_some hb
  exact .build ho h1 h2 h3 h4 hps (fun p hp => ones_mem (List.all_eq_true.1 hone p hp)) (live_mem hown) hout

/-- A slice literal. -/
theorem O.lit {t e sz bytes len n : Nat} {zs : List Value} {parts : Array (Nat × Operand)} {ps : List (Nat × AV)} {out : List AV} {ts : List T} {l : List α} (S : SlT P t e sz bytes zs) (ho : o.op = .buildSlice t len parts) (hlen : Nat.ble (len * sz) 16777216 = true)
    (hps : rdParts σ parts.toList = some ps) (hone : onesP ps = true) (hown : live σ (partKeys ps) = true)
    (hout : fillA (fun i => some (i * sz, sz)) ((List.range (len * sz)).map fun j => .imm (.val (zs.getD (j % sz) undef))) ps = some out) (hts : cellsT out = some ts) (hl : chunk sz len ts = l.map enc)
    (hall : (ts.all fun x => (AV.imm x).one) = true) :
    OpL P o σ (partKeys ps) ⟨some (.own n), [(n, some (.rows e sz (l.map enc) false))], [n]⟩ := by
  obtain ⟨ie, z, h1, h2, h3, h4, rfl, h6⟩ := S.parts
  have hz : ∀ j, z.cells.getD j undef = zs.getD j undef := fun j => by rw [← h3]; simp [Array.getD_eq_getD_getElem?, List.getD_eq_getElem?_getD]
  rw [← hl]
  exact OpL.buildSlice (P := P) (σ := σ) (k := n) ho S.ht h1 h2 h4 S.pos.1 (Nat.le_of_ble_eq_true hlen) hps (fun p hp => ones_mem (List.all_eq_true.1 hone p hp)) (live_mem hown) (by simp only [hz]; exact hout) hts
    (List.all_eq_true.1 hall)

/-- make. -/
theorem O.make {t e sz bytes n : Nat} {zs : List Value} {x y : Operand} {k1 k2 : IntKind} {l c : Int} {z : α} (S : SlT P t e sz bytes zs) (h : 0 ≤ l ∧ l ≤ c ∧ (bytes : Int) * c ≤ 281474976710656) (hz : enc z = zs.map T.val) (h1 : (zs.all Value.oneCell') = true)
    (ho : o.op = .makeSlice t x y) (hx : rd σ x = some (.imm (.val (.int k1 l)))) (hy : rd σ y = some (.imm (.val (.int k2 c)))) :
    OpL P o σ [] ⟨some (.own n), [(n, some (.rows e sz ((List.replicate l.toNat z).map enc) false))], [n]⟩ := by
  obtain ⟨ie, z', h2, h3, h4, h5, rfl, rfl⟩ := S.parts
  have hc : c ≤ 281474976710656 := by
    have := S.pos.2
    have h6 : 1 * c ≤ (ie.bytes : Int) * c := Int.mul_le_mul_of_nonneg_right (by omega) (by omega)
    omega
  rw [List.map_replicate, hz]
  exact OpL.make ho S.ht h2 h3 h4 h5 S.pos.1 (List.all_eq_true.1 h1) hx hy h.1 h.2.1 h.2.2 hc

/-- An append to a row of ours, of data. -/
theorem O.app {t e sz bytes n j : Nat} {zs : List Value} {x y : Operand} {l m : List α} (S : SlT P t e sz bytes zs) (E : EncOk enc sz) (h : (l.length + m.length) * bytes ≤ 140737488355328) (ho : o.op = .call { callee := .builtin .append, args := #[x, y], argTypes := #[t, t] })
    (hx : rd σ x = some (.own j)) (hk : σ.tk j = some (.rows e sz (l.map enc) false)) (hy : rd σ y = some (.imm (.row sz (m.map enc)))) :
    OpL P o σ [j] ⟨some (.own n), [(j, none), (n, some (.rows e sz ((l ++ m).map enc) false))], [n]⟩ := by
  obtain ⟨ie, z, h1, h2, h3, h4, rfl, rfl⟩ := S.parts
  rw [List.map_append]
  exact OpL.append (k := n) ho S.ht h1 h2 h4 S.pos.1 S.pos.2 hx hy (.own j _ hk) (by simp [rowsOf, rowsT]) (E.uni m) (E.ones m) (by simpa using h)
/-- .. of a row of ours. -/
theorem O.appO {t e e' sz bytes n j q : Nat} {zs : List Value} {x y : Operand} {l m : List α} {f : Bool} (S : SlT P t e sz bytes zs) (E : EncOk enc sz) (h : (l.length + m.length) * bytes ≤ 140737488355328) (ho : o.op = .call { callee := .builtin .append, args := #[x, y], argTypes := #[t, t] })
    (hx : rd σ x = some (.own j)) (hk : σ.tk j = some (.rows e sz (l.map enc) false)) (hy : rd σ y = some (.own q)) (hq : σ.tk q = some (.rows e' sz (m.map enc) f)) :
    OpL P o σ [j, q] ⟨some (.own n), [(j, none), (n, some (.rows e sz ((l ++ m).map enc) false))], [n]⟩ := by
  obtain ⟨ie, z, h1, h2, h3, h4, rfl, rfl⟩ := S.parts
  rw [List.map_append]
  exact OpL.append (k := n) ho S.ht h1 h2 h4 S.pos.1 S.pos.2 hx hy (.own j _ hk) (by simp [rowsOf, hq]) (E.uni m) (E.ones m) (by simpa using h)
end
end Go.Pm
