/- Shows that what a book tells of its trades lies away from what there was, and what writes into it leave. -/
import Derived.Test.YtidinbjehfodoaaGx5
import Derived.Test.YtidinbjehfodoaaPmAE
namespace Go.Proofs.Ytidinbjehfodoaa
open Go Go.Pm
set_option linter.unusedVariables false
set_option linter.unusedSimpArgs false

def encW (A : Nat → Prop) (x : api_Trade) : List T := [.wit A (.int .i64 x.ID), .val (.int .i64 x.Twin), .val (.int .i64 x.Member), .val (.int .i64 x.Side), .val (.int .i64 x.Basket), .val (.int .i64 x.Amount), .val (.int .i64 x.Start), .val (.int .i64 x.End), .row 2 (List.map api_Reset.enc x.Resets), .val (.int .i64 x.Stage), .val (.bool x.Short)]
def encA (A : Nat → Prop) (x : api_Trade) : List T := [.wit A (.int .i64 x.ID), .val (.int .i64 x.Twin), .val (.int .i64 x.Member), .val (.int .i64 x.Side), .val (.int .i64 x.Basket), .val (.int .i64 x.Amount), .val (.int .i64 x.Start), .val (.int .i64 x.End), .away A 2 (List.map api_Reset.enc x.Resets), .val (.int .i64 x.Stage), .val (.bool x.Short)]
def encB (A : Nat → Prop) (x : trade_Book) : List T := [.row 11 (List.map (encW A) x.l), .val (.int .i64 x.next), .val (.bool x.made)]
abbrev avW (A : Nat → Prop) (x : api_Trade) : List AV := [.imm (.wit A (.int .i64 x.ID)), .i x.Twin, .i x.Member, .i x.Side, .i x.Basket, .i x.Amount, .i x.Start, .i x.End, .imm (.row 2 (List.map api_Reset.enc x.Resets)), .i x.Stage, .b x.Short]
abbrev avA (A : Nat → Prop) (x : api_Trade) : List AV := [.imm (.wit A (.int .i64 x.ID)), .i x.Twin, .i x.Member, .i x.Side, .i x.Basket, .i x.Amount, .i x.Start, .i x.End, .imm (.away A 2 (List.map api_Reset.enc x.Resets)), .i x.Stage, .b x.Short]
theorem encA_ok (A : Nat → Prop) : EncOk (encA A) 11 := ⟨fun _ => rfl, fun _ => rfl⟩

set_option maxRecDepth 100000 in
set_option maxHeartbeats 4000000 in
theorem trade_copied.okA {A : Nat → Prop} {x0 : api_Trade} {r : api_Trade} (h : trade_copied.f x0 = some r) : Pm.Spec prog 42 [.agg [.imm (.wit A (.int .i64 x0.ID)), .imm (.val (.int .i64 x0.Twin)), .imm (.val (.int .i64 x0.Member)), .imm (.val (.int .i64 x0.Side)), .imm (.val (.int .i64 x0.Basket)), .imm (.val (.int .i64 x0.Amount)), .imm (.val (.int .i64 x0.Start)), .imm (.val (.int .i64 x0.End)), .imm (.row 2 (List.map api_Reset.enc x0.Resets)), .imm (.val (.int .i64 x0.Stage)), .imm (.val (.bool x0.Short))]] (.agg [.imm (.wit A (.int .i64 r.ID)), .imm (.val (.int .i64 r.Twin)), .imm (.val (.int .i64 r.Member)), .imm (.val (.int .i64 r.Side)), .imm (.val (.int .i64 r.Basket)), .imm (.val (.int .i64 r.Amount)), .imm (.val (.int .i64 r.Start)), .imm (.val (.int .i64 r.End)), .imm (.away A 2 (List.map api_Reset.enc r.Resets)), .imm (.val (.int .i64 r.Stage)), .imm (.val (.bool r.Short))]) [none] := by
 unfold trade_copied.f at h; refine Pm.Spec.of_body Try.func42 rfl (by kernel_rfl) (Nat.le_of_ble_eq_true rfl) (Nat.le_of_ble_eq_true rfl) ?_; refine W.ghost (σ' := (mkSt [(0, some (.agg (avW A x0)))] [] 1000)) (Gives.entry (.c rfl .n) .n) ?_; refine W.seq ?_; refine W.pk ?_; refine .t rfl rfl (O.box rfl rfl rfl rfl rfl) ?_; refine .t rfl rfl (O.alloc z26 rfl) ?_; refine .nil ?_; refine W.seq ?_; obtain ⟨t1, b2, h⟩ := bnd1 h; refine W.pk ?_; refine .v rfl rfl (O.fld fld26_8 rfl rfl rfl) ?_; refine .v rfl rfl (O.ld (y := .imm (.row 2 (List.map api_Reset.enc x0.Resets))) ty24 rfl rfl rfl) ?_; refine .call (.own 1002) [(1002, some (.rows 60 2 (List.map api_Reset.enc t1) false))] 1 (slices_Clone_api_Reset.ok b2) rfl rfl rfl ca52 rfl rfl (cC (.imm _) .nil) rfl rfl rfl rfl rfl ?_; refine .v rfl rfl (O.fld fld26_8 rfl rfl rfl) ?_; refine .s rfl rfl (O.st ty24 rfl rfl rfl rfl rfl rfl rfl rfl rfl rfl (all' := [.imm (.wit A (.int .i64 x0.ID)), .i x0.Twin, .i x0.Member, .i x0.Side, .i x0.Basket, .i x0.Amount, .i x0.Start, .i x0.End, .own 1002, .i x0.Stage, .b x0.Short]) rfl) ?_; refine .nil ?_; refine W.seq ?_; refine W.pk ?_; refine .v rfl rfl (O.ldN ty26 rfl rfl rfl) ?_; refine .s rfl rfl (O.st ty26 rfl rfl rfl rfl rfl rfl rfl rfl rfl rfl (all' := [.imm (.wit A (.int .i64 x0.ID)), .i x0.Twin, .i x0.Member, .i x0.Side, .i x0.Basket, .i x0.Amount, .i x0.Start, .i x0.End, .own 1002, .i x0.Stage, .b x0.Short]) rfl) ?_; refine .nil ?_; refine W.ghost (Gives.away (k := 1002) (q := 1001) (cs' := [.imm (.wit A (.int .i64 x0.ID)), .i x0.Twin, .i x0.Member, .i x0.Side, .i x0.Basket, .i x0.Amount, .i x0.Start, .i x0.End, .imm (.away A 2 (List.map api_Reset.enc t1)), .i x0.Stage, .b x0.Short]) rfl rfl rfl rfl (fun i hi => ?_)) ?_
 ·match i, hi with
  | 8, _ => exact .inr ⟨rfl, rfl⟩
  | 0, _ => exact .inl rfl
  | 1, _ => exact .inl rfl
  | 2, _ => exact .inl rfl
  | 3, _ => exact .inl rfl
  | 4, _ => exact .inl rfl
  | 5, _ => exact .inl rfl
  | 6, _ => exact .inl rfl
  | 7, _ => exact .inl rfl
  | 9, _ => exact .inl rfl
  | 10, _ => exact .inl rfl
 refine W.ret ?_; cases h; exact leaves (.inr rfl) rfl (.agg _ _ _ _ (cC (.imm _) (cC (.imm _) (cC (.imm _) (cC (.imm _) (cC (.imm _) (cC (.imm _) (cC (.imm _) (cC (.imm _) (cC (.imm _) (cC (.imm _) (cC (.imm _) .nil)))))))))))) (cN .nil) rfl rfl

set_option maxRecDepth 100000 in
set_option maxHeartbeats 4000000 in
theorem trade_Book_All.okA {A : Nat → Prop} {x0 : trade_Book} {r : List api_Trade} (h : trade_Book_All.f x0 = some r) : Pm.Spec prog 18 [.imm (.fp (encB A x0))] (.xown 26 11 (List.map (encA A) r)) [none] := by
 unfold trade_Book_All.f at h; refine Pm.Spec.of_body Try.func18 rfl (by kernel_rfl) (Nat.le_of_ble_eq_true rfl) (Nat.le_of_ble_eq_true rfl) ?_; refine W.ghost (σ' := (mkSt [(0, some (.imm (.fp (encB A x0))))] [] 1000)) (Gives.entry (.c rfl .n) .n) ?_; refine W.seq ?_; refine W.pk ?_; refine .a rfl rfl rfl rfl ?_; refine .nil ?_; (iterate 2 refine W.seq ?_); refine W.pk ?_; refine .m rfl rfl rfl rfl ?_; refine .v rfl rfl (OpL.eqP rfl u36 rfl rfl rfl) ?_; refine .nil ?_; refine W.cond rfl (fun q => by cases q) (fun _ => ?_)
 refine W.skip ?_; refine W.seq ?_; obtain ⟨c1, h⟩ := chk h; refine W.pk ?_; refine .m rfl rfl rfl rfl ?_; refine .v rfl rfl (OpL.nilP rfl rfl rfl) ?_; refine .v rfl rfl (O.fld fld62_0 rfl rfl rfl) ?_; refine .v rfl rfl (O.ld (y := .imm (.row 11 (List.map (encW A) x0.l))) ty35 rfl rfl rfl) ?_; refine .v rfl rfl (O.lenR sl35 rfl rfl) ?_; refine .t rfl rfl (O.makeN (enc := api_Trade.enc) (z := ((⟨0, 0, 0, 0, 0, 0, 0, 0, [], 0, false⟩ : api_Trade) : api_Trade)) sl35 c1 (.cons (.same _) (.cons (.same _) (.cons (.same _) (.cons (.same _) (.cons (.same _) (.cons (.same _) (.cons (.same _) (.cons (.same _) (.cons (.none 2) (.cons (.same _) (.cons (.same _) .nil))))))))))) rfl rfl rfl rfl) ?_; refine .a rfl rfl rfl rfl ?_; refine .nil ?_; (iterate 2 refine W.seq ?_); refine W.pk ?_; refine .m rfl rfl rfl rfl ?_; refine .v rfl rfl (OpL.nilP rfl rfl rfl) ?_; refine .v rfl rfl (O.fld fld62_0 rfl rfl rfl) ?_; refine .v rfl rfl (O.ld (y := .imm (.row 11 (List.map (encW A) x0.l))) ty35 rfl rfl rfl) ?_; refine .v rfl rfl (O.lenR sl35 rfl rfl) ?_; refine .m rfl rfl rfl rfl ?_; refine .nil ?_; obtain ⟨o20, b21, h⟩ := bnd1 h; refine W.fork (mkSt [(3, some (.own 1000))] [(1000, some (.rows 26 11 (List.map (encA A) o20) false))] 1001) ?_ ?_
 ·refine W.seq ?_; refine W.pk ?_; refine .m rfl rfl rfl rfl ?_; refine .a rfl rfl rfl rfl ?_; refine .nil ?_; refine W.ret ?_; cases h; exact leaves (.inr rfl) rfl (.own _ _ _ _ rfl) (cN .nil) rfl rfl
 ·clear h; refine W.block ?_; refine W.loopF (fun (s_ : Int × (List api_Trade)) => mkSt [(3, some (.own 1000)), (17, some (.imm (.row 11 (List.map (encW A) x0.l)))), (18, some (.i (List.length x0.l : Int))), (19, some (.i s_.1))] [(1000, some (.rows 26 11 (List.map (encA A) s_.2) false))] 1001) b21 (Gives.mkR [] (.e rfl rfl) (.r rfl rfl rfl .n) rfl rfl rfl) ?_; rintro ⟨v7, v8⟩ s_ hr; have h : trade_Book_All.b0 x0 v7 v8 = some s_ := hr; unfold trade_Book_All.b0 at h; refine W.seq ?_; refine W.pk ?_; refine .v rfl rfl (OpL.binI rfl rfl rfl rfl) ?_; refine .nil ?_; refine W.seq ?_; refine W.cond rfl (fun q23 => ?_) (fun q23 => ?_)
  ·have h := ifT q23 h; refine W.skip ?_; refine W.seq ?_; refine W.block ?_; refine W.seq ?_; obtain ⟨c24, h⟩ := chk h; refine W.pk ?_; refine .v rfl rfl (O.idx sl35 c24 rfl rfl rfl) ?_; refine .v rfl rfl (O.ldN ty26 rfl rfl rfl) ?_; refine .t rfl rfl (O.alloc z26 rfl) ?_; refine .s rfl rfl (O.st ty26 rfl rfl rfl rfl rfl rfl rfl rfl rfl rfl (all' := [.imm (.wit A (.int .i64 ((nth x0.l v7).ID))), .i ((nth x0.l v7).Twin), .i ((nth x0.l v7).Member), .i ((nth x0.l v7).Side), .i ((nth x0.l v7).Basket), .i ((nth x0.l v7).Amount), .i ((nth x0.l v7).Start), .i ((nth x0.l v7).End), .imm (.row 2 (List.map api_Reset.enc ((nth x0.l v7).Resets))), .i ((nth x0.l v7).Stage), .b ((nth x0.l v7).Short)]) rfl) ?_; refine .nil ?_; obtain ⟨t25, b26, h⟩ := bnd1 h; obtain ⟨c27, h⟩ := chk h; refine W.pk ?_; refine .m rfl rfl rfl rfl ?_; refine .v rfl rfl (O.ldN ty26 rfl rfl rfl) ?_; refine .call (.agg (avA A t25)) [] 0 (trade_copied.okA (A := A) b26) rfl rfl rfl ca42 rfl rfl (cC (.agg _ _ _ _ (cC (.imm _) (cC (.imm _) (cC (.imm _) (cC (.imm _) (cC (.imm _) (cC (.imm _) (cC (.imm _) (cC (.imm _) (cC (.imm _) (cC (.imm _) (cC (.imm _) .nil)))))))))))) .nil) rfl rfl rfl rfl rfl ?_; refine .t rfl rfl (O.lit (enc := encA A) (l := [t25]) sl35 rfl rfl rfl rfl rfl rfl rfl rfl rfl) ?_; refine .t rfl rfl (O.appO sl35 (encA_ok A) c27 rfl rfl rfl rfl rfl) ?_; refine .a rfl rfl rfl rfl ?_; refine .nil ?_; refine W.pk ?_; refine .v rfl rfl (OpL.binI rfl rfl rfl rfl) ?_; refine .m rfl rfl rfl rfl ?_; refine .nil ?_; cases h; exact rdN (Gives.mkR [(1000, 1003)] (.e rfl rfl) (.r rfl rfl rfl .n) rfl rfl rfl)
  ·have h := ifF q23 h; refine W.exit ?_; cases h; refine rdX fun e_ => ?_; subst e_; (repeat with_reducible refine thru ?_); refine hit ?_; exact toN (Gives.mkR [] (.r rfl rfl .n) (.r rfl rfl rfl .n) rfl rfl rfl)

theorem wrap_in {n : Int} (h0 : 0 ≤ n) (h1 : n < 9223372036854775808) : IntKind.i64.wrap n = n := by
  have : IntKind.i64.wrap n = (n + 9223372036854775808) % 18446744073709551616 - 9223372036854775808 := by
    simp only [IntKind.wrap, IntKind.bits, IntKind.signed]; simp; omega
  omega

def wr23 : List Nat := [9, 10, 11, 48, 49, 50, 51, 52, 53, 54, 55, 56, 57, 58, 59, 60, 61, 62, 63, 64, 65, 66, 67, 68, 69, 70, 71, 72, 73]

/-- A row of trades, and their rows of rates (f), that may be written, for all that was there in w. -/
def Good (w w1 : World) (v : Value) (f : Nat → Value) : Prop :=
  Fr (fun _ => False) w w1 ∧ ∃ m A c, v = .slice A m c ∧ m ≤ maxLen ∧ ∀ i, i < m → ∃ bo, A = some ⟨bo, 0, none⟩ ∧ w1.cell? ⟨bo, i * 11 + 8, none⟩ = some (f i) ∧
    ∃ A' q c', f i = .slice A' q c' ∧ q ≤ maxLen ∧ ∀ k, k < q → ∃ bi C e, A' = some ⟨bi, 0, none⟩ ∧ w.heap.size ≤ bi ∧ bi ≠ bo ∧ w1.heap[bi]? = some (.cells C e (0, 0)) ∧ k * 2 + 1 < C.size

theorem Good.store {w w1 : World} {v : Value} {f : Nat → Value} {b q : Nat} {C : Array Value} {e : TypeId} {u : Value} (h : Good w w1 v f) (hh : w1.heap[b]? = some (.cells C e (0, 0))) (hq : q < C.size) (hb : w.heap.size ≤ b)
    (hne : ∀ bo m c, v = .slice (some ⟨bo, 0, none⟩) m c → bo ≠ b) : Good w (w1.setCells b q [u]) v f := by
  obtain ⟨hf, m, A, c, hv, hm, hi⟩ := h
  obtain ⟨s1, C', s2, s3, _⟩ := heap_setCells b e [u] q w1 C hh (by simp only [List.length_singleton]; omega)
  have hot : ∀ k, k ≠ b → (w1.setCells b q [u]).heap[k]? = w1.heap[k]? := fun k hk => RowKit.Below.heap_setCell w1 ⟨b, q, none⟩ u k hk
  refine ⟨hf.step s1 (fun k hk e => by subst e; omega), m, A, c, hv, hm, fun i him => ?_⟩
  obtain ⟨bo, hA, h1, A', n', c', h2, h3, h4⟩ := hi i him
  have hbo : bo ≠ b := hne bo m c (by rw [hv, hA])
  refine ⟨bo, hA, (cell?_of_heap (hot bo hbo)).trans h1, A', n', c', h2, h3, fun k hk => ?_⟩
  obtain ⟨bi, C2, e2, g1, g2, g3, g4, g5⟩ := h4 k hk
  by_cases e3 : bi = b
  · subst e3
    rw [hh] at g4; cases g4
    exact ⟨bi, C', e, g1, g2, g3, s2, by rw [s3]; exact g5⟩
  · exact ⟨bi, C2, e2, g1, g2, g3, (hot bi e3).trans g4, g5⟩

section
variable {cx : Cx} {g : Gh} {σ : St} {a : Act} {w : World}

/-- The book, as what nobody changes. -/
theorem book_rep {x0 : trade_Book} (h : SR cx g σ a w) {k k2 : Nat} {f : Bool} {v5 : Value} (h5 : RepA g w (.ptr k 0) v5) (hk : σ.tk k = some (.box [.own k2, .i x0.next, .b x0.made]))
    (hk2 : σ.tk k2 = some (.rows 26 11 (x0.l.map api_Trade.enc) f)) : RepT (allB w) w (.fp (encB (allB w) x0)) v5 := by
  have key : ∀ (t : api_Trade) (j : Nat) (v : Value), j < 11 → RepT g.S w ((api_Trade.enc t).getD j default) v → RepT (allB w) w ((encW (allB w) t).getD j default) v := by
    intro t j v hj hr
    have hr' := hr.mono (S' := allB w) (fun b hb => h.stab b hb) (fun _ _ => rfl)
    match j, hj with
    | 0, _ =>
      have hr2 : RepT (allB w) w (.val (.int .i64 t.ID)) v := hr'
      cases hr2
      exact .wit _ _ (fun b hb => hb)
    | 1, _ => exact hr'
    | 2, _ => exact hr'
    | 3, _ => exact hr'
    | 4, _ => exact hr'
    | 5, _ => exact hr'
    | 6, _ => exact hr'
    | 7, _ => exact hr'
    | 8, _ => exact hr'
    | 9, _ => exact hr'
    | 10, _ => exact hr'
    | n + 11, hn => exact absurd hn (Nat.not_lt.2 (Nat.le_add_left 11 n))
  cases h5 with
  | ptr _ _ B hu hB =>
    have hbk := h.tk k _ hk
    have hBs : B < w.heap.size := h.blk k _ B hk (by rw [hB]; rfl)
    cases hbk with
    | box _ B' C e b1 b2 b3 b4 =>
      rw [hB] at b1; cases b1
      have b3' : C.size = 3 := b3
      refine .fp _ B 0 (fun j => C.getD j undef) hBs (fun j hj => ?_) (fun j hj => ?_)
      · have hj' : j < C.size := by rw [b3']; exact hj
        rw [Nat.zero_add, cell_of_row w B j C e (0, 0) b2]; exact getD_some hj'
      · match j, hj with
        | 0, _ =>
          have c0 : RepA g w (.own k2) (C.getD 0 undef) := b4 0 (by simp)
          show RepT (allB w) w (.row 11 (List.map (encW (allB w)) x0.l)) (C.getD 0 undef)
          generalize C.getD 0 undef = u at c0
          cases c0 with
          | own _ hu2 =>
            cases h.tk k2 _ hk2 with
            | rows _ _ _ _ xs r1 r2 r3 r4 r5 =>
              rcases r1.2 with ⟨n1, n2⟩ | ⟨b, cap, cur, n1, _, n2, n3, n4, n5, n6⟩
              · have : List.map (encW (allB w)) x0.l = [] := by
                  rw [List.map_eq_nil_iff]; rw [List.length_map] at n2; exact List.length_eq_zero_iff.1 n2
                rw [n1, this]; exact .nilrow 11 0 none
              · have hb : hblk (g.hv k2) = some b := by rw [n1]; rfl
                obtain ⟨_, _, _, _, _, _, hcell⟩ := own_cells r1 n1
                have hlen : (List.map (encW (allB w)) x0.l).length = (List.map api_Trade.enc x0.l).length := by rw [List.length_map, List.length_map]
                rw [n1, ← hlen]
                refine .row 11 _ b 0 cap (fun i j => xs.getD (i * 11 + j) undef) (by rw [hlen]; exact n3) (fun e he => ?_) (h.blk k2 _ b hk2 hb) (fun i j hi hj => ?_) (fun i j hi hj => ?_)
                · obtain ⟨t, _, rfl⟩ := List.mem_map.1 he; rfl
                · rw [hlen] at hi
                  rw [Nat.zero_add]; exact hcell _ (row_index hi hj)
                · have hi2 : i < x0.l.length := by rw [List.length_map] at hi; exact hi
                  have := r3 i j (by rw [List.length_map]; exact hi2) hj
                  rw [listD_map (d := default) _ _ _ _ hi2] at this ⊢
                  exact key _ j _ hj this
        | 1, _ =>
          have c0 : RepA g w (.i x0.next) (C.getD 1 undef) := b4 1 (by simp)
          show RepT (allB w) w (.val (.int .i64 x0.next)) (C.getD 1 undef)
          rw [c0.int]; exact .val _
        | 2, _ =>
          have c0 : RepA g w (.b x0.made) (C.getD 2 undef) := b4 2 (by simp)
          show RepT (allB w) w (.val (.bool x0.made)) (C.getD 2 undef)
          rw [c0.bool]; exact .val _
        | n + 3, hn => exact absurd hn (Nat.not_lt.2 (Nat.le_add_left 3 n))

/-- What (*Book).All tells is new, all of it. -/
theorem all_post {x0 : trade_Book} {r : List api_Trade} (hA : trade_Book_All.f x0 = some r) {v5 : Value} (R : RepT (allB w) w (.fp (encB (allB w) x0)) v5) :
    Calls prog 18 #[v5] w fun e w' => ∃ v S' Fr' Fs, e = .returned v ∧ Post (allB w) w [] [v5] (.xown 26 11 (List.map (encA (allB w)) r)) [none] v w' S' Fr' Fs :=
  trade_Book_All.okA (A := allB w) hA (allB w) w #[v5] [] (fun b hb => hb) (.cons _ _ _ _ [] [] (.imm _ _ R) .nil) List.nodup_nil (fun b hb => by cases hb)

theorem all_good {x0 : trade_Book} {r : List api_Trade} (hA : trade_Book_All.f x0 = some r) {v5 : Value} (R : RepT (allB w) w (.fp (encB (allB w) x0)) v5) :
    Calls prog 18 #[v5] w fun e w' => ∃ u, e = .returned u ∧ ∃ f, Good w w' u f := by
  refine (all_post hA R).mono ?_
  rintro e w' ⟨u, S', Fr', Fs, rfl, hp⟩
  have hfr : Fr (fun _ => False) w w' := hp.frame.mono (fun k _ hk => by cases hk)
  have hown := hp.own
  have hres := hp.res
  refine ⟨u, rfl, ?_⟩
  cases hres with
  | xown _ _ _ _ xs h1 h2 h3 h4 =>
    rcases h1.2 with ⟨n1, n2⟩ | ⟨bo, cap, cur, n1, _, n2, n3, n4, n5, n6⟩
    · exact ⟨fun _ => undef, hfr, 0, none, 0, n1, Nat.zero_le _, fun i hi => absurd hi (Nat.not_lt_zero i)⟩
    · refine ⟨fun i => xs.getD (i * 11 + 8) undef, hfr, _, _, cap, n1, by omega, fun i hi => ⟨bo, rfl, ?_⟩⟩
      obtain ⟨_, _, _, _, _, _, hcell⟩ := own_cells h1 n1
      refine ⟨hcell _ (row_index hi (by decide)), ?_⟩
      have hr := h3 i 8 hi (by decide)
      have hi2 : i < r.length := by rw [List.length_map] at hi; exact hi
      rw [listD_map (d := default) _ _ _ _ hi2] at hr
      have hr2 : RepT S' w' (.away (allB w) 2 (List.map api_Reset.enc (r.getD i default).Resets)) (xs.getD (i * 11 + 8) undef) := hr
      dsimp only
      generalize xs.getD (i * 11 + 8) undef = y at hr2 ⊢
      generalize List.map api_Reset.enc (r.getD i default).Resets = rs at hr2
      cases hr2 with
      | awaynil _ _ c X => exact ⟨X, 0, c, rfl, Nat.zero_le _, fun k hk => absurd hk (Nat.not_lt_zero k)⟩
      | away _ _ _ b c u C e l1 l2 l3 l4 l5 l6 l7 l8 l9 =>
        refine ⟨_, _, c, rfl, l1, fun k hk => ⟨b, C, e, rfl, Nat.le_of_not_lt l4, fun e => ?_, l5, by omega⟩⟩
        subst e
        exact (hown b (List.mem_append.2 (.inl (by rw [n1]; simp [blkL, hblk])))).2.1 l3

end

theorem clrs_same {sl : List (Nat × Option AV)} {tk : List (Nat × Option Tok)} {n : Nat} {wr : List Nat} (h : (sl.all fun p => !inL wr p.1) = true) : (mkSt sl tk n).clrs wr = mkSt sl tk n := by
  have : ∀ (l : List (Nat × Option AV)), (l.all fun p => !inL wr p.1) = true → ∀ i, (bif inL wr i then none else lks l i) = lks l i := by
    intro l
    induction l with
    | nil => intro _ i; cases inL wr i <;> rfl
    | cons p l ih =>
      intro hl i
      simp only [List.all_cons, Bool.and_eq_true] at hl
      obtain ⟨q, x⟩ := p
      have := ih hl.2 i
      simp only [lks]
      cases e : Nat.beq i q with
      | true =>
        have := Nat.eq_of_beq_eq_true e
        subst this
        have h1 := hl.1
        simp only [Bool.not_eq_true'] at h1
        rw [h1]; rfl
      | false => exact this
  exact St.ext' (fun i => this sl h i) (fun _ => rfl) (fun _ => Iff.rfl)

/-- all := b.All(), and what is written into that: for all else nothing. -/
theorem W.apart {x0 : trade_Book} {r : List api_Trade} (hA : trade_Book_All.f x0 = some r) {k k2 n : Nat} {sl : List (Nat × Option AV)} {tk : List (Nat × Option Tok)} {f : Bool} {c1 c2 d : Code} {KK : Px → St → Prop}
    (h5 : (mkSt sl tk n).sl 5 = some (.ptr k 0)) (hk : (mkSt sl tk n).tk k = some (.box [.own k2, .i x0.next, .b x0.made])) (hk2 : (mkSt sl tk n).tk k2 = some (.rows 26 11 (x0.l.map api_Trade.enc) f))
    (hno : (sl.all fun p => !inL wr23 p.1) = true)
    (run : ∀ (N : Nat) (a : Act) (w : World), (Calls prog 18 #[a.tmps.getD 5 undef] w fun e w' => ∃ u, e = .returned u ∧ ∃ f, Good w w' u f) →
      V prog N c1 (base wr23 a) w (fun e s1 w1 => e = .normal ∧ V prog N c2 s1 w1 (fun e s2 w2 => e = .normal ∧ Fr (fun _ => False) w w2 ∧ Sub (base wr23 a) s2)))
    (K : W prog d (mkSt sl tk n) KK) : W prog (.seq c1 (.seq c2 d)) (mkSt sl tk n) KK :=
  W.raw wr23 (fun cx g a w h => run cx.n a w (all_good hA (book_rep h (h.sl 5 _ h5) hk hk2))) (by rw [clrs_same hno]; exact K)

/-- b.All(), asked beside a look at the book. -/
theorem O.callAll {x0 : trade_Book} {r : List api_Trade} (hA : trade_Book_All.f x0 = some r) {o : Oper} {σ : St} {fo x : Operand} {ats : Array TypeId} {k k2 n : Nat} {f : Bool} (ho : o.op = .call { callee := .value fo, args := #[x], argTypes := ats })
    (hf : rd σ fo = some (.fn 18 [])) (hx : rd σ x = some (.ptr k 0)) (hk : σ.tk k = some (.box [.own k2, .i x0.next, .b x0.made])) (hk2 : σ.tk k2 = some (.rows 26 11 (x0.l.map api_Trade.enc) f)) :
    OpL prog o σ [k, k2] ⟨some (.own n), [(n, some (.rows 26 11 (r.map api_Trade.enc) false))], [n]⟩ := by
  intro σ' hs hfp hfree
  have hf' : rd σ' fo = some (.fn 18 []) := (hs fo (by simp [ho, Op.operands, Call.operands])).trans hf
  have hx' : rd σ' x = some (.ptr k 0) := (hs x (by simp [ho, Op.operands, Call.operands])).trans hx
  have hk' := (hfp k (by simp)).trans hk
  have hk2' := (hfp k2 (by simp)).trans hk2
  have hn : σ'.free n := hfree n (by simp)
  intro cx g a w hd h next Q hK
  have hfr := rd_rep h fo _ hf'
  have hrx := rd_rep h x _ hx'
  have R := book_rep h hrx hk' hk2'
  generalize hfo : a.eval fo = vf at hfr
  cases hfr with
  | fn _ _ cvs c1 c2 =>
    have hcv : cvs = #[] := Array.eq_empty_of_size_eq_zero c1
    subst hcv
    show o.upon prog a next Q ((execOp a.eval o).run prog w)
    have hrun : (execOp a.eval o).run prog w = .ok (.enter 18 #[a.eval x]) w := by
      simp [execOp, ho, resolve, hfo, Deferred.ofValue, invoke, run_callFunc ca18]
    rw [hrun, Oper.upon_enter]
    refine (all_post hA R).mono ?_
    rintro e w' ⟨u, S', Fr', Fs, rfl, hp⟩
    show next (a.put o.dst u) w'
    have hF : Fr (fun _ => False) w w' := hp.frame.mono (fun k _ hk => by cases hk)
    have hown := hp.own
    have hnew := hp.new
    have hres := hp.res
    -- what is new and stable
    have hle : g.Le { g with S := fun b => g.S b ∨ (S' b ∧ w.heap.size ≤ b) } := ⟨fun _ x => .inl x, fun _ _ => rfl, fun _ x => x⟩
    have hold : ∀ b, b < w.heap.size → w'.heap[b]? = w.heap[b]? := fun b hb => hF.block b hb (fun x => x)
    have inner : ∀ (t : api_Trade) (j : Nat) (v : Value), j < 11 → RepT S' w' ((encA (allB w) t).getD j default) v → RepT (fun b => g.S b ∨ (S' b ∧ w.heap.size ≤ b)) w' ((api_Trade.enc t).getD j default) v := by
      have num : ∀ (y v : Value), RepT S' w' (.val y) v → RepT (fun b => g.S b ∨ (S' b ∧ w.heap.size ≤ b)) w' (.val y) v := fun y v hv => by cases hv; exact .val _
      intro t j v hj hr
      match j, hj with
      | 0, _ =>
        have hr2 : RepT S' w' (.wit (allB w) (.int .i64 t.ID)) v := hr
        cases hr2
        exact .val _
      | 1, _ => exact num _ v hr
      | 2, _ => exact num _ v hr
      | 3, _ => exact num _ v hr
      | 4, _ => exact num _ v hr
      | 5, _ => exact num _ v hr
      | 6, _ => exact num _ v hr
      | 7, _ => exact num _ v hr
      | 8, _ =>
        have hr2 : RepT S' w' (.away (allB w) 2 (List.map api_Reset.enc t.Resets)) v := hr
        show RepT _ w' (.row 2 (List.map api_Reset.enc t.Resets)) v
        have flat : ∀ (y : api_Reset) (j : Nat) (v : Value), j < 2 → RepT S' w' ((api_Reset.enc y).getD j default) v → RepT (fun b => g.S b ∨ (S' b ∧ w.heap.size ≤ b)) w' ((api_Reset.enc y).getD j default) v := by
          intro y j v hj hr
          match j, hj with
          | 0, _ => exact num _ v hr
          | 1, _ => exact num _ v hr
          | n + 2, hn => exact absurd hn (Nat.not_lt.2 (Nat.le_add_left 2 n))
        generalize hrs : List.map api_Reset.enc t.Resets = rs at hr2
        cases hr2 with
        | awaynil _ _ c X => exact .nilrow 2 c X
        | away _ _ _ b c u C e l1 l2 l3 l4 l5 l6 l7 l8 l9 =>
          refine .row 2 rs b 0 c u l7 l2 (.inr ⟨l3, Nat.le_of_not_lt l4⟩) l8 (fun i j hi hj => ?_)
          have hr9 := l9 i j hi hj
          subst hrs
          have hi2 : i < t.Resets.length := by rw [List.length_map] at hi; exact hi
          rw [listD_map (d := default) _ _ _ _ hi2] at hr9 ⊢
          exact flat _ j _ hj hr9
      | 9, _ => exact num _ v hr
      | 10, _ => exact num _ v hr
      | n + 11, hn => exact absurd hn (Nat.not_lt.2 (Nat.le_add_left 11 n))
    have hrep : TokRep (Gh.put { g with S := fun b => g.S b ∨ (S' b ∧ w.heap.size ≤ b) } n u) w' n (.rows 26 11 (r.map api_Trade.enc) false) := by
      cases hres with
      | xown _ _ _ _ xs h1 h2 h3 h4 =>
        have hlen : (List.map (encA (allB w)) r).length = (List.map api_Trade.enc r).length := by rw [List.length_map, List.length_map]
        refine .rows 26 11 _ false xs (by rw [Gh.put_same, ← hlen]; exact h1) (fun e he => by obtain ⟨t, _, rfl⟩ := List.mem_map.1 he; rfl) (fun i j hi hj => ?_) h4 (fun hf => by cases hf)
        have hi2 : i < r.length := by rw [List.length_map] at hi; exact hi
        have := h3 i j (by rw [List.length_map]; exact hi2) hj
        rw [listD_map (d := default) _ _ _ _ hi2] at this ⊢
        exact inner _ j _ hj this
    have hblkn : ∀ b, hblk u = some b → b ∈ Fr' := by
      intro b hb
      cases hres with
      | xown _ _ _ _ xs h1 h2 h3 h4 => simp [blkL, hb]
    refine hK (Gh.put { g with S := fun b => g.S b ∨ (S' b ∧ w.heap.size ≤ b) } n u) _ _ ?_
    have hnu : ¬ g.used n := fun hu => h.used n hu hn
    have hle2 : g.Le (Gh.put { g with S := fun b => g.S b ∨ (S' b ∧ w.heap.size ≤ b) } n u) := hle.trans (Gh.put_le _ n u hnu)
    have htk : ∀ i t, (if i = n then some (Tok.rows 26 11 (r.map api_Trade.enc) false) else σ'.tk i) = some t → (i = n ∧ t = .rows 26 11 (r.map api_Trade.enc) false) ∨ (i ≠ n ∧ σ'.tk i = some t) := by
      intro i t hi
      by_cases e : i = n
      · rw [if_pos e] at hi; cases hi; exact .inl ⟨e, rfl⟩
      · rw [if_neg e] at hi; exact .inr ⟨e, hi⟩
    have hnew2 : ∀ b, hblk u = some b → b < w'.heap.size ∧ ¬ S' b ∧ w.heap.size ≤ b := fun b hb => by
      obtain ⟨e1, e2, e3⟩ := hown b (List.mem_append.2 (.inl (hblkn b hb)))
      exact ⟨e1, e2, e3.resolve_left (fun x => by cases x)⟩
    have hnt := h.move (Gh.put { g with S := fun b => g.S b ∨ (S' b ∧ w.heap.size ≤ b) } n u) w' (fun i => if i = n then some (Tok.rows 26 11 (r.map api_Trade.enc) false) else σ'.tk i) (fun i => σ'.free i ∧ i ≠ n) hle2
      (fun i hi hf => hi.elim hf.2 (fun hu => h.used i hu hf.1)) (fun b hb => hold b (h.stab b hb)) (h.frame.step hF (fun _ _ x => x.elim))
      (fun i t hi => by
        rcases htk i t hi with ⟨rfl, rfl⟩ | ⟨e, hi'⟩
        · exact hrep
        · exact (h.tk i t hi').mono (h.key i t hi') hle2 (fun b hb => hold b (h.stab b hb)) (fun b hb => hold b (h.blk i t b hi' hb)))
      (fun i t hi => by
        rcases htk i t hi with ⟨rfl, rfl⟩ | ⟨e, hi'⟩
        · exact .inl rfl
        · exact .inr (h.key i t hi'))
      (fun i i' t t' b hi hi' hb hb' => by
        rcases htk i t hi with ⟨rfl, rfl⟩ | ⟨e, hti⟩ <;> rcases htk i' t' hi' with ⟨rfl, rfl⟩ | ⟨e', hti'⟩
        · rfl
        · rw [Gh.put_same] at hb; rw [Gh.put_other _ _ _ _ e'] at hb'
          have := h.blk i' t' b hti' hb'; have := (hnew2 b hb).2.2; omega
        · rw [Gh.put_same] at hb'; rw [Gh.put_other _ _ _ _ e] at hb
          have := h.blk i t b hti hb; have := (hnew2 b hb').2.2; omega
        · rw [Gh.put_other _ _ _ _ e] at hb; rw [Gh.put_other _ _ _ _ e'] at hb'
          exact h.inj i i' t t' b hti hti' hb hb')
      (fun i t b hi hfz hb => by
        rcases htk i t hi with ⟨rfl, rfl⟩ | ⟨e, hti⟩
        · rw [Gh.put_same] at hb
          have h1 := hnew2 b hb
          exact ⟨fun hS => hS.elim (fun x => by have := h.stab b x; omega) (fun x => h1.2.1 x.1), .inl (Nat.le_trans h.frame.size h1.2.2)⟩
        · rw [Gh.put_other _ _ _ _ e] at hb
          have h1 := h.live i t b hti hfz hb
          have h2 := h.blk i t b hti hb
          exact ⟨fun hS => hS.elim h1.1 (fun x => by omega), h1.2⟩)
      (fun i t b hi hb => by
        rcases htk i t hi with ⟨rfl, rfl⟩ | ⟨e, hti⟩
        · rw [Gh.put_same] at hb; exact (hnew2 b hb).1
        · rw [Gh.put_other _ _ _ _ e] at hb; exact Nat.lt_of_lt_of_le (h.blk i t b hti hb) hF.size)
      (fun b hb => hb.elim (fun x => Nat.lt_of_lt_of_le (h.stab b x) hF.size) (fun x => (hnew b x.1).1))
      (fun b hb => hb.elim .inl (fun x => .inr (.inr (Nat.le_trans h.frame.size x.2))))
      (fun i hi => hi.1)
    refine hnt.outSlot o.dst hd _ u (fun y' hy' => by
      cases hy'
      have := RepA.own (g := Gh.put { g with S := fun b => g.S b ∨ (S' b ∧ w.heap.size ≤ b) } n u) (w := w') n (.inl rfl)
      rwa [Gh.put_same] at this) (fun i => ?_) (fun i hi => ?_)
    · simp only [St.out, lkp]
      by_cases e : i = n <;> simp [e]
    · simp only [St.out, List.mem_singleton] at hi
      exact hi

end Go.Proofs.Ytidinbjehfodoaa
