/- Shows the types of the data that the printed functions speak of, and facts about the program's types: written by a program of the author's for this claim. -/
import Derived.Test.YtidinbjehfodoaaProg
import Derived.Test.YtidinbjehfodoaaPmS
namespace Go.Proofs.Ytidinbjehfodoaa
open Go Go.Pm
noncomputable abbrev prog : Program := Try.prog
structure api_Fill where
  Lender : Int
  Borrower : Int
  Basket : Int
  Amount : Int
  Rate : Int
  Start : Int
  End : Int
instance : Inhabited api_Fill := ⟨⟨0, 0, 0, 0, 0, 0, 0⟩⟩
def api_Fill.enc (x : api_Fill) : List T := [(.val (.int .i64 x.Lender)), (.val (.int .i64 x.Borrower)), (.val (.int .i64 x.Basket)), (.val (.int .i64 x.Amount)), (.val (.int .i64 x.Rate)), (.val (.int .i64 x.Start)), (.val (.int .i64 x.End))]
abbrev api_Fill.av (x : api_Fill) : List AV := [.i x.Lender, .i x.Borrower, .i x.Basket, .i x.Amount, .i x.Rate, .i x.Start, .i x.End]
theorem api_Fill.ok : EncOk api_Fill.enc 7 := ⟨fun _ => rfl, fun _ => rfl⟩
structure api_Reset where
  Day : Int
  Rate : Int
instance : Inhabited api_Reset := ⟨⟨0, 0⟩⟩
def api_Reset.enc (x : api_Reset) : List T := [(.val (.int .i64 x.Day)), (.val (.int .i64 x.Rate))]
abbrev api_Reset.av (x : api_Reset) : List AV := [.i x.Day, .i x.Rate]
theorem api_Reset.ok : EncOk api_Reset.enc 2 := ⟨fun _ => rfl, fun _ => rfl⟩
structure api_Trade where
  ID : Int
  Twin : Int
  Member : Int
  Side : Int
  Basket : Int
  Amount : Int
  Start : Int
  End : Int
  Resets : List api_Reset
  Stage : Int
  Short : Bool
instance : Inhabited api_Trade := ⟨⟨0, 0, 0, 0, 0, 0, 0, 0, [], 0, false⟩⟩
def api_Trade.enc (x : api_Trade) : List T := [(.val (.int .i64 x.ID)), (.val (.int .i64 x.Twin)), (.val (.int .i64 x.Member)), (.val (.int .i64 x.Side)), (.val (.int .i64 x.Basket)), (.val (.int .i64 x.Amount)), (.val (.int .i64 x.Start)), (.val (.int .i64 x.End)), (.row 2 (List.map api_Reset.enc x.Resets)), (.val (.int .i64 x.Stage)), (.val (.bool x.Short))]
abbrev api_Trade.av (x : api_Trade) : List AV := [.i x.ID, .i x.Twin, .i x.Member, .i x.Side, .i x.Basket, .i x.Amount, .i x.Start, .i x.End, .imm (.row 2 (List.map api_Reset.enc x.Resets)), .i x.Stage, .b x.Short]
theorem api_Trade.ok : EncOk api_Trade.enc 11 := ⟨fun _ => rfl, fun _ => rfl⟩
structure lombardlaw23_Act where
  Kind : Int
  Fill : api_Fill
  X : api_Trade
  Y : api_Trade
  ID : Int
instance : Inhabited lombardlaw23_Act := ⟨⟨0, (⟨0, 0, 0, 0, 0, 0, 0⟩ : api_Fill), (⟨0, 0, 0, 0, 0, 0, 0, 0, [], 0, false⟩ : api_Trade), (⟨0, 0, 0, 0, 0, 0, 0, 0, [], 0, false⟩ : api_Trade), 0⟩⟩
def lombardlaw23_Act.enc (x : lombardlaw23_Act) : List T := [(.val (.int .i64 x.Kind)), (.val (.int .i64 x.Fill.Lender)), (.val (.int .i64 x.Fill.Borrower)), (.val (.int .i64 x.Fill.Basket)), (.val (.int .i64 x.Fill.Amount)), (.val (.int .i64 x.Fill.Rate)), (.val (.int .i64 x.Fill.Start)), (.val (.int .i64 x.Fill.End)), (.val (.int .i64 x.X.ID)), (.val (.int .i64 x.X.Twin)), (.val (.int .i64 x.X.Member)), (.val (.int .i64 x.X.Side)), (.val (.int .i64 x.X.Basket)), (.val (.int .i64 x.X.Amount)), (.val (.int .i64 x.X.Start)), (.val (.int .i64 x.X.End)), (.row 2 (List.map api_Reset.enc x.X.Resets)), (.val (.int .i64 x.X.Stage)), (.val (.bool x.X.Short)), (.val (.int .i64 x.Y.ID)), (.val (.int .i64 x.Y.Twin)), (.val (.int .i64 x.Y.Member)), (.val (.int .i64 x.Y.Side)), (.val (.int .i64 x.Y.Basket)), (.val (.int .i64 x.Y.Amount)), (.val (.int .i64 x.Y.Start)), (.val (.int .i64 x.Y.End)), (.row 2 (List.map api_Reset.enc x.Y.Resets)), (.val (.int .i64 x.Y.Stage)), (.val (.bool x.Y.Short)), (.val (.int .i64 x.ID))]
abbrev lombardlaw23_Act.av (x : lombardlaw23_Act) : List AV := [.i x.Kind, .i x.Fill.Lender, .i x.Fill.Borrower, .i x.Fill.Basket, .i x.Fill.Amount, .i x.Fill.Rate, .i x.Fill.Start, .i x.Fill.End, .i x.X.ID, .i x.X.Twin, .i x.X.Member, .i x.X.Side, .i x.X.Basket, .i x.X.Amount, .i x.X.Start, .i x.X.End, .imm (.row 2 (List.map api_Reset.enc x.X.Resets)), .i x.X.Stage, .b x.X.Short, .i x.Y.ID, .i x.Y.Twin, .i x.Y.Member, .i x.Y.Side, .i x.Y.Basket, .i x.Y.Amount, .i x.Y.Start, .i x.Y.End, .imm (.row 2 (List.map api_Reset.enc x.Y.Resets)), .i x.Y.Stage, .b x.Y.Short, .i x.ID]
theorem lombardlaw23_Act.ok : EncOk lombardlaw23_Act.enc 31 := ⟨fun _ => rfl, fun _ => rfl⟩
structure trade_Book where
  l : List api_Trade
  next : Int
  made : Bool
instance : Inhabited trade_Book := ⟨⟨[], 0, false⟩⟩
def trade_Book.enc (x : trade_Book) : List T := [(.row 11 (List.map api_Trade.enc x.l)), (.val (.int .i64 x.next)), (.val (.bool x.made))]
abbrev trade_Book.av (x : trade_Book) : List AV := [.imm (.row 11 (List.map api_Trade.enc x.l)), .i x.next, .b x.made]
theorem trade_Book.ok : EncOk trade_Book.enc 3 := ⟨fun _ => rfl, fun _ => rfl⟩
structure lombardref23_Book where
  L : List api_Trade
  Next : Int
instance : Inhabited lombardref23_Book := ⟨⟨[], 0⟩⟩
def lombardref23_Book.enc (x : lombardref23_Book) : List T := [(.row 11 (List.map api_Trade.enc x.L)), (.val (.int .i64 x.Next))]
abbrev lombardref23_Book.av (x : lombardref23_Book) : List AV := [.imm (.row 11 (List.map api_Trade.enc x.L)), .i x.Next]
theorem lombardref23_Book.ok : EncOk lombardref23_Book.enc 2 := ⟨fun _ => rfl, fun _ => rfl⟩
theorem bl62 : placesB prog 62 = some ([.slice none 0 0, .int .i64 0, .bool false], [(0, 1), (1, 1), (2, 1)]) := by kernel_rfl
theorem z47 : (prog.info? 47).map (fun i => i.zero.map (·.cells.toList)) = some (some [.slice none 0 0, .int .i64 0]) := by kernel_rfl
theorem sl44 : SlT prog 44 50 31 280 [.int .i64 0, .int .i64 0, .int .i64 0, .int .i64 0, .int .i64 0, .int .i64 0, .int .i64 0, .int .i64 0, .int .i64 0, .int .i64 0, .int .i64 0, .int .i64 0, .int .i64 0, .int .i64 0, .int .i64 0, .int .i64 0, .slice none 0 0, .int .i64 0, .bool false, .int .i64 0, .int .i64 0, .int .i64 0, .int .i64 0, .int .i64 0, .int .i64 0, .int .i64 0, .int .i64 0, .slice none 0 0, .int .i64 0, .bool false, .int .i64 0] := ⟨by kernel_rfl, by kernel_rfl, rfl, by decide⟩
theorem ty50 : tyV prog 50 = some (true, 31) := by kernel_rfl
theorem fld50_2 : fieldB prog 50 2 8 = true := by kernel_rfl
theorem fld26_8 : fieldB prog 26 8 8 = true := by kernel_rfl
theorem ty24 : tyV prog 24 = some (false, 1) := by kernel_rfl
theorem sl24 : SlT prog 24 60 2 16 [.int .i64 0, .int .i64 0] := ⟨by kernel_rfl, by kernel_rfl, rfl, by decide⟩
theorem fld50_3 : fieldB prog 50 3 19 = true := by kernel_rfl
theorem ty47 : tyV prog 47 = some (true, 2) := by kernel_rfl
theorem fld50_0 : fieldB prog 50 0 0 = true := by kernel_rfl
theorem ty3 : tyV prog 3 = some (false, 1) := by kernel_rfl
theorem fld50_1 : fieldB prog 50 1 1 = true := by kernel_rfl
theorem ty23 : tyV prog 23 = some (true, 7) := by kernel_rfl
theorem fld23_0 : fieldB prog 23 0 0 = true := by kernel_rfl
theorem fld23_1 : fieldB prog 23 1 1 = true := by kernel_rfl
theorem fld23_2 : fieldB prog 23 2 2 = true := by kernel_rfl
theorem fld23_3 : fieldB prog 23 3 3 = true := by kernel_rfl
theorem fld23_4 : fieldB prog 23 4 4 = true := by kernel_rfl
theorem fld23_5 : fieldB prog 23 5 5 = true := by kernel_rfl
theorem fld23_6 : fieldB prog 23 6 6 = true := by kernel_rfl
theorem ca36 : callOk prog 36 = true := by kernel_rfl
theorem ca50 : callOk prog 50 = true := by kernel_rfl
theorem ca37 : callOk prog 37 = true := by kernel_rfl
theorem fld47_0 : fieldB prog 47 0 0 = true := by kernel_rfl
theorem ty35 : tyV prog 35 = some (false, 1) := by kernel_rfl
theorem sl35 : SlT prog 35 26 11 104 [.int .i64 0, .int .i64 0, .int .i64 0, .int .i64 0, .int .i64 0, .int .i64 0, .int .i64 0, .int .i64 0, .slice none 0 0, .int .i64 0, .bool false] := ⟨by kernel_rfl, by kernel_rfl, rfl, by decide⟩
theorem fld47_1 : fieldB prog 47 1 1 = true := by kernel_rfl
theorem bl60 : placesB prog 60 = some ([.int .i64 0, .int .i64 0], [(0, 1), (1, 1)]) := by kernel_rfl
theorem bl26 : placesB prog 26 = some ([.int .i64 0, .int .i64 0, .int .i64 0, .int .i64 0, .int .i64 0, .int .i64 0, .int .i64 0, .int .i64 0, .slice none 0 0, .int .i64 0, .bool false], [(0, 1), (1, 1), (2, 1), (3, 1), (4, 1), (5, 1), (6, 1), (7, 1), (8, 1), (9, 1), (10, 1)]) := by kernel_rfl
theorem z26 : (prog.info? 26).map (fun i => i.zero.map (·.cells.toList)) = some (some [.int .i64 0, .int .i64 0, .int .i64 0, .int .i64 0, .int .i64 0, .int .i64 0, .int .i64 0, .int .i64 0, .slice none 0 0, .int .i64 0, .bool false]) := by kernel_rfl
theorem ty26 : tyV prog 26 = some (true, 11) := by kernel_rfl
theorem fld26_0 : fieldB prog 26 0 0 = true := by kernel_rfl
theorem fld26_1 : fieldB prog 26 1 1 = true := by kernel_rfl
theorem fld26_2 : fieldB prog 26 2 2 = true := by kernel_rfl
theorem fld26_3 : fieldB prog 26 3 3 = true := by kernel_rfl
theorem bl47 : placesB prog 47 = some ([.slice none 0 0, .int .i64 0], [(0, 1), (1, 1)]) := by kernel_rfl
theorem ca10 : callOk prog 10 = true := by kernel_rfl
theorem u36 : prog.underlying 36 = some (.pointer (prog.pointee 36)) := by kernel_rfl
theorem fld62_2 : fieldB prog 62 2 2 = true := by kernel_rfl
theorem ty4 : tyV prog 4 = some (false, 1) := by kernel_rfl
theorem ca34 : callOk prog 34 = true := by kernel_rfl
theorem ca35 : callOk prog 35 = true := by kernel_rfl
theorem fld62_0 : fieldB prog 62 0 0 = true := by kernel_rfl
theorem fld62_1 : fieldB prog 62 1 1 = true := by kernel_rfl
theorem ca9 : callOk prog 9 = true := by kernel_rfl
theorem ca47 : callOk prog 47 = true := by kernel_rfl
theorem fld26_9 : fieldB prog 26 9 9 = true := by kernel_rfl
theorem fld60_0 : fieldB prog 60 0 0 = true := by kernel_rfl
theorem fld60_1 : fieldB prog 60 1 1 = true := by kernel_rfl
theorem ca51 : callOk prog 51 = true := by kernel_rfl
theorem fld26_6 : fieldB prog 26 6 6 = true := by kernel_rfl
theorem fld26_4 : fieldB prog 26 4 4 = true := by kernel_rfl
theorem fld26_5 : fieldB prog 26 5 5 = true := by kernel_rfl
theorem fld26_7 : fieldB prog 26 7 7 = true := by kernel_rfl
theorem bl23 : placesB prog 23 = some ([.int .i64 0, .int .i64 0, .int .i64 0, .int .i64 0, .int .i64 0, .int .i64 0, .int .i64 0], [(0, 1), (1, 1), (2, 1), (3, 1), (4, 1), (5, 1), (6, 1)]) := by kernel_rfl
theorem ca39 : callOk prog 39 = true := by kernel_rfl
theorem ty60 : tyV prog 60 = some (true, 2) := by kernel_rfl
theorem fl60 : flatT prog 60 = some [.i, .i] := by kernel_rfl
theorem ca41 : callOk prog 41 = true := by kernel_rfl
theorem ca12 : callOk prog 12 = true := by kernel_rfl
theorem ca14 : callOk prog 14 = true := by kernel_rfl
theorem ca24 : callOk prog 24 = true := by kernel_rfl
theorem z60 : (prog.info? 60).map (fun i => i.zero.map (·.cells.toList)) = some (some [.int .i64 0, .int .i64 0]) := by kernel_rfl
theorem z23 : (prog.info? 23).map (fun i => i.zero.map (·.cells.toList)) = some (some [.int .i64 0, .int .i64 0, .int .i64 0, .int .i64 0, .int .i64 0, .int .i64 0, .int .i64 0]) := by kernel_rfl
theorem ca38 : callOk prog 38 = true := by kernel_rfl
theorem ca40 : callOk prog 40 = true := by kernel_rfl
theorem h3 : (prog.underlying 3).isSome = true := by kernel_rfl
theorem u89 : prog.underlying 89 = some (.int .u64) := by kernel_rfl
theorem h89 : (prog.underlying 89).isSome = true := by kernel_rfl
theorem u3 : prog.underlying 3 = some (.int .i64) := by kernel_rfl
theorem ca57 : callOk prog 57 = true := by kernel_rfl
theorem ca55 : callOk prog 55 = true := by kernel_rfl
theorem ca54 : callOk prog 54 = true := by kernel_rfl
theorem ca53 : callOk prog 53 = true := by kernel_rfl
theorem ca52 : callOk prog 52 = true := by kernel_rfl
theorem ca11 : callOk prog 11 = true := by kernel_rfl
theorem ca13 : callOk prog 13 = true := by kernel_rfl
theorem ca46 : callOk prog 46 = true := by kernel_rfl
theorem ca42 : callOk prog 42 = true := by kernel_rfl
theorem fld50_4 : fieldB prog 50 4 30 = true := by kernel_rfl
theorem ca49 : callOk prog 49 = true := by kernel_rfl
theorem ca56 : callOk prog 56 = true := by kernel_rfl
theorem ca23 : callOk prog 23 = true := by kernel_rfl
theorem ca48 : callOk prog 48 = true := by kernel_rfl
theorem fld26_10 : fieldB prog 26 10 10 = true := by kernel_rfl
theorem u4 : prog.underlying 4 = some .bool := by kernel_rfl
theorem ca25 : callOk prog 25 = true := by kernel_rfl
theorem ca43 : callOk prog 43 = true := by kernel_rfl
theorem ca31 : callOk prog 31 = true := by kernel_rfl
theorem ca44 : callOk prog 44 = true := by kernel_rfl
theorem ca32 : callOk prog 32 = true := by kernel_rfl
theorem ca45 : callOk prog 45 = true := by kernel_rfl
theorem ca33 : callOk prog 33 = true := by kernel_rfl
theorem ca19 : callOk prog 19 = true := by kernel_rfl
theorem ca18 : callOk prog 18 = true := by kernel_rfl
theorem ca17 : callOk prog 17 = true := by kernel_rfl
theorem sl63 : SlT prog 63 36 1 8 [.pointer none] := ⟨by kernel_rfl, by kernel_rfl, rfl, by decide⟩
theorem ty36 : tyV prog 36 = some (false, 1) := by kernel_rfl
theorem ca26 : callOk prog 26 = true := by kernel_rfl
theorem ca20 : callOk prog 20 = true := by kernel_rfl
theorem ca28 : callOk prog 28 = true := by kernel_rfl
theorem ca21 : callOk prog 21 = true := by kernel_rfl
theorem ca22 : callOk prog 22 = true := by kernel_rfl
theorem ca30 : callOk prog 30 = true := by kernel_rfl
theorem ca8 : callOk prog 8 = true := by kernel_rfl
def api_Fill.bd (x : api_Fill) : Prop := inK .i64 x.Lender ∧ inK .i64 x.Borrower ∧ inK .i64 x.Basket ∧ inK .i64 x.Amount ∧ inK .i64 x.Rate ∧ inK .i64 x.Start ∧ inK .i64 x.End ∧ True
def api_Reset.bd (x : api_Reset) : Prop := inK .i64 x.Day ∧ inK .i64 x.Rate ∧ True
def api_Trade.bd (x : api_Trade) : Prop := inK .i64 x.ID ∧ inK .i64 x.Twin ∧ inK .i64 x.Member ∧ inK .i64 x.Side ∧ inK .i64 x.Basket ∧ inK .i64 x.Amount ∧ inK .i64 x.Start ∧ inK .i64 x.End ∧ (fun l : List api_Reset => l.length * 16 ≤ reach ∧ ∀ x ∈ l, api_Reset.bd x) x.Resets ∧ inK .i64 x.Stage ∧ (fun _ : Bool => True) x.Short ∧ True
def lombardlaw23_Act.bd (x : lombardlaw23_Act) : Prop := inK .i64 x.Kind ∧ api_Fill.bd x.Fill ∧ api_Trade.bd x.X ∧ api_Trade.bd x.Y ∧ inK .i64 x.ID ∧ True
end Go.Proofs.Ytidinbjehfodoaa
