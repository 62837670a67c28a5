/- Shows the types of the data that the printed functions speak of, and facts about the program's types: written by a program of the author's for this claim. -/
import Derived.Test.YtknfdnlhadjbaaaProg
import Derived.Test.YtknfdnlhadjbaaaPmS
namespace Go.Proofs.Ytknfdnlhadjbaaa
open Go Go.Pm
noncomputable abbrev prog : Program := Try.prog
structure api_Reset where
  Day : Int
  Rate : Int
instance : Inhabited api_Reset := ⟨⟨0, 0⟩⟩
def api_Reset.enc (x : api_Reset) : List T := [(.val (.int .i64 x.Day)), (.val (.int .i64 x.Rate))]
abbrev api_Reset.av (x : api_Reset) : List AV := [.i x.Day, .i x.Rate]
theorem api_Reset.ok : EncOk api_Reset.enc 2 := ⟨fun _ => rfl, fun _ => rfl⟩
structure api_Trade where
  ID : Int
  Twin : Int
  Member : Int
  Side : Int
  Basket : Int
  Amount : Int
  Start : Int
  End : Int
  Resets : List api_Reset
  Stage : Int
  Short : Bool
instance : Inhabited api_Trade := ⟨⟨0, 0, 0, 0, 0, 0, 0, 0, [], 0, false⟩⟩
def api_Trade.enc (x : api_Trade) : List T := [(.val (.int .i64 x.ID)), (.val (.int .i64 x.Twin)), (.val (.int .i64 x.Member)), (.val (.int .i64 x.Side)), (.val (.int .i64 x.Basket)), (.val (.int .i64 x.Amount)), (.val (.int .i64 x.Start)), (.val (.int .i64 x.End)), (.row 2 (List.map api_Reset.enc x.Resets)), (.val (.int .i64 x.Stage)), (.val (.bool x.Short))]
abbrev api_Trade.av (x : api_Trade) : List AV := [.i x.ID, .i x.Twin, .i x.Member, .i x.Side, .i x.Basket, .i x.Amount, .i x.Start, .i x.End, .imm (.row 2 (List.map api_Reset.enc x.Resets)), .i x.Stage, .b x.Short]
theorem api_Trade.ok : EncOk api_Trade.enc 11 := ⟨fun _ => rfl, fun _ => rfl⟩
structure api_Fill where
  Lender : Int
  Borrower : Int
  Basket : Int
  Amount : Int
  Rate : Int
  Start : Int
  End : Int
instance : Inhabited api_Fill := ⟨⟨0, 0, 0, 0, 0, 0, 0⟩⟩
def api_Fill.enc (x : api_Fill) : List T := [(.val (.int .i64 x.Lender)), (.val (.int .i64 x.Borrower)), (.val (.int .i64 x.Basket)), (.val (.int .i64 x.Amount)), (.val (.int .i64 x.Rate)), (.val (.int .i64 x.Start)), (.val (.int .i64 x.End))]
abbrev api_Fill.av (x : api_Fill) : List AV := [.i x.Lender, .i x.Borrower, .i x.Basket, .i x.Amount, .i x.Rate, .i x.Start, .i x.End]
theorem api_Fill.ok : EncOk api_Fill.enc 7 := ⟨fun _ => rfl, fun _ => rfl⟩
structure accrue_Meter where
  Units : Int
  Rest : Int
instance : Inhabited accrue_Meter := ⟨⟨0, 0⟩⟩
def accrue_Meter.enc (x : accrue_Meter) : List T := [(.val (.int .i64 x.Units)), (.val (.int .i64 x.Rest))]
abbrev accrue_Meter.av (x : accrue_Meter) : List AV := [.i x.Units, .i x.Rest]
theorem accrue_Meter.ok : EncOk accrue_Meter.enc 2 := ⟨fun _ => rfl, fun _ => rfl⟩
structure fixnum_Wide where
  Hi : Int
  Lo : Int
instance : Inhabited fixnum_Wide := ⟨⟨0, 0⟩⟩
def fixnum_Wide.enc (x : fixnum_Wide) : List T := [(.val (.int .u64 x.Hi)), (.val (.int .u64 x.Lo))]
abbrev fixnum_Wide.av (x : fixnum_Wide) : List AV := [.imm (.val (.int .u64 x.Hi)), .imm (.val (.int .u64 x.Lo))]
theorem fixnum_Wide.ok : EncOk fixnum_Wide.enc 2 := ⟨fun _ => rfl, fun _ => rfl⟩
theorem ty24 : tyV prog 24 = some (true, 11) := by kernel_rfl
theorem fld24_8 : fieldB prog 24 8 8 = true := by kernel_rfl
theorem ty22 : tyV prog 22 = some (false, 1) := by kernel_rfl
theorem sl22 : SlT prog 22 46 2 16 [.int .i64 0, .int .i64 0] := ⟨by kernel_rfl, by kernel_rfl, rfl, by decide⟩
theorem fld24_0 : fieldB prog 24 0 0 = true := by kernel_rfl
theorem ty3 : tyV prog 3 = some (false, 1) := by kernel_rfl
theorem fld24_1 : fieldB prog 24 1 1 = true := by kernel_rfl
theorem fld24_3 : fieldB prog 24 3 3 = true := by kernel_rfl
theorem fld24_9 : fieldB prog 24 9 9 = true := by kernel_rfl
theorem fld46_0 : fieldB prog 46 0 0 = true := by kernel_rfl
theorem fld46_1 : fieldB prog 46 1 1 = true := by kernel_rfl
theorem ca44 : callOk prog 44 = true := by kernel_rfl
theorem ca59 : callOk prog 59 = true := by kernel_rfl
theorem fld24_6 : fieldB prog 24 6 6 = true := by kernel_rfl
theorem fld24_2 : fieldB prog 24 2 2 = true := by kernel_rfl
theorem fld24_4 : fieldB prog 24 4 4 = true := by kernel_rfl
theorem fld24_5 : fieldB prog 24 5 5 = true := by kernel_rfl
theorem fld24_7 : fieldB prog 24 7 7 = true := by kernel_rfl
theorem bl38 : placesB prog 38 = some ([.int .i64 0, .int .i64 0, .int .i64 0, .int .i64 0, .int .i64 0, .int .i64 0, .int .i64 0], [(0, 1), (1, 1), (2, 1), (3, 1), (4, 1), (5, 1), (6, 1)]) := by kernel_rfl
theorem fld38_2 : fieldB prog 38 2 2 = true := by kernel_rfl
theorem fld38_3 : fieldB prog 38 3 3 = true := by kernel_rfl
theorem fld38_4 : fieldB prog 38 4 4 = true := by kernel_rfl
theorem fld38_5 : fieldB prog 38 5 5 = true := by kernel_rfl
theorem fld38_6 : fieldB prog 38 6 6 = true := by kernel_rfl
theorem ca50 : callOk prog 50 = true := by kernel_rfl
theorem ca51 : callOk prog 51 = true := by kernel_rfl
theorem ca52 : callOk prog 52 = true := by kernel_rfl
theorem ca40 : callOk prog 40 = true := by kernel_rfl
theorem bl46 : placesB prog 46 = some ([.int .i64 0, .int .i64 0], [(0, 1), (1, 1)]) := by kernel_rfl
theorem bl24 : placesB prog 24 = some ([.int .i64 0, .int .i64 0, .int .i64 0, .int .i64 0, .int .i64 0, .int .i64 0, .int .i64 0, .int .i64 0, .slice none 0 0, .int .i64 0, .bool false], [(0, 1), (1, 1), (2, 1), (3, 1), (4, 1), (5, 1), (6, 1), (7, 1), (8, 1), (9, 1), (10, 1)]) := by kernel_rfl
theorem z24 : (prog.info? 24).map (fun i => i.zero.map (·.cells.toList)) = some (some [.int .i64 0, .int .i64 0, .int .i64 0, .int .i64 0, .int .i64 0, .int .i64 0, .int .i64 0, .int .i64 0, .slice none 0 0, .int .i64 0, .bool false]) := by kernel_rfl
theorem ca34 : callOk prog 34 = true := by kernel_rfl
theorem z72 : (prog.info? 72).map (fun i => i.zero.map (·.cells.toList)) = some (some [.int .i64 0, .int .i64 0]) := by kernel_rfl
theorem ty46 : tyV prog 46 = some (true, 2) := by kernel_rfl
theorem z46 : (prog.info? 46).map (fun i => i.zero.map (·.cells.toList)) = some (some [.int .i64 0, .int .i64 0]) := by kernel_rfl
theorem ca41 : callOk prog 41 = true := by kernel_rfl
theorem bl72 : placesB prog 72 = some ([.int .i64 0, .int .i64 0], [(0, 1), (1, 1)]) := by kernel_rfl
theorem ty72 : tyV prog 72 = some (true, 2) := by kernel_rfl
theorem h3 : (prog.underlying 3).isSome = true := by kernel_rfl
theorem u92 : prog.underlying 92 = some (.int .u64) := by kernel_rfl
theorem h92 : (prog.underlying 92).isSome = true := by kernel_rfl
theorem u3 : prog.underlying 3 = some (.int .i64) := by kernel_rfl
theorem ca69 : callOk prog 69 = true := by kernel_rfl
theorem ca58 : callOk prog 58 = true := by kernel_rfl
theorem ca57 : callOk prog 57 = true := by kernel_rfl
theorem ca56 : callOk prog 56 = true := by kernel_rfl
theorem fld72_1 : fieldB prog 72 1 1 = true := by kernel_rfl
theorem u88 : prog.underlying 88 = some (.int .u64) := by kernel_rfl
theorem u4 : prog.underlying 4 = some .bool := by kernel_rfl
theorem z96 : (prog.info? 96).map (fun i => i.zero.map (·.cells.toList)) = some (some [.int .u64 0, .int .u64 0]) := by kernel_rfl
theorem bl96 : placesB prog 96 = some ([.int .u64 0, .int .u64 0], [(0, 1), (1, 1)]) := by kernel_rfl
theorem ty96 : tyV prog 96 = some (true, 2) := by kernel_rfl
theorem fld96_0 : fieldB prog 96 0 0 = true := by kernel_rfl
theorem ty88 : tyV prog 88 = some (false, 1) := by kernel_rfl
theorem fld96_1 : fieldB prog 96 1 1 = true := by kernel_rfl
theorem h88 : (prog.underlying 88).isSome = true := by kernel_rfl
theorem ca76 : callOk prog 76 = true := by kernel_rfl
theorem ca72 : callOk prog 72 = true := by kernel_rfl
theorem ca73 : callOk prog 73 = true := by kernel_rfl
theorem ca77 : callOk prog 77 = true := by kernel_rfl
theorem ca78 : callOk prog 78 = true := by kernel_rfl
theorem fld72_0 : fieldB prog 72 0 0 = true := by kernel_rfl
theorem ca70 : callOk prog 70 = true := by kernel_rfl
theorem ca71 : callOk prog 71 = true := by kernel_rfl
theorem ca46 : callOk prog 46 = true := by kernel_rfl
theorem ca60 : callOk prog 60 = true := by kernel_rfl
theorem ca48 : callOk prog 48 = true := by kernel_rfl
theorem ca61 : callOk prog 61 = true := by kernel_rfl
theorem ca53 : callOk prog 53 = true := by kernel_rfl
theorem ca43 : callOk prog 43 = true := by kernel_rfl
theorem ca42 : callOk prog 42 = true := by kernel_rfl
theorem ca11 : callOk prog 11 = true := by kernel_rfl
theorem ca35 : callOk prog 35 = true := by kernel_rfl
theorem ca12 : callOk prog 12 = true := by kernel_rfl
theorem ca25 : callOk prog 25 = true := by kernel_rfl
theorem ca38 : callOk prog 38 = true := by kernel_rfl
theorem ca37 : callOk prog 37 = true := by kernel_rfl
theorem ca49 : callOk prog 49 = true := by kernel_rfl
theorem fl46 : flatT prog 46 = some [.i, .i] := by kernel_rfl
theorem sl82 : SlT prog 82 88 1 8 [.int .u64 0] := ⟨by kernel_rfl, by kernel_rfl, rfl, by decide⟩
theorem ca67 : callOk prog 67 = true := by kernel_rfl
theorem ca74 : callOk prog 74 = true := by kernel_rfl
theorem ca63 : callOk prog 63 = true := by kernel_rfl
theorem ca65 : callOk prog 65 = true := by kernel_rfl
theorem ca75 : callOk prog 75 = true := by kernel_rfl
theorem ca64 : callOk prog 64 = true := by kernel_rfl
theorem ca62 : callOk prog 62 = true := by kernel_rfl
theorem ca66 : callOk prog 66 = true := by kernel_rfl
theorem ca68 : callOk prog 68 = true := by kernel_rfl
theorem ca54 : callOk prog 54 = true := by kernel_rfl
theorem ca55 : callOk prog 55 = true := by kernel_rfl
theorem ca45 : callOk prog 45 = true := by kernel_rfl
theorem ca13 : callOk prog 13 = true := by kernel_rfl
theorem ca47 : callOk prog 47 = true := by kernel_rfl
theorem ca9 : callOk prog 9 = true := by kernel_rfl
theorem ca10 : callOk prog 10 = true := by kernel_rfl
theorem ca23 : callOk prog 23 = true := by kernel_rfl
theorem ca28 : callOk prog 28 = true := by kernel_rfl
theorem ca39 : callOk prog 39 = true := by kernel_rfl
theorem ca30 : callOk prog 30 = true := by kernel_rfl
theorem ca15 : callOk prog 15 = true := by kernel_rfl
theorem ca14 : callOk prog 14 = true := by kernel_rfl
def api_Reset.bd (x : api_Reset) : Prop := inK .i64 x.Day ∧ inK .i64 x.Rate ∧ True
def api_Trade.bd (x : api_Trade) : Prop := inK .i64 x.ID ∧ inK .i64 x.Twin ∧ inK .i64 x.Member ∧ inK .i64 x.Side ∧ inK .i64 x.Basket ∧ inK .i64 x.Amount ∧ inK .i64 x.Start ∧ inK .i64 x.End ∧ (fun l : List api_Reset => l.length * 16 ≤ reach ∧ ∀ x ∈ l, api_Reset.bd x) x.Resets ∧ inK .i64 x.Stage ∧ (fun _ : Bool => True) x.Short ∧ True
end Go.Proofs.Ytknfdnlhadjbaaa
