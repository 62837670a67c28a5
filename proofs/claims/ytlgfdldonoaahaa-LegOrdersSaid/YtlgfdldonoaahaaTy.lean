/- Shows the types of the data that the printed functions speak of, and facts about the program's types: written by a program of the author's for this claim. -/
import Derived.Test.YtlgfdldonoaahaaProg
import Derived.Test.YtlgfdldonoaahaaPmS
namespace Go.Proofs.Ytlgfdldonoaahaa
open Go Go.Pm
noncomputable abbrev prog : Program := Try.prog
structure api_Lot where
  ISIN : Bs
  Qty : Int
instance : Inhabited api_Lot := ⟨⟨[], 0⟩⟩
def api_Lot.enc (x : api_Lot) : List T := [(.val (.string (tx x.ISIN))), (.val (.int .i64 x.Qty))]
abbrev api_Lot.av (x : api_Lot) : List AV := [.s x.ISIN, .i x.Qty]
theorem api_Lot.ok : EncOk api_Lot.enc 2 := ⟨fun _ => rfl, fun _ => rfl⟩
structure api_Leg where
  Day : Int
  Member : Int
  Trade : Int
  Cash : Int
  Lots : List api_Lot
instance : Inhabited api_Leg := ⟨⟨0, 0, 0, 0, []⟩⟩
def api_Leg.enc (x : api_Leg) : List T := [(.val (.int .i64 x.Day)), (.val (.int .i64 x.Member)), (.val (.int .i64 x.Trade)), (.val (.int .i64 x.Cash)), (.row 2 (List.map api_Lot.enc x.Lots))]
abbrev api_Leg.av (x : api_Leg) : List AV := [.i x.Day, .i x.Member, .i x.Trade, .i x.Cash, .imm (.row 2 (List.map api_Lot.enc x.Lots))]
theorem api_Leg.ok : EncOk api_Leg.enc 5 := ⟨fun _ => rfl, fun _ => rfl⟩
structure api_Reset where
  Day : Int
  Rate : Int
instance : Inhabited api_Reset := ⟨⟨0, 0⟩⟩
def api_Reset.enc (x : api_Reset) : List T := [(.val (.int .i64 x.Day)), (.val (.int .i64 x.Rate))]
abbrev api_Reset.av (x : api_Reset) : List AV := [.i x.Day, .i x.Rate]
theorem api_Reset.ok : EncOk api_Reset.enc 2 := ⟨fun _ => rfl, fun _ => rfl⟩
structure api_Trade where
  ID : Int
  Twin : Int
  Member : Int
  Side : Int
  Basket : Int
  Amount : Int
  Start : Int
  End : Int
  Resets : List api_Reset
  Stage : Int
  Short : Bool
instance : Inhabited api_Trade := ⟨⟨0, 0, 0, 0, 0, 0, 0, 0, [], 0, false⟩⟩
def api_Trade.enc (x : api_Trade) : List T := [(.val (.int .i64 x.ID)), (.val (.int .i64 x.Twin)), (.val (.int .i64 x.Member)), (.val (.int .i64 x.Side)), (.val (.int .i64 x.Basket)), (.val (.int .i64 x.Amount)), (.val (.int .i64 x.Start)), (.val (.int .i64 x.End)), (.row 2 (List.map api_Reset.enc x.Resets)), (.val (.int .i64 x.Stage)), (.val (.bool x.Short))]
abbrev api_Trade.av (x : api_Trade) : List AV := [.i x.ID, .i x.Twin, .i x.Member, .i x.Side, .i x.Basket, .i x.Amount, .i x.Start, .i x.End, .imm (.row 2 (List.map api_Reset.enc x.Resets)), .i x.Stage, .b x.Short]
theorem api_Trade.ok : EncOk api_Trade.enc 11 := ⟨fun _ => rfl, fun _ => rfl⟩
structure lombardref25_Covered where
  Trade : api_Trade
  Lots : List api_Lot
instance : Inhabited lombardref25_Covered := ⟨⟨(⟨0, 0, 0, 0, 0, 0, 0, 0, [], 0, false⟩ : api_Trade), []⟩⟩
def lombardref25_Covered.enc (x : lombardref25_Covered) : List T := [(.val (.int .i64 x.Trade.ID)), (.val (.int .i64 x.Trade.Twin)), (.val (.int .i64 x.Trade.Member)), (.val (.int .i64 x.Trade.Side)), (.val (.int .i64 x.Trade.Basket)), (.val (.int .i64 x.Trade.Amount)), (.val (.int .i64 x.Trade.Start)), (.val (.int .i64 x.Trade.End)), (.row 2 (List.map api_Reset.enc x.Trade.Resets)), (.val (.int .i64 x.Trade.Stage)), (.val (.bool x.Trade.Short)), (.row 2 (List.map api_Lot.enc x.Lots))]
abbrev lombardref25_Covered.av (x : lombardref25_Covered) : List AV := [.i x.Trade.ID, .i x.Trade.Twin, .i x.Trade.Member, .i x.Trade.Side, .i x.Trade.Basket, .i x.Trade.Amount, .i x.Trade.Start, .i x.Trade.End, .imm (.row 2 (List.map api_Reset.enc x.Trade.Resets)), .i x.Trade.Stage, .b x.Trade.Short, .imm (.row 2 (List.map api_Lot.enc x.Lots))]
theorem lombardref25_Covered.ok : EncOk lombardref25_Covered.enc 12 := ⟨fun _ => rfl, fun _ => rfl⟩
structure leg_Covered where
  Trade : api_Trade
  Lots : List api_Lot
instance : Inhabited leg_Covered := ⟨⟨(⟨0, 0, 0, 0, 0, 0, 0, 0, [], 0, false⟩ : api_Trade), []⟩⟩
def leg_Covered.enc (x : leg_Covered) : List T := [(.val (.int .i64 x.Trade.ID)), (.val (.int .i64 x.Trade.Twin)), (.val (.int .i64 x.Trade.Member)), (.val (.int .i64 x.Trade.Side)), (.val (.int .i64 x.Trade.Basket)), (.val (.int .i64 x.Trade.Amount)), (.val (.int .i64 x.Trade.Start)), (.val (.int .i64 x.Trade.End)), (.row 2 (List.map api_Reset.enc x.Trade.Resets)), (.val (.int .i64 x.Trade.Stage)), (.val (.bool x.Trade.Short)), (.row 2 (List.map api_Lot.enc x.Lots))]
abbrev leg_Covered.av (x : leg_Covered) : List AV := [.i x.Trade.ID, .i x.Trade.Twin, .i x.Trade.Member, .i x.Trade.Side, .i x.Trade.Basket, .i x.Trade.Amount, .i x.Trade.Start, .i x.Trade.End, .imm (.row 2 (List.map api_Reset.enc x.Trade.Resets)), .i x.Trade.Stage, .b x.Trade.Short, .imm (.row 2 (List.map api_Lot.enc x.Lots))]
theorem leg_Covered.ok : EncOk leg_Covered.enc 12 := ⟨fun _ => rfl, fun _ => rfl⟩
structure api_Fill where
  Lender : Int
  Borrower : Int
  Basket : Int
  Amount : Int
  Rate : Int
  Start : Int
  End : Int
instance : Inhabited api_Fill := ⟨⟨0, 0, 0, 0, 0, 0, 0⟩⟩
def api_Fill.enc (x : api_Fill) : List T := [(.val (.int .i64 x.Lender)), (.val (.int .i64 x.Borrower)), (.val (.int .i64 x.Basket)), (.val (.int .i64 x.Amount)), (.val (.int .i64 x.Rate)), (.val (.int .i64 x.Start)), (.val (.int .i64 x.End))]
abbrev api_Fill.av (x : api_Fill) : List AV := [.i x.Lender, .i x.Borrower, .i x.Basket, .i x.Amount, .i x.Rate, .i x.Start, .i x.End]
theorem api_Fill.ok : EncOk api_Fill.enc 7 := ⟨fun _ => rfl, fun _ => rfl⟩
structure accrue_Meter where
  Units : Int
  Rest : Int
instance : Inhabited accrue_Meter := ⟨⟨0, 0⟩⟩
def accrue_Meter.enc (x : accrue_Meter) : List T := [(.val (.int .i64 x.Units)), (.val (.int .i64 x.Rest))]
abbrev accrue_Meter.av (x : accrue_Meter) : List AV := [.i x.Units, .i x.Rest]
theorem accrue_Meter.ok : EncOk accrue_Meter.enc 2 := ⟨fun _ => rfl, fun _ => rfl⟩
structure fixnum_Wide where
  Hi : Int
  Lo : Int
instance : Inhabited fixnum_Wide := ⟨⟨0, 0⟩⟩
def fixnum_Wide.enc (x : fixnum_Wide) : List T := [(.val (.int .u64 x.Hi)), (.val (.int .u64 x.Lo))]
abbrev fixnum_Wide.av (x : fixnum_Wide) : List AV := [.imm (.val (.int .u64 x.Hi)), .imm (.val (.int .u64 x.Lo))]
theorem fixnum_Wide.ok : EncOk fixnum_Wide.enc 2 := ⟨fun _ => rfl, fun _ => rfl⟩
theorem sl45 : SlT prog 45 31 5 56 [.int .i64 0, .int .i64 0, .int .i64 0, .int .i64 0, .slice none 0 0] := ⟨by kernel_rfl, by kernel_rfl, rfl, by decide⟩
theorem fld31_4 : fieldB prog 31 4 4 = true := by kernel_rfl
theorem ty25 : tyV prog 25 = some (false, 1) := by kernel_rfl
theorem sl25 : SlT prog 25 44 2 24 [.string (tx []), .int .i64 0] := ⟨by kernel_rfl, by kernel_rfl, rfl, by decide⟩
theorem fld31_3 : fieldB prog 31 3 3 = true := by kernel_rfl
theorem ty3 : tyV prog 3 = some (false, 1) := by kernel_rfl
theorem z27 : (prog.info? 27).map (fun i => i.zero.map (·.cells.toList)) = some (some [.int .i64 0, .int .i64 0, .int .i64 0, .int .i64 0, .int .i64 0, .int .i64 0, .int .i64 0, .int .i64 0, .slice none 0 0, .int .i64 0, .bool false, .slice none 0 0]) := by kernel_rfl
theorem bl75 : placesB prog 75 = some ([.int .i64 0, .int .i64 0], [(0, 1), (1, 1)]) := by kernel_rfl
theorem sl22 : SlT prog 22 75 2 16 [.int .i64 0, .int .i64 0] := ⟨by kernel_rfl, by kernel_rfl, rfl, by decide⟩
theorem bl24 : placesB prog 24 = some ([.int .i64 0, .int .i64 0, .int .i64 0, .int .i64 0, .int .i64 0, .int .i64 0, .int .i64 0, .int .i64 0, .slice none 0 0, .int .i64 0, .bool false], [(0, 1), (1, 1), (2, 1), (3, 1), (4, 1), (5, 1), (6, 1), (7, 1), (8, 1), (9, 1), (10, 1)]) := by kernel_rfl
theorem bl44 : placesB prog 44 = some ([.string (tx []), .int .i64 0], [(0, 1), (1, 1)]) := by kernel_rfl
theorem bl27 : placesB prog 27 = some ([.int .i64 0, .int .i64 0, .int .i64 0, .int .i64 0, .int .i64 0, .int .i64 0, .int .i64 0, .int .i64 0, .slice none 0 0, .int .i64 0, .bool false, .slice none 0 0], [(0, 11), (11, 1)]) := by kernel_rfl
theorem ty27 : tyV prog 27 = some (true, 12) := by kernel_rfl
theorem z34 : (prog.info? 34).map (fun i => i.zero.map (·.cells.toList)) = some (some [.int .i64 0, .int .i64 0, .int .i64 0, .int .i64 0, .int .i64 0, .int .i64 0, .int .i64 0, .int .i64 0, .slice none 0 0, .int .i64 0, .bool false, .slice none 0 0]) := by kernel_rfl
theorem fld27_0 : fieldB prog 27 0 0 = true := by kernel_rfl
theorem ty24 : tyV prog 24 = some (true, 11) := by kernel_rfl
theorem fld27_1 : fieldB prog 27 1 11 = true := by kernel_rfl
theorem bl34 : placesB prog 34 = some ([.int .i64 0, .int .i64 0, .int .i64 0, .int .i64 0, .int .i64 0, .int .i64 0, .int .i64 0, .int .i64 0, .slice none 0 0, .int .i64 0, .bool false, .slice none 0 0], [(0, 11), (11, 1)]) := by kernel_rfl
theorem ty34 : tyV prog 34 = some (true, 12) := by kernel_rfl
theorem z31 : (prog.info? 31).map (fun i => i.zero.map (·.cells.toList)) = some (some [.int .i64 0, .int .i64 0, .int .i64 0, .int .i64 0, .slice none 0 0]) := by kernel_rfl
theorem fld34_0 : fieldB prog 34 0 0 = true := by kernel_rfl
theorem fld24_0 : fieldB prog 24 0 0 = true := by kernel_rfl
theorem fld24_1 : fieldB prog 24 1 1 = true := by kernel_rfl
theorem fld24_3 : fieldB prog 24 3 3 = true := by kernel_rfl
theorem fld24_9 : fieldB prog 24 9 9 = true := by kernel_rfl
theorem fld24_8 : fieldB prog 24 8 8 = true := by kernel_rfl
theorem ty22 : tyV prog 22 = some (false, 1) := by kernel_rfl
theorem ty75 : tyV prog 75 = some (true, 2) := by kernel_rfl
theorem z75 : (prog.info? 75).map (fun i => i.zero.map (·.cells.toList)) = some (some [.int .i64 0, .int .i64 0]) := by kernel_rfl
theorem fld75_0 : fieldB prog 75 0 0 = true := by kernel_rfl
theorem fld75_1 : fieldB prog 75 1 1 = true := by kernel_rfl
theorem ca44 : callOk prog 44 = true := by kernel_rfl
theorem fld24_6 : fieldB prog 24 6 6 = true := by kernel_rfl
theorem fld24_2 : fieldB prog 24 2 2 = true := by kernel_rfl
theorem fld24_4 : fieldB prog 24 4 4 = true := by kernel_rfl
theorem fld24_5 : fieldB prog 24 5 5 = true := by kernel_rfl
theorem fld24_7 : fieldB prog 24 7 7 = true := by kernel_rfl
theorem bl89 : placesB prog 89 = some ([.int .i64 0, .int .i64 0, .int .i64 0, .int .i64 0, .int .i64 0, .int .i64 0, .int .i64 0], [(0, 1), (1, 1), (2, 1), (3, 1), (4, 1), (5, 1), (6, 1)]) := by kernel_rfl
theorem z89 : (prog.info? 89).map (fun i => i.zero.map (·.cells.toList)) = some (some [.int .i64 0, .int .i64 0, .int .i64 0, .int .i64 0, .int .i64 0, .int .i64 0, .int .i64 0]) := by kernel_rfl
theorem ty89 : tyV prog 89 = some (true, 7) := by kernel_rfl
theorem fld89_0 : fieldB prog 89 0 0 = true := by kernel_rfl
theorem fld89_1 : fieldB prog 89 1 1 = true := by kernel_rfl
theorem fld89_2 : fieldB prog 89 2 2 = true := by kernel_rfl
theorem fld89_3 : fieldB prog 89 3 3 = true := by kernel_rfl
theorem fld89_4 : fieldB prog 89 4 4 = true := by kernel_rfl
theorem fld89_5 : fieldB prog 89 5 5 = true := by kernel_rfl
theorem fld89_6 : fieldB prog 89 6 6 = true := by kernel_rfl
theorem ca79 : callOk prog 79 = true := by kernel_rfl
theorem ca62 : callOk prog 62 = true := by kernel_rfl
theorem ca63 : callOk prog 63 = true := by kernel_rfl
theorem fld34_1 : fieldB prog 34 1 11 = true := by kernel_rfl
theorem ty44 : tyV prog 44 = some (true, 2) := by kernel_rfl
theorem z44 : (prog.info? 44).map (fun i => i.zero.map (·.cells.toList)) = some (some [.string (tx []), .int .i64 0]) := by kernel_rfl
theorem fld44_1 : fieldB prog 44 1 1 = true := by kernel_rfl
theorem fld44_0 : fieldB prog 44 0 0 = true := by kernel_rfl
theorem ty9 : tyV prog 9 = some (false, 1) := by kernel_rfl
theorem ca48 : callOk prog 48 = true := by kernel_rfl
theorem ca49 : callOk prog 49 = true := by kernel_rfl
theorem bl31 : placesB prog 31 = some ([.int .i64 0, .int .i64 0, .int .i64 0, .int .i64 0, .slice none 0 0], [(0, 1), (1, 1), (2, 1), (3, 1), (4, 1)]) := by kernel_rfl
theorem ty31 : tyV prog 31 = some (true, 5) := by kernel_rfl
theorem ca50 : callOk prog 50 = true := by kernel_rfl
theorem ca27 : callOk prog 27 = true := by kernel_rfl
theorem ca29 : callOk prog 29 = true := by kernel_rfl
theorem ca28 : callOk prog 28 = true := by kernel_rfl
theorem ca32 : callOk prog 32 = true := by kernel_rfl
theorem z109 : (prog.info? 109).map (fun i => i.zero.map (·.cells.toList)) = some (some [.int .i64 0, .int .i64 0]) := by kernel_rfl
theorem bl109 : placesB prog 109 = some ([.int .i64 0, .int .i64 0], [(0, 1), (1, 1)]) := by kernel_rfl
theorem ty109 : tyV prog 109 = some (true, 2) := by kernel_rfl
theorem h3 : (prog.underlying 3).isSome = true := by kernel_rfl
theorem u113 : prog.underlying 113 = some (.int .u64) := by kernel_rfl
theorem h113 : (prog.underlying 113).isSome = true := by kernel_rfl
theorem u3 : prog.underlying 3 = some (.int .i64) := by kernel_rfl
theorem ca60 : callOk prog 60 = true := by kernel_rfl
theorem ca42 : callOk prog 42 = true := by kernel_rfl
theorem ca88 : callOk prog 88 = true := by kernel_rfl
theorem ca87 : callOk prog 87 = true := by kernel_rfl
theorem fld109_1 : fieldB prog 109 1 1 = true := by kernel_rfl
theorem u102 : prog.underlying 102 = some (.int .u64) := by kernel_rfl
theorem u4 : prog.underlying 4 = some .bool := by kernel_rfl
theorem z122 : (prog.info? 122).map (fun i => i.zero.map (·.cells.toList)) = some (some [.int .u64 0, .int .u64 0]) := by kernel_rfl
theorem bl122 : placesB prog 122 = some ([.int .u64 0, .int .u64 0], [(0, 1), (1, 1)]) := by kernel_rfl
theorem ty122 : tyV prog 122 = some (true, 2) := by kernel_rfl
theorem fld122_0 : fieldB prog 122 0 0 = true := by kernel_rfl
theorem ty102 : tyV prog 102 = some (false, 1) := by kernel_rfl
theorem fld122_1 : fieldB prog 122 1 1 = true := by kernel_rfl
theorem h102 : (prog.underlying 102).isSome = true := by kernel_rfl
theorem ca93 : callOk prog 93 = true := by kernel_rfl
theorem ca91 : callOk prog 91 = true := by kernel_rfl
theorem ca92 : callOk prog 92 = true := by kernel_rfl
theorem ca94 : callOk prog 94 = true := by kernel_rfl
theorem ca95 : callOk prog 95 = true := by kernel_rfl
theorem fld109_0 : fieldB prog 109 0 0 = true := by kernel_rfl
theorem ca89 : callOk prog 89 = true := by kernel_rfl
theorem ca90 : callOk prog 90 = true := by kernel_rfl
theorem ca54 : callOk prog 54 = true := by kernel_rfl
theorem ca84 : callOk prog 84 = true := by kernel_rfl
theorem ca85 : callOk prog 85 = true := by kernel_rfl
theorem ca80 : callOk prog 80 = true := by kernel_rfl
theorem ca68 : callOk prog 68 = true := by kernel_rfl
theorem ca67 : callOk prog 67 = true := by kernel_rfl
theorem ca53 : callOk prog 53 = true := by kernel_rfl
theorem ca33 : callOk prog 33 = true := by kernel_rfl
theorem fld31_0 : fieldB prog 31 0 0 = true := by kernel_rfl
theorem fld31_1 : fieldB prog 31 1 1 = true := by kernel_rfl
theorem fld31_2 : fieldB prog 31 2 2 = true := by kernel_rfl
theorem fl44 : flatT prog 44 = some [.s, .i] := by kernel_rfl
theorem ca35 : callOk prog 35 = true := by kernel_rfl
theorem ca26 : callOk prog 26 = true := by kernel_rfl
theorem ca10 : callOk prog 10 = true := by kernel_rfl
theorem ca11 : callOk prog 11 = true := by kernel_rfl
theorem ca13 : callOk prog 13 = true := by kernel_rfl
theorem ca15 : callOk prog 15 = true := by kernel_rfl
theorem sl86 : SlT prog 86 3 1 8 [.int .i64 0] := ⟨by kernel_rfl, by kernel_rfl, rfl, by decide⟩
theorem ca41 : callOk prog 41 = true := by kernel_rfl
theorem ca40 : callOk prog 40 = true := by kernel_rfl
theorem ca86 : callOk prog 86 = true := by kernel_rfl
theorem ca83 : callOk prog 83 = true := by kernel_rfl
theorem ca78 : callOk prog 78 = true := by kernel_rfl
theorem ca77 : callOk prog 77 = true := by kernel_rfl
theorem ca59 : callOk prog 59 = true := by kernel_rfl
theorem ca38 : callOk prog 38 = true := by kernel_rfl
theorem ca39 : callOk prog 39 = true := by kernel_rfl
theorem ca43 : callOk prog 43 = true := by kernel_rfl
theorem ca9 : callOk prog 9 = true := by kernel_rfl
theorem ca19 : callOk prog 19 = true := by kernel_rfl
theorem ca20 : callOk prog 20 = true := by kernel_rfl
theorem ca18 : callOk prog 18 = true := by kernel_rfl
theorem ca21 : callOk prog 21 = true := by kernel_rfl
theorem ca16 : callOk prog 16 = true := by kernel_rfl
theorem sl49 : SlT prog 49 27 12 128 [.int .i64 0, .int .i64 0, .int .i64 0, .int .i64 0, .int .i64 0, .int .i64 0, .int .i64 0, .int .i64 0, .slice none 0 0, .int .i64 0, .bool false, .slice none 0 0] := ⟨by kernel_rfl, by kernel_rfl, rfl, by decide⟩
theorem sl50 : SlT prog 50 34 12 128 [.int .i64 0, .int .i64 0, .int .i64 0, .int .i64 0, .int .i64 0, .int .i64 0, .int .i64 0, .int .i64 0, .slice none 0 0, .int .i64 0, .bool false, .slice none 0 0] := ⟨by kernel_rfl, by kernel_rfl, rfl, by decide⟩
theorem ca61 : callOk prog 61 = true := by kernel_rfl
theorem ca45 : callOk prog 45 = true := by kernel_rfl
theorem ca46 : callOk prog 46 = true := by kernel_rfl
theorem z24 : (prog.info? 24).map (fun i => i.zero.map (·.cells.toList)) = some (some [.int .i64 0, .int .i64 0, .int .i64 0, .int .i64 0, .int .i64 0, .int .i64 0, .int .i64 0, .int .i64 0, .slice none 0 0, .int .i64 0, .bool false]) := by kernel_rfl
theorem ca36 : callOk prog 36 = true := by kernel_rfl
theorem ca69 : callOk prog 69 = true := by kernel_rfl
theorem ca64 : callOk prog 64 = true := by kernel_rfl
theorem ca56 : callOk prog 56 = true := by kernel_rfl
theorem ca65 : callOk prog 65 = true := by kernel_rfl
theorem ca66 : callOk prog 66 = true := by kernel_rfl
theorem ca51 : callOk prog 51 = true := by kernel_rfl
theorem ca52 : callOk prog 52 = true := by kernel_rfl
theorem ca30 : callOk prog 30 = true := by kernel_rfl
theorem ca31 : callOk prog 31 = true := by kernel_rfl
theorem sl96 : SlT prog 96 102 1 8 [.int .u64 0] := ⟨by kernel_rfl, by kernel_rfl, rfl, by decide⟩
theorem ca75 : callOk prog 75 = true := by kernel_rfl
theorem ca81 : callOk prog 81 = true := by kernel_rfl
theorem ca71 : callOk prog 71 = true := by kernel_rfl
theorem ca73 : callOk prog 73 = true := by kernel_rfl
theorem ca82 : callOk prog 82 = true := by kernel_rfl
theorem ca72 : callOk prog 72 = true := by kernel_rfl
theorem ca70 : callOk prog 70 = true := by kernel_rfl
theorem ca74 : callOk prog 74 = true := by kernel_rfl
theorem ca76 : callOk prog 76 = true := by kernel_rfl
theorem ca57 : callOk prog 57 = true := by kernel_rfl
theorem ca58 : callOk prog 58 = true := by kernel_rfl
theorem ca37 : callOk prog 37 = true := by kernel_rfl
theorem ca17 : callOk prog 17 = true := by kernel_rfl
theorem ca55 : callOk prog 55 = true := by kernel_rfl
theorem ca34 : callOk prog 34 = true := by kernel_rfl
theorem ca12 : callOk prog 12 = true := by kernel_rfl
theorem ca47 : callOk prog 47 = true := by kernel_rfl
theorem ca14 : callOk prog 14 = true := by kernel_rfl
theorem ca8 : callOk prog 8 = true := by kernel_rfl
theorem ca22 : callOk prog 22 = true := by kernel_rfl
theorem ca23 : callOk prog 23 = true := by kernel_rfl
theorem ca24 : callOk prog 24 = true := by kernel_rfl
theorem ca25 : callOk prog 25 = true := by kernel_rfl
def api_Lot.bd (x : api_Lot) : Prop := (fun s : Bs => s.length ≤ reach) x.ISIN ∧ inK .i64 x.Qty ∧ True
def api_Leg.bd (x : api_Leg) : Prop := inK .i64 x.Day ∧ inK .i64 x.Member ∧ inK .i64 x.Trade ∧ inK .i64 x.Cash ∧ (fun l : List api_Lot => l.length * 24 ≤ reach ∧ ∀ x ∈ l, api_Lot.bd x) x.Lots ∧ True
def api_Reset.bd (x : api_Reset) : Prop := inK .i64 x.Day ∧ inK .i64 x.Rate ∧ True
def api_Trade.bd (x : api_Trade) : Prop := inK .i64 x.ID ∧ inK .i64 x.Twin ∧ inK .i64 x.Member ∧ inK .i64 x.Side ∧ inK .i64 x.Basket ∧ inK .i64 x.Amount ∧ inK .i64 x.Start ∧ inK .i64 x.End ∧ (fun l : List api_Reset => l.length * 16 ≤ reach ∧ ∀ x ∈ l, api_Reset.bd x) x.Resets ∧ inK .i64 x.Stage ∧ (fun _ : Bool => True) x.Short ∧ True
def lombardref25_Covered.bd (x : lombardref25_Covered) : Prop := api_Trade.bd x.Trade ∧ (fun l : List api_Lot => l.length * 24 ≤ reach ∧ ∀ x ∈ l, api_Lot.bd x) x.Lots ∧ True
end Go.Proofs.Ytlgfdldonoaahaa
