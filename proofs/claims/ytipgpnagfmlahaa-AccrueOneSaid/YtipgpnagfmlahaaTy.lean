/- Shows the types of the data that the printed functions speak of, and facts about the program's types: written by a program of the author's for this claim. -/
import Derived.Test.YtipgpnagfmlahaaProg
import Derived.Test.YtipgpnagfmlahaaPmS
namespace Go.Proofs.Ytipgpnagfmlahaa
open Go Go.Pm
noncomputable abbrev prog : Program := Try.prog
structure fixnum_Wide where
  Hi : Int
  Lo : Int
instance : Inhabited fixnum_Wide := ⟨⟨0, 0⟩⟩
def fixnum_Wide.enc (x : fixnum_Wide) : List T := [(.val (.int .u64 x.Hi)), (.val (.int .u64 x.Lo))]
theorem fixnum_Wide.ok : EncOk fixnum_Wide.enc 2 := ⟨fun _ => rfl, fun _ => rfl⟩
structure accrue_Meter where
  Units : Int
  Rest : Int
instance : Inhabited accrue_Meter := ⟨⟨0, 0⟩⟩
def accrue_Meter.enc (x : accrue_Meter) : List T := [(.val (.int .i64 x.Units)), (.val (.int .i64 x.Rest))]
theorem accrue_Meter.ok : EncOk accrue_Meter.enc 2 := ⟨fun _ => rfl, fun _ => rfl⟩
structure lombardref03_Meter where
  Units : Int
  Rest : Int
instance : Inhabited lombardref03_Meter := ⟨⟨0, 0⟩⟩
def lombardref03_Meter.enc (x : lombardref03_Meter) : List T := [(.val (.int .i64 x.Units)), (.val (.int .i64 x.Rest))]
theorem lombardref03_Meter.ok : EncOk lombardref03_Meter.enc 2 := ⟨fun _ => rfl, fun _ => rfl⟩
structure api_Reset where
  Day : Int
  Rate : Int
instance : Inhabited api_Reset := ⟨⟨0, 0⟩⟩
def api_Reset.enc (x : api_Reset) : List T := [(.val (.int .i64 x.Day)), (.val (.int .i64 x.Rate))]
theorem api_Reset.ok : EncOk api_Reset.enc 2 := ⟨fun _ => rfl, fun _ => rfl⟩
theorem h3 : (prog.underlying 3).isSome = true := by kernel_rfl
theorem u57 : prog.underlying 57 = some (.int .u64) := by kernel_rfl
theorem u4 : prog.underlying 4 = some .bool := by kernel_rfl
theorem z59 : (prog.info? 59).map (fun i => i.zero.map (·.cells.toList)) = some (some [.int .u64 0, .int .u64 0]) := by kernel_rfl
theorem bl59 : placesB prog 59 = some ([.int .u64 0, .int .u64 0], [(0, 1), (1, 1)]) := by kernel_rfl
theorem ty59 : tyV prog 59 = some (true, 2) := by kernel_rfl
theorem fld59_0 : fieldB prog 59 0 0 = true := by kernel_rfl
theorem ty57 : tyV prog 57 = some (false, 1) := by kernel_rfl
theorem fld59_1 : fieldB prog 59 1 1 = true := by kernel_rfl
theorem u82 : prog.underlying 82 = some (.int .u64) := by kernel_rfl
theorem h57 : (prog.underlying 57).isSome = true := by kernel_rfl
theorem u3 : prog.underlying 3 = some (.int .i64) := by kernel_rfl
theorem ca46 : callOk prog 46 = true := by kernel_rfl
theorem ca30 : callOk prog 30 = true := by kernel_rfl
theorem ca31 : callOk prog 31 = true := by kernel_rfl
theorem ca47 : callOk prog 47 = true := by kernel_rfl
theorem ca48 : callOk prog 48 = true := by kernel_rfl
theorem ca26 : callOk prog 26 = true := by kernel_rfl
theorem ca27 : callOk prog 27 = true := by kernel_rfl
theorem sl66 : SlT prog 66 57 1 8 [.int .u64 0] := ⟨by kernel_rfl, by kernel_rfl, rfl, by decide⟩
theorem ca39 : callOk prog 39 = true := by kernel_rfl
theorem ca49 : callOk prog 49 = true := by kernel_rfl
theorem ca35 : callOk prog 35 = true := by kernel_rfl
theorem ca37 : callOk prog 37 = true := by kernel_rfl
theorem ca50 : callOk prog 50 = true := by kernel_rfl
theorem ca36 : callOk prog 36 = true := by kernel_rfl
theorem ca34 : callOk prog 34 = true := by kernel_rfl
theorem ca38 : callOk prog 38 = true := by kernel_rfl
theorem ca40 : callOk prog 40 = true := by kernel_rfl
theorem ca28 : callOk prog 28 = true := by kernel_rfl
theorem ca29 : callOk prog 29 = true := by kernel_rfl
theorem ca17 : callOk prog 17 = true := by kernel_rfl
theorem bl31 : placesB prog 31 = some ([.int .i64 0, .int .i64 0], [(0, 1), (1, 1)]) := by kernel_rfl
theorem z31 : (prog.info? 31).map (fun i => i.zero.map (·.cells.toList)) = some (some [.int .i64 0, .int .i64 0]) := by kernel_rfl
theorem ty31 : tyV prog 31 = some (true, 2) := by kernel_rfl
theorem fld31_1 : fieldB prog 31 1 1 = true := by kernel_rfl
theorem ty3 : tyV prog 3 = some (false, 1) := by kernel_rfl
theorem fld31_0 : fieldB prog 31 0 0 = true := by kernel_rfl
theorem ca32 : callOk prog 32 = true := by kernel_rfl
theorem ca13 : callOk prog 13 = true := by kernel_rfl
theorem fl31 : flatT prog 31 = some [.i, .i] := by kernel_rfl
theorem ca10 : callOk prog 10 = true := by kernel_rfl
theorem ca15 : callOk prog 15 = true := by kernel_rfl
theorem ca11 : callOk prog 11 = true := by kernel_rfl
theorem ca12 : callOk prog 12 = true := by kernel_rfl
theorem fld30_0 : fieldB prog 30 0 0 = true := by kernel_rfl
theorem fld30_1 : fieldB prog 30 1 1 = true := by kernel_rfl
theorem ty30 : tyV prog 30 = some (true, 2) := by kernel_rfl
theorem z30 : (prog.info? 30).map (fun i => i.zero.map (·.cells.toList)) = some (some [.int .i64 0, .int .i64 0]) := by kernel_rfl
theorem bl30 : placesB prog 30 = some ([.int .i64 0, .int .i64 0], [(0, 1), (1, 1)]) := by kernel_rfl
theorem ca33 : callOk prog 33 = true := by kernel_rfl
theorem ca14 : callOk prog 14 = true := by kernel_rfl
theorem ca16 : callOk prog 16 = true := by kernel_rfl
theorem sl40 : SlT prog 40 50 2 16 [.int .i64 0, .int .i64 0] := ⟨by kernel_rfl, by kernel_rfl, rfl, by decide⟩
theorem ty50 : tyV prog 50 = some (true, 2) := by kernel_rfl
theorem z50 : (prog.info? 50).map (fun i => i.zero.map (·.cells.toList)) = some (some [.int .i64 0, .int .i64 0]) := by kernel_rfl
theorem fld50_0 : fieldB prog 50 0 0 = true := by kernel_rfl
theorem fld50_1 : fieldB prog 50 1 1 = true := by kernel_rfl
theorem ca41 : callOk prog 41 = true := by kernel_rfl
theorem ca42 : callOk prog 42 = true := by kernel_rfl
theorem h82 : (prog.underlying 82).isSome = true := by kernel_rfl
theorem ca51 : callOk prog 51 = true := by kernel_rfl
theorem ca45 : callOk prog 45 = true := by kernel_rfl
theorem ca44 : callOk prog 44 = true := by kernel_rfl
theorem ca43 : callOk prog 43 = true := by kernel_rfl
theorem ca18 : callOk prog 18 = true := by kernel_rfl
theorem ca19 : callOk prog 19 = true := by kernel_rfl
theorem ca20 : callOk prog 20 = true := by kernel_rfl
theorem ca21 : callOk prog 21 = true := by kernel_rfl
theorem ca22 : callOk prog 22 = true := by kernel_rfl
theorem bl50 : placesB prog 50 = some ([.int .i64 0, .int .i64 0], [(0, 1), (1, 1)]) := by kernel_rfl
theorem ca23 : callOk prog 23 = true := by kernel_rfl
theorem ca24 : callOk prog 24 = true := by kernel_rfl
theorem ca25 : callOk prog 25 = true := by kernel_rfl
def lombardref03_Meter.bd (x : lombardref03_Meter) : Prop := inK .i64 x.Units ∧ inK .i64 x.Rest ∧ True
def api_Reset.bd (x : api_Reset) : Prop := inK .i64 x.Day ∧ inK .i64 x.Rate ∧ True
end Go.Proofs.Ytipgpnagfmlahaa
