/- Shows the types of the data that the printed functions speak of, and facts about the program's types: written by a program of the author's for this claim. -/
import Derived.Test.YtoongmdkndbppaaProg
import Derived.Test.YtoongmdkndbppaaPmS
namespace Go.Proofs.Ytoongmdkndbppaa
open Go Go.Pm
noncomputable abbrev prog : Program := Try.prog
structure lombardlaw09_Item where
  Kind : Int
  U : Int
  N : Int
  Text : Bs
  OK : Bool
  L : List Int
instance : Inhabited lombardlaw09_Item := ⟨⟨0, 0, 0, [], false, []⟩⟩
def lombardlaw09_Item.enc (x : lombardlaw09_Item) : List T := [(.val (.int .i64 x.Kind)), (.val (.int .u64 x.U)), (.val (.int .i64 x.N)), (.val (.string (tx x.Text))), (.val (.bool x.OK)), (.row 1 (List.map (encI .i64) x.L))]
theorem lombardlaw09_Item.ok : EncOk lombardlaw09_Item.enc 6 := ⟨fun _ => rfl, fun _ => rfl⟩
structure wire_Writer where
  b : List Int
instance : Inhabited wire_Writer := ⟨⟨[]⟩⟩
def wire_Writer.enc (x : wire_Writer) : List T := [(.row 1 (List.map (encI .u8) x.b))]
theorem wire_Writer.ok : EncOk wire_Writer.enc 1 := ⟨fun _ => rfl, fun _ => rfl⟩
structure wire_Reader where
  s : Bs
  at' : Int
  e : Int
instance : Inhabited wire_Reader := ⟨⟨[], 0, 0⟩⟩
def wire_Reader.enc (x : wire_Reader) : List T := [(.val (.string (tx x.s))), (.val (.int .i64 x.at')), (.val (.int .i64 x.e))]
theorem wire_Reader.ok : EncOk wire_Reader.enc 3 := ⟨fun _ => rfl, fun _ => rfl⟩
structure lombardref09_Reader where
  S : Bs
  At : Int
  E : Int
instance : Inhabited lombardref09_Reader := ⟨⟨[], 0, 0⟩⟩
def lombardref09_Reader.enc (x : lombardref09_Reader) : List T := [(.val (.string (tx x.S))), (.val (.int .i64 x.At)), (.val (.int .i64 x.E))]
theorem lombardref09_Reader.ok : EncOk lombardref09_Reader.enc 3 := ⟨fun _ => rfl, fun _ => rfl⟩
theorem sl22 : SlT prog 22 28 6 72 [.int .i64 0, .int .u64 0, .int .i64 0, .string (tx []), .bool false, .slice none 0 0] := ⟨by kernel_rfl, by kernel_rfl, rfl, by decide⟩
theorem fld28_3 : fieldB prog 28 3 3 = true := by kernel_rfl
theorem ty9 : tyV prog 9 = some (false, 1) := by kernel_rfl
theorem u9 : prog.underlying 9 = some .string := by kernel_rfl
theorem fld28_5 : fieldB prog 28 5 5 = true := by kernel_rfl
theorem ty26 : tyV prog 26 = some (false, 1) := by kernel_rfl
theorem sl26 : SlT prog 26 3 1 8 [.int .i64 0] := ⟨by kernel_rfl, by kernel_rfl, rfl, by decide⟩
theorem bl28 : placesB prog 28 = some ([.int .i64 0, .int .u64 0, .int .i64 0, .string (tx []), .bool false, .slice none 0 0], [(0, 1), (1, 1), (2, 1), (3, 1), (4, 1), (5, 1)]) := by kernel_rfl
theorem z43 : (prog.info? 43).map (fun i => i.zero.map (·.cells.toList)) = some (some [.slice none 0 0]) := by kernel_rfl
theorem ty28 : tyV prog 28 = some (true, 6) := by kernel_rfl
theorem z28 : (prog.info? 28).map (fun i => i.zero.map (·.cells.toList)) = some (some [.int .i64 0, .int .u64 0, .int .i64 0, .string (tx []), .bool false, .slice none 0 0]) := by kernel_rfl
theorem fld28_0 : fieldB prog 28 0 0 = true := by kernel_rfl
theorem ty3 : tyV prog 3 = some (false, 1) := by kernel_rfl
theorem fld28_1 : fieldB prog 28 1 1 = true := by kernel_rfl
theorem ty25 : tyV prog 25 = some (false, 1) := by kernel_rfl
theorem h3 : (prog.underlying 3).isSome = true := by kernel_rfl
theorem u64 : prog.underlying 64 = some (.int .u64) := by kernel_rfl
theorem fld43_0 : fieldB prog 43 0 0 = true := by kernel_rfl
theorem ty41 : tyV prog 41 = some (false, 1) := by kernel_rfl
theorem h25 : (prog.underlying 25).isSome = true := by kernel_rfl
theorem u5 : prog.underlying 5 = some (.int .u8) := by kernel_rfl
theorem sl41 : SlT prog 41 5 1 1 [.int .u8 0] := ⟨by kernel_rfl, by kernel_rfl, rfl, by decide⟩
theorem fld28_2 : fieldB prog 28 2 2 = true := by kernel_rfl
theorem u25 : prog.underlying 25 = some (.int .u64) := by kernel_rfl
theorem ca19 : callOk prog 19 = true := by kernel_rfl
theorem fld28_4 : fieldB prog 28 4 4 = true := by kernel_rfl
theorem ty4 : tyV prog 4 = some (false, 1) := by kernel_rfl
theorem ca31 : callOk prog 31 = true := by kernel_rfl
theorem ca32 : callOk prog 32 = true := by kernel_rfl
theorem ca33 : callOk prog 33 = true := by kernel_rfl
theorem ca34 : callOk prog 34 = true := by kernel_rfl
theorem ca20 : callOk prog 20 = true := by kernel_rfl
theorem ca14 : callOk prog 14 = true := by kernel_rfl
theorem ca30 : callOk prog 30 = true := by kernel_rfl
theorem ca9 : callOk prog 9 = true := by kernel_rfl
theorem ca10 : callOk prog 10 = true := by kernel_rfl
theorem ca7 : callOk prog 7 = true := by kernel_rfl
theorem ca8 : callOk prog 8 = true := by kernel_rfl
theorem ca11 : callOk prog 11 = true := by kernel_rfl
theorem ca12 : callOk prog 12 = true := by kernel_rfl
theorem ca13 : callOk prog 13 = true := by kernel_rfl
theorem bl63 : placesB prog 63 = some ([.string (tx []), .int .i64 0, .int .i64 0], [(0, 1), (1, 1), (2, 1)]) := by kernel_rfl
theorem u35 : prog.underlying 35 = some (.pointer (prog.pointee 35)) := by kernel_rfl
theorem fld63_2 : fieldB prog 63 2 2 = true := by kernel_rfl
theorem ty38 : tyV prog 38 = some (false, 1) := by kernel_rfl
theorem fld63_1 : fieldB prog 63 1 1 = true := by kernel_rfl
theorem fld63_0 : fieldB prog 63 0 0 = true := by kernel_rfl
theorem h5 : (prog.underlying 5).isSome = true := by kernel_rfl
theorem ca28 : callOk prog 28 = true := by kernel_rfl
theorem ca15 : callOk prog 15 = true := by kernel_rfl
theorem ca16 : callOk prog 16 = true := by kernel_rfl
theorem ca17 : callOk prog 17 = true := by kernel_rfl
theorem ca18 : callOk prog 18 = true := by kernel_rfl
theorem u3 : prog.underlying 3 = some (.int .i64) := by kernel_rfl
theorem u4 : prog.underlying 4 = some .bool := by kernel_rfl
theorem ca29 : callOk prog 29 = true := by kernel_rfl
theorem ca21 : callOk prog 21 = true := by kernel_rfl
theorem ca22 : callOk prog 22 = true := by kernel_rfl
theorem ca23 : callOk prog 23 = true := by kernel_rfl
theorem ca25 : callOk prog 25 = true := by kernel_rfl
theorem ca24 : callOk prog 24 = true := by kernel_rfl
theorem ca26 : callOk prog 26 = true := by kernel_rfl
theorem bl51 : placesB prog 51 = some ([.string (tx []), .int .i64 0, .int .i64 0], [(0, 1), (1, 1), (2, 1)]) := by kernel_rfl
theorem z51 : (prog.info? 51).map (fun i => i.zero.map (·.cells.toList)) = some (some [.string (tx []), .int .i64 0, .int .i64 0]) := by kernel_rfl
theorem ty51 : tyV prog 51 = some (true, 3) := by kernel_rfl
theorem ty5 : tyV prog 5 = some (false, 1) := by kernel_rfl
theorem fld51_2 : fieldB prog 51 2 2 = true := by kernel_rfl
theorem fld51_1 : fieldB prog 51 1 1 = true := by kernel_rfl
theorem fld51_0 : fieldB prog 51 0 0 = true := by kernel_rfl
theorem ca42 : callOk prog 42 = true := by kernel_rfl
theorem ca35 : callOk prog 35 = true := by kernel_rfl
theorem ca40 : callOk prog 40 = true := by kernel_rfl
theorem ca36 : callOk prog 36 = true := by kernel_rfl
theorem ca37 : callOk prog 37 = true := by kernel_rfl
theorem ca38 : callOk prog 38 = true := by kernel_rfl
theorem ca39 : callOk prog 39 = true := by kernel_rfl
theorem ca41 : callOk prog 41 = true := by kernel_rfl
theorem ca27 : callOk prog 27 = true := by kernel_rfl
def lombardlaw09_Item.bd (x : lombardlaw09_Item) : Prop := inK .i64 x.Kind ∧ inK .u64 x.U ∧ inK .i64 x.N ∧ (fun s : Bs => s.length ≤ reach) x.Text ∧ (fun _ : Bool => True) x.OK ∧ (fun l : List Int => l.length * 8 ≤ reach ∧ ∀ x ∈ l, inK .i64 x) x.L ∧ True
end Go.Proofs.Ytoongmdkndbppaa
