/- Shows the types of the data that the printed functions speak of, and facts about the program's types: written by a program of the author's for this claim. -/
import Derived.Test.YtkcjlpiaaklnkaaProg
import Derived.Test.YtkcjlpiaaklnkaaPmS
namespace Go.Proofs.Ytkcjlpiaaklnkaa
open Go Go.Pm
noncomputable abbrev prog : Program := Try.prog
structure api_Asset where
  ISIN : Bs
  Issuer : Int
  Rating : Int
  Maturity : Int
  Currency : Bs
instance : Inhabited api_Asset := ⟨⟨[], 0, 0, 0, []⟩⟩
def api_Asset.enc (x : api_Asset) : List T := [(.val (.string (tx x.ISIN))), (.val (.int .i64 x.Issuer)), (.val (.int .i64 x.Rating)), (.val (.int .i64 x.Maturity)), (.val (.string (tx x.Currency)))]
abbrev api_Asset.av (x : api_Asset) : List AV := [.s x.ISIN, .i x.Issuer, .i x.Rating, .i x.Maturity, .s x.Currency]
theorem api_Asset.ok : EncOk api_Asset.enc 5 := ⟨fun _ => rfl, fun _ => rfl⟩
structure api_Price where
  ISIN : Bs
  Price : Int
instance : Inhabited api_Price := ⟨⟨[], 0⟩⟩
def api_Price.enc (x : api_Price) : List T := [(.val (.string (tx x.ISIN))), (.val (.int .i64 x.Price))]
abbrev api_Price.av (x : api_Price) : List AV := [.s x.ISIN, .i x.Price]
theorem api_Price.ok : EncOk api_Price.enc 2 := ⟨fun _ => rfl, fun _ => rfl⟩
structure lombardlaw13_Act where
  Kind : Int
  Asset : api_Asset
  Prices : List api_Price
instance : Inhabited lombardlaw13_Act := ⟨⟨0, (⟨[], 0, 0, 0, []⟩ : api_Asset), []⟩⟩
def lombardlaw13_Act.enc (x : lombardlaw13_Act) : List T := [(.val (.int .i64 x.Kind)), (.val (.string (tx x.Asset.ISIN))), (.val (.int .i64 x.Asset.Issuer)), (.val (.int .i64 x.Asset.Rating)), (.val (.int .i64 x.Asset.Maturity)), (.val (.string (tx x.Asset.Currency))), (.row 2 (List.map api_Price.enc x.Prices))]
abbrev lombardlaw13_Act.av (x : lombardlaw13_Act) : List AV := [.i x.Kind, .s x.Asset.ISIN, .i x.Asset.Issuer, .i x.Asset.Rating, .i x.Asset.Maturity, .s x.Asset.Currency, .imm (.row 2 (List.map api_Price.enc x.Prices))]
theorem lombardlaw13_Act.ok : EncOk lombardlaw13_Act.enc 7 := ⟨fun _ => rfl, fun _ => rfl⟩
structure asset_Book where
  l : List api_Asset
  prices : List Int
  made : Bool
instance : Inhabited asset_Book := ⟨⟨[], [], false⟩⟩
def asset_Book.enc (x : asset_Book) : List T := [(.row 5 (List.map api_Asset.enc x.l)), (.row 1 (List.map (encI .i64) x.prices)), (.val (.bool x.made))]
abbrev asset_Book.av (x : asset_Book) : List AV := [.imm (.row 5 (List.map api_Asset.enc x.l)), .imm (.row 1 (List.map (encI .i64) x.prices)), .b x.made]
theorem asset_Book.ok : EncOk asset_Book.enc 3 := ⟨fun _ => rfl, fun _ => rfl⟩
structure lombardref13_Known where
  A : api_Asset
  Price : Int
instance : Inhabited lombardref13_Known := ⟨⟨(⟨[], 0, 0, 0, []⟩ : api_Asset), 0⟩⟩
def lombardref13_Known.enc (x : lombardref13_Known) : List T := [(.val (.string (tx x.A.ISIN))), (.val (.int .i64 x.A.Issuer)), (.val (.int .i64 x.A.Rating)), (.val (.int .i64 x.A.Maturity)), (.val (.string (tx x.A.Currency))), (.val (.int .i64 x.Price))]
abbrev lombardref13_Known.av (x : lombardref13_Known) : List AV := [.s x.A.ISIN, .i x.A.Issuer, .i x.A.Rating, .i x.A.Maturity, .s x.A.Currency, .i x.Price]
theorem lombardref13_Known.ok : EncOk lombardref13_Known.enc 6 := ⟨fun _ => rfl, fun _ => rfl⟩
structure api_Lot where
  ISIN : Bs
  Qty : Int
instance : Inhabited api_Lot := ⟨⟨[], 0⟩⟩
def api_Lot.enc (x : api_Lot) : List T := [(.val (.string (tx x.ISIN))), (.val (.int .i64 x.Qty))]
abbrev api_Lot.av (x : api_Lot) : List AV := [.s x.ISIN, .i x.Qty]
theorem api_Lot.ok : EncOk api_Lot.enc 2 := ⟨fun _ => rfl, fun _ => rfl⟩
structure fixnum_Wide where
  Hi : Int
  Lo : Int
instance : Inhabited fixnum_Wide := ⟨⟨0, 0⟩⟩
def fixnum_Wide.enc (x : fixnum_Wide) : List T := [(.val (.int .u64 x.Hi)), (.val (.int .u64 x.Lo))]
abbrev fixnum_Wide.av (x : fixnum_Wide) : List AV := [.imm (.val (.int .u64 x.Hi)), .imm (.val (.int .u64 x.Lo))]
theorem fixnum_Wide.ok : EncOk fixnum_Wide.enc 2 := ⟨fun _ => rfl, fun _ => rfl⟩
theorem bl71 : placesB prog 71 = some ([.slice none 0 0, .slice none 0 0, .bool false], [(0, 1), (1, 1), (2, 1)]) := by kernel_rfl
theorem z31 : (prog.info? 31).map (fun i => i.zero.map (·.cells.toList)) = some (some [.slice none 0 0]) := by kernel_rfl
theorem sl27 : SlT prog 27 51 7 88 [.int .i64 0, .string (tx []), .int .i64 0, .int .i64 0, .int .i64 0, .string (tx []), .slice none 0 0] := ⟨by kernel_rfl, by kernel_rfl, rfl, by decide⟩
theorem fld51_2 : fieldB prog 51 2 6 = true := by kernel_rfl
theorem ty49 : tyV prog 49 = some (false, 1) := by kernel_rfl
theorem sl49 : SlT prog 49 82 2 24 [.string (tx []), .int .i64 0] := ⟨by kernel_rfl, by kernel_rfl, rfl, by decide⟩
theorem ty51 : tyV prog 51 = some (true, 7) := by kernel_rfl
theorem fld51_0 : fieldB prog 51 0 0 = true := by kernel_rfl
theorem ty3 : tyV prog 3 = some (false, 1) := by kernel_rfl
theorem ty31 : tyV prog 31 = some (false, 1) := by kernel_rfl
theorem fld51_1 : fieldB prog 51 1 1 = true := by kernel_rfl
theorem ty29 : tyV prog 29 = some (true, 5) := by kernel_rfl
theorem fld29_0 : fieldB prog 29 0 0 = true := by kernel_rfl
theorem ty9 : tyV prog 9 = some (false, 1) := by kernel_rfl
theorem u9 : prog.underlying 9 = some .string := by kernel_rfl
theorem h5 : (prog.underlying 5).isSome = true := by kernel_rfl
theorem u3 : prog.underlying 3 = some (.int .i64) := by kernel_rfl
theorem sl69 : SlT prog 69 3 1 8 [.int .i64 0] := ⟨by kernel_rfl, by kernel_rfl, rfl, by decide⟩
theorem ca82 : callOk prog 82 = true := by kernel_rfl
theorem ca76 : callOk prog 76 = true := by kernel_rfl
theorem ca77 : callOk prog 77 = true := by kernel_rfl
theorem fld29_4 : fieldB prog 29 4 4 = true := by kernel_rfl
theorem fld29_1 : fieldB prog 29 1 1 = true := by kernel_rfl
theorem fld29_2 : fieldB prog 29 2 2 = true := by kernel_rfl
theorem fld29_3 : fieldB prog 29 3 3 = true := by kernel_rfl
theorem ca68 : callOk prog 68 = true := by kernel_rfl
theorem ca69 : callOk prog 69 = true := by kernel_rfl
theorem sl31 : SlT prog 31 46 6 64 [.string (tx []), .int .i64 0, .int .i64 0, .int .i64 0, .string (tx []), .int .i64 0] := ⟨by kernel_rfl, by kernel_rfl, rfl, by decide⟩
theorem fld46_0 : fieldB prog 46 0 0 = true := by kernel_rfl
theorem bl46 : placesB prog 46 = some ([.string (tx []), .int .i64 0, .int .i64 0, .int .i64 0, .string (tx []), .int .i64 0], [(0, 5), (5, 1)]) := by kernel_rfl
theorem ty46 : tyV prog 46 = some (true, 6) := by kernel_rfl
theorem ca53 : callOk prog 53 = true := by kernel_rfl
theorem ca17 : callOk prog 17 = true := by kernel_rfl
theorem u30 : prog.underlying 30 = some (.pointer (prog.pointee 30)) := by kernel_rfl
theorem fld71_2 : fieldB prog 71 2 2 = true := by kernel_rfl
theorem ty4 : tyV prog 4 = some (false, 1) := by kernel_rfl
theorem ca83 : callOk prog 83 = true := by kernel_rfl
theorem ca72 : callOk prog 72 = true := by kernel_rfl
theorem z3 : (prog.info? 3).map (fun i => i.zero.map (·.cells.toList)) = some (some [.int .i64 0]) := by kernel_rfl
theorem ca84 : callOk prog 84 = true := by kernel_rfl
theorem h3 : (prog.underlying 3).isSome = true := by kernel_rfl
theorem u5 : prog.underlying 5 = some (.int .u8) := by kernel_rfl
theorem ca78 : callOk prog 78 = true := by kernel_rfl
theorem ca79 : callOk prog 79 = true := by kernel_rfl
theorem ca73 : callOk prog 73 = true := by kernel_rfl
theorem ca61 : callOk prog 61 = true := by kernel_rfl
theorem ca62 : callOk prog 62 = true := by kernel_rfl
theorem fld71_0 : fieldB prog 71 0 0 = true := by kernel_rfl
theorem ty68 : tyV prog 68 = some (false, 1) := by kernel_rfl
theorem sl68 : SlT prog 68 29 5 56 [.string (tx []), .int .i64 0, .int .i64 0, .int .i64 0, .string (tx [])] := ⟨by kernel_rfl, by kernel_rfl, rfl, by decide⟩
theorem u118 : prog.underlying 118 = some (.int .u64) := by kernel_rfl
theorem h118 : (prog.underlying 118).isSome = true := by kernel_rfl
theorem ca67 : callOk prog 67 = true := by kernel_rfl
theorem ca52 : callOk prog 52 = true := by kernel_rfl
theorem ca51 : callOk prog 51 = true := by kernel_rfl
theorem ca50 : callOk prog 50 = true := by kernel_rfl
theorem fld71_1 : fieldB prog 71 1 1 = true := by kernel_rfl
theorem ty69 : tyV prog 69 = some (false, 1) := by kernel_rfl
theorem ca42 : callOk prog 42 = true := by kernel_rfl
theorem ca34 : callOk prog 34 = true := by kernel_rfl
theorem ca43 : callOk prog 43 = true := by kernel_rfl
theorem ca44 : callOk prog 44 = true := by kernel_rfl
theorem fld82_0 : fieldB prog 82 0 0 = true := by kernel_rfl
theorem fld82_1 : fieldB prog 82 1 1 = true := by kernel_rfl
theorem fld46_1 : fieldB prog 46 1 5 = true := by kernel_rfl
theorem ty82 : tyV prog 82 = some (true, 2) := by kernel_rfl
theorem z82 : (prog.info? 82).map (fun i => i.zero.map (·.cells.toList)) = some (some [.string (tx []), .int .i64 0]) := by kernel_rfl
theorem ca35 : callOk prog 35 = true := by kernel_rfl
theorem ca29 : callOk prog 29 = true := by kernel_rfl
theorem ca36 : callOk prog 36 = true := by kernel_rfl
theorem ca30 : callOk prog 30 = true := by kernel_rfl
theorem ca20 : callOk prog 20 = true := by kernel_rfl
theorem ca21 : callOk prog 21 = true := by kernel_rfl
theorem ca40 : callOk prog 40 = true := by kernel_rfl
theorem ca41 : callOk prog 41 = true := by kernel_rfl
theorem z29 : (prog.info? 29).map (fun i => i.zero.map (·.cells.toList)) = some (some [.string (tx []), .int .i64 0, .int .i64 0, .int .i64 0, .string (tx [])]) := by kernel_rfl
theorem bl82 : placesB prog 82 = some ([.string (tx []), .int .i64 0], [(0, 1), (1, 1)]) := by kernel_rfl
theorem fl29 : flatT prog 29 = some [.s, .i, .i, .i, .s] := by kernel_rfl
theorem fl82 : flatT prog 82 = some [.s, .i] := by kernel_rfl
theorem ca31 : callOk prog 31 = true := by kernel_rfl
theorem ca32 : callOk prog 32 = true := by kernel_rfl
theorem sl72 : SlT prog 72 30 1 8 [.pointer none] := ⟨by kernel_rfl, by kernel_rfl, rfl, by decide⟩
theorem ty30 : tyV prog 30 = some (false, 1) := by kernel_rfl
theorem bl63 : placesB prog 63 = some ([.string (tx []), .int .i64 0], [(0, 1), (1, 1)]) := by kernel_rfl
theorem bl29 : placesB prog 29 = some ([.string (tx []), .int .i64 0, .int .i64 0, .int .i64 0, .string (tx [])], [(0, 1), (1, 1), (2, 1), (3, 1), (4, 1)]) := by kernel_rfl
theorem sl36 : SlT prog 36 9 1 16 [.string (tx [])] := ⟨by kernel_rfl, by kernel_rfl, rfl, by decide⟩
theorem fld63_0 : fieldB prog 63 0 0 = true := by kernel_rfl
theorem fld63_1 : fieldB prog 63 1 1 = true := by kernel_rfl
theorem u88 : prog.underlying 88 = some (.int .u64) := by kernel_rfl
theorem u4 : prog.underlying 4 = some .bool := by kernel_rfl
theorem z92 : (prog.info? 92).map (fun i => i.zero.map (·.cells.toList)) = some (some [.int .u64 0, .int .u64 0]) := by kernel_rfl
theorem bl92 : placesB prog 92 = some ([.int .u64 0, .int .u64 0], [(0, 1), (1, 1)]) := by kernel_rfl
theorem ty92 : tyV prog 92 = some (true, 2) := by kernel_rfl
theorem fld92_0 : fieldB prog 92 0 0 = true := by kernel_rfl
theorem ty88 : tyV prog 88 = some (false, 1) := by kernel_rfl
theorem fld92_1 : fieldB prog 92 1 1 = true := by kernel_rfl
theorem h88 : (prog.underlying 88).isSome = true := by kernel_rfl
theorem ca45 : callOk prog 45 = true := by kernel_rfl
theorem ca46 : callOk prog 46 = true := by kernel_rfl
theorem ca47 : callOk prog 47 = true := by kernel_rfl
theorem ca48 : callOk prog 48 = true := by kernel_rfl
theorem ca49 : callOk prog 49 = true := by kernel_rfl
theorem ca33 : callOk prog 33 = true := by kernel_rfl
theorem ca19 : callOk prog 19 = true := by kernel_rfl
theorem ca10 : callOk prog 10 = true := by kernel_rfl
theorem ca12 : callOk prog 12 = true := by kernel_rfl
theorem ca11 : callOk prog 11 = true := by kernel_rfl
theorem ca28 : callOk prog 28 = true := by kernel_rfl
theorem ca22 : callOk prog 22 = true := by kernel_rfl
theorem ca26 : callOk prog 26 = true := by kernel_rfl
theorem ca18 : callOk prog 18 = true := by kernel_rfl
theorem ca15 : callOk prog 15 = true := by kernel_rfl
theorem ca9 : callOk prog 9 = true := by kernel_rfl
def api_Asset.bd (x : api_Asset) : Prop := (fun s : Bs => s.length ≤ reach) x.ISIN ∧ inK .i64 x.Issuer ∧ inK .i64 x.Rating ∧ inK .i64 x.Maturity ∧ (fun s : Bs => s.length ≤ reach) x.Currency ∧ True
def api_Price.bd (x : api_Price) : Prop := (fun s : Bs => s.length ≤ reach) x.ISIN ∧ inK .i64 x.Price ∧ True
def lombardlaw13_Act.bd (x : lombardlaw13_Act) : Prop := inK .i64 x.Kind ∧ api_Asset.bd x.Asset ∧ (fun l : List api_Price => l.length * 24 ≤ reach ∧ ∀ x ∈ l, api_Price.bd x) x.Prices ∧ True
end Go.Proofs.Ytkcjlpiaaklnkaa
