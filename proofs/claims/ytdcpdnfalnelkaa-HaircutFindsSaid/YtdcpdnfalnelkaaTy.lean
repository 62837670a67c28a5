/- Shows the types of the data that the printed functions speak of, and facts about the program's types: written by a program of the author's for this claim. -/
import Derived.Test.YtdcpdnfalnelkaaProg
import Derived.Test.YtdcpdnfalnelkaaPmS
namespace Go.Proofs.Ytdcpdnfalnelkaa
open Go Go.Pm
noncomputable abbrev prog : Program := Try.prog
structure api_Asset where
  ISIN : Bs
  Issuer : Int
  Rating : Int
  Maturity : Int
  Currency : Bs
instance : Inhabited api_Asset := ⟨⟨[], 0, 0, 0, []⟩⟩
def api_Asset.enc (x : api_Asset) : List T := [(.val (.string (tx x.ISIN))), (.val (.int .i64 x.Issuer)), (.val (.int .i64 x.Rating)), (.val (.int .i64 x.Maturity)), (.val (.string (tx x.Currency)))]
abbrev api_Asset.av (x : api_Asset) : List AV := [.s x.ISIN, .i x.Issuer, .i x.Rating, .i x.Maturity, .s x.Currency]
theorem api_Asset.ok : EncOk api_Asset.enc 5 := ⟨fun _ => rfl, fun _ => rfl⟩
structure api_Price where
  ISIN : Bs
  Price : Int
instance : Inhabited api_Price := ⟨⟨[], 0⟩⟩
def api_Price.enc (x : api_Price) : List T := [(.val (.string (tx x.ISIN))), (.val (.int .i64 x.Price))]
abbrev api_Price.av (x : api_Price) : List AV := [.s x.ISIN, .i x.Price]
theorem api_Price.ok : EncOk api_Price.enc 2 := ⟨fun _ => rfl, fun _ => rfl⟩
structure api_Cut where
  Days : Int
  Rating : Int
  Cut : Int
instance : Inhabited api_Cut := ⟨⟨0, 0, 0⟩⟩
def api_Cut.enc (x : api_Cut) : List T := [(.val (.int .i64 x.Days)), (.val (.int .i64 x.Rating)), (.val (.int .i64 x.Cut))]
abbrev api_Cut.av (x : api_Cut) : List AV := [.i x.Days, .i x.Rating, .i x.Cut]
theorem api_Cut.ok : EncOk api_Cut.enc 3 := ⟨fun _ => rfl, fun _ => rfl⟩
structure api_Basket where
  ID : Int
  Version : Int
  Currency : Bs
  Rating : Int
  Least : Int
  Most : Int
  Cuts : List api_Cut
  Issuer : Int
  Asset : Int
  Barred : List Int
instance : Inhabited api_Basket := ⟨⟨0, 0, [], 0, 0, 0, [], 0, 0, []⟩⟩
def api_Basket.enc (x : api_Basket) : List T := [(.val (.int .i64 x.ID)), (.val (.int .i64 x.Version)), (.val (.string (tx x.Currency))), (.val (.int .i64 x.Rating)), (.val (.int .i64 x.Least)), (.val (.int .i64 x.Most)), (.row 3 (List.map api_Cut.enc x.Cuts)), (.val (.int .i64 x.Issuer)), (.val (.int .i64 x.Asset)), (.row 1 (List.map (encI .i64) x.Barred))]
abbrev api_Basket.av (x : api_Basket) : List AV := [.i x.ID, .i x.Version, .s x.Currency, .i x.Rating, .i x.Least, .i x.Most, .imm (.row 3 (List.map api_Cut.enc x.Cuts)), .i x.Issuer, .i x.Asset, .imm (.row 1 (List.map (encI .i64) x.Barred))]
theorem api_Basket.ok : EncOk api_Basket.enc 10 := ⟨fun _ => rfl, fun _ => rfl⟩
structure api_Lot where
  ISIN : Bs
  Qty : Int
instance : Inhabited api_Lot := ⟨⟨[], 0⟩⟩
def api_Lot.enc (x : api_Lot) : List T := [(.val (.string (tx x.ISIN))), (.val (.int .i64 x.Qty))]
abbrev api_Lot.av (x : api_Lot) : List AV := [.s x.ISIN, .i x.Qty]
theorem api_Lot.ok : EncOk api_Lot.enc 2 := ⟨fun _ => rfl, fun _ => rfl⟩
structure fixnum_Wide where
  Hi : Int
  Lo : Int
instance : Inhabited fixnum_Wide := ⟨⟨0, 0⟩⟩
def fixnum_Wide.enc (x : fixnum_Wide) : List T := [(.val (.int .u64 x.Hi)), (.val (.int .u64 x.Lo))]
abbrev fixnum_Wide.av (x : fixnum_Wide) : List AV := [.imm (.val (.int .u64 x.Hi)), .imm (.val (.int .u64 x.Lo))]
theorem fixnum_Wide.ok : EncOk fixnum_Wide.enc 2 := ⟨fun _ => rfl, fun _ => rfl⟩
structure asset_Book where
  l : List api_Asset
  prices : List Int
  made : Bool
instance : Inhabited asset_Book := ⟨⟨[], [], false⟩⟩
def asset_Book.enc (x : asset_Book) : List T := [(.row 5 (List.map api_Asset.enc x.l)), (.row 1 (List.map (encI .i64) x.prices)), (.val (.bool x.made))]
abbrev asset_Book.av (x : asset_Book) : List AV := [.imm (.row 5 (List.map api_Asset.enc x.l)), .imm (.row 1 (List.map (encI .i64) x.prices)), .b x.made]
theorem asset_Book.ok : EncOk asset_Book.enc 3 := ⟨fun _ => rfl, fun _ => rfl⟩
structure lombardref13_Known where
  A : api_Asset
  Price : Int
instance : Inhabited lombardref13_Known := ⟨⟨(⟨[], 0, 0, 0, []⟩ : api_Asset), 0⟩⟩
def lombardref13_Known.enc (x : lombardref13_Known) : List T := [(.val (.string (tx x.A.ISIN))), (.val (.int .i64 x.A.Issuer)), (.val (.int .i64 x.A.Rating)), (.val (.int .i64 x.A.Maturity)), (.val (.string (tx x.A.Currency))), (.val (.int .i64 x.Price))]
abbrev lombardref13_Known.av (x : lombardref13_Known) : List AV := [.s x.A.ISIN, .i x.A.Issuer, .i x.A.Rating, .i x.A.Maturity, .s x.A.Currency, .i x.Price]
theorem lombardref13_Known.ok : EncOk lombardref13_Known.enc 6 := ⟨fun _ => rfl, fun _ => rfl⟩
structure haircut_Item where
  Lot : api_Lot
  Asset : api_Asset
  Price : Int
  Cut : Int
instance : Inhabited haircut_Item := ⟨⟨(⟨[], 0⟩ : api_Lot), (⟨[], 0, 0, 0, []⟩ : api_Asset), 0, 0⟩⟩
def haircut_Item.enc (x : haircut_Item) : List T := [(.val (.string (tx x.Lot.ISIN))), (.val (.int .i64 x.Lot.Qty)), (.val (.string (tx x.Asset.ISIN))), (.val (.int .i64 x.Asset.Issuer)), (.val (.int .i64 x.Asset.Rating)), (.val (.int .i64 x.Asset.Maturity)), (.val (.string (tx x.Asset.Currency))), (.val (.int .i64 x.Price)), (.val (.int .i64 x.Cut))]
abbrev haircut_Item.av (x : haircut_Item) : List AV := [.s x.Lot.ISIN, .i x.Lot.Qty, .s x.Asset.ISIN, .i x.Asset.Issuer, .i x.Asset.Rating, .i x.Asset.Maturity, .s x.Asset.Currency, .i x.Price, .i x.Cut]
theorem haircut_Item.ok : EncOk haircut_Item.enc 9 := ⟨fun _ => rfl, fun _ => rfl⟩
structure lombardref15_Item where
  Lot : api_Lot
  Asset : api_Asset
  Price : Int
  Cut : Int
instance : Inhabited lombardref15_Item := ⟨⟨(⟨[], 0⟩ : api_Lot), (⟨[], 0, 0, 0, []⟩ : api_Asset), 0, 0⟩⟩
def lombardref15_Item.enc (x : lombardref15_Item) : List T := [(.val (.string (tx x.Lot.ISIN))), (.val (.int .i64 x.Lot.Qty)), (.val (.string (tx x.Asset.ISIN))), (.val (.int .i64 x.Asset.Issuer)), (.val (.int .i64 x.Asset.Rating)), (.val (.int .i64 x.Asset.Maturity)), (.val (.string (tx x.Asset.Currency))), (.val (.int .i64 x.Price)), (.val (.int .i64 x.Cut))]
abbrev lombardref15_Item.av (x : lombardref15_Item) : List AV := [.s x.Lot.ISIN, .i x.Lot.Qty, .s x.Asset.ISIN, .i x.Asset.Issuer, .i x.Asset.Rating, .i x.Asset.Maturity, .s x.Asset.Currency, .i x.Price, .i x.Cut]
theorem lombardref15_Item.ok : EncOk lombardref15_Item.enc 9 := ⟨fun _ => rfl, fun _ => rfl⟩
theorem ty36 : tyV prog 36 = some (true, 10) := by kernel_rfl
theorem fld36_0 : fieldB prog 36 0 0 = true := by kernel_rfl
theorem ty3 : tyV prog 3 = some (false, 1) := by kernel_rfl
theorem fld36_1 : fieldB prog 36 1 1 = true := by kernel_rfl
theorem fld36_3 : fieldB prog 36 3 3 = true := by kernel_rfl
theorem fld36_7 : fieldB prog 36 7 7 = true := by kernel_rfl
theorem fld36_8 : fieldB prog 36 8 8 = true := by kernel_rfl
theorem fld36_6 : fieldB prog 36 6 6 = true := by kernel_rfl
theorem ty33 : tyV prog 33 = some (false, 1) := by kernel_rfl
theorem sl33 : SlT prog 33 80 3 24 [.int .i64 0, .int .i64 0, .int .i64 0] := ⟨by kernel_rfl, by kernel_rfl, rfl, by decide⟩
theorem fld36_9 : fieldB prog 36 9 9 = true := by kernel_rfl
theorem ty34 : tyV prog 34 = some (false, 1) := by kernel_rfl
theorem sl34 : SlT prog 34 3 1 8 [.int .i64 0] := ⟨by kernel_rfl, by kernel_rfl, rfl, by decide⟩
theorem fld36_4 : fieldB prog 36 4 4 = true := by kernel_rfl
theorem fld36_5 : fieldB prog 36 5 5 = true := by kernel_rfl
theorem fld36_2 : fieldB prog 36 2 2 = true := by kernel_rfl
theorem ty9 : tyV prog 9 = some (false, 1) := by kernel_rfl
theorem u9 : prog.underlying 9 = some .string := by kernel_rfl
theorem fld80_0 : fieldB prog 80 0 0 = true := by kernel_rfl
theorem fld80_1 : fieldB prog 80 1 1 = true := by kernel_rfl
theorem fld80_2 : fieldB prog 80 2 2 = true := by kernel_rfl
theorem ca39 : callOk prog 39 = true := by kernel_rfl
theorem ca40 : callOk prog 40 = true := by kernel_rfl
theorem ca41 : callOk prog 41 = true := by kernel_rfl
theorem sl56 : SlT prog 56 38 5 56 [.string (tx []), .int .i64 0, .int .i64 0, .int .i64 0, .string (tx [])] := ⟨by kernel_rfl, by kernel_rfl, rfl, by decide⟩
theorem sl57 : SlT prog 57 92 2 24 [.string (tx []), .int .i64 0] := ⟨by kernel_rfl, by kernel_rfl, rfl, by decide⟩
theorem h3 : (prog.underlying 3).isSome = true := by kernel_rfl
theorem u95 : prog.underlying 95 = some (.int .u64) := by kernel_rfl
theorem u4 : prog.underlying 4 = some .bool := by kernel_rfl
theorem z99 : (prog.info? 99).map (fun i => i.zero.map (·.cells.toList)) = some (some [.int .u64 0, .int .u64 0]) := by kernel_rfl
theorem bl99 : placesB prog 99 = some ([.int .u64 0, .int .u64 0], [(0, 1), (1, 1)]) := by kernel_rfl
theorem ty99 : tyV prog 99 = some (true, 2) := by kernel_rfl
theorem fld99_0 : fieldB prog 99 0 0 = true := by kernel_rfl
theorem ty95 : tyV prog 95 = some (false, 1) := by kernel_rfl
theorem fld99_1 : fieldB prog 99 1 1 = true := by kernel_rfl
theorem u124 : prog.underlying 124 = some (.int .u64) := by kernel_rfl
theorem h95 : (prog.underlying 95).isSome = true := by kernel_rfl
theorem u3 : prog.underlying 3 = some (.int .i64) := by kernel_rfl
theorem ca55 : callOk prog 55 = true := by kernel_rfl
theorem ca56 : callOk prog 56 = true := by kernel_rfl
theorem ca57 : callOk prog 57 = true := by kernel_rfl
theorem ca58 : callOk prog 58 = true := by kernel_rfl
theorem ca59 : callOk prog 59 = true := by kernel_rfl
theorem ca35 : callOk prog 35 = true := by kernel_rfl
theorem ca33 : callOk prog 33 = true := by kernel_rfl
theorem ca34 : callOk prog 34 = true := by kernel_rfl
theorem ca10 : callOk prog 10 = true := by kernel_rfl
theorem ca12 : callOk prog 12 = true := by kernel_rfl
theorem bl83 : placesB prog 83 = some ([.slice none 0 0, .slice none 0 0, .bool false], [(0, 1), (1, 1), (2, 1)]) := by kernel_rfl
theorem ty38 : tyV prog 38 = some (true, 5) := by kernel_rfl
theorem u58 : prog.underlying 58 = some (.pointer (prog.pointee 58)) := by kernel_rfl
theorem fld83_2 : fieldB prog 83 2 2 = true := by kernel_rfl
theorem ty4 : tyV prog 4 = some (false, 1) := by kernel_rfl
theorem fld38_0 : fieldB prog 38 0 0 = true := by kernel_rfl
theorem ca91 : callOk prog 91 = true := by kernel_rfl
theorem ca79 : callOk prog 79 = true := by kernel_rfl
theorem z3 : (prog.info? 3).map (fun i => i.zero.map (·.cells.toList)) = some (some [.int .i64 0]) := by kernel_rfl
theorem h5 : (prog.underlying 5).isSome = true := by kernel_rfl
theorem ca92 : callOk prog 92 = true := by kernel_rfl
theorem u5 : prog.underlying 5 = some (.int .u8) := by kernel_rfl
theorem ca86 : callOk prog 86 = true := by kernel_rfl
theorem ca87 : callOk prog 87 = true := by kernel_rfl
theorem ca80 : callOk prog 80 = true := by kernel_rfl
theorem fld38_4 : fieldB prog 38 4 4 = true := by kernel_rfl
theorem fld38_1 : fieldB prog 38 1 1 = true := by kernel_rfl
theorem fld38_2 : fieldB prog 38 2 2 = true := by kernel_rfl
theorem fld38_3 : fieldB prog 38 3 3 = true := by kernel_rfl
theorem ca67 : callOk prog 67 = true := by kernel_rfl
theorem ca68 : callOk prog 68 = true := by kernel_rfl
theorem fld83_0 : fieldB prog 83 0 0 = true := by kernel_rfl
theorem ty56 : tyV prog 56 = some (false, 1) := by kernel_rfl
theorem h124 : (prog.underlying 124).isSome = true := by kernel_rfl
theorem ca81 : callOk prog 81 = true := by kernel_rfl
theorem ca71 : callOk prog 71 = true := by kernel_rfl
theorem ca70 : callOk prog 70 = true := by kernel_rfl
theorem ca69 : callOk prog 69 = true := by kernel_rfl
theorem fld83_1 : fieldB prog 83 1 1 = true := by kernel_rfl
theorem ca47 : callOk prog 47 = true := by kernel_rfl
theorem ca48 : callOk prog 48 = true := by kernel_rfl
theorem ca49 : callOk prog 49 = true := by kernel_rfl
theorem ca50 : callOk prog 50 = true := by kernel_rfl
theorem ca90 : callOk prog 90 = true := by kernel_rfl
theorem ca84 : callOk prog 84 = true := by kernel_rfl
theorem ca85 : callOk prog 85 = true := by kernel_rfl
theorem ca76 : callOk prog 76 = true := by kernel_rfl
theorem sl60 : SlT prog 60 90 6 64 [.string (tx []), .int .i64 0, .int .i64 0, .int .i64 0, .string (tx []), .int .i64 0] := ⟨by kernel_rfl, by kernel_rfl, rfl, by decide⟩
theorem fld90_0 : fieldB prog 90 0 0 = true := by kernel_rfl
theorem bl90 : placesB prog 90 = some ([.string (tx []), .int .i64 0, .int .i64 0, .int .i64 0, .string (tx []), .int .i64 0], [(0, 5), (5, 1)]) := by kernel_rfl
theorem ty90 : tyV prog 90 = some (true, 6) := by kernel_rfl
theorem ca51 : callOk prog 51 = true := by kernel_rfl
theorem ca52 : callOk prog 52 = true := by kernel_rfl
theorem ty92 : tyV prog 92 = some (true, 2) := by kernel_rfl
theorem z92 : (prog.info? 92).map (fun i => i.zero.map (·.cells.toList)) = some (some [.string (tx []), .int .i64 0]) := by kernel_rfl
theorem fld92_0 : fieldB prog 92 0 0 = true := by kernel_rfl
theorem fld92_1 : fieldB prog 92 1 1 = true := by kernel_rfl
theorem fld90_1 : fieldB prog 90 1 5 = true := by kernel_rfl
theorem ty46 : tyV prog 46 = some (true, 2) := by kernel_rfl
theorem z48 : (prog.info? 48).map (fun i => i.zero.map (·.cells.toList)) = some (some [.string (tx []), .int .i64 0, .string (tx []), .int .i64 0, .int .i64 0, .int .i64 0, .string (tx []), .int .i64 0, .int .i64 0]) := by kernel_rfl
theorem fld46_0 : fieldB prog 46 0 0 = true := by kernel_rfl
theorem z38 : (prog.info? 38).map (fun i => i.zero.map (·.cells.toList)) = some (some [.string (tx []), .int .i64 0, .int .i64 0, .int .i64 0, .string (tx [])]) := by kernel_rfl
theorem bl38 : placesB prog 38 = some ([.string (tx []), .int .i64 0, .int .i64 0, .int .i64 0, .string (tx [])], [(0, 1), (1, 1), (2, 1), (3, 1), (4, 1)]) := by kernel_rfl
theorem bl48 : placesB prog 48 = some ([.string (tx []), .int .i64 0, .string (tx []), .int .i64 0, .int .i64 0, .int .i64 0, .string (tx []), .int .i64 0, .int .i64 0], [(0, 2), (2, 5), (7, 1), (8, 1)]) := by kernel_rfl
theorem ty48 : tyV prog 48 = some (true, 9) := by kernel_rfl
theorem ty80 : tyV prog 80 = some (true, 3) := by kernel_rfl
theorem z80 : (prog.info? 80).map (fun i => i.zero.map (·.cells.toList)) = some (some [.int .i64 0, .int .i64 0, .int .i64 0]) := by kernel_rfl
theorem ca42 : callOk prog 42 = true := by kernel_rfl
theorem fld46_1 : fieldB prog 46 1 1 = true := by kernel_rfl
theorem ca53 : callOk prog 53 = true := by kernel_rfl
theorem ca54 : callOk prog 54 = true := by kernel_rfl
theorem ca17 : callOk prog 17 = true := by kernel_rfl
theorem z50 : (prog.info? 50).map (fun i => i.zero.map (·.cells.toList)) = some (some [.string (tx []), .int .i64 0, .string (tx []), .int .i64 0, .int .i64 0, .int .i64 0, .string (tx []), .int .i64 0, .int .i64 0]) := by kernel_rfl
theorem bl50 : placesB prog 50 = some ([.string (tx []), .int .i64 0, .string (tx []), .int .i64 0, .int .i64 0, .int .i64 0, .string (tx []), .int .i64 0, .int .i64 0], [(0, 2), (2, 5), (7, 1), (8, 1)]) := by kernel_rfl
theorem ty50 : tyV prog 50 = some (true, 9) := by kernel_rfl
theorem ca43 : callOk prog 43 = true := by kernel_rfl
theorem ca18 : callOk prog 18 = true := by kernel_rfl
theorem fld48_0 : fieldB prog 48 0 0 = true := by kernel_rfl
theorem fld50_0 : fieldB prog 50 0 0 = true := by kernel_rfl
theorem fl46 : flatT prog 46 = some [.s, .i] := by kernel_rfl
theorem fld48_1 : fieldB prog 48 1 2 = true := by kernel_rfl
theorem fld50_1 : fieldB prog 50 1 2 = true := by kernel_rfl
theorem fl38 : flatT prog 38 = some [.s, .i, .i, .i, .s] := by kernel_rfl
theorem fld48_2 : fieldB prog 48 2 7 = true := by kernel_rfl
theorem fld50_2 : fieldB prog 50 2 7 = true := by kernel_rfl
theorem fld48_3 : fieldB prog 48 3 8 = true := by kernel_rfl
theorem fld50_3 : fieldB prog 50 3 8 = true := by kernel_rfl
theorem fl48 : deepG prog 48 = some [.s, .i, .s, .i, .i, .i, .s, .i, .i] := by kernel_rfl
theorem ca16 : callOk prog 16 = true := by kernel_rfl
theorem ca9 : callOk prog 9 = true := by kernel_rfl
theorem ca26 : callOk prog 26 = true := by kernel_rfl
theorem ca27 : callOk prog 27 = true := by kernel_rfl
theorem ca28 : callOk prog 28 = true := by kernel_rfl
theorem ca29 : callOk prog 29 = true := by kernel_rfl
theorem ca30 : callOk prog 30 = true := by kernel_rfl
theorem ca31 : callOk prog 31 = true := by kernel_rfl
theorem ca32 : callOk prog 32 = true := by kernel_rfl
theorem sl106 : SlT prog 106 95 1 8 [.int .u64 0] := ⟨by kernel_rfl, by kernel_rfl, rfl, by decide⟩
theorem ca65 : callOk prog 65 = true := by kernel_rfl
theorem ca77 : callOk prog 77 = true := by kernel_rfl
theorem ca61 : callOk prog 61 = true := by kernel_rfl
theorem ca63 : callOk prog 63 = true := by kernel_rfl
theorem ca78 : callOk prog 78 = true := by kernel_rfl
theorem ca62 : callOk prog 62 = true := by kernel_rfl
theorem ca60 : callOk prog 60 = true := by kernel_rfl
theorem ca64 : callOk prog 64 = true := by kernel_rfl
theorem ca66 : callOk prog 66 = true := by kernel_rfl
theorem ca38 : callOk prog 38 = true := by kernel_rfl
theorem ca36 : callOk prog 36 = true := by kernel_rfl
theorem ca37 : callOk prog 37 = true := by kernel_rfl
theorem ca13 : callOk prog 13 = true := by kernel_rfl
def api_Asset.bd (x : api_Asset) : Prop := (fun s : Bs => s.length ≤ reach) x.ISIN ∧ inK .i64 x.Issuer ∧ inK .i64 x.Rating ∧ inK .i64 x.Maturity ∧ (fun s : Bs => s.length ≤ reach) x.Currency ∧ True
def api_Price.bd (x : api_Price) : Prop := (fun s : Bs => s.length ≤ reach) x.ISIN ∧ inK .i64 x.Price ∧ True
def api_Cut.bd (x : api_Cut) : Prop := inK .i64 x.Days ∧ inK .i64 x.Rating ∧ inK .i64 x.Cut ∧ True
def api_Basket.bd (x : api_Basket) : Prop := inK .i64 x.ID ∧ inK .i64 x.Version ∧ (fun s : Bs => s.length ≤ reach) x.Currency ∧ inK .i64 x.Rating ∧ inK .i64 x.Least ∧ inK .i64 x.Most ∧ (fun l : List api_Cut => l.length * 24 ≤ reach ∧ ∀ x ∈ l, api_Cut.bd x) x.Cuts ∧ inK .i64 x.Issuer ∧ inK .i64 x.Asset ∧ (fun l : List Int => l.length * 8 ≤ reach ∧ ∀ x ∈ l, inK .i64 x) x.Barred ∧ True
def api_Lot.bd (x : api_Lot) : Prop := (fun s : Bs => s.length ≤ reach) x.ISIN ∧ inK .i64 x.Qty ∧ True
end Go.Proofs.Ytdcpdnfalnelkaa
