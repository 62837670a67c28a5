/- Shows the types of the data that the printed functions speak of, and facts about the program's types: written by a program of the author's for this claim. -/
import Derived.Test.YtbmokbkgielmmaaProg
import Derived.Test.YtbmokbkgielmmaaPmS
namespace Go.Proofs.Ytbmokbkgielmmaa
open Go Go.Pm
noncomputable abbrev prog : Program := Try.prog
structure api_Cut where
  Days : Int
  Rating : Int
  Cut : Int
instance : Inhabited api_Cut := ⟨⟨0, 0, 0⟩⟩
def api_Cut.enc (x : api_Cut) : List T := [(.val (.int .i64 x.Days)), (.val (.int .i64 x.Rating)), (.val (.int .i64 x.Cut))]
abbrev api_Cut.av (x : api_Cut) : List AV := [.i x.Days, .i x.Rating, .i x.Cut]
theorem api_Cut.ok : EncOk api_Cut.enc 3 := ⟨fun _ => rfl, fun _ => rfl⟩
structure api_Basket where
  ID : Int
  Version : Int
  Currency : Bs
  Rating : Int
  Least : Int
  Most : Int
  Cuts : List api_Cut
  Issuer : Int
  Asset : Int
  Barred : List Int
instance : Inhabited api_Basket := ⟨⟨0, 0, [], 0, 0, 0, [], 0, 0, []⟩⟩
def api_Basket.enc (x : api_Basket) : List T := [(.val (.int .i64 x.ID)), (.val (.int .i64 x.Version)), (.val (.string (tx x.Currency))), (.val (.int .i64 x.Rating)), (.val (.int .i64 x.Least)), (.val (.int .i64 x.Most)), (.row 3 (List.map api_Cut.enc x.Cuts)), (.val (.int .i64 x.Issuer)), (.val (.int .i64 x.Asset)), (.row 1 (List.map (encI .i64) x.Barred))]
abbrev api_Basket.av (x : api_Basket) : List AV := [.i x.ID, .i x.Version, .s x.Currency, .i x.Rating, .i x.Least, .i x.Most, .imm (.row 3 (List.map api_Cut.enc x.Cuts)), .i x.Issuer, .i x.Asset, .imm (.row 1 (List.map (encI .i64) x.Barred))]
structure msg_Notice where
  Member : Int
  Trade : Int
  Day : Int
instance : Inhabited msg_Notice := ⟨⟨0, 0, 0⟩⟩
def msg_Notice.enc (x : msg_Notice) : List T := [(.val (.int .i64 x.Member)), (.val (.int .i64 x.Trade)), (.val (.int .i64 x.Day))]
abbrev msg_Notice.av (x : msg_Notice) : List AV := [.i x.Member, .i x.Trade, .i x.Day]
structure msg_Settle where
  Member : Int
  Day : Int
  Done : Bool
instance : Inhabited msg_Settle := ⟨⟨0, 0, false⟩⟩
def msg_Settle.enc (x : msg_Settle) : List T := [(.val (.int .i64 x.Member)), (.val (.int .i64 x.Day)), (.val (.bool x.Done))]
abbrev msg_Settle.av (x : msg_Settle) : List AV := [.i x.Member, .i x.Day, .b x.Done]
structure msg_Default where
  Member : Int
instance : Inhabited msg_Default := ⟨⟨0⟩⟩
def msg_Default.enc (x : msg_Default) : List T := [(.val (.int .i64 x.Member))]
abbrev msg_Default.av (x : msg_Default) : List AV := [.i x.Member]
structure msg_Roll where
  Day : Int
instance : Inhabited msg_Roll := ⟨⟨0⟩⟩
def msg_Roll.enc (x : msg_Roll) : List T := [(.val (.int .i64 x.Day))]
abbrev msg_Roll.av (x : msg_Roll) : List AV := [.i x.Day]
structure msg_Bound where
  Member : Int
  Amount : Int
instance : Inhabited msg_Bound := ⟨⟨0, 0⟩⟩
def msg_Bound.enc (x : msg_Bound) : List T := [(.val (.int .i64 x.Member)), (.val (.int .i64 x.Amount))]
abbrev msg_Bound.av (x : msg_Bound) : List AV := [.i x.Member, .i x.Amount]
structure msg_Reset where
  Trade : Int
  Day : Int
  Rate : Int
instance : Inhabited msg_Reset := ⟨⟨0, 0, 0⟩⟩
def msg_Reset.enc (x : msg_Reset) : List T := [(.val (.int .i64 x.Trade)), (.val (.int .i64 x.Day)), (.val (.int .i64 x.Rate))]
abbrev msg_Reset.av (x : msg_Reset) : List AV := [.i x.Trade, .i x.Day, .i x.Rate]
structure msg_Join where
  Member : Int
  Name : Bs
instance : Inhabited msg_Join := ⟨⟨0, []⟩⟩
def msg_Join.enc (x : msg_Join) : List T := [(.val (.int .i64 x.Member)), (.val (.string (tx x.Name)))]
abbrev msg_Join.av (x : msg_Join) : List AV := [.i x.Member, .s x.Name]
structure api_Asset where
  ISIN : Bs
  Issuer : Int
  Rating : Int
  Maturity : Int
  Currency : Bs
instance : Inhabited api_Asset := ⟨⟨[], 0, 0, 0, []⟩⟩
abbrev api_Asset.av (x : api_Asset) : List AV := [.s x.ISIN, .i x.Issuer, .i x.Rating, .i x.Maturity, .s x.Currency]
structure msg_List where
  Asset : api_Asset
instance : Inhabited msg_List := ⟨⟨(⟨[], 0, 0, 0, []⟩ : api_Asset)⟩⟩
def msg_List.enc (x : msg_List) : List T := [(.val (.string (tx x.Asset.ISIN))), (.val (.int .i64 x.Asset.Issuer)), (.val (.int .i64 x.Asset.Rating)), (.val (.int .i64 x.Asset.Maturity)), (.val (.string (tx x.Asset.Currency)))]
abbrev msg_List.av (x : msg_List) : List AV := [.s x.Asset.ISIN, .i x.Asset.Issuer, .i x.Asset.Rating, .i x.Asset.Maturity, .s x.Asset.Currency]
structure api_Quote where
  ID : Int
  Member : Int
  Side : Int
  Basket : Int
  Amount : Int
  Rate : Int
  Start : Int
  End : Int
instance : Inhabited api_Quote := ⟨⟨0, 0, 0, 0, 0, 0, 0, 0⟩⟩
abbrev api_Quote.av (x : api_Quote) : List AV := [.i x.ID, .i x.Member, .i x.Side, .i x.Basket, .i x.Amount, .i x.Rate, .i x.Start, .i x.End]
structure msg_Offer where
  Quote : api_Quote
instance : Inhabited msg_Offer := ⟨⟨(⟨0, 0, 0, 0, 0, 0, 0, 0⟩ : api_Quote)⟩⟩
def msg_Offer.enc (x : msg_Offer) : List T := [(.val (.int .i64 x.Quote.ID)), (.val (.int .i64 x.Quote.Member)), (.val (.int .i64 x.Quote.Side)), (.val (.int .i64 x.Quote.Basket)), (.val (.int .i64 x.Quote.Amount)), (.val (.int .i64 x.Quote.Rate)), (.val (.int .i64 x.Quote.Start)), (.val (.int .i64 x.Quote.End))]
abbrev msg_Offer.av (x : msg_Offer) : List AV := [.i x.Quote.ID, .i x.Quote.Member, .i x.Quote.Side, .i x.Quote.Basket, .i x.Quote.Amount, .i x.Quote.Rate, .i x.Quote.Start, .i x.Quote.End]
structure msg_Rules where
  Basket : api_Basket
instance : Inhabited msg_Rules := ⟨⟨(⟨0, 0, [], 0, 0, 0, [], 0, 0, []⟩ : api_Basket)⟩⟩
def msg_Rules.enc (x : msg_Rules) : List T := [(.val (.int .i64 x.Basket.ID)), (.val (.int .i64 x.Basket.Version)), (.val (.string (tx x.Basket.Currency))), (.val (.int .i64 x.Basket.Rating)), (.val (.int .i64 x.Basket.Least)), (.val (.int .i64 x.Basket.Most)), (.row 3 (List.map api_Cut.enc x.Basket.Cuts)), (.val (.int .i64 x.Basket.Issuer)), (.val (.int .i64 x.Basket.Asset)), (.row 1 (List.map (encI .i64) x.Basket.Barred))]
abbrev msg_Rules.av (x : msg_Rules) : List AV := [.i x.Basket.ID, .i x.Basket.Version, .s x.Basket.Currency, .i x.Basket.Rating, .i x.Basket.Least, .i x.Basket.Most, .imm (.row 3 (List.map api_Cut.enc x.Basket.Cuts)), .i x.Basket.Issuer, .i x.Basket.Asset, .imm (.row 1 (List.map (encI .i64) x.Basket.Barred))]
structure api_Price where
  ISIN : Bs
  Price : Int
instance : Inhabited api_Price := ⟨⟨[], 0⟩⟩
def api_Price.enc (x : api_Price) : List T := [(.val (.string (tx x.ISIN))), (.val (.int .i64 x.Price))]
abbrev api_Price.av (x : api_Price) : List AV := [.s x.ISIN, .i x.Price]
theorem api_Price.ok : EncOk api_Price.enc 2 := ⟨fun _ => rfl, fun _ => rfl⟩
structure msg_Prices where
  L : List api_Price
instance : Inhabited msg_Prices := ⟨⟨[]⟩⟩
def msg_Prices.enc (x : msg_Prices) : List T := [(.row 2 (List.map api_Price.enc x.L))]
abbrev msg_Prices.av (x : msg_Prices) : List AV := [.imm (.row 2 (List.map api_Price.enc x.L))]
structure api_Lot where
  ISIN : Bs
  Qty : Int
instance : Inhabited api_Lot := ⟨⟨[], 0⟩⟩
def api_Lot.enc (x : api_Lot) : List T := [(.val (.string (tx x.ISIN))), (.val (.int .i64 x.Qty))]
abbrev api_Lot.av (x : api_Lot) : List AV := [.s x.ISIN, .i x.Qty]
theorem api_Lot.ok : EncOk api_Lot.enc 2 := ⟨fun _ => rfl, fun _ => rfl⟩
structure msg_Swap where
  Member : Int
  Trade : Int
  Out : api_Lot
  In : List api_Lot
instance : Inhabited msg_Swap := ⟨⟨0, 0, (⟨[], 0⟩ : api_Lot), []⟩⟩
def msg_Swap.enc (x : msg_Swap) : List T := [(.val (.int .i64 x.Member)), (.val (.int .i64 x.Trade)), (.val (.string (tx x.Out.ISIN))), (.val (.int .i64 x.Out.Qty)), (.row 2 (List.map api_Lot.enc x.In))]
abbrev msg_Swap.av (x : msg_Swap) : List AV := [.i x.Member, .i x.Trade, .s x.Out.ISIN, .i x.Out.Qty, .imm (.row 2 (List.map api_Lot.enc x.In))]
structure msg_Cash where
  Member : Int
  Currency : Bs
  Amount : Int
instance : Inhabited msg_Cash := ⟨⟨0, [], 0⟩⟩
def msg_Cash.enc (x : msg_Cash) : List T := [(.val (.int .i64 x.Member)), (.val (.string (tx x.Currency))), (.val (.int .i64 x.Amount))]
abbrev msg_Cash.av (x : msg_Cash) : List AV := [.i x.Member, .s x.Currency, .i x.Amount]
structure msg_Move where
  Member : Int
  ISIN : Bs
  Qty : Int
instance : Inhabited msg_Move := ⟨⟨0, [], 0⟩⟩
def msg_Move.enc (x : msg_Move) : List T := [(.val (.int .i64 x.Member)), (.val (.string (tx x.ISIN))), (.val (.int .i64 x.Qty))]
abbrev msg_Move.av (x : msg_Move) : List AV := [.i x.Member, .s x.ISIN, .i x.Qty]
structure msg_Cancel where
  Member : Int
  Quote : Int
instance : Inhabited msg_Cancel := ⟨⟨0, 0⟩⟩
def msg_Cancel.enc (x : msg_Cancel) : List T := [(.val (.int .i64 x.Member)), (.val (.int .i64 x.Quote))]
abbrev msg_Cancel.av (x : msg_Cancel) : List AV := [.i x.Member, .i x.Quote]
inductive msg_Message where
  | nil
  | cmsg_Offer (x : msg_Offer)
  | cmsg_Swap (x : msg_Swap)
  | cmsg_Roll (x : msg_Roll)
  | cmsg_Join (x : msg_Join)
  | cmsg_List (x : msg_List)
  | cmsg_Rules (x : msg_Rules)
  | cmsg_Prices (x : msg_Prices)
  | cmsg_Cash (x : msg_Cash)
  | cmsg_Move (x : msg_Move)
  | cmsg_Cancel (x : msg_Cancel)
  | cmsg_Notice (x : msg_Notice)
  | cmsg_Settle (x : msg_Settle)
  | cmsg_Default (x : msg_Default)
  | cmsg_Bound (x : msg_Bound)
  | cmsg_Reset (x : msg_Reset)
instance : Inhabited msg_Message := ⟨.nil⟩
def msg_Message.enc : msg_Message → T
  | .nil => .val .nilIface
  | .cmsg_Offer x => .ifc 54 (.agg (msg_Offer.enc x))
  | .cmsg_Swap x => .ifc 58 (.agg (msg_Swap.enc x))
  | .cmsg_Roll x => .ifc 70 (.agg (msg_Roll.enc x))
  | .cmsg_Join x => .ifc 83 (.agg (msg_Join.enc x))
  | .cmsg_List x => .ifc 85 (.agg (msg_List.enc x))
  | .cmsg_Rules x => .ifc 87 (.agg (msg_Rules.enc x))
  | .cmsg_Prices x => .ifc 89 (.agg (msg_Prices.enc x))
  | .cmsg_Cash x => .ifc 91 (.agg (msg_Cash.enc x))
  | .cmsg_Move x => .ifc 93 (.agg (msg_Move.enc x))
  | .cmsg_Cancel x => .ifc 95 (.agg (msg_Cancel.enc x))
  | .cmsg_Notice x => .ifc 97 (.agg (msg_Notice.enc x))
  | .cmsg_Settle x => .ifc 99 (.agg (msg_Settle.enc x))
  | .cmsg_Default x => .ifc 101 (.agg (msg_Default.enc x))
  | .cmsg_Bound x => .ifc 103 (.agg (msg_Bound.enc x))
  | .cmsg_Reset x => .ifc 105 (.agg (msg_Reset.enc x))
def msg_Message.isNil : msg_Message → Bool
  | .nil => true
  | _ => false
def msg_Message.ismsg_Offer : msg_Message → Bool
  | .cmsg_Offer _ => true
  | _ => false
def msg_Message.asmsg_Offer : msg_Message → msg_Offer
  | .cmsg_Offer x => x
  | _ => default
def msg_Message.ismsg_Swap : msg_Message → Bool
  | .cmsg_Swap _ => true
  | _ => false
def msg_Message.asmsg_Swap : msg_Message → msg_Swap
  | .cmsg_Swap x => x
  | _ => default
def msg_Message.ismsg_Roll : msg_Message → Bool
  | .cmsg_Roll _ => true
  | _ => false
def msg_Message.asmsg_Roll : msg_Message → msg_Roll
  | .cmsg_Roll x => x
  | _ => default
def msg_Message.ismsg_Join : msg_Message → Bool
  | .cmsg_Join _ => true
  | _ => false
def msg_Message.asmsg_Join : msg_Message → msg_Join
  | .cmsg_Join x => x
  | _ => default
def msg_Message.ismsg_List : msg_Message → Bool
  | .cmsg_List _ => true
  | _ => false
def msg_Message.asmsg_List : msg_Message → msg_List
  | .cmsg_List x => x
  | _ => default
def msg_Message.ismsg_Rules : msg_Message → Bool
  | .cmsg_Rules _ => true
  | _ => false
def msg_Message.asmsg_Rules : msg_Message → msg_Rules
  | .cmsg_Rules x => x
  | _ => default
def msg_Message.ismsg_Prices : msg_Message → Bool
  | .cmsg_Prices _ => true
  | _ => false
def msg_Message.asmsg_Prices : msg_Message → msg_Prices
  | .cmsg_Prices x => x
  | _ => default
def msg_Message.ismsg_Cash : msg_Message → Bool
  | .cmsg_Cash _ => true
  | _ => false
def msg_Message.asmsg_Cash : msg_Message → msg_Cash
  | .cmsg_Cash x => x
  | _ => default
def msg_Message.ismsg_Move : msg_Message → Bool
  | .cmsg_Move _ => true
  | _ => false
def msg_Message.asmsg_Move : msg_Message → msg_Move
  | .cmsg_Move x => x
  | _ => default
def msg_Message.ismsg_Cancel : msg_Message → Bool
  | .cmsg_Cancel _ => true
  | _ => false
def msg_Message.asmsg_Cancel : msg_Message → msg_Cancel
  | .cmsg_Cancel x => x
  | _ => default
def msg_Message.ismsg_Notice : msg_Message → Bool
  | .cmsg_Notice _ => true
  | _ => false
def msg_Message.asmsg_Notice : msg_Message → msg_Notice
  | .cmsg_Notice x => x
  | _ => default
def msg_Message.ismsg_Settle : msg_Message → Bool
  | .cmsg_Settle _ => true
  | _ => false
def msg_Message.asmsg_Settle : msg_Message → msg_Settle
  | .cmsg_Settle x => x
  | _ => default
def msg_Message.ismsg_Default : msg_Message → Bool
  | .cmsg_Default _ => true
  | _ => false
def msg_Message.asmsg_Default : msg_Message → msg_Default
  | .cmsg_Default x => x
  | _ => default
def msg_Message.ismsg_Bound : msg_Message → Bool
  | .cmsg_Bound _ => true
  | _ => false
def msg_Message.asmsg_Bound : msg_Message → msg_Bound
  | .cmsg_Bound x => x
  | _ => default
def msg_Message.ismsg_Reset : msg_Message → Bool
  | .cmsg_Reset _ => true
  | _ => false
def msg_Message.asmsg_Reset : msg_Message → msg_Reset
  | .cmsg_Reset x => x
  | _ => default
structure wire_Writer where
  b : List Int
instance : Inhabited wire_Writer := ⟨⟨[]⟩⟩
abbrev wire_Writer.av (x : wire_Writer) : List AV := [.imm (.row 1 (List.map (encI .u8) x.b))]
structure msg_encoder where
  Writer : wire_Writer
instance : Inhabited msg_encoder := ⟨⟨(⟨[]⟩ : wire_Writer)⟩⟩
abbrev msg_encoder.av (x : msg_encoder) : List AV := [.imm (.row 1 (List.map (encI .u8) x.Writer.b))]
structure wire_Reader where
  s : Bs
  at' : Int
  e : Int
instance : Inhabited wire_Reader := ⟨⟨[], 0, 0⟩⟩
abbrev wire_Reader.av (x : wire_Reader) : List AV := [.s x.s, .i x.at', .i x.e]
structure lombardref10_Msg where
  Kind : Int
  Member : Int
  Name : Bs
  Asset : api_Asset
  Basket : api_Basket
  Prices : List api_Price
  Day : Int
  Text : Bs
  N : Int
  Quote : api_Quote
  Out : api_Lot
  In : List api_Lot
  Trade : Int
  Done : Bool
  Rate : Int
instance : Inhabited lombardref10_Msg := ⟨⟨0, 0, [], (⟨[], 0, 0, 0, []⟩ : api_Asset), (⟨0, 0, [], 0, 0, 0, [], 0, 0, []⟩ : api_Basket), [], 0, [], 0, (⟨0, 0, 0, 0, 0, 0, 0, 0⟩ : api_Quote), (⟨[], 0⟩ : api_Lot), [], 0, false, 0⟩⟩
abbrev lombardref10_Msg.av (x : lombardref10_Msg) : List AV := [.i x.Kind, .i x.Member, .s x.Name, .s x.Asset.ISIN, .i x.Asset.Issuer, .i x.Asset.Rating, .i x.Asset.Maturity, .s x.Asset.Currency, .i x.Basket.ID, .i x.Basket.Version, .s x.Basket.Currency, .i x.Basket.Rating, .i x.Basket.Least, .i x.Basket.Most, .imm (.row 3 (List.map api_Cut.enc x.Basket.Cuts)), .i x.Basket.Issuer, .i x.Basket.Asset, .imm (.row 1 (List.map (encI .i64) x.Basket.Barred)), .imm (.row 2 (List.map api_Price.enc x.Prices)), .i x.Day, .s x.Text, .i x.N, .i x.Quote.ID, .i x.Quote.Member, .i x.Quote.Side, .i x.Quote.Basket, .i x.Quote.Amount, .i x.Quote.Rate, .i x.Quote.Start, .i x.Quote.End, .s x.Out.ISIN, .i x.Out.Qty, .imm (.row 2 (List.map api_Lot.enc x.In)), .i x.Trade, .b x.Done, .i x.Rate]
theorem ty25 : tyV prog 25 = some (true, 10) := by kernel_rfl
theorem fld25_0 : fieldB prog 25 0 0 = true := by kernel_rfl
theorem ty3 : tyV prog 3 = some (false, 1) := by kernel_rfl
theorem fld25_1 : fieldB prog 25 1 1 = true := by kernel_rfl
theorem fld25_3 : fieldB prog 25 3 3 = true := by kernel_rfl
theorem fld25_7 : fieldB prog 25 7 7 = true := by kernel_rfl
theorem fld25_8 : fieldB prog 25 8 8 = true := by kernel_rfl
theorem fld25_6 : fieldB prog 25 6 6 = true := by kernel_rfl
theorem ty22 : tyV prog 22 = some (false, 1) := by kernel_rfl
theorem sl22 : SlT prog 22 67 3 24 [.int .i64 0, .int .i64 0, .int .i64 0] := ⟨by kernel_rfl, by kernel_rfl, rfl, by decide⟩
theorem fld25_9 : fieldB prog 25 9 9 = true := by kernel_rfl
theorem ty23 : tyV prog 23 = some (false, 1) := by kernel_rfl
theorem sl23 : SlT prog 23 3 1 8 [.int .i64 0] := ⟨by kernel_rfl, by kernel_rfl, rfl, by decide⟩
theorem fld25_4 : fieldB prog 25 4 4 = true := by kernel_rfl
theorem fld25_5 : fieldB prog 25 5 5 = true := by kernel_rfl
theorem fld25_2 : fieldB prog 25 2 2 = true := by kernel_rfl
theorem ty9 : tyV prog 9 = some (false, 1) := by kernel_rfl
theorem ty67 : tyV prog 67 = some (true, 3) := by kernel_rfl
theorem z67 : (prog.info? 67).map (fun i => i.zero.map (·.cells.toList)) = some (some [.int .i64 0, .int .i64 0, .int .i64 0]) := by kernel_rfl
theorem fld67_0 : fieldB prog 67 0 0 = true := by kernel_rfl
theorem fld67_1 : fieldB prog 67 1 1 = true := by kernel_rfl
theorem fld67_2 : fieldB prog 67 2 2 = true := by kernel_rfl
theorem ca21 : callOk prog 21 = true := by kernel_rfl
theorem ca22 : callOk prog 22 = true := by kernel_rfl
theorem u9 : prog.underlying 9 = some .string := by kernel_rfl
theorem ca23 : callOk prog 23 = true := by kernel_rfl
theorem ca24 : callOk prog 24 = true := by kernel_rfl
theorem ca25 : callOk prog 25 = true := by kernel_rfl
theorem bl70 : placesB prog 70 = some ([.int .i64 0], [(0, 1)]) := by kernel_rfl
theorem cn70 : prog.concrete 70 = true := by kernel_rfl
theorem pl83 : plainT prog 83 = true := by kernel_rfl
theorem z83 : (prog.info? 83).map (fun i => i.zero.map (·.cells.toList)) = some (some [.int .i64 0, .string (tx [])]) := by kernel_rfl
theorem ty83 : tyV prog 83 = some (true, 2) := by kernel_rfl
theorem fld83_1 : fieldB prog 83 1 1 = true := by kernel_rfl
theorem ca66 : callOk prog 66 = true := by kernel_rfl
theorem ca67 : callOk prog 67 = true := by kernel_rfl
theorem ca68 : callOk prog 68 = true := by kernel_rfl
theorem fld83_0 : fieldB prog 83 0 0 = true := by kernel_rfl
theorem pl85 : plainT prog 85 = true := by kernel_rfl
theorem z85 : (prog.info? 85).map (fun i => i.zero.map (·.cells.toList)) = some (some [.string (tx []), .int .i64 0, .int .i64 0, .int .i64 0, .string (tx [])]) := by kernel_rfl
theorem ty85 : tyV prog 85 = some (true, 5) := by kernel_rfl
theorem fld85_0 : fieldB prog 85 0 0 = true := by kernel_rfl
theorem ty32 : tyV prog 32 = some (true, 5) := by kernel_rfl
theorem fld32_0 : fieldB prog 32 0 0 = true := by kernel_rfl
theorem ca80 : callOk prog 80 = true := by kernel_rfl
theorem ca69 : callOk prog 69 = true := by kernel_rfl
theorem z3 : (prog.info? 3).map (fun i => i.zero.map (·.cells.toList)) = some (some [.int .i64 0]) := by kernel_rfl
theorem h5 : (prog.underlying 5).isSome = true := by kernel_rfl
theorem u3 : prog.underlying 3 = some (.int .i64) := by kernel_rfl
theorem ty4 : tyV prog 4 = some (false, 1) := by kernel_rfl
theorem ca81 : callOk prog 81 = true := by kernel_rfl
theorem h3 : (prog.underlying 3).isSome = true := by kernel_rfl
theorem u5 : prog.underlying 5 = some (.int .u8) := by kernel_rfl
theorem ca77 : callOk prog 77 = true := by kernel_rfl
theorem ca78 : callOk prog 78 = true := by kernel_rfl
theorem ca70 : callOk prog 70 = true := by kernel_rfl
theorem fld32_4 : fieldB prog 32 4 4 = true := by kernel_rfl
theorem fld32_1 : fieldB prog 32 1 1 = true := by kernel_rfl
theorem fld32_2 : fieldB prog 32 2 2 = true := by kernel_rfl
theorem fld32_3 : fieldB prog 32 3 3 = true := by kernel_rfl
theorem ca44 : callOk prog 44 = true := by kernel_rfl
theorem pl87 : plainT prog 87 = true := by kernel_rfl
theorem z87 : (prog.info? 87).map (fun i => i.zero.map (·.cells.toList)) = some (some [.int .i64 0, .int .i64 0, .string (tx []), .int .i64 0, .int .i64 0, .int .i64 0, .slice none 0 0, .int .i64 0, .int .i64 0, .slice none 0 0]) := by kernel_rfl
theorem ty87 : tyV prog 87 = some (true, 10) := by kernel_rfl
theorem fld87_0 : fieldB prog 87 0 0 = true := by kernel_rfl
theorem pl89 : plainT prog 89 = true := by kernel_rfl
theorem z89 : (prog.info? 89).map (fun i => i.zero.map (·.cells.toList)) = some (some [.slice none 0 0]) := by kernel_rfl
theorem ty89 : tyV prog 89 = some (true, 1) := by kernel_rfl
theorem fld89_0 : fieldB prog 89 0 0 = true := by kernel_rfl
theorem ty33 : tyV prog 33 = some (false, 1) := by kernel_rfl
theorem sl33 : SlT prog 33 114 2 24 [.string (tx []), .int .i64 0] := ⟨by kernel_rfl, by kernel_rfl, rfl, by decide⟩
theorem ty114 : tyV prog 114 = some (true, 2) := by kernel_rfl
theorem z114 : (prog.info? 114).map (fun i => i.zero.map (·.cells.toList)) = some (some [.string (tx []), .int .i64 0]) := by kernel_rfl
theorem fld114_0 : fieldB prog 114 0 0 = true := by kernel_rfl
theorem fld114_1 : fieldB prog 114 1 1 = true := by kernel_rfl
theorem pl70 : plainT prog 70 = true := by kernel_rfl
theorem z70 : (prog.info? 70).map (fun i => i.zero.map (·.cells.toList)) = some (some [.int .i64 0]) := by kernel_rfl
theorem ty70 : tyV prog 70 = some (true, 1) := by kernel_rfl
theorem fld70_0 : fieldB prog 70 0 0 = true := by kernel_rfl
theorem pl91 : plainT prog 91 = true := by kernel_rfl
theorem z91 : (prog.info? 91).map (fun i => i.zero.map (·.cells.toList)) = some (some [.int .i64 0, .string (tx []), .int .i64 0]) := by kernel_rfl
theorem ty91 : tyV prog 91 = some (true, 3) := by kernel_rfl
theorem fld91_1 : fieldB prog 91 1 1 = true := by kernel_rfl
theorem fld91_0 : fieldB prog 91 0 0 = true := by kernel_rfl
theorem fld91_2 : fieldB prog 91 2 2 = true := by kernel_rfl
theorem pl93 : plainT prog 93 = true := by kernel_rfl
theorem z93 : (prog.info? 93).map (fun i => i.zero.map (·.cells.toList)) = some (some [.int .i64 0, .string (tx []), .int .i64 0]) := by kernel_rfl
theorem ty93 : tyV prog 93 = some (true, 3) := by kernel_rfl
theorem fld93_0 : fieldB prog 93 0 0 = true := by kernel_rfl
theorem fld93_2 : fieldB prog 93 2 2 = true := by kernel_rfl
theorem fld93_1 : fieldB prog 93 1 1 = true := by kernel_rfl
theorem pl54 : plainT prog 54 = true := by kernel_rfl
theorem z54 : (prog.info? 54).map (fun i => i.zero.map (·.cells.toList)) = some (some [.int .i64 0, .int .i64 0, .int .i64 0, .int .i64 0, .int .i64 0, .int .i64 0, .int .i64 0, .int .i64 0]) := by kernel_rfl
theorem ty54 : tyV prog 54 = some (true, 8) := by kernel_rfl
theorem fld54_0 : fieldB prog 54 0 0 = true := by kernel_rfl
theorem fld35_1 : fieldB prog 35 1 1 = true := by kernel_rfl
theorem ty35 : tyV prog 35 = some (true, 8) := by kernel_rfl
theorem fld35_0 : fieldB prog 35 0 0 = true := by kernel_rfl
theorem fld35_2 : fieldB prog 35 2 2 = true := by kernel_rfl
theorem fld35_3 : fieldB prog 35 3 3 = true := by kernel_rfl
theorem fld35_4 : fieldB prog 35 4 4 = true := by kernel_rfl
theorem fld35_5 : fieldB prog 35 5 5 = true := by kernel_rfl
theorem fld35_6 : fieldB prog 35 6 6 = true := by kernel_rfl
theorem fld35_7 : fieldB prog 35 7 7 = true := by kernel_rfl
theorem ca42 : callOk prog 42 = true := by kernel_rfl
theorem pl95 : plainT prog 95 = true := by kernel_rfl
theorem z95 : (prog.info? 95).map (fun i => i.zero.map (·.cells.toList)) = some (some [.int .i64 0, .int .i64 0]) := by kernel_rfl
theorem ty95 : tyV prog 95 = some (true, 2) := by kernel_rfl
theorem fld95_0 : fieldB prog 95 0 0 = true := by kernel_rfl
theorem fld95_1 : fieldB prog 95 1 1 = true := by kernel_rfl
theorem pl97 : plainT prog 97 = true := by kernel_rfl
theorem z97 : (prog.info? 97).map (fun i => i.zero.map (·.cells.toList)) = some (some [.int .i64 0, .int .i64 0, .int .i64 0]) := by kernel_rfl
theorem ty97 : tyV prog 97 = some (true, 3) := by kernel_rfl
theorem fld97_0 : fieldB prog 97 0 0 = true := by kernel_rfl
theorem fld97_1 : fieldB prog 97 1 1 = true := by kernel_rfl
theorem fld97_2 : fieldB prog 97 2 2 = true := by kernel_rfl
theorem pl58 : plainT prog 58 = true := by kernel_rfl
theorem z58 : (prog.info? 58).map (fun i => i.zero.map (·.cells.toList)) = some (some [.int .i64 0, .int .i64 0, .string (tx []), .int .i64 0, .slice none 0 0]) := by kernel_rfl
theorem ty58 : tyV prog 58 = some (true, 5) := by kernel_rfl
theorem fld58_0 : fieldB prog 58 0 0 = true := by kernel_rfl
theorem fld58_1 : fieldB prog 58 1 1 = true := by kernel_rfl
theorem fld58_3 : fieldB prog 58 3 4 = true := by kernel_rfl
theorem ty38 : tyV prog 38 = some (false, 1) := by kernel_rfl
theorem sl38 : SlT prog 38 37 2 24 [.string (tx []), .int .i64 0] := ⟨by kernel_rfl, by kernel_rfl, rfl, by decide⟩
theorem fld58_2 : fieldB prog 58 2 2 = true := by kernel_rfl
theorem ty37 : tyV prog 37 = some (true, 2) := by kernel_rfl
theorem fld37_1 : fieldB prog 37 1 1 = true := by kernel_rfl
theorem fld37_0 : fieldB prog 37 0 0 = true := by kernel_rfl
theorem z37 : (prog.info? 37).map (fun i => i.zero.map (·.cells.toList)) = some (some [.string (tx []), .int .i64 0]) := by kernel_rfl
theorem ca38 : callOk prog 38 = true := by kernel_rfl
theorem ca79 : callOk prog 79 = true := by kernel_rfl
theorem pl99 : plainT prog 99 = true := by kernel_rfl
theorem z99 : (prog.info? 99).map (fun i => i.zero.map (·.cells.toList)) = some (some [.int .i64 0, .int .i64 0, .bool false]) := by kernel_rfl
theorem ty99 : tyV prog 99 = some (true, 3) := by kernel_rfl
theorem fld99_0 : fieldB prog 99 0 0 = true := by kernel_rfl
theorem fld99_1 : fieldB prog 99 1 1 = true := by kernel_rfl
theorem pl101 : plainT prog 101 = true := by kernel_rfl
theorem z101 : (prog.info? 101).map (fun i => i.zero.map (·.cells.toList)) = some (some [.int .i64 0]) := by kernel_rfl
theorem ty101 : tyV prog 101 = some (true, 1) := by kernel_rfl
theorem fld101_0 : fieldB prog 101 0 0 = true := by kernel_rfl
theorem pl103 : plainT prog 103 = true := by kernel_rfl
theorem z103 : (prog.info? 103).map (fun i => i.zero.map (·.cells.toList)) = some (some [.int .i64 0, .int .i64 0]) := by kernel_rfl
theorem ty103 : tyV prog 103 = some (true, 2) := by kernel_rfl
theorem fld103_0 : fieldB prog 103 0 0 = true := by kernel_rfl
theorem fld103_1 : fieldB prog 103 1 1 = true := by kernel_rfl
theorem pl105 : plainT prog 105 = true := by kernel_rfl
theorem z105 : (prog.info? 105).map (fun i => i.zero.map (·.cells.toList)) = some (some [.int .i64 0, .int .i64 0, .int .i64 0]) := by kernel_rfl
theorem ty105 : tyV prog 105 = some (true, 3) := by kernel_rfl
theorem fld105_0 : fieldB prog 105 0 0 = true := by kernel_rfl
theorem fld105_2 : fieldB prog 105 2 2 = true := by kernel_rfl
theorem fld105_1 : fieldB prog 105 1 1 = true := by kernel_rfl
theorem ca41 : callOk prog 41 = true := by kernel_rfl
theorem ca71 : callOk prog 71 = true := by kernel_rfl
theorem ca37 : callOk prog 37 = true := by kernel_rfl
theorem ca39 : callOk prog 39 = true := by kernel_rfl
theorem ca6 : callOk prog 6 = true := by kernel_rfl
theorem ca40 : callOk prog 40 = true := by kernel_rfl
theorem ca43 : callOk prog 43 = true := by kernel_rfl
theorem ca45 : callOk prog 45 = true := by kernel_rfl
theorem ca46 : callOk prog 46 = true := by kernel_rfl
theorem bl77 : placesB prog 77 = some ([.slice none 0 0], [(0, 1)]) := by kernel_rfl
theorem fld77_0 : fieldB prog 77 0 0 = true := by kernel_rfl
theorem ca98 : callOk prog 98 = true := by kernel_rfl
theorem ca99 : callOk prog 99 = true := by kernel_rfl
theorem ca100 : callOk prog 100 = true := by kernel_rfl
theorem ca101 : callOk prog 101 = true := by kernel_rfl
theorem ca102 : callOk prog 102 = true := by kernel_rfl
theorem ca103 : callOk prog 103 = true := by kernel_rfl
theorem ca104 : callOk prog 104 = true := by kernel_rfl
theorem ca105 : callOk prog 105 = true := by kernel_rfl
theorem ca106 : callOk prog 106 = true := by kernel_rfl
theorem ca107 : callOk prog 107 = true := by kernel_rfl
theorem ca108 : callOk prog 108 = true := by kernel_rfl
theorem ca109 : callOk prog 109 = true := by kernel_rfl
theorem ca110 : callOk prog 110 = true := by kernel_rfl
theorem ca111 : callOk prog 111 = true := by kernel_rfl
theorem ca112 : callOk prog 112 = true := by kernel_rfl
theorem u124 : prog.underlying 124 = some (.int .u64) := by kernel_rfl
theorem u125 : prog.underlying 125 = some (.int .u64) := by kernel_rfl
theorem fld75_0 : fieldB prog 75 0 0 = true := by kernel_rfl
theorem ty73 : tyV prog 73 = some (false, 1) := by kernel_rfl
theorem h124 : (prog.underlying 124).isSome = true := by kernel_rfl
theorem sl73 : SlT prog 73 5 1 1 [.int .u8 0] := ⟨by kernel_rfl, by kernel_rfl, rfl, by decide⟩
theorem ca47 : callOk prog 47 = true := by kernel_rfl
theorem ca48 : callOk prog 48 = true := by kernel_rfl
theorem ca27 : callOk prog 27 = true := by kernel_rfl
theorem ca72 : callOk prog 72 = true := by kernel_rfl
theorem ca73 : callOk prog 73 = true := by kernel_rfl
theorem fld99_2 : fieldB prog 99 2 2 = true := by kernel_rfl
theorem ca49 : callOk prog 49 = true := by kernel_rfl
theorem ca50 : callOk prog 50 = true := by kernel_rfl
theorem ca51 : callOk prog 51 = true := by kernel_rfl
theorem ca52 : callOk prog 52 = true := by kernel_rfl
theorem ca53 : callOk prog 53 = true := by kernel_rfl
theorem ca54 : callOk prog 54 = true := by kernel_rfl
theorem ca55 : callOk prog 55 = true := by kernel_rfl
theorem ca26 : callOk prog 26 = true := by kernel_rfl
theorem ca28 : callOk prog 28 = true := by kernel_rfl
theorem ca29 : callOk prog 29 = true := by kernel_rfl
theorem bl135 : placesB prog 135 = some ([.string (tx []), .int .i64 0, .int .i64 0], [(0, 1), (1, 1), (2, 1)]) := by kernel_rfl
theorem bl109 : placesB prog 109 = some ([.pointer none], [(0, 1)]) := by kernel_rfl
theorem z109 : (prog.info? 109).map (fun i => i.zero.map (·.cells.toList)) = some (some [.pointer none]) := by kernel_rfl
theorem ty109 : tyV prog 109 = some (true, 1) := by kernel_rfl
theorem fld109_0 : fieldB prog 109 0 0 = true := by kernel_rfl
theorem ty106 : tyV prog 106 = some (false, 1) := by kernel_rfl
theorem fld135_2 : fieldB prog 135 2 2 = true := by kernel_rfl
theorem ty26 : tyV prog 26 = some (false, 1) := by kernel_rfl
theorem fld135_1 : fieldB prog 135 1 1 = true := by kernel_rfl
theorem fld135_0 : fieldB prog 135 0 0 = true := by kernel_rfl
theorem ca64 : callOk prog 64 = true := by kernel_rfl
theorem ca63 : callOk prog 63 = true := by kernel_rfl
theorem bl83 : placesB prog 83 = some ([.int .i64 0, .string (tx [])], [(0, 1), (1, 1)]) := by kernel_rfl
theorem cn83 : prog.concrete 83 = true := by kernel_rfl
theorem z32 : (prog.info? 32).map (fun i => i.zero.map (·.cells.toList)) = some (some [.string (tx []), .int .i64 0, .int .i64 0, .int .i64 0, .string (tx [])]) := by kernel_rfl
theorem bl32 : placesB prog 32 = some ([.string (tx []), .int .i64 0, .int .i64 0, .int .i64 0, .string (tx [])], [(0, 1), (1, 1), (2, 1), (3, 1), (4, 1)]) := by kernel_rfl
theorem ca56 : callOk prog 56 = true := by kernel_rfl
theorem ca32 : callOk prog 32 = true := by kernel_rfl
theorem bl85 : placesB prog 85 = some ([.string (tx []), .int .i64 0, .int .i64 0, .int .i64 0, .string (tx [])], [(0, 5)]) := by kernel_rfl
theorem cn85 : prog.concrete 85 = true := by kernel_rfl
theorem z25 : (prog.info? 25).map (fun i => i.zero.map (·.cells.toList)) = some (some [.int .i64 0, .int .i64 0, .string (tx []), .int .i64 0, .int .i64 0, .int .i64 0, .slice none 0 0, .int .i64 0, .int .i64 0, .slice none 0 0]) := by kernel_rfl
theorem bl25 : placesB prog 25 = some ([.int .i64 0, .int .i64 0, .string (tx []), .int .i64 0, .int .i64 0, .int .i64 0, .slice none 0 0, .int .i64 0, .int .i64 0, .slice none 0 0], [(0, 1), (1, 1), (2, 1), (3, 1), (4, 1), (5, 1), (6, 1), (7, 1), (8, 1), (9, 1)]) := by kernel_rfl
theorem bl67 : placesB prog 67 = some ([.int .i64 0, .int .i64 0, .int .i64 0], [(0, 1), (1, 1), (2, 1)]) := by kernel_rfl
theorem ca74 : callOk prog 74 = true := by kernel_rfl
theorem ca75 : callOk prog 75 = true := by kernel_rfl
theorem bl87 : placesB prog 87 = some ([.int .i64 0, .int .i64 0, .string (tx []), .int .i64 0, .int .i64 0, .int .i64 0, .slice none 0 0, .int .i64 0, .int .i64 0, .slice none 0 0], [(0, 10)]) := by kernel_rfl
theorem cn87 : prog.concrete 87 = true := by kernel_rfl
theorem bl114 : placesB prog 114 = some ([.string (tx []), .int .i64 0], [(0, 1), (1, 1)]) := by kernel_rfl
theorem cn89 : prog.concrete 89 = true := by kernel_rfl
theorem bl91 : placesB prog 91 = some ([.int .i64 0, .string (tx []), .int .i64 0], [(0, 1), (1, 1), (2, 1)]) := by kernel_rfl
theorem cn91 : prog.concrete 91 = true := by kernel_rfl
theorem bl93 : placesB prog 93 = some ([.int .i64 0, .string (tx []), .int .i64 0], [(0, 1), (1, 1), (2, 1)]) := by kernel_rfl
theorem cn93 : prog.concrete 93 = true := by kernel_rfl
theorem z35 : (prog.info? 35).map (fun i => i.zero.map (·.cells.toList)) = some (some [.int .i64 0, .int .i64 0, .int .i64 0, .int .i64 0, .int .i64 0, .int .i64 0, .int .i64 0, .int .i64 0]) := by kernel_rfl
theorem bl35 : placesB prog 35 = some ([.int .i64 0, .int .i64 0, .int .i64 0, .int .i64 0, .int .i64 0, .int .i64 0, .int .i64 0, .int .i64 0], [(0, 1), (1, 1), (2, 1), (3, 1), (4, 1), (5, 1), (6, 1), (7, 1)]) := by kernel_rfl
theorem bl54 : placesB prog 54 = some ([.int .i64 0, .int .i64 0, .int .i64 0, .int .i64 0, .int .i64 0, .int .i64 0, .int .i64 0, .int .i64 0], [(0, 8)]) := by kernel_rfl
theorem cn54 : prog.concrete 54 = true := by kernel_rfl
theorem bl95 : placesB prog 95 = some ([.int .i64 0, .int .i64 0], [(0, 1), (1, 1)]) := by kernel_rfl
theorem cn95 : prog.concrete 95 = true := by kernel_rfl
theorem bl97 : placesB prog 97 = some ([.int .i64 0, .int .i64 0, .int .i64 0], [(0, 1), (1, 1), (2, 1)]) := by kernel_rfl
theorem cn97 : prog.concrete 97 = true := by kernel_rfl
theorem bl37 : placesB prog 37 = some ([.string (tx []), .int .i64 0], [(0, 1), (1, 1)]) := by kernel_rfl
theorem bl58 : placesB prog 58 = some ([.int .i64 0, .int .i64 0, .string (tx []), .int .i64 0, .slice none 0 0], [(0, 1), (1, 1), (2, 2), (4, 1)]) := by kernel_rfl
theorem ca76 : callOk prog 76 = true := by kernel_rfl
theorem cn58 : prog.concrete 58 = true := by kernel_rfl
theorem bl99 : placesB prog 99 = some ([.int .i64 0, .int .i64 0, .bool false], [(0, 1), (1, 1), (2, 1)]) := by kernel_rfl
theorem cn99 : prog.concrete 99 = true := by kernel_rfl
theorem bl101 : placesB prog 101 = some ([.int .i64 0], [(0, 1)]) := by kernel_rfl
theorem cn101 : prog.concrete 101 = true := by kernel_rfl
theorem bl103 : placesB prog 103 = some ([.int .i64 0, .int .i64 0], [(0, 1), (1, 1)]) := by kernel_rfl
theorem cn103 : prog.concrete 103 = true := by kernel_rfl
theorem bl105 : placesB prog 105 = some ([.int .i64 0, .int .i64 0, .int .i64 0], [(0, 1), (1, 1), (2, 1)]) := by kernel_rfl
theorem cn105 : prog.concrete 105 = true := by kernel_rfl
theorem ca57 : callOk prog 57 = true := by kernel_rfl
theorem ca58 : callOk prog 58 = true := by kernel_rfl
theorem ca59 : callOk prog 59 = true := by kernel_rfl
theorem ca60 : callOk prog 60 = true := by kernel_rfl
theorem ca61 : callOk prog 61 = true := by kernel_rfl
theorem ca62 : callOk prog 62 = true := by kernel_rfl
theorem if45 : ifcT prog 45 = true := by kernel_rfl
theorem ca30 : callOk prog 30 = true := by kernel_rfl
theorem ca31 : callOk prog 31 = true := by kernel_rfl
theorem ca33 : callOk prog 33 = true := by kernel_rfl
theorem ca34 : callOk prog 34 = true := by kernel_rfl
theorem ca35 : callOk prog 35 = true := by kernel_rfl
theorem z40 : (prog.info? 40).map (fun i => i.zero.map (·.cells.toList)) = some (some [.int .i64 0, .int .i64 0, .string (tx []), .string (tx []), .int .i64 0, .int .i64 0, .int .i64 0, .string (tx []), .int .i64 0, .int .i64 0, .string (tx []), .int .i64 0, .int .i64 0, .int .i64 0, .slice none 0 0, .int .i64 0, .int .i64 0, .slice none 0 0, .slice none 0 0, .int .i64 0, .string (tx []), .int .i64 0, .int .i64 0, .int .i64 0, .int .i64 0, .int .i64 0, .int .i64 0, .int .i64 0, .int .i64 0, .int .i64 0, .string (tx []), .int .i64 0, .slice none 0 0, .int .i64 0, .bool false, .int .i64 0]) := by kernel_rfl
theorem bl40 : placesB prog 40 = some ([.int .i64 0, .int .i64 0, .string (tx []), .string (tx []), .int .i64 0, .int .i64 0, .int .i64 0, .string (tx []), .int .i64 0, .int .i64 0, .string (tx []), .int .i64 0, .int .i64 0, .int .i64 0, .slice none 0 0, .int .i64 0, .int .i64 0, .slice none 0 0, .slice none 0 0, .int .i64 0, .string (tx []), .int .i64 0, .int .i64 0, .int .i64 0, .int .i64 0, .int .i64 0, .int .i64 0, .int .i64 0, .int .i64 0, .int .i64 0, .string (tx []), .int .i64 0, .slice none 0 0, .int .i64 0, .bool false, .int .i64 0], [(0, 1), (1, 1), (2, 1), (3, 5), (8, 10), (18, 1), (19, 1), (20, 1), (21, 1), (22, 8), (30, 2), (32, 1), (33, 1), (34, 1), (35, 1)]) := by kernel_rfl
theorem ty40 : tyV prog 40 = some (true, 36) := by kernel_rfl
theorem fld40_0 : fieldB prog 40 0 0 = true := by kernel_rfl
theorem fld40_1 : fieldB prog 40 1 1 = true := by kernel_rfl
theorem fld40_2 : fieldB prog 40 2 2 = true := by kernel_rfl
theorem fld40_3 : fieldB prog 40 3 3 = true := by kernel_rfl
theorem fl32 : flatT prog 32 = some [.s, .i, .i, .i, .s] := by kernel_rfl
theorem fld40_4 : fieldB prog 40 4 8 = true := by kernel_rfl
theorem fl67 : flatT prog 67 = some [.i, .i, .i] := by kernel_rfl
theorem ca65 : callOk prog 65 = true := by kernel_rfl
theorem fld40_5 : fieldB prog 40 5 18 = true := by kernel_rfl
theorem fl114 : flatT prog 114 = some [.s, .i] := by kernel_rfl
theorem fld40_6 : fieldB prog 40 6 19 = true := by kernel_rfl
theorem fld40_7 : fieldB prog 40 7 20 = true := by kernel_rfl
theorem fld40_8 : fieldB prog 40 8 21 = true := by kernel_rfl
theorem fld40_9 : fieldB prog 40 9 22 = true := by kernel_rfl
theorem fl35 : flatT prog 35 = some [.i, .i, .i, .i, .i, .i, .i, .i] := by kernel_rfl
theorem fld40_10 : fieldB prog 40 10 30 = true := by kernel_rfl
theorem fl37 : flatT prog 37 = some [.s, .i] := by kernel_rfl
theorem fld40_11 : fieldB prog 40 11 32 = true := by kernel_rfl
theorem fld40_12 : fieldB prog 40 12 33 = true := by kernel_rfl
theorem fld40_13 : fieldB prog 40 13 34 = true := by kernel_rfl
theorem u4 : prog.underlying 4 = some .bool := by kernel_rfl
theorem fld40_14 : fieldB prog 40 14 35 = true := by kernel_rfl
theorem ca36 : callOk prog 36 = true := by kernel_rfl
theorem ca20 : callOk prog 20 = true := by kernel_rfl
theorem ca10 : callOk prog 10 = true := by kernel_rfl
theorem ca12 : callOk prog 12 = true := by kernel_rfl
theorem ca14 : callOk prog 14 = true := by kernel_rfl
theorem ca13 : callOk prog 13 = true := by kernel_rfl
theorem ca7 : callOk prog 7 = true := by kernel_rfl
theorem ca8 : callOk prog 8 = true := by kernel_rfl
theorem msg_Message.atNil (x : msg_Message) : IsN x.enc x.isNil := by cases x <;> first | exact .none | exact .some _ _
theorem msg_Message.atmsg_Offer (x : msg_Message) : AsT prog 54 x.enc (msg_Offer.enc x.asmsg_Offer) x.ismsg_Offer := by
  have hz : (prog.info? 54).bind (·.zero) = some (.agg #[.int .i64 0, .int .i64 0, .int .i64 0, .int .i64 0, .int .i64 0, .int .i64 0, .int .i64 0, .int .i64 0]) := by kernel_rfl
  cases x with
  | cmsg_Offer x => exact .hit _
  | nil => exact .none _ _ hz (.cons (.same _) (.cons (.same _) (.cons (.same _) (.cons (.same _) (.cons (.same _) (.cons (.same _) (.cons (.same _) (.cons (.same _) .nil))))))))
  | cmsg_Swap x => exact .miss _ _ _ _ rfl hz (.cons (.same _) (.cons (.same _) (.cons (.same _) (.cons (.same _) (.cons (.same _) (.cons (.same _) (.cons (.same _) (.cons (.same _) .nil))))))))
  | cmsg_Roll x => exact .miss _ _ _ _ rfl hz (.cons (.same _) (.cons (.same _) (.cons (.same _) (.cons (.same _) (.cons (.same _) (.cons (.same _) (.cons (.same _) (.cons (.same _) .nil))))))))
  | cmsg_Join x => exact .miss _ _ _ _ rfl hz (.cons (.same _) (.cons (.same _) (.cons (.same _) (.cons (.same _) (.cons (.same _) (.cons (.same _) (.cons (.same _) (.cons (.same _) .nil))))))))
  | cmsg_List x => exact .miss _ _ _ _ rfl hz (.cons (.same _) (.cons (.same _) (.cons (.same _) (.cons (.same _) (.cons (.same _) (.cons (.same _) (.cons (.same _) (.cons (.same _) .nil))))))))
  | cmsg_Rules x => exact .miss _ _ _ _ rfl hz (.cons (.same _) (.cons (.same _) (.cons (.same _) (.cons (.same _) (.cons (.same _) (.cons (.same _) (.cons (.same _) (.cons (.same _) .nil))))))))
  | cmsg_Prices x => exact .miss _ _ _ _ rfl hz (.cons (.same _) (.cons (.same _) (.cons (.same _) (.cons (.same _) (.cons (.same _) (.cons (.same _) (.cons (.same _) (.cons (.same _) .nil))))))))
  | cmsg_Cash x => exact .miss _ _ _ _ rfl hz (.cons (.same _) (.cons (.same _) (.cons (.same _) (.cons (.same _) (.cons (.same _) (.cons (.same _) (.cons (.same _) (.cons (.same _) .nil))))))))
  | cmsg_Move x => exact .miss _ _ _ _ rfl hz (.cons (.same _) (.cons (.same _) (.cons (.same _) (.cons (.same _) (.cons (.same _) (.cons (.same _) (.cons (.same _) (.cons (.same _) .nil))))))))
  | cmsg_Cancel x => exact .miss _ _ _ _ rfl hz (.cons (.same _) (.cons (.same _) (.cons (.same _) (.cons (.same _) (.cons (.same _) (.cons (.same _) (.cons (.same _) (.cons (.same _) .nil))))))))
  | cmsg_Notice x => exact .miss _ _ _ _ rfl hz (.cons (.same _) (.cons (.same _) (.cons (.same _) (.cons (.same _) (.cons (.same _) (.cons (.same _) (.cons (.same _) (.cons (.same _) .nil))))))))
  | cmsg_Settle x => exact .miss _ _ _ _ rfl hz (.cons (.same _) (.cons (.same _) (.cons (.same _) (.cons (.same _) (.cons (.same _) (.cons (.same _) (.cons (.same _) (.cons (.same _) .nil))))))))
  | cmsg_Default x => exact .miss _ _ _ _ rfl hz (.cons (.same _) (.cons (.same _) (.cons (.same _) (.cons (.same _) (.cons (.same _) (.cons (.same _) (.cons (.same _) (.cons (.same _) .nil))))))))
  | cmsg_Bound x => exact .miss _ _ _ _ rfl hz (.cons (.same _) (.cons (.same _) (.cons (.same _) (.cons (.same _) (.cons (.same _) (.cons (.same _) (.cons (.same _) (.cons (.same _) .nil))))))))
  | cmsg_Reset x => exact .miss _ _ _ _ rfl hz (.cons (.same _) (.cons (.same _) (.cons (.same _) (.cons (.same _) (.cons (.same _) (.cons (.same _) (.cons (.same _) (.cons (.same _) .nil))))))))
theorem msg_Message.atmsg_Swap (x : msg_Message) : AsT prog 58 x.enc (msg_Swap.enc x.asmsg_Swap) x.ismsg_Swap := by
  have hz : (prog.info? 58).bind (·.zero) = some (.agg #[.int .i64 0, .int .i64 0, .string (tx []), .int .i64 0, .slice none 0 0]) := by kernel_rfl
  cases x with
  | cmsg_Swap x => exact .hit _
  | nil => exact .none _ _ hz (.cons (.same _) (.cons (.same _) (.cons (.same _) (.cons (.same _) (.cons (.none 2) .nil)))))
  | cmsg_Offer x => exact .miss _ _ _ _ rfl hz (.cons (.same _) (.cons (.same _) (.cons (.same _) (.cons (.same _) (.cons (.none 2) .nil)))))
  | cmsg_Roll x => exact .miss _ _ _ _ rfl hz (.cons (.same _) (.cons (.same _) (.cons (.same _) (.cons (.same _) (.cons (.none 2) .nil)))))
  | cmsg_Join x => exact .miss _ _ _ _ rfl hz (.cons (.same _) (.cons (.same _) (.cons (.same _) (.cons (.same _) (.cons (.none 2) .nil)))))
  | cmsg_List x => exact .miss _ _ _ _ rfl hz (.cons (.same _) (.cons (.same _) (.cons (.same _) (.cons (.same _) (.cons (.none 2) .nil)))))
  | cmsg_Rules x => exact .miss _ _ _ _ rfl hz (.cons (.same _) (.cons (.same _) (.cons (.same _) (.cons (.same _) (.cons (.none 2) .nil)))))
  | cmsg_Prices x => exact .miss _ _ _ _ rfl hz (.cons (.same _) (.cons (.same _) (.cons (.same _) (.cons (.same _) (.cons (.none 2) .nil)))))
  | cmsg_Cash x => exact .miss _ _ _ _ rfl hz (.cons (.same _) (.cons (.same _) (.cons (.same _) (.cons (.same _) (.cons (.none 2) .nil)))))
  | cmsg_Move x => exact .miss _ _ _ _ rfl hz (.cons (.same _) (.cons (.same _) (.cons (.same _) (.cons (.same _) (.cons (.none 2) .nil)))))
  | cmsg_Cancel x => exact .miss _ _ _ _ rfl hz (.cons (.same _) (.cons (.same _) (.cons (.same _) (.cons (.same _) (.cons (.none 2) .nil)))))
  | cmsg_Notice x => exact .miss _ _ _ _ rfl hz (.cons (.same _) (.cons (.same _) (.cons (.same _) (.cons (.same _) (.cons (.none 2) .nil)))))
  | cmsg_Settle x => exact .miss _ _ _ _ rfl hz (.cons (.same _) (.cons (.same _) (.cons (.same _) (.cons (.same _) (.cons (.none 2) .nil)))))
  | cmsg_Default x => exact .miss _ _ _ _ rfl hz (.cons (.same _) (.cons (.same _) (.cons (.same _) (.cons (.same _) (.cons (.none 2) .nil)))))
  | cmsg_Bound x => exact .miss _ _ _ _ rfl hz (.cons (.same _) (.cons (.same _) (.cons (.same _) (.cons (.same _) (.cons (.none 2) .nil)))))
  | cmsg_Reset x => exact .miss _ _ _ _ rfl hz (.cons (.same _) (.cons (.same _) (.cons (.same _) (.cons (.same _) (.cons (.none 2) .nil)))))
theorem msg_Message.atmsg_Roll (x : msg_Message) : AsT prog 70 x.enc (msg_Roll.enc x.asmsg_Roll) x.ismsg_Roll := by
  have hz : (prog.info? 70).bind (·.zero) = some (.agg #[.int .i64 0]) := by kernel_rfl
  cases x with
  | cmsg_Roll x => exact .hit _
  | nil => exact .none _ _ hz (.cons (.same _) .nil)
  | cmsg_Offer x => exact .miss _ _ _ _ rfl hz (.cons (.same _) .nil)
  | cmsg_Swap x => exact .miss _ _ _ _ rfl hz (.cons (.same _) .nil)
  | cmsg_Join x => exact .miss _ _ _ _ rfl hz (.cons (.same _) .nil)
  | cmsg_List x => exact .miss _ _ _ _ rfl hz (.cons (.same _) .nil)
  | cmsg_Rules x => exact .miss _ _ _ _ rfl hz (.cons (.same _) .nil)
  | cmsg_Prices x => exact .miss _ _ _ _ rfl hz (.cons (.same _) .nil)
  | cmsg_Cash x => exact .miss _ _ _ _ rfl hz (.cons (.same _) .nil)
  | cmsg_Move x => exact .miss _ _ _ _ rfl hz (.cons (.same _) .nil)
  | cmsg_Cancel x => exact .miss _ _ _ _ rfl hz (.cons (.same _) .nil)
  | cmsg_Notice x => exact .miss _ _ _ _ rfl hz (.cons (.same _) .nil)
  | cmsg_Settle x => exact .miss _ _ _ _ rfl hz (.cons (.same _) .nil)
  | cmsg_Default x => exact .miss _ _ _ _ rfl hz (.cons (.same _) .nil)
  | cmsg_Bound x => exact .miss _ _ _ _ rfl hz (.cons (.same _) .nil)
  | cmsg_Reset x => exact .miss _ _ _ _ rfl hz (.cons (.same _) .nil)
theorem msg_Message.atmsg_Join (x : msg_Message) : AsT prog 83 x.enc (msg_Join.enc x.asmsg_Join) x.ismsg_Join := by
  have hz : (prog.info? 83).bind (·.zero) = some (.agg #[.int .i64 0, .string (tx [])]) := by kernel_rfl
  cases x with
  | cmsg_Join x => exact .hit _
  | nil => exact .none _ _ hz (.cons (.same _) (.cons (.same _) .nil))
  | cmsg_Offer x => exact .miss _ _ _ _ rfl hz (.cons (.same _) (.cons (.same _) .nil))
  | cmsg_Swap x => exact .miss _ _ _ _ rfl hz (.cons (.same _) (.cons (.same _) .nil))
  | cmsg_Roll x => exact .miss _ _ _ _ rfl hz (.cons (.same _) (.cons (.same _) .nil))
  | cmsg_List x => exact .miss _ _ _ _ rfl hz (.cons (.same _) (.cons (.same _) .nil))
  | cmsg_Rules x => exact .miss _ _ _ _ rfl hz (.cons (.same _) (.cons (.same _) .nil))
  | cmsg_Prices x => exact .miss _ _ _ _ rfl hz (.cons (.same _) (.cons (.same _) .nil))
  | cmsg_Cash x => exact .miss _ _ _ _ rfl hz (.cons (.same _) (.cons (.same _) .nil))
  | cmsg_Move x => exact .miss _ _ _ _ rfl hz (.cons (.same _) (.cons (.same _) .nil))
  | cmsg_Cancel x => exact .miss _ _ _ _ rfl hz (.cons (.same _) (.cons (.same _) .nil))
  | cmsg_Notice x => exact .miss _ _ _ _ rfl hz (.cons (.same _) (.cons (.same _) .nil))
  | cmsg_Settle x => exact .miss _ _ _ _ rfl hz (.cons (.same _) (.cons (.same _) .nil))
  | cmsg_Default x => exact .miss _ _ _ _ rfl hz (.cons (.same _) (.cons (.same _) .nil))
  | cmsg_Bound x => exact .miss _ _ _ _ rfl hz (.cons (.same _) (.cons (.same _) .nil))
  | cmsg_Reset x => exact .miss _ _ _ _ rfl hz (.cons (.same _) (.cons (.same _) .nil))
theorem msg_Message.atmsg_List (x : msg_Message) : AsT prog 85 x.enc (msg_List.enc x.asmsg_List) x.ismsg_List := by
  have hz : (prog.info? 85).bind (·.zero) = some (.agg #[.string (tx []), .int .i64 0, .int .i64 0, .int .i64 0, .string (tx [])]) := by kernel_rfl
  cases x with
  | cmsg_List x => exact .hit _
  | nil => exact .none _ _ hz (.cons (.same _) (.cons (.same _) (.cons (.same _) (.cons (.same _) (.cons (.same _) .nil)))))
  | cmsg_Offer x => exact .miss _ _ _ _ rfl hz (.cons (.same _) (.cons (.same _) (.cons (.same _) (.cons (.same _) (.cons (.same _) .nil)))))
  | cmsg_Swap x => exact .miss _ _ _ _ rfl hz (.cons (.same _) (.cons (.same _) (.cons (.same _) (.cons (.same _) (.cons (.same _) .nil)))))
  | cmsg_Roll x => exact .miss _ _ _ _ rfl hz (.cons (.same _) (.cons (.same _) (.cons (.same _) (.cons (.same _) (.cons (.same _) .nil)))))
  | cmsg_Join x => exact .miss _ _ _ _ rfl hz (.cons (.same _) (.cons (.same _) (.cons (.same _) (.cons (.same _) (.cons (.same _) .nil)))))
  | cmsg_Rules x => exact .miss _ _ _ _ rfl hz (.cons (.same _) (.cons (.same _) (.cons (.same _) (.cons (.same _) (.cons (.same _) .nil)))))
  | cmsg_Prices x => exact .miss _ _ _ _ rfl hz (.cons (.same _) (.cons (.same _) (.cons (.same _) (.cons (.same _) (.cons (.same _) .nil)))))
  | cmsg_Cash x => exact .miss _ _ _ _ rfl hz (.cons (.same _) (.cons (.same _) (.cons (.same _) (.cons (.same _) (.cons (.same _) .nil)))))
  | cmsg_Move x => exact .miss _ _ _ _ rfl hz (.cons (.same _) (.cons (.same _) (.cons (.same _) (.cons (.same _) (.cons (.same _) .nil)))))
  | cmsg_Cancel x => exact .miss _ _ _ _ rfl hz (.cons (.same _) (.cons (.same _) (.cons (.same _) (.cons (.same _) (.cons (.same _) .nil)))))
  | cmsg_Notice x => exact .miss _ _ _ _ rfl hz (.cons (.same _) (.cons (.same _) (.cons (.same _) (.cons (.same _) (.cons (.same _) .nil)))))
  | cmsg_Settle x => exact .miss _ _ _ _ rfl hz (.cons (.same _) (.cons (.same _) (.cons (.same _) (.cons (.same _) (.cons (.same _) .nil)))))
  | cmsg_Default x => exact .miss _ _ _ _ rfl hz (.cons (.same _) (.cons (.same _) (.cons (.same _) (.cons (.same _) (.cons (.same _) .nil)))))
  | cmsg_Bound x => exact .miss _ _ _ _ rfl hz (.cons (.same _) (.cons (.same _) (.cons (.same _) (.cons (.same _) (.cons (.same _) .nil)))))
  | cmsg_Reset x => exact .miss _ _ _ _ rfl hz (.cons (.same _) (.cons (.same _) (.cons (.same _) (.cons (.same _) (.cons (.same _) .nil)))))
theorem msg_Message.atmsg_Rules (x : msg_Message) : AsT prog 87 x.enc (msg_Rules.enc x.asmsg_Rules) x.ismsg_Rules := by
  have hz : (prog.info? 87).bind (·.zero) = some (.agg #[.int .i64 0, .int .i64 0, .string (tx []), .int .i64 0, .int .i64 0, .int .i64 0, .slice none 0 0, .int .i64 0, .int .i64 0, .slice none 0 0]) := by kernel_rfl
  cases x with
  | cmsg_Rules x => exact .hit _
  | nil => exact .none _ _ hz (.cons (.same _) (.cons (.same _) (.cons (.same _) (.cons (.same _) (.cons (.same _) (.cons (.same _) (.cons (.none 3) (.cons (.same _) (.cons (.same _) (.cons (.none 1) .nil))))))))))
  | cmsg_Offer x => exact .miss _ _ _ _ rfl hz (.cons (.same _) (.cons (.same _) (.cons (.same _) (.cons (.same _) (.cons (.same _) (.cons (.same _) (.cons (.none 3) (.cons (.same _) (.cons (.same _) (.cons (.none 1) .nil))))))))))
  | cmsg_Swap x => exact .miss _ _ _ _ rfl hz (.cons (.same _) (.cons (.same _) (.cons (.same _) (.cons (.same _) (.cons (.same _) (.cons (.same _) (.cons (.none 3) (.cons (.same _) (.cons (.same _) (.cons (.none 1) .nil))))))))))
  | cmsg_Roll x => exact .miss _ _ _ _ rfl hz (.cons (.same _) (.cons (.same _) (.cons (.same _) (.cons (.same _) (.cons (.same _) (.cons (.same _) (.cons (.none 3) (.cons (.same _) (.cons (.same _) (.cons (.none 1) .nil))))))))))
  | cmsg_Join x => exact .miss _ _ _ _ rfl hz (.cons (.same _) (.cons (.same _) (.cons (.same _) (.cons (.same _) (.cons (.same _) (.cons (.same _) (.cons (.none 3) (.cons (.same _) (.cons (.same _) (.cons (.none 1) .nil))))))))))
  | cmsg_List x => exact .miss _ _ _ _ rfl hz (.cons (.same _) (.cons (.same _) (.cons (.same _) (.cons (.same _) (.cons (.same _) (.cons (.same _) (.cons (.none 3) (.cons (.same _) (.cons (.same _) (.cons (.none 1) .nil))))))))))
  | cmsg_Prices x => exact .miss _ _ _ _ rfl hz (.cons (.same _) (.cons (.same _) (.cons (.same _) (.cons (.same _) (.cons (.same _) (.cons (.same _) (.cons (.none 3) (.cons (.same _) (.cons (.same _) (.cons (.none 1) .nil))))))))))
  | cmsg_Cash x => exact .miss _ _ _ _ rfl hz (.cons (.same _) (.cons (.same _) (.cons (.same _) (.cons (.same _) (.cons (.same _) (.cons (.same _) (.cons (.none 3) (.cons (.same _) (.cons (.same _) (.cons (.none 1) .nil))))))))))
  | cmsg_Move x => exact .miss _ _ _ _ rfl hz (.cons (.same _) (.cons (.same _) (.cons (.same _) (.cons (.same _) (.cons (.same _) (.cons (.same _) (.cons (.none 3) (.cons (.same _) (.cons (.same _) (.cons (.none 1) .nil))))))))))
  | cmsg_Cancel x => exact .miss _ _ _ _ rfl hz (.cons (.same _) (.cons (.same _) (.cons (.same _) (.cons (.same _) (.cons (.same _) (.cons (.same _) (.cons (.none 3) (.cons (.same _) (.cons (.same _) (.cons (.none 1) .nil))))))))))
  | cmsg_Notice x => exact .miss _ _ _ _ rfl hz (.cons (.same _) (.cons (.same _) (.cons (.same _) (.cons (.same _) (.cons (.same _) (.cons (.same _) (.cons (.none 3) (.cons (.same _) (.cons (.same _) (.cons (.none 1) .nil))))))))))
  | cmsg_Settle x => exact .miss _ _ _ _ rfl hz (.cons (.same _) (.cons (.same _) (.cons (.same _) (.cons (.same _) (.cons (.same _) (.cons (.same _) (.cons (.none 3) (.cons (.same _) (.cons (.same _) (.cons (.none 1) .nil))))))))))
  | cmsg_Default x => exact .miss _ _ _ _ rfl hz (.cons (.same _) (.cons (.same _) (.cons (.same _) (.cons (.same _) (.cons (.same _) (.cons (.same _) (.cons (.none 3) (.cons (.same _) (.cons (.same _) (.cons (.none 1) .nil))))))))))
  | cmsg_Bound x => exact .miss _ _ _ _ rfl hz (.cons (.same _) (.cons (.same _) (.cons (.same _) (.cons (.same _) (.cons (.same _) (.cons (.same _) (.cons (.none 3) (.cons (.same _) (.cons (.same _) (.cons (.none 1) .nil))))))))))
  | cmsg_Reset x => exact .miss _ _ _ _ rfl hz (.cons (.same _) (.cons (.same _) (.cons (.same _) (.cons (.same _) (.cons (.same _) (.cons (.same _) (.cons (.none 3) (.cons (.same _) (.cons (.same _) (.cons (.none 1) .nil))))))))))
theorem msg_Message.atmsg_Prices (x : msg_Message) : AsT prog 89 x.enc (msg_Prices.enc x.asmsg_Prices) x.ismsg_Prices := by
  have hz : (prog.info? 89).bind (·.zero) = some (.agg #[.slice none 0 0]) := by kernel_rfl
  cases x with
  | cmsg_Prices x => exact .hit _
  | nil => exact .none _ _ hz (.cons (.none 2) .nil)
  | cmsg_Offer x => exact .miss _ _ _ _ rfl hz (.cons (.none 2) .nil)
  | cmsg_Swap x => exact .miss _ _ _ _ rfl hz (.cons (.none 2) .nil)
  | cmsg_Roll x => exact .miss _ _ _ _ rfl hz (.cons (.none 2) .nil)
  | cmsg_Join x => exact .miss _ _ _ _ rfl hz (.cons (.none 2) .nil)
  | cmsg_List x => exact .miss _ _ _ _ rfl hz (.cons (.none 2) .nil)
  | cmsg_Rules x => exact .miss _ _ _ _ rfl hz (.cons (.none 2) .nil)
  | cmsg_Cash x => exact .miss _ _ _ _ rfl hz (.cons (.none 2) .nil)
  | cmsg_Move x => exact .miss _ _ _ _ rfl hz (.cons (.none 2) .nil)
  | cmsg_Cancel x => exact .miss _ _ _ _ rfl hz (.cons (.none 2) .nil)
  | cmsg_Notice x => exact .miss _ _ _ _ rfl hz (.cons (.none 2) .nil)
  | cmsg_Settle x => exact .miss _ _ _ _ rfl hz (.cons (.none 2) .nil)
  | cmsg_Default x => exact .miss _ _ _ _ rfl hz (.cons (.none 2) .nil)
  | cmsg_Bound x => exact .miss _ _ _ _ rfl hz (.cons (.none 2) .nil)
  | cmsg_Reset x => exact .miss _ _ _ _ rfl hz (.cons (.none 2) .nil)
theorem msg_Message.atmsg_Cash (x : msg_Message) : AsT prog 91 x.enc (msg_Cash.enc x.asmsg_Cash) x.ismsg_Cash := by
  have hz : (prog.info? 91).bind (·.zero) = some (.agg #[.int .i64 0, .string (tx []), .int .i64 0]) := by kernel_rfl
  cases x with
  | cmsg_Cash x => exact .hit _
  | nil => exact .none _ _ hz (.cons (.same _) (.cons (.same _) (.cons (.same _) .nil)))
  | cmsg_Offer x => exact .miss _ _ _ _ rfl hz (.cons (.same _) (.cons (.same _) (.cons (.same _) .nil)))
  | cmsg_Swap x => exact .miss _ _ _ _ rfl hz (.cons (.same _) (.cons (.same _) (.cons (.same _) .nil)))
  | cmsg_Roll x => exact .miss _ _ _ _ rfl hz (.cons (.same _) (.cons (.same _) (.cons (.same _) .nil)))
  | cmsg_Join x => exact .miss _ _ _ _ rfl hz (.cons (.same _) (.cons (.same _) (.cons (.same _) .nil)))
  | cmsg_List x => exact .miss _ _ _ _ rfl hz (.cons (.same _) (.cons (.same _) (.cons (.same _) .nil)))
  | cmsg_Rules x => exact .miss _ _ _ _ rfl hz (.cons (.same _) (.cons (.same _) (.cons (.same _) .nil)))
  | cmsg_Prices x => exact .miss _ _ _ _ rfl hz (.cons (.same _) (.cons (.same _) (.cons (.same _) .nil)))
  | cmsg_Move x => exact .miss _ _ _ _ rfl hz (.cons (.same _) (.cons (.same _) (.cons (.same _) .nil)))
  | cmsg_Cancel x => exact .miss _ _ _ _ rfl hz (.cons (.same _) (.cons (.same _) (.cons (.same _) .nil)))
  | cmsg_Notice x => exact .miss _ _ _ _ rfl hz (.cons (.same _) (.cons (.same _) (.cons (.same _) .nil)))
  | cmsg_Settle x => exact .miss _ _ _ _ rfl hz (.cons (.same _) (.cons (.same _) (.cons (.same _) .nil)))
  | cmsg_Default x => exact .miss _ _ _ _ rfl hz (.cons (.same _) (.cons (.same _) (.cons (.same _) .nil)))
  | cmsg_Bound x => exact .miss _ _ _ _ rfl hz (.cons (.same _) (.cons (.same _) (.cons (.same _) .nil)))
  | cmsg_Reset x => exact .miss _ _ _ _ rfl hz (.cons (.same _) (.cons (.same _) (.cons (.same _) .nil)))
theorem msg_Message.atmsg_Move (x : msg_Message) : AsT prog 93 x.enc (msg_Move.enc x.asmsg_Move) x.ismsg_Move := by
  have hz : (prog.info? 93).bind (·.zero) = some (.agg #[.int .i64 0, .string (tx []), .int .i64 0]) := by kernel_rfl
  cases x with
  | cmsg_Move x => exact .hit _
  | nil => exact .none _ _ hz (.cons (.same _) (.cons (.same _) (.cons (.same _) .nil)))
  | cmsg_Offer x => exact .miss _ _ _ _ rfl hz (.cons (.same _) (.cons (.same _) (.cons (.same _) .nil)))
  | cmsg_Swap x => exact .miss _ _ _ _ rfl hz (.cons (.same _) (.cons (.same _) (.cons (.same _) .nil)))
  | cmsg_Roll x => exact .miss _ _ _ _ rfl hz (.cons (.same _) (.cons (.same _) (.cons (.same _) .nil)))
  | cmsg_Join x => exact .miss _ _ _ _ rfl hz (.cons (.same _) (.cons (.same _) (.cons (.same _) .nil)))
  | cmsg_List x => exact .miss _ _ _ _ rfl hz (.cons (.same _) (.cons (.same _) (.cons (.same _) .nil)))
  | cmsg_Rules x => exact .miss _ _ _ _ rfl hz (.cons (.same _) (.cons (.same _) (.cons (.same _) .nil)))
  | cmsg_Prices x => exact .miss _ _ _ _ rfl hz (.cons (.same _) (.cons (.same _) (.cons (.same _) .nil)))
  | cmsg_Cash x => exact .miss _ _ _ _ rfl hz (.cons (.same _) (.cons (.same _) (.cons (.same _) .nil)))
  | cmsg_Cancel x => exact .miss _ _ _ _ rfl hz (.cons (.same _) (.cons (.same _) (.cons (.same _) .nil)))
  | cmsg_Notice x => exact .miss _ _ _ _ rfl hz (.cons (.same _) (.cons (.same _) (.cons (.same _) .nil)))
  | cmsg_Settle x => exact .miss _ _ _ _ rfl hz (.cons (.same _) (.cons (.same _) (.cons (.same _) .nil)))
  | cmsg_Default x => exact .miss _ _ _ _ rfl hz (.cons (.same _) (.cons (.same _) (.cons (.same _) .nil)))
  | cmsg_Bound x => exact .miss _ _ _ _ rfl hz (.cons (.same _) (.cons (.same _) (.cons (.same _) .nil)))
  | cmsg_Reset x => exact .miss _ _ _ _ rfl hz (.cons (.same _) (.cons (.same _) (.cons (.same _) .nil)))
theorem msg_Message.atmsg_Cancel (x : msg_Message) : AsT prog 95 x.enc (msg_Cancel.enc x.asmsg_Cancel) x.ismsg_Cancel := by
  have hz : (prog.info? 95).bind (·.zero) = some (.agg #[.int .i64 0, .int .i64 0]) := by kernel_rfl
  cases x with
  | cmsg_Cancel x => exact .hit _
  | nil => exact .none _ _ hz (.cons (.same _) (.cons (.same _) .nil))
  | cmsg_Offer x => exact .miss _ _ _ _ rfl hz (.cons (.same _) (.cons (.same _) .nil))
  | cmsg_Swap x => exact .miss _ _ _ _ rfl hz (.cons (.same _) (.cons (.same _) .nil))
  | cmsg_Roll x => exact .miss _ _ _ _ rfl hz (.cons (.same _) (.cons (.same _) .nil))
  | cmsg_Join x => exact .miss _ _ _ _ rfl hz (.cons (.same _) (.cons (.same _) .nil))
  | cmsg_List x => exact .miss _ _ _ _ rfl hz (.cons (.same _) (.cons (.same _) .nil))
  | cmsg_Rules x => exact .miss _ _ _ _ rfl hz (.cons (.same _) (.cons (.same _) .nil))
  | cmsg_Prices x => exact .miss _ _ _ _ rfl hz (.cons (.same _) (.cons (.same _) .nil))
  | cmsg_Cash x => exact .miss _ _ _ _ rfl hz (.cons (.same _) (.cons (.same _) .nil))
  | cmsg_Move x => exact .miss _ _ _ _ rfl hz (.cons (.same _) (.cons (.same _) .nil))
  | cmsg_Notice x => exact .miss _ _ _ _ rfl hz (.cons (.same _) (.cons (.same _) .nil))
  | cmsg_Settle x => exact .miss _ _ _ _ rfl hz (.cons (.same _) (.cons (.same _) .nil))
  | cmsg_Default x => exact .miss _ _ _ _ rfl hz (.cons (.same _) (.cons (.same _) .nil))
  | cmsg_Bound x => exact .miss _ _ _ _ rfl hz (.cons (.same _) (.cons (.same _) .nil))
  | cmsg_Reset x => exact .miss _ _ _ _ rfl hz (.cons (.same _) (.cons (.same _) .nil))
theorem msg_Message.atmsg_Notice (x : msg_Message) : AsT prog 97 x.enc (msg_Notice.enc x.asmsg_Notice) x.ismsg_Notice := by
  have hz : (prog.info? 97).bind (·.zero) = some (.agg #[.int .i64 0, .int .i64 0, .int .i64 0]) := by kernel_rfl
  cases x with
  | cmsg_Notice x => exact .hit _
  | nil => exact .none _ _ hz (.cons (.same _) (.cons (.same _) (.cons (.same _) .nil)))
  | cmsg_Offer x => exact .miss _ _ _ _ rfl hz (.cons (.same _) (.cons (.same _) (.cons (.same _) .nil)))
  | cmsg_Swap x => exact .miss _ _ _ _ rfl hz (.cons (.same _) (.cons (.same _) (.cons (.same _) .nil)))
  | cmsg_Roll x => exact .miss _ _ _ _ rfl hz (.cons (.same _) (.cons (.same _) (.cons (.same _) .nil)))
  | cmsg_Join x => exact .miss _ _ _ _ rfl hz (.cons (.same _) (.cons (.same _) (.cons (.same _) .nil)))
  | cmsg_List x => exact .miss _ _ _ _ rfl hz (.cons (.same _) (.cons (.same _) (.cons (.same _) .nil)))
  | cmsg_Rules x => exact .miss _ _ _ _ rfl hz (.cons (.same _) (.cons (.same _) (.cons (.same _) .nil)))
  | cmsg_Prices x => exact .miss _ _ _ _ rfl hz (.cons (.same _) (.cons (.same _) (.cons (.same _) .nil)))
  | cmsg_Cash x => exact .miss _ _ _ _ rfl hz (.cons (.same _) (.cons (.same _) (.cons (.same _) .nil)))
  | cmsg_Move x => exact .miss _ _ _ _ rfl hz (.cons (.same _) (.cons (.same _) (.cons (.same _) .nil)))
  | cmsg_Cancel x => exact .miss _ _ _ _ rfl hz (.cons (.same _) (.cons (.same _) (.cons (.same _) .nil)))
  | cmsg_Settle x => exact .miss _ _ _ _ rfl hz (.cons (.same _) (.cons (.same _) (.cons (.same _) .nil)))
  | cmsg_Default x => exact .miss _ _ _ _ rfl hz (.cons (.same _) (.cons (.same _) (.cons (.same _) .nil)))
  | cmsg_Bound x => exact .miss _ _ _ _ rfl hz (.cons (.same _) (.cons (.same _) (.cons (.same _) .nil)))
  | cmsg_Reset x => exact .miss _ _ _ _ rfl hz (.cons (.same _) (.cons (.same _) (.cons (.same _) .nil)))
theorem msg_Message.atmsg_Settle (x : msg_Message) : AsT prog 99 x.enc (msg_Settle.enc x.asmsg_Settle) x.ismsg_Settle := by
  have hz : (prog.info? 99).bind (·.zero) = some (.agg #[.int .i64 0, .int .i64 0, .bool false]) := by kernel_rfl
  cases x with
  | cmsg_Settle x => exact .hit _
  | nil => exact .none _ _ hz (.cons (.same _) (.cons (.same _) (.cons (.same _) .nil)))
  | cmsg_Offer x => exact .miss _ _ _ _ rfl hz (.cons (.same _) (.cons (.same _) (.cons (.same _) .nil)))
  | cmsg_Swap x => exact .miss _ _ _ _ rfl hz (.cons (.same _) (.cons (.same _) (.cons (.same _) .nil)))
  | cmsg_Roll x => exact .miss _ _ _ _ rfl hz (.cons (.same _) (.cons (.same _) (.cons (.same _) .nil)))
  | cmsg_Join x => exact .miss _ _ _ _ rfl hz (.cons (.same _) (.cons (.same _) (.cons (.same _) .nil)))
  | cmsg_List x => exact .miss _ _ _ _ rfl hz (.cons (.same _) (.cons (.same _) (.cons (.same _) .nil)))
  | cmsg_Rules x => exact .miss _ _ _ _ rfl hz (.cons (.same _) (.cons (.same _) (.cons (.same _) .nil)))
  | cmsg_Prices x => exact .miss _ _ _ _ rfl hz (.cons (.same _) (.cons (.same _) (.cons (.same _) .nil)))
  | cmsg_Cash x => exact .miss _ _ _ _ rfl hz (.cons (.same _) (.cons (.same _) (.cons (.same _) .nil)))
  | cmsg_Move x => exact .miss _ _ _ _ rfl hz (.cons (.same _) (.cons (.same _) (.cons (.same _) .nil)))
  | cmsg_Cancel x => exact .miss _ _ _ _ rfl hz (.cons (.same _) (.cons (.same _) (.cons (.same _) .nil)))
  | cmsg_Notice x => exact .miss _ _ _ _ rfl hz (.cons (.same _) (.cons (.same _) (.cons (.same _) .nil)))
  | cmsg_Default x => exact .miss _ _ _ _ rfl hz (.cons (.same _) (.cons (.same _) (.cons (.same _) .nil)))
  | cmsg_Bound x => exact .miss _ _ _ _ rfl hz (.cons (.same _) (.cons (.same _) (.cons (.same _) .nil)))
  | cmsg_Reset x => exact .miss _ _ _ _ rfl hz (.cons (.same _) (.cons (.same _) (.cons (.same _) .nil)))
theorem msg_Message.atmsg_Default (x : msg_Message) : AsT prog 101 x.enc (msg_Default.enc x.asmsg_Default) x.ismsg_Default := by
  have hz : (prog.info? 101).bind (·.zero) = some (.agg #[.int .i64 0]) := by kernel_rfl
  cases x with
  | cmsg_Default x => exact .hit _
  | nil => exact .none _ _ hz (.cons (.same _) .nil)
  | cmsg_Offer x => exact .miss _ _ _ _ rfl hz (.cons (.same _) .nil)
  | cmsg_Swap x => exact .miss _ _ _ _ rfl hz (.cons (.same _) .nil)
  | cmsg_Roll x => exact .miss _ _ _ _ rfl hz (.cons (.same _) .nil)
  | cmsg_Join x => exact .miss _ _ _ _ rfl hz (.cons (.same _) .nil)
  | cmsg_List x => exact .miss _ _ _ _ rfl hz (.cons (.same _) .nil)
  | cmsg_Rules x => exact .miss _ _ _ _ rfl hz (.cons (.same _) .nil)
  | cmsg_Prices x => exact .miss _ _ _ _ rfl hz (.cons (.same _) .nil)
  | cmsg_Cash x => exact .miss _ _ _ _ rfl hz (.cons (.same _) .nil)
  | cmsg_Move x => exact .miss _ _ _ _ rfl hz (.cons (.same _) .nil)
  | cmsg_Cancel x => exact .miss _ _ _ _ rfl hz (.cons (.same _) .nil)
  | cmsg_Notice x => exact .miss _ _ _ _ rfl hz (.cons (.same _) .nil)
  | cmsg_Settle x => exact .miss _ _ _ _ rfl hz (.cons (.same _) .nil)
  | cmsg_Bound x => exact .miss _ _ _ _ rfl hz (.cons (.same _) .nil)
  | cmsg_Reset x => exact .miss _ _ _ _ rfl hz (.cons (.same _) .nil)
theorem msg_Message.atmsg_Bound (x : msg_Message) : AsT prog 103 x.enc (msg_Bound.enc x.asmsg_Bound) x.ismsg_Bound := by
  have hz : (prog.info? 103).bind (·.zero) = some (.agg #[.int .i64 0, .int .i64 0]) := by kernel_rfl
  cases x with
  | cmsg_Bound x => exact .hit _
  | nil => exact .none _ _ hz (.cons (.same _) (.cons (.same _) .nil))
  | cmsg_Offer x => exact .miss _ _ _ _ rfl hz (.cons (.same _) (.cons (.same _) .nil))
  | cmsg_Swap x => exact .miss _ _ _ _ rfl hz (.cons (.same _) (.cons (.same _) .nil))
  | cmsg_Roll x => exact .miss _ _ _ _ rfl hz (.cons (.same _) (.cons (.same _) .nil))
  | cmsg_Join x => exact .miss _ _ _ _ rfl hz (.cons (.same _) (.cons (.same _) .nil))
  | cmsg_List x => exact .miss _ _ _ _ rfl hz (.cons (.same _) (.cons (.same _) .nil))
  | cmsg_Rules x => exact .miss _ _ _ _ rfl hz (.cons (.same _) (.cons (.same _) .nil))
  | cmsg_Prices x => exact .miss _ _ _ _ rfl hz (.cons (.same _) (.cons (.same _) .nil))
  | cmsg_Cash x => exact .miss _ _ _ _ rfl hz (.cons (.same _) (.cons (.same _) .nil))
  | cmsg_Move x => exact .miss _ _ _ _ rfl hz (.cons (.same _) (.cons (.same _) .nil))
  | cmsg_Cancel x => exact .miss _ _ _ _ rfl hz (.cons (.same _) (.cons (.same _) .nil))
  | cmsg_Notice x => exact .miss _ _ _ _ rfl hz (.cons (.same _) (.cons (.same _) .nil))
  | cmsg_Settle x => exact .miss _ _ _ _ rfl hz (.cons (.same _) (.cons (.same _) .nil))
  | cmsg_Default x => exact .miss _ _ _ _ rfl hz (.cons (.same _) (.cons (.same _) .nil))
  | cmsg_Reset x => exact .miss _ _ _ _ rfl hz (.cons (.same _) (.cons (.same _) .nil))
theorem msg_Message.atmsg_Reset (x : msg_Message) : AsT prog 105 x.enc (msg_Reset.enc x.asmsg_Reset) x.ismsg_Reset := by
  have hz : (prog.info? 105).bind (·.zero) = some (.agg #[.int .i64 0, .int .i64 0, .int .i64 0]) := by kernel_rfl
  cases x with
  | cmsg_Reset x => exact .hit _
  | nil => exact .none _ _ hz (.cons (.same _) (.cons (.same _) (.cons (.same _) .nil)))
  | cmsg_Offer x => exact .miss _ _ _ _ rfl hz (.cons (.same _) (.cons (.same _) (.cons (.same _) .nil)))
  | cmsg_Swap x => exact .miss _ _ _ _ rfl hz (.cons (.same _) (.cons (.same _) (.cons (.same _) .nil)))
  | cmsg_Roll x => exact .miss _ _ _ _ rfl hz (.cons (.same _) (.cons (.same _) (.cons (.same _) .nil)))
  | cmsg_Join x => exact .miss _ _ _ _ rfl hz (.cons (.same _) (.cons (.same _) (.cons (.same _) .nil)))
  | cmsg_List x => exact .miss _ _ _ _ rfl hz (.cons (.same _) (.cons (.same _) (.cons (.same _) .nil)))
  | cmsg_Rules x => exact .miss _ _ _ _ rfl hz (.cons (.same _) (.cons (.same _) (.cons (.same _) .nil)))
  | cmsg_Prices x => exact .miss _ _ _ _ rfl hz (.cons (.same _) (.cons (.same _) (.cons (.same _) .nil)))
  | cmsg_Cash x => exact .miss _ _ _ _ rfl hz (.cons (.same _) (.cons (.same _) (.cons (.same _) .nil)))
  | cmsg_Move x => exact .miss _ _ _ _ rfl hz (.cons (.same _) (.cons (.same _) (.cons (.same _) .nil)))
  | cmsg_Cancel x => exact .miss _ _ _ _ rfl hz (.cons (.same _) (.cons (.same _) (.cons (.same _) .nil)))
  | cmsg_Notice x => exact .miss _ _ _ _ rfl hz (.cons (.same _) (.cons (.same _) (.cons (.same _) .nil)))
  | cmsg_Settle x => exact .miss _ _ _ _ rfl hz (.cons (.same _) (.cons (.same _) (.cons (.same _) .nil)))
  | cmsg_Default x => exact .miss _ _ _ _ rfl hz (.cons (.same _) (.cons (.same _) (.cons (.same _) .nil)))
  | cmsg_Bound x => exact .miss _ _ _ _ rfl hz (.cons (.same _) (.cons (.same _) (.cons (.same _) .nil)))
def api_Cut.bd (x : api_Cut) : Prop := inK .i64 x.Days ∧ inK .i64 x.Rating ∧ inK .i64 x.Cut ∧ True
def api_Basket.bd (x : api_Basket) : Prop := inK .i64 x.ID ∧ inK .i64 x.Version ∧ (fun s : Bs => s.length ≤ reach) x.Currency ∧ inK .i64 x.Rating ∧ inK .i64 x.Least ∧ inK .i64 x.Most ∧ (fun l : List api_Cut => l.length * 24 ≤ reach ∧ ∀ x ∈ l, api_Cut.bd x) x.Cuts ∧ inK .i64 x.Issuer ∧ inK .i64 x.Asset ∧ (fun l : List Int => l.length * 8 ≤ reach ∧ ∀ x ∈ l, inK .i64 x) x.Barred ∧ True
end Go.Proofs.Ytbmokbkgielmmaa
