/- Shows the types of the data that the printed functions speak of, and facts about the program's types: written by a program of the author's for this claim. -/
import Derived.Test.YtjdkibnhlmgppaaProg
import Derived.Test.YtjdkibnhlmgppaaPmS
namespace Go.Proofs.Ytjdkibnhlmgppaa
open Go Go.Pm
noncomputable abbrev prog : Program := Try.prog
structure auth_Member where
  ID : Int
  Name : Bs
  State : Int
  Bound : Int
  Late : Bool
instance : Inhabited auth_Member := ⟨⟨0, [], 0, 0, false⟩⟩
def auth_Member.enc (x : auth_Member) : List T := [(.val (.int .i64 x.ID)), (.val (.string (tx x.Name))), (.val (.int .i64 x.State)), (.val (.int .i64 x.Bound)), (.val (.bool x.Late))]
abbrev auth_Member.av (x : auth_Member) : List AV := [.i x.ID, .s x.Name, .i x.State, .i x.Bound, .b x.Late]
theorem auth_Member.ok : EncOk auth_Member.enc 5 := ⟨fun _ => rfl, fun _ => rfl⟩
structure auth_List where
  l : List auth_Member
  made : Bool
instance : Inhabited auth_List := ⟨⟨[], false⟩⟩
def auth_List.enc (x : auth_List) : List T := [(.row 5 (List.map auth_Member.enc x.l)), (.val (.bool x.made))]
abbrev auth_List.av (x : auth_List) : List AV := [.imm (.row 5 (List.map auth_Member.enc x.l)), .b x.made]
theorem auth_List.ok : EncOk auth_List.enc 2 := ⟨fun _ => rfl, fun _ => rfl⟩
structure msg_Notice where
  Member : Int
  Trade : Int
  Day : Int
instance : Inhabited msg_Notice := ⟨⟨0, 0, 0⟩⟩
def msg_Notice.enc (x : msg_Notice) : List T := [(.val (.int .i64 x.Member)), (.val (.int .i64 x.Trade)), (.val (.int .i64 x.Day))]
abbrev msg_Notice.av (x : msg_Notice) : List AV := [.i x.Member, .i x.Trade, .i x.Day]
theorem msg_Notice.ok : EncOk msg_Notice.enc 3 := ⟨fun _ => rfl, fun _ => rfl⟩
structure msg_Settle where
  Member : Int
  Day : Int
  Done : Bool
instance : Inhabited msg_Settle := ⟨⟨0, 0, false⟩⟩
def msg_Settle.enc (x : msg_Settle) : List T := [(.val (.int .i64 x.Member)), (.val (.int .i64 x.Day)), (.val (.bool x.Done))]
abbrev msg_Settle.av (x : msg_Settle) : List AV := [.i x.Member, .i x.Day, .b x.Done]
theorem msg_Settle.ok : EncOk msg_Settle.enc 3 := ⟨fun _ => rfl, fun _ => rfl⟩
structure api_Lot where
  ISIN : Bs
  Qty : Int
instance : Inhabited api_Lot := ⟨⟨[], 0⟩⟩
def api_Lot.enc (x : api_Lot) : List T := [(.val (.string (tx x.ISIN))), (.val (.int .i64 x.Qty))]
abbrev api_Lot.av (x : api_Lot) : List AV := [.s x.ISIN, .i x.Qty]
theorem api_Lot.ok : EncOk api_Lot.enc 2 := ⟨fun _ => rfl, fun _ => rfl⟩
structure msg_Swap where
  Member : Int
  Trade : Int
  Out : api_Lot
  In : List api_Lot
instance : Inhabited msg_Swap := ⟨⟨0, 0, (⟨[], 0⟩ : api_Lot), []⟩⟩
def msg_Swap.enc (x : msg_Swap) : List T := [(.val (.int .i64 x.Member)), (.val (.int .i64 x.Trade)), (.val (.string (tx x.Out.ISIN))), (.val (.int .i64 x.Out.Qty)), (.row 2 (List.map api_Lot.enc x.In))]
abbrev msg_Swap.av (x : msg_Swap) : List AV := [.i x.Member, .i x.Trade, .s x.Out.ISIN, .i x.Out.Qty, .imm (.row 2 (List.map api_Lot.enc x.In))]
theorem msg_Swap.ok : EncOk msg_Swap.enc 5 := ⟨fun _ => rfl, fun _ => rfl⟩
structure msg_Default where
  Member : Int
instance : Inhabited msg_Default := ⟨⟨0⟩⟩
def msg_Default.enc (x : msg_Default) : List T := [(.val (.int .i64 x.Member))]
abbrev msg_Default.av (x : msg_Default) : List AV := [.i x.Member]
theorem msg_Default.ok : EncOk msg_Default.enc 1 := ⟨fun _ => rfl, fun _ => rfl⟩
structure msg_Bound where
  Member : Int
  Amount : Int
instance : Inhabited msg_Bound := ⟨⟨0, 0⟩⟩
def msg_Bound.enc (x : msg_Bound) : List T := [(.val (.int .i64 x.Member)), (.val (.int .i64 x.Amount))]
abbrev msg_Bound.av (x : msg_Bound) : List AV := [.i x.Member, .i x.Amount]
theorem msg_Bound.ok : EncOk msg_Bound.enc 2 := ⟨fun _ => rfl, fun _ => rfl⟩
structure msg_Reset where
  Trade : Int
  Day : Int
  Rate : Int
instance : Inhabited msg_Reset := ⟨⟨0, 0, 0⟩⟩
def msg_Reset.enc (x : msg_Reset) : List T := [(.val (.int .i64 x.Trade)), (.val (.int .i64 x.Day)), (.val (.int .i64 x.Rate))]
abbrev msg_Reset.av (x : msg_Reset) : List AV := [.i x.Trade, .i x.Day, .i x.Rate]
theorem msg_Reset.ok : EncOk msg_Reset.enc 3 := ⟨fun _ => rfl, fun _ => rfl⟩
structure api_Asset where
  ISIN : Bs
  Issuer : Int
  Rating : Int
  Maturity : Int
  Currency : Bs
instance : Inhabited api_Asset := ⟨⟨[], 0, 0, 0, []⟩⟩
def api_Asset.enc (x : api_Asset) : List T := [(.val (.string (tx x.ISIN))), (.val (.int .i64 x.Issuer)), (.val (.int .i64 x.Rating)), (.val (.int .i64 x.Maturity)), (.val (.string (tx x.Currency)))]
abbrev api_Asset.av (x : api_Asset) : List AV := [.s x.ISIN, .i x.Issuer, .i x.Rating, .i x.Maturity, .s x.Currency]
theorem api_Asset.ok : EncOk api_Asset.enc 5 := ⟨fun _ => rfl, fun _ => rfl⟩
structure msg_List where
  Asset : api_Asset
instance : Inhabited msg_List := ⟨⟨(⟨[], 0, 0, 0, []⟩ : api_Asset)⟩⟩
def msg_List.enc (x : msg_List) : List T := [(.val (.string (tx x.Asset.ISIN))), (.val (.int .i64 x.Asset.Issuer)), (.val (.int .i64 x.Asset.Rating)), (.val (.int .i64 x.Asset.Maturity)), (.val (.string (tx x.Asset.Currency)))]
abbrev msg_List.av (x : msg_List) : List AV := [.s x.Asset.ISIN, .i x.Asset.Issuer, .i x.Asset.Rating, .i x.Asset.Maturity, .s x.Asset.Currency]
theorem msg_List.ok : EncOk msg_List.enc 5 := ⟨fun _ => rfl, fun _ => rfl⟩
structure api_Cut where
  Days : Int
  Rating : Int
  Cut : Int
instance : Inhabited api_Cut := ⟨⟨0, 0, 0⟩⟩
def api_Cut.enc (x : api_Cut) : List T := [(.val (.int .i64 x.Days)), (.val (.int .i64 x.Rating)), (.val (.int .i64 x.Cut))]
abbrev api_Cut.av (x : api_Cut) : List AV := [.i x.Days, .i x.Rating, .i x.Cut]
theorem api_Cut.ok : EncOk api_Cut.enc 3 := ⟨fun _ => rfl, fun _ => rfl⟩
structure api_Basket where
  ID : Int
  Version : Int
  Currency : Bs
  Rating : Int
  Least : Int
  Most : Int
  Cuts : List api_Cut
  Issuer : Int
  Asset : Int
  Barred : List Int
instance : Inhabited api_Basket := ⟨⟨0, 0, [], 0, 0, 0, [], 0, 0, []⟩⟩
def api_Basket.enc (x : api_Basket) : List T := [(.val (.int .i64 x.ID)), (.val (.int .i64 x.Version)), (.val (.string (tx x.Currency))), (.val (.int .i64 x.Rating)), (.val (.int .i64 x.Least)), (.val (.int .i64 x.Most)), (.row 3 (List.map api_Cut.enc x.Cuts)), (.val (.int .i64 x.Issuer)), (.val (.int .i64 x.Asset)), (.row 1 (List.map (encI .i64) x.Barred))]
abbrev api_Basket.av (x : api_Basket) : List AV := [.i x.ID, .i x.Version, .s x.Currency, .i x.Rating, .i x.Least, .i x.Most, .imm (.row 3 (List.map api_Cut.enc x.Cuts)), .i x.Issuer, .i x.Asset, .imm (.row 1 (List.map (encI .i64) x.Barred))]
theorem api_Basket.ok : EncOk api_Basket.enc 10 := ⟨fun _ => rfl, fun _ => rfl⟩
structure msg_Rules where
  Basket : api_Basket
instance : Inhabited msg_Rules := ⟨⟨(⟨0, 0, [], 0, 0, 0, [], 0, 0, []⟩ : api_Basket)⟩⟩
def msg_Rules.enc (x : msg_Rules) : List T := [(.val (.int .i64 x.Basket.ID)), (.val (.int .i64 x.Basket.Version)), (.val (.string (tx x.Basket.Currency))), (.val (.int .i64 x.Basket.Rating)), (.val (.int .i64 x.Basket.Least)), (.val (.int .i64 x.Basket.Most)), (.row 3 (List.map api_Cut.enc x.Basket.Cuts)), (.val (.int .i64 x.Basket.Issuer)), (.val (.int .i64 x.Basket.Asset)), (.row 1 (List.map (encI .i64) x.Basket.Barred))]
abbrev msg_Rules.av (x : msg_Rules) : List AV := [.i x.Basket.ID, .i x.Basket.Version, .s x.Basket.Currency, .i x.Basket.Rating, .i x.Basket.Least, .i x.Basket.Most, .imm (.row 3 (List.map api_Cut.enc x.Basket.Cuts)), .i x.Basket.Issuer, .i x.Basket.Asset, .imm (.row 1 (List.map (encI .i64) x.Basket.Barred))]
theorem msg_Rules.ok : EncOk msg_Rules.enc 10 := ⟨fun _ => rfl, fun _ => rfl⟩
structure msg_Join where
  Member : Int
  Name : Bs
instance : Inhabited msg_Join := ⟨⟨0, []⟩⟩
def msg_Join.enc (x : msg_Join) : List T := [(.val (.int .i64 x.Member)), (.val (.string (tx x.Name)))]
abbrev msg_Join.av (x : msg_Join) : List AV := [.i x.Member, .s x.Name]
theorem msg_Join.ok : EncOk msg_Join.enc 2 := ⟨fun _ => rfl, fun _ => rfl⟩
structure api_Price where
  ISIN : Bs
  Price : Int
instance : Inhabited api_Price := ⟨⟨[], 0⟩⟩
def api_Price.enc (x : api_Price) : List T := [(.val (.string (tx x.ISIN))), (.val (.int .i64 x.Price))]
abbrev api_Price.av (x : api_Price) : List AV := [.s x.ISIN, .i x.Price]
theorem api_Price.ok : EncOk api_Price.enc 2 := ⟨fun _ => rfl, fun _ => rfl⟩
structure msg_Prices where
  L : List api_Price
instance : Inhabited msg_Prices := ⟨⟨[]⟩⟩
def msg_Prices.enc (x : msg_Prices) : List T := [(.row 2 (List.map api_Price.enc x.L))]
abbrev msg_Prices.av (x : msg_Prices) : List AV := [.imm (.row 2 (List.map api_Price.enc x.L))]
theorem msg_Prices.ok : EncOk msg_Prices.enc 1 := ⟨fun _ => rfl, fun _ => rfl⟩
structure msg_Roll where
  Day : Int
instance : Inhabited msg_Roll := ⟨⟨0⟩⟩
def msg_Roll.enc (x : msg_Roll) : List T := [(.val (.int .i64 x.Day))]
abbrev msg_Roll.av (x : msg_Roll) : List AV := [.i x.Day]
theorem msg_Roll.ok : EncOk msg_Roll.enc 1 := ⟨fun _ => rfl, fun _ => rfl⟩
structure msg_Cash where
  Member : Int
  Currency : Bs
  Amount : Int
instance : Inhabited msg_Cash := ⟨⟨0, [], 0⟩⟩
def msg_Cash.enc (x : msg_Cash) : List T := [(.val (.int .i64 x.Member)), (.val (.string (tx x.Currency))), (.val (.int .i64 x.Amount))]
abbrev msg_Cash.av (x : msg_Cash) : List AV := [.i x.Member, .s x.Currency, .i x.Amount]
theorem msg_Cash.ok : EncOk msg_Cash.enc 3 := ⟨fun _ => rfl, fun _ => rfl⟩
structure msg_Move where
  Member : Int
  ISIN : Bs
  Qty : Int
instance : Inhabited msg_Move := ⟨⟨0, [], 0⟩⟩
def msg_Move.enc (x : msg_Move) : List T := [(.val (.int .i64 x.Member)), (.val (.string (tx x.ISIN))), (.val (.int .i64 x.Qty))]
abbrev msg_Move.av (x : msg_Move) : List AV := [.i x.Member, .s x.ISIN, .i x.Qty]
theorem msg_Move.ok : EncOk msg_Move.enc 3 := ⟨fun _ => rfl, fun _ => rfl⟩
structure msg_Cancel where
  Member : Int
  Quote : Int
instance : Inhabited msg_Cancel := ⟨⟨0, 0⟩⟩
def msg_Cancel.enc (x : msg_Cancel) : List T := [(.val (.int .i64 x.Member)), (.val (.int .i64 x.Quote))]
abbrev msg_Cancel.av (x : msg_Cancel) : List AV := [.i x.Member, .i x.Quote]
theorem msg_Cancel.ok : EncOk msg_Cancel.enc 2 := ⟨fun _ => rfl, fun _ => rfl⟩
structure api_Quote where
  ID : Int
  Member : Int
  Side : Int
  Basket : Int
  Amount : Int
  Rate : Int
  Start : Int
  End : Int
instance : Inhabited api_Quote := ⟨⟨0, 0, 0, 0, 0, 0, 0, 0⟩⟩
def api_Quote.enc (x : api_Quote) : List T := [(.val (.int .i64 x.ID)), (.val (.int .i64 x.Member)), (.val (.int .i64 x.Side)), (.val (.int .i64 x.Basket)), (.val (.int .i64 x.Amount)), (.val (.int .i64 x.Rate)), (.val (.int .i64 x.Start)), (.val (.int .i64 x.End))]
abbrev api_Quote.av (x : api_Quote) : List AV := [.i x.ID, .i x.Member, .i x.Side, .i x.Basket, .i x.Amount, .i x.Rate, .i x.Start, .i x.End]
theorem api_Quote.ok : EncOk api_Quote.enc 8 := ⟨fun _ => rfl, fun _ => rfl⟩
structure msg_Offer where
  Quote : api_Quote
instance : Inhabited msg_Offer := ⟨⟨(⟨0, 0, 0, 0, 0, 0, 0, 0⟩ : api_Quote)⟩⟩
def msg_Offer.enc (x : msg_Offer) : List T := [(.val (.int .i64 x.Quote.ID)), (.val (.int .i64 x.Quote.Member)), (.val (.int .i64 x.Quote.Side)), (.val (.int .i64 x.Quote.Basket)), (.val (.int .i64 x.Quote.Amount)), (.val (.int .i64 x.Quote.Rate)), (.val (.int .i64 x.Quote.Start)), (.val (.int .i64 x.Quote.End))]
abbrev msg_Offer.av (x : msg_Offer) : List AV := [.i x.Quote.ID, .i x.Quote.Member, .i x.Quote.Side, .i x.Quote.Basket, .i x.Quote.Amount, .i x.Quote.Rate, .i x.Quote.Start, .i x.Quote.End]
theorem msg_Offer.ok : EncOk msg_Offer.enc 8 := ⟨fun _ => rfl, fun _ => rfl⟩
inductive msg_Message where
  | nil
  | cmsg_Join (x : msg_Join)
  | cmsg_Offer (x : msg_Offer)
  | cmsg_List (x : msg_List)
  | cmsg_Rules (x : msg_Rules)
  | cmsg_Prices (x : msg_Prices)
  | cmsg_Roll (x : msg_Roll)
  | cmsg_Cash (x : msg_Cash)
  | cmsg_Move (x : msg_Move)
  | cmsg_Settle (x : msg_Settle)
  | cmsg_Default (x : msg_Default)
  | cmsg_Bound (x : msg_Bound)
  | cmsg_Cancel (x : msg_Cancel)
  | cmsg_Notice (x : msg_Notice)
  | cmsg_Swap (x : msg_Swap)
  | cmsg_Reset (x : msg_Reset)
instance : Inhabited msg_Message := ⟨.nil⟩
def msg_Message.enc : msg_Message → T
  | .nil => .val .nilIface
  | .cmsg_Join x => .ifc 49 (.agg (msg_Join.enc x))
  | .cmsg_Offer x => .ifc 63 (.agg (msg_Offer.enc x))
  | .cmsg_List x => .ifc 74 (.agg (msg_List.enc x))
  | .cmsg_Rules x => .ifc 80 (.agg (msg_Rules.enc x))
  | .cmsg_Prices x => .ifc 84 (.agg (msg_Prices.enc x))
  | .cmsg_Roll x => .ifc 87 (.agg (msg_Roll.enc x))
  | .cmsg_Cash x => .ifc 90 (.agg (msg_Cash.enc x))
  | .cmsg_Move x => .ifc 93 (.agg (msg_Move.enc x))
  | .cmsg_Settle x => .ifc 100 (.agg (msg_Settle.enc x))
  | .cmsg_Default x => .ifc 102 (.agg (msg_Default.enc x))
  | .cmsg_Bound x => .ifc 104 (.agg (msg_Bound.enc x))
  | .cmsg_Cancel x => .ifc 126 (.agg (msg_Cancel.enc x))
  | .cmsg_Notice x => .ifc 128 (.agg (msg_Notice.enc x))
  | .cmsg_Swap x => .ifc 133 (.agg (msg_Swap.enc x))
  | .cmsg_Reset x => .ifc 136 (.agg (msg_Reset.enc x))
def msg_Message.ismsg_Join : msg_Message → Bool
  | .cmsg_Join _ => true
  | _ => false
def msg_Message.asmsg_Join : msg_Message → msg_Join
  | .cmsg_Join x => x
  | _ => default
def msg_Message.ismsg_Offer : msg_Message → Bool
  | .cmsg_Offer _ => true
  | _ => false
def msg_Message.asmsg_Offer : msg_Message → msg_Offer
  | .cmsg_Offer x => x
  | _ => default
def msg_Message.ismsg_List : msg_Message → Bool
  | .cmsg_List _ => true
  | _ => false
def msg_Message.asmsg_List : msg_Message → msg_List
  | .cmsg_List x => x
  | _ => default
def msg_Message.ismsg_Rules : msg_Message → Bool
  | .cmsg_Rules _ => true
  | _ => false
def msg_Message.asmsg_Rules : msg_Message → msg_Rules
  | .cmsg_Rules x => x
  | _ => default
def msg_Message.ismsg_Prices : msg_Message → Bool
  | .cmsg_Prices _ => true
  | _ => false
def msg_Message.asmsg_Prices : msg_Message → msg_Prices
  | .cmsg_Prices x => x
  | _ => default
def msg_Message.ismsg_Roll : msg_Message → Bool
  | .cmsg_Roll _ => true
  | _ => false
def msg_Message.asmsg_Roll : msg_Message → msg_Roll
  | .cmsg_Roll x => x
  | _ => default
def msg_Message.ismsg_Cash : msg_Message → Bool
  | .cmsg_Cash _ => true
  | _ => false
def msg_Message.asmsg_Cash : msg_Message → msg_Cash
  | .cmsg_Cash x => x
  | _ => default
def msg_Message.ismsg_Move : msg_Message → Bool
  | .cmsg_Move _ => true
  | _ => false
def msg_Message.asmsg_Move : msg_Message → msg_Move
  | .cmsg_Move x => x
  | _ => default
def msg_Message.ismsg_Settle : msg_Message → Bool
  | .cmsg_Settle _ => true
  | _ => false
def msg_Message.asmsg_Settle : msg_Message → msg_Settle
  | .cmsg_Settle x => x
  | _ => default
def msg_Message.ismsg_Default : msg_Message → Bool
  | .cmsg_Default _ => true
  | _ => false
def msg_Message.asmsg_Default : msg_Message → msg_Default
  | .cmsg_Default x => x
  | _ => default
def msg_Message.ismsg_Bound : msg_Message → Bool
  | .cmsg_Bound _ => true
  | _ => false
def msg_Message.asmsg_Bound : msg_Message → msg_Bound
  | .cmsg_Bound x => x
  | _ => default
def msg_Message.ismsg_Cancel : msg_Message → Bool
  | .cmsg_Cancel _ => true
  | _ => false
def msg_Message.asmsg_Cancel : msg_Message → msg_Cancel
  | .cmsg_Cancel x => x
  | _ => default
def msg_Message.ismsg_Notice : msg_Message → Bool
  | .cmsg_Notice _ => true
  | _ => false
def msg_Message.asmsg_Notice : msg_Message → msg_Notice
  | .cmsg_Notice x => x
  | _ => default
def msg_Message.ismsg_Swap : msg_Message → Bool
  | .cmsg_Swap _ => true
  | _ => false
def msg_Message.asmsg_Swap : msg_Message → msg_Swap
  | .cmsg_Swap x => x
  | _ => default
def msg_Message.ismsg_Reset : msg_Message → Bool
  | .cmsg_Reset _ => true
  | _ => false
def msg_Message.asmsg_Reset : msg_Message → msg_Reset
  | .cmsg_Reset x => x
  | _ => default
theorem bl25 : placesB prog 25 = some ([.slice none 0 0, .bool false], [(0, 1), (1, 1)]) := by kernel_rfl
theorem sl26 : SlT prog 26 22 1 8 [.pointer none] := ⟨by kernel_rfl, by kernel_rfl, rfl, by decide⟩
theorem ty22 : tyV prog 22 = some (false, 1) := by kernel_rfl
theorem z28 : (prog.info? 28).map (fun i => i.zero.map (·.cells.toList)) = some (some [.int .i64 0, .string (tx []), .int .i64 0, .int .i64 0, .bool false]) := by kernel_rfl
theorem u22 : prog.underlying 22 = some (.pointer (prog.pointee 22)) := by kernel_rfl
theorem bl28 : placesB prog 28 = some ([.int .i64 0, .string (tx []), .int .i64 0, .int .i64 0, .bool false], [(0, 1), (1, 1), (2, 1), (3, 1), (4, 1)]) := by kernel_rfl
theorem ty28 : tyV prog 28 = some (true, 5) := by kernel_rfl
theorem sl23 : SlT prog 23 28 5 48 [.int .i64 0, .string (tx []), .int .i64 0, .int .i64 0, .bool false] := ⟨by kernel_rfl, by kernel_rfl, rfl, by decide⟩
theorem ty3 : tyV prog 3 = some (false, 1) := by kernel_rfl
theorem ca25 : callOk prog 25 = true := by kernel_rfl
theorem fld28_2 : fieldB prog 28 2 2 = true := by kernel_rfl
theorem ca4 : callOk prog 4 = true := by kernel_rfl
theorem fld25_0 : fieldB prog 25 0 0 = true := by kernel_rfl
theorem ty23 : tyV prog 23 = some (false, 1) := by kernel_rfl
theorem h3 : (prog.underlying 3).isSome = true := by kernel_rfl
theorem u106 : prog.underlying 106 = some (.int .u64) := by kernel_rfl
theorem h106 : (prog.underlying 106).isSome = true := by kernel_rfl
theorem u3 : prog.underlying 3 = some (.int .i64) := by kernel_rfl
theorem fld28_0 : fieldB prog 28 0 0 = true := by kernel_rfl
theorem ca52 : callOk prog 52 = true := by kernel_rfl
theorem ca34 : callOk prog 34 = true := by kernel_rfl
theorem ca33 : callOk prog 33 = true := by kernel_rfl
theorem ca32 : callOk prog 32 = true := by kernel_rfl
theorem ca16 : callOk prog 16 = true := by kernel_rfl
theorem fld28_1 : fieldB prog 28 1 1 = true := by kernel_rfl
theorem ty9 : tyV prog 9 = some (false, 1) := by kernel_rfl
theorem ca35 : callOk prog 35 = true := by kernel_rfl
theorem ca19 : callOk prog 19 = true := by kernel_rfl
theorem ca18 : callOk prog 18 = true := by kernel_rfl
theorem ca17 : callOk prog 17 = true := by kernel_rfl
theorem fld25_1 : fieldB prog 25 1 1 = true := by kernel_rfl
theorem ty4 : tyV prog 4 = some (false, 1) := by kernel_rfl
theorem bl49 : placesB prog 49 = some ([.int .i64 0, .string (tx [])], [(0, 1), (1, 1)]) := by kernel_rfl
theorem cn49 : prog.concrete 49 = true := by kernel_rfl
theorem pl49 : plainT prog 49 = true := by kernel_rfl
theorem z49 : (prog.info? 49).map (fun i => i.zero.map (·.cells.toList)) = some (some [.int .i64 0, .string (tx [])]) := by kernel_rfl
theorem ty49 : tyV prog 49 = some (true, 2) := by kernel_rfl
theorem fld49_1 : fieldB prog 49 1 1 = true := by kernel_rfl
theorem u9 : prog.underlying 9 = some .string := by kernel_rfl
theorem ca56 : callOk prog 56 = true := by kernel_rfl
theorem ca57 : callOk prog 57 = true := by kernel_rfl
theorem ca58 : callOk prog 58 = true := by kernel_rfl
theorem fld49_0 : fieldB prog 49 0 0 = true := by kernel_rfl
theorem pl74 : plainT prog 74 = true := by kernel_rfl
theorem z74 : (prog.info? 74).map (fun i => i.zero.map (·.cells.toList)) = some (some [.string (tx []), .int .i64 0, .int .i64 0, .int .i64 0, .string (tx [])]) := by kernel_rfl
theorem ty74 : tyV prog 74 = some (true, 5) := by kernel_rfl
theorem fld74_0 : fieldB prog 74 0 0 = true := by kernel_rfl
theorem ty72 : tyV prog 72 = some (true, 5) := by kernel_rfl
theorem fld72_0 : fieldB prog 72 0 0 = true := by kernel_rfl
theorem ca72 : callOk prog 72 = true := by kernel_rfl
theorem ca60 : callOk prog 60 = true := by kernel_rfl
theorem z3 : (prog.info? 3).map (fun i => i.zero.map (·.cells.toList)) = some (some [.int .i64 0]) := by kernel_rfl
theorem h5 : (prog.underlying 5).isSome = true := by kernel_rfl
theorem ca73 : callOk prog 73 = true := by kernel_rfl
theorem u5 : prog.underlying 5 = some (.int .u8) := by kernel_rfl
theorem ca66 : callOk prog 66 = true := by kernel_rfl
theorem ca67 : callOk prog 67 = true := by kernel_rfl
theorem ca61 : callOk prog 61 = true := by kernel_rfl
theorem fld72_4 : fieldB prog 72 4 4 = true := by kernel_rfl
theorem fld72_1 : fieldB prog 72 1 1 = true := by kernel_rfl
theorem fld72_2 : fieldB prog 72 2 2 = true := by kernel_rfl
theorem fld72_3 : fieldB prog 72 3 3 = true := by kernel_rfl
theorem ca45 : callOk prog 45 = true := by kernel_rfl
theorem ca43 : callOk prog 43 = true := by kernel_rfl
theorem pl80 : plainT prog 80 = true := by kernel_rfl
theorem z80 : (prog.info? 80).map (fun i => i.zero.map (·.cells.toList)) = some (some [.int .i64 0, .int .i64 0, .string (tx []), .int .i64 0, .int .i64 0, .int .i64 0, .slice none 0 0, .int .i64 0, .int .i64 0, .slice none 0 0]) := by kernel_rfl
theorem ty80 : tyV prog 80 = some (true, 10) := by kernel_rfl
theorem fld80_0 : fieldB prog 80 0 0 = true := by kernel_rfl
theorem ty78 : tyV prog 78 = some (true, 10) := by kernel_rfl
theorem fld78_0 : fieldB prog 78 0 0 = true := by kernel_rfl
theorem fld78_1 : fieldB prog 78 1 1 = true := by kernel_rfl
theorem fld78_3 : fieldB prog 78 3 3 = true := by kernel_rfl
theorem fld78_7 : fieldB prog 78 7 7 = true := by kernel_rfl
theorem fld78_8 : fieldB prog 78 8 8 = true := by kernel_rfl
theorem fld78_6 : fieldB prog 78 6 6 = true := by kernel_rfl
theorem ty76 : tyV prog 76 = some (false, 1) := by kernel_rfl
theorem sl76 : SlT prog 76 119 3 24 [.int .i64 0, .int .i64 0, .int .i64 0] := ⟨by kernel_rfl, by kernel_rfl, rfl, by decide⟩
theorem fld78_9 : fieldB prog 78 9 9 = true := by kernel_rfl
theorem ty58 : tyV prog 58 = some (false, 1) := by kernel_rfl
theorem sl58 : SlT prog 58 3 1 8 [.int .i64 0] := ⟨by kernel_rfl, by kernel_rfl, rfl, by decide⟩
theorem fld78_4 : fieldB prog 78 4 4 = true := by kernel_rfl
theorem fld78_5 : fieldB prog 78 5 5 = true := by kernel_rfl
theorem fld78_2 : fieldB prog 78 2 2 = true := by kernel_rfl
theorem ty119 : tyV prog 119 = some (true, 3) := by kernel_rfl
theorem z119 : (prog.info? 119).map (fun i => i.zero.map (·.cells.toList)) = some (some [.int .i64 0, .int .i64 0, .int .i64 0]) := by kernel_rfl
theorem fld119_0 : fieldB prog 119 0 0 = true := by kernel_rfl
theorem fld119_1 : fieldB prog 119 1 1 = true := by kernel_rfl
theorem fld119_2 : fieldB prog 119 2 2 = true := by kernel_rfl
theorem ca59 : callOk prog 59 = true := by kernel_rfl
theorem pl84 : plainT prog 84 = true := by kernel_rfl
theorem z84 : (prog.info? 84).map (fun i => i.zero.map (·.cells.toList)) = some (some [.slice none 0 0]) := by kernel_rfl
theorem ty84 : tyV prog 84 = some (true, 1) := by kernel_rfl
theorem fld84_0 : fieldB prog 84 0 0 = true := by kernel_rfl
theorem ty82 : tyV prog 82 = some (false, 1) := by kernel_rfl
theorem sl82 : SlT prog 82 121 2 24 [.string (tx []), .int .i64 0] := ⟨by kernel_rfl, by kernel_rfl, rfl, by decide⟩
theorem ty121 : tyV prog 121 = some (true, 2) := by kernel_rfl
theorem z121 : (prog.info? 121).map (fun i => i.zero.map (·.cells.toList)) = some (some [.string (tx []), .int .i64 0]) := by kernel_rfl
theorem fld121_0 : fieldB prog 121 0 0 = true := by kernel_rfl
theorem fld121_1 : fieldB prog 121 1 1 = true := by kernel_rfl
theorem pl87 : plainT prog 87 = true := by kernel_rfl
theorem z87 : (prog.info? 87).map (fun i => i.zero.map (·.cells.toList)) = some (some [.int .i64 0]) := by kernel_rfl
theorem ty87 : tyV prog 87 = some (true, 1) := by kernel_rfl
theorem fld87_0 : fieldB prog 87 0 0 = true := by kernel_rfl
theorem pl90 : plainT prog 90 = true := by kernel_rfl
theorem z90 : (prog.info? 90).map (fun i => i.zero.map (·.cells.toList)) = some (some [.int .i64 0, .string (tx []), .int .i64 0]) := by kernel_rfl
theorem ty90 : tyV prog 90 = some (true, 3) := by kernel_rfl
theorem fld90_1 : fieldB prog 90 1 1 = true := by kernel_rfl
theorem fld90_0 : fieldB prog 90 0 0 = true := by kernel_rfl
theorem fld90_2 : fieldB prog 90 2 2 = true := by kernel_rfl
theorem pl93 : plainT prog 93 = true := by kernel_rfl
theorem z93 : (prog.info? 93).map (fun i => i.zero.map (·.cells.toList)) = some (some [.int .i64 0, .string (tx []), .int .i64 0]) := by kernel_rfl
theorem ty93 : tyV prog 93 = some (true, 3) := by kernel_rfl
theorem fld93_0 : fieldB prog 93 0 0 = true := by kernel_rfl
theorem fld93_2 : fieldB prog 93 2 2 = true := by kernel_rfl
theorem fld93_1 : fieldB prog 93 1 1 = true := by kernel_rfl
theorem pl63 : plainT prog 63 = true := by kernel_rfl
theorem z63 : (prog.info? 63).map (fun i => i.zero.map (·.cells.toList)) = some (some [.int .i64 0, .int .i64 0, .int .i64 0, .int .i64 0, .int .i64 0, .int .i64 0, .int .i64 0, .int .i64 0]) := by kernel_rfl
theorem ty63 : tyV prog 63 = some (true, 8) := by kernel_rfl
theorem fld63_0 : fieldB prog 63 0 0 = true := by kernel_rfl
theorem fld61_1 : fieldB prog 61 1 1 = true := by kernel_rfl
theorem ty61 : tyV prog 61 = some (true, 8) := by kernel_rfl
theorem fld61_0 : fieldB prog 61 0 0 = true := by kernel_rfl
theorem fld61_2 : fieldB prog 61 2 2 = true := by kernel_rfl
theorem fld61_3 : fieldB prog 61 3 3 = true := by kernel_rfl
theorem fld61_4 : fieldB prog 61 4 4 = true := by kernel_rfl
theorem fld61_5 : fieldB prog 61 5 5 = true := by kernel_rfl
theorem fld61_6 : fieldB prog 61 6 6 = true := by kernel_rfl
theorem fld61_7 : fieldB prog 61 7 7 = true := by kernel_rfl
theorem ca42 : callOk prog 42 = true := by kernel_rfl
theorem pl126 : plainT prog 126 = true := by kernel_rfl
theorem z126 : (prog.info? 126).map (fun i => i.zero.map (·.cells.toList)) = some (some [.int .i64 0, .int .i64 0]) := by kernel_rfl
theorem ty126 : tyV prog 126 = some (true, 2) := by kernel_rfl
theorem fld126_0 : fieldB prog 126 0 0 = true := by kernel_rfl
theorem fld126_1 : fieldB prog 126 1 1 = true := by kernel_rfl
theorem pl128 : plainT prog 128 = true := by kernel_rfl
theorem z128 : (prog.info? 128).map (fun i => i.zero.map (·.cells.toList)) = some (some [.int .i64 0, .int .i64 0, .int .i64 0]) := by kernel_rfl
theorem ty128 : tyV prog 128 = some (true, 3) := by kernel_rfl
theorem fld128_0 : fieldB prog 128 0 0 = true := by kernel_rfl
theorem fld128_1 : fieldB prog 128 1 1 = true := by kernel_rfl
theorem fld128_2 : fieldB prog 128 2 2 = true := by kernel_rfl
theorem pl133 : plainT prog 133 = true := by kernel_rfl
theorem z133 : (prog.info? 133).map (fun i => i.zero.map (·.cells.toList)) = some (some [.int .i64 0, .int .i64 0, .string (tx []), .int .i64 0, .slice none 0 0]) := by kernel_rfl
theorem ty133 : tyV prog 133 = some (true, 5) := by kernel_rfl
theorem fld133_0 : fieldB prog 133 0 0 = true := by kernel_rfl
theorem fld133_1 : fieldB prog 133 1 1 = true := by kernel_rfl
theorem fld133_3 : fieldB prog 133 3 4 = true := by kernel_rfl
theorem ty131 : tyV prog 131 = some (false, 1) := by kernel_rfl
theorem sl131 : SlT prog 131 130 2 24 [.string (tx []), .int .i64 0] := ⟨by kernel_rfl, by kernel_rfl, rfl, by decide⟩
theorem fld133_2 : fieldB prog 133 2 2 = true := by kernel_rfl
theorem ty130 : tyV prog 130 = some (true, 2) := by kernel_rfl
theorem fld130_1 : fieldB prog 130 1 1 = true := by kernel_rfl
theorem fld130_0 : fieldB prog 130 0 0 = true := by kernel_rfl
theorem z130 : (prog.info? 130).map (fun i => i.zero.map (·.cells.toList)) = some (some [.string (tx []), .int .i64 0]) := by kernel_rfl
theorem ca37 : callOk prog 37 = true := by kernel_rfl
theorem ca68 : callOk prog 68 = true := by kernel_rfl
theorem pl100 : plainT prog 100 = true := by kernel_rfl
theorem z100 : (prog.info? 100).map (fun i => i.zero.map (·.cells.toList)) = some (some [.int .i64 0, .int .i64 0, .bool false]) := by kernel_rfl
theorem ty100 : tyV prog 100 = some (true, 3) := by kernel_rfl
theorem fld100_0 : fieldB prog 100 0 0 = true := by kernel_rfl
theorem fld100_1 : fieldB prog 100 1 1 = true := by kernel_rfl
theorem pl102 : plainT prog 102 = true := by kernel_rfl
theorem z102 : (prog.info? 102).map (fun i => i.zero.map (·.cells.toList)) = some (some [.int .i64 0]) := by kernel_rfl
theorem ty102 : tyV prog 102 = some (true, 1) := by kernel_rfl
theorem fld102_0 : fieldB prog 102 0 0 = true := by kernel_rfl
theorem pl104 : plainT prog 104 = true := by kernel_rfl
theorem z104 : (prog.info? 104).map (fun i => i.zero.map (·.cells.toList)) = some (some [.int .i64 0, .int .i64 0]) := by kernel_rfl
theorem ty104 : tyV prog 104 = some (true, 2) := by kernel_rfl
theorem fld104_0 : fieldB prog 104 0 0 = true := by kernel_rfl
theorem fld104_1 : fieldB prog 104 1 1 = true := by kernel_rfl
theorem pl136 : plainT prog 136 = true := by kernel_rfl
theorem z136 : (prog.info? 136).map (fun i => i.zero.map (·.cells.toList)) = some (some [.int .i64 0, .int .i64 0, .int .i64 0]) := by kernel_rfl
theorem ty136 : tyV prog 136 = some (true, 3) := by kernel_rfl
theorem fld136_0 : fieldB prog 136 0 0 = true := by kernel_rfl
theorem fld136_2 : fieldB prog 136 2 2 = true := by kernel_rfl
theorem fld136_1 : fieldB prog 136 1 1 = true := by kernel_rfl
theorem ca41 : callOk prog 41 = true := by kernel_rfl
theorem ca62 : callOk prog 62 = true := by kernel_rfl
theorem ca36 : callOk prog 36 = true := by kernel_rfl
theorem ca38 : callOk prog 38 = true := by kernel_rfl
theorem ca39 : callOk prog 39 = true := by kernel_rfl
theorem ca40 : callOk prog 40 = true := by kernel_rfl
theorem ca44 : callOk prog 44 = true := by kernel_rfl
theorem ca46 : callOk prog 46 = true := by kernel_rfl
theorem ca47 : callOk prog 47 = true := by kernel_rfl
theorem ca22 : callOk prog 22 = true := by kernel_rfl
theorem ca48 : callOk prog 48 = true := by kernel_rfl
theorem ca20 : callOk prog 20 = true := by kernel_rfl
theorem ca21 : callOk prog 21 = true := by kernel_rfl
theorem ca24 : callOk prog 24 = true := by kernel_rfl
theorem ca51 : callOk prog 51 = true := by kernel_rfl
theorem ca30 : callOk prog 30 = true := by kernel_rfl
theorem ca12 : callOk prog 12 = true := by kernel_rfl
theorem ca23 : callOk prog 23 = true := by kernel_rfl
theorem ca31 : callOk prog 31 = true := by kernel_rfl
theorem ca6 : callOk prog 6 = true := by kernel_rfl
theorem ca5 : callOk prog 5 = true := by kernel_rfl
theorem ca7 : callOk prog 7 = true := by kernel_rfl
theorem ca8 : callOk prog 8 = true := by kernel_rfl
theorem ca9 : callOk prog 9 = true := by kernel_rfl
theorem ca10 : callOk prog 10 = true := by kernel_rfl
theorem ca11 : callOk prog 11 = true := by kernel_rfl
theorem ca13 : callOk prog 13 = true := by kernel_rfl
theorem ca14 : callOk prog 14 = true := by kernel_rfl
theorem ca15 : callOk prog 15 = true := by kernel_rfl
theorem msg_Message.atmsg_Join (x : msg_Message) : AsT prog 49 x.enc (msg_Join.enc x.asmsg_Join) x.ismsg_Join := by
  have hz : (prog.info? 49).bind (·.zero) = some (.agg #[.int .i64 0, .string (tx [])]) := by kernel_rfl
  cases x with
  | cmsg_Join x => exact .hit _
  | nil => exact .none _ _ hz (.cons (.same _) (.cons (.same _) .nil))
  | cmsg_Offer x => exact .miss _ _ _ _ rfl hz (.cons (.same _) (.cons (.same _) .nil))
  | cmsg_List x => exact .miss _ _ _ _ rfl hz (.cons (.same _) (.cons (.same _) .nil))
  | cmsg_Rules x => exact .miss _ _ _ _ rfl hz (.cons (.same _) (.cons (.same _) .nil))
  | cmsg_Prices x => exact .miss _ _ _ _ rfl hz (.cons (.same _) (.cons (.same _) .nil))
  | cmsg_Roll x => exact .miss _ _ _ _ rfl hz (.cons (.same _) (.cons (.same _) .nil))
  | cmsg_Cash x => exact .miss _ _ _ _ rfl hz (.cons (.same _) (.cons (.same _) .nil))
  | cmsg_Move x => exact .miss _ _ _ _ rfl hz (.cons (.same _) (.cons (.same _) .nil))
  | cmsg_Settle x => exact .miss _ _ _ _ rfl hz (.cons (.same _) (.cons (.same _) .nil))
  | cmsg_Default x => exact .miss _ _ _ _ rfl hz (.cons (.same _) (.cons (.same _) .nil))
  | cmsg_Bound x => exact .miss _ _ _ _ rfl hz (.cons (.same _) (.cons (.same _) .nil))
  | cmsg_Cancel x => exact .miss _ _ _ _ rfl hz (.cons (.same _) (.cons (.same _) .nil))
  | cmsg_Notice x => exact .miss _ _ _ _ rfl hz (.cons (.same _) (.cons (.same _) .nil))
  | cmsg_Swap x => exact .miss _ _ _ _ rfl hz (.cons (.same _) (.cons (.same _) .nil))
  | cmsg_Reset x => exact .miss _ _ _ _ rfl hz (.cons (.same _) (.cons (.same _) .nil))
theorem msg_Message.atmsg_Offer (x : msg_Message) : AsT prog 63 x.enc (msg_Offer.enc x.asmsg_Offer) x.ismsg_Offer := by
  have hz : (prog.info? 63).bind (·.zero) = some (.agg #[.int .i64 0, .int .i64 0, .int .i64 0, .int .i64 0, .int .i64 0, .int .i64 0, .int .i64 0, .int .i64 0]) := by kernel_rfl
  cases x with
  | cmsg_Offer x => exact .hit _
  | nil => exact .none _ _ hz (.cons (.same _) (.cons (.same _) (.cons (.same _) (.cons (.same _) (.cons (.same _) (.cons (.same _) (.cons (.same _) (.cons (.same _) .nil))))))))
  | cmsg_Join x => exact .miss _ _ _ _ rfl hz (.cons (.same _) (.cons (.same _) (.cons (.same _) (.cons (.same _) (.cons (.same _) (.cons (.same _) (.cons (.same _) (.cons (.same _) .nil))))))))
  | cmsg_List x => exact .miss _ _ _ _ rfl hz (.cons (.same _) (.cons (.same _) (.cons (.same _) (.cons (.same _) (.cons (.same _) (.cons (.same _) (.cons (.same _) (.cons (.same _) .nil))))))))
  | cmsg_Rules x => exact .miss _ _ _ _ rfl hz (.cons (.same _) (.cons (.same _) (.cons (.same _) (.cons (.same _) (.cons (.same _) (.cons (.same _) (.cons (.same _) (.cons (.same _) .nil))))))))
  | cmsg_Prices x => exact .miss _ _ _ _ rfl hz (.cons (.same _) (.cons (.same _) (.cons (.same _) (.cons (.same _) (.cons (.same _) (.cons (.same _) (.cons (.same _) (.cons (.same _) .nil))))))))
  | cmsg_Roll x => exact .miss _ _ _ _ rfl hz (.cons (.same _) (.cons (.same _) (.cons (.same _) (.cons (.same _) (.cons (.same _) (.cons (.same _) (.cons (.same _) (.cons (.same _) .nil))))))))
  | cmsg_Cash x => exact .miss _ _ _ _ rfl hz (.cons (.same _) (.cons (.same _) (.cons (.same _) (.cons (.same _) (.cons (.same _) (.cons (.same _) (.cons (.same _) (.cons (.same _) .nil))))))))
  | cmsg_Move x => exact .miss _ _ _ _ rfl hz (.cons (.same _) (.cons (.same _) (.cons (.same _) (.cons (.same _) (.cons (.same _) (.cons (.same _) (.cons (.same _) (.cons (.same _) .nil))))))))
  | cmsg_Settle x => exact .miss _ _ _ _ rfl hz (.cons (.same _) (.cons (.same _) (.cons (.same _) (.cons (.same _) (.cons (.same _) (.cons (.same _) (.cons (.same _) (.cons (.same _) .nil))))))))
  | cmsg_Default x => exact .miss _ _ _ _ rfl hz (.cons (.same _) (.cons (.same _) (.cons (.same _) (.cons (.same _) (.cons (.same _) (.cons (.same _) (.cons (.same _) (.cons (.same _) .nil))))))))
  | cmsg_Bound x => exact .miss _ _ _ _ rfl hz (.cons (.same _) (.cons (.same _) (.cons (.same _) (.cons (.same _) (.cons (.same _) (.cons (.same _) (.cons (.same _) (.cons (.same _) .nil))))))))
  | cmsg_Cancel x => exact .miss _ _ _ _ rfl hz (.cons (.same _) (.cons (.same _) (.cons (.same _) (.cons (.same _) (.cons (.same _) (.cons (.same _) (.cons (.same _) (.cons (.same _) .nil))))))))
  | cmsg_Notice x => exact .miss _ _ _ _ rfl hz (.cons (.same _) (.cons (.same _) (.cons (.same _) (.cons (.same _) (.cons (.same _) (.cons (.same _) (.cons (.same _) (.cons (.same _) .nil))))))))
  | cmsg_Swap x => exact .miss _ _ _ _ rfl hz (.cons (.same _) (.cons (.same _) (.cons (.same _) (.cons (.same _) (.cons (.same _) (.cons (.same _) (.cons (.same _) (.cons (.same _) .nil))))))))
  | cmsg_Reset x => exact .miss _ _ _ _ rfl hz (.cons (.same _) (.cons (.same _) (.cons (.same _) (.cons (.same _) (.cons (.same _) (.cons (.same _) (.cons (.same _) (.cons (.same _) .nil))))))))
theorem msg_Message.atmsg_List (x : msg_Message) : AsT prog 74 x.enc (msg_List.enc x.asmsg_List) x.ismsg_List := by
  have hz : (prog.info? 74).bind (·.zero) = some (.agg #[.string (tx []), .int .i64 0, .int .i64 0, .int .i64 0, .string (tx [])]) := by kernel_rfl
  cases x with
  | cmsg_List x => exact .hit _
  | nil => exact .none _ _ hz (.cons (.same _) (.cons (.same _) (.cons (.same _) (.cons (.same _) (.cons (.same _) .nil)))))
  | cmsg_Join x => exact .miss _ _ _ _ rfl hz (.cons (.same _) (.cons (.same _) (.cons (.same _) (.cons (.same _) (.cons (.same _) .nil)))))
  | cmsg_Offer x => exact .miss _ _ _ _ rfl hz (.cons (.same _) (.cons (.same _) (.cons (.same _) (.cons (.same _) (.cons (.same _) .nil)))))
  | cmsg_Rules x => exact .miss _ _ _ _ rfl hz (.cons (.same _) (.cons (.same _) (.cons (.same _) (.cons (.same _) (.cons (.same _) .nil)))))
  | cmsg_Prices x => exact .miss _ _ _ _ rfl hz (.cons (.same _) (.cons (.same _) (.cons (.same _) (.cons (.same _) (.cons (.same _) .nil)))))
  | cmsg_Roll x => exact .miss _ _ _ _ rfl hz (.cons (.same _) (.cons (.same _) (.cons (.same _) (.cons (.same _) (.cons (.same _) .nil)))))
  | cmsg_Cash x => exact .miss _ _ _ _ rfl hz (.cons (.same _) (.cons (.same _) (.cons (.same _) (.cons (.same _) (.cons (.same _) .nil)))))
  | cmsg_Move x => exact .miss _ _ _ _ rfl hz (.cons (.same _) (.cons (.same _) (.cons (.same _) (.cons (.same _) (.cons (.same _) .nil)))))
  | cmsg_Settle x => exact .miss _ _ _ _ rfl hz (.cons (.same _) (.cons (.same _) (.cons (.same _) (.cons (.same _) (.cons (.same _) .nil)))))
  | cmsg_Default x => exact .miss _ _ _ _ rfl hz (.cons (.same _) (.cons (.same _) (.cons (.same _) (.cons (.same _) (.cons (.same _) .nil)))))
  | cmsg_Bound x => exact .miss _ _ _ _ rfl hz (.cons (.same _) (.cons (.same _) (.cons (.same _) (.cons (.same _) (.cons (.same _) .nil)))))
  | cmsg_Cancel x => exact .miss _ _ _ _ rfl hz (.cons (.same _) (.cons (.same _) (.cons (.same _) (.cons (.same _) (.cons (.same _) .nil)))))
  | cmsg_Notice x => exact .miss _ _ _ _ rfl hz (.cons (.same _) (.cons (.same _) (.cons (.same _) (.cons (.same _) (.cons (.same _) .nil)))))
  | cmsg_Swap x => exact .miss _ _ _ _ rfl hz (.cons (.same _) (.cons (.same _) (.cons (.same _) (.cons (.same _) (.cons (.same _) .nil)))))
  | cmsg_Reset x => exact .miss _ _ _ _ rfl hz (.cons (.same _) (.cons (.same _) (.cons (.same _) (.cons (.same _) (.cons (.same _) .nil)))))
theorem msg_Message.atmsg_Rules (x : msg_Message) : AsT prog 80 x.enc (msg_Rules.enc x.asmsg_Rules) x.ismsg_Rules := by
  have hz : (prog.info? 80).bind (·.zero) = some (.agg #[.int .i64 0, .int .i64 0, .string (tx []), .int .i64 0, .int .i64 0, .int .i64 0, .slice none 0 0, .int .i64 0, .int .i64 0, .slice none 0 0]) := by kernel_rfl
  cases x with
  | cmsg_Rules x => exact .hit _
  | nil => exact .none _ _ hz (.cons (.same _) (.cons (.same _) (.cons (.same _) (.cons (.same _) (.cons (.same _) (.cons (.same _) (.cons (.none 3) (.cons (.same _) (.cons (.same _) (.cons (.none 1) .nil))))))))))
  | cmsg_Join x => exact .miss _ _ _ _ rfl hz (.cons (.same _) (.cons (.same _) (.cons (.same _) (.cons (.same _) (.cons (.same _) (.cons (.same _) (.cons (.none 3) (.cons (.same _) (.cons (.same _) (.cons (.none 1) .nil))))))))))
  | cmsg_Offer x => exact .miss _ _ _ _ rfl hz (.cons (.same _) (.cons (.same _) (.cons (.same _) (.cons (.same _) (.cons (.same _) (.cons (.same _) (.cons (.none 3) (.cons (.same _) (.cons (.same _) (.cons (.none 1) .nil))))))))))
  | cmsg_List x => exact .miss _ _ _ _ rfl hz (.cons (.same _) (.cons (.same _) (.cons (.same _) (.cons (.same _) (.cons (.same _) (.cons (.same _) (.cons (.none 3) (.cons (.same _) (.cons (.same _) (.cons (.none 1) .nil))))))))))
  | cmsg_Prices x => exact .miss _ _ _ _ rfl hz (.cons (.same _) (.cons (.same _) (.cons (.same _) (.cons (.same _) (.cons (.same _) (.cons (.same _) (.cons (.none 3) (.cons (.same _) (.cons (.same _) (.cons (.none 1) .nil))))))))))
  | cmsg_Roll x => exact .miss _ _ _ _ rfl hz (.cons (.same _) (.cons (.same _) (.cons (.same _) (.cons (.same _) (.cons (.same _) (.cons (.same _) (.cons (.none 3) (.cons (.same _) (.cons (.same _) (.cons (.none 1) .nil))))))))))
  | cmsg_Cash x => exact .miss _ _ _ _ rfl hz (.cons (.same _) (.cons (.same _) (.cons (.same _) (.cons (.same _) (.cons (.same _) (.cons (.same _) (.cons (.none 3) (.cons (.same _) (.cons (.same _) (.cons (.none 1) .nil))))))))))
  | cmsg_Move x => exact .miss _ _ _ _ rfl hz (.cons (.same _) (.cons (.same _) (.cons (.same _) (.cons (.same _) (.cons (.same _) (.cons (.same _) (.cons (.none 3) (.cons (.same _) (.cons (.same _) (.cons (.none 1) .nil))))))))))
  | cmsg_Settle x => exact .miss _ _ _ _ rfl hz (.cons (.same _) (.cons (.same _) (.cons (.same _) (.cons (.same _) (.cons (.same _) (.cons (.same _) (.cons (.none 3) (.cons (.same _) (.cons (.same _) (.cons (.none 1) .nil))))))))))
  | cmsg_Default x => exact .miss _ _ _ _ rfl hz (.cons (.same _) (.cons (.same _) (.cons (.same _) (.cons (.same _) (.cons (.same _) (.cons (.same _) (.cons (.none 3) (.cons (.same _) (.cons (.same _) (.cons (.none 1) .nil))))))))))
  | cmsg_Bound x => exact .miss _ _ _ _ rfl hz (.cons (.same _) (.cons (.same _) (.cons (.same _) (.cons (.same _) (.cons (.same _) (.cons (.same _) (.cons (.none 3) (.cons (.same _) (.cons (.same _) (.cons (.none 1) .nil))))))))))
  | cmsg_Cancel x => exact .miss _ _ _ _ rfl hz (.cons (.same _) (.cons (.same _) (.cons (.same _) (.cons (.same _) (.cons (.same _) (.cons (.same _) (.cons (.none 3) (.cons (.same _) (.cons (.same _) (.cons (.none 1) .nil))))))))))
  | cmsg_Notice x => exact .miss _ _ _ _ rfl hz (.cons (.same _) (.cons (.same _) (.cons (.same _) (.cons (.same _) (.cons (.same _) (.cons (.same _) (.cons (.none 3) (.cons (.same _) (.cons (.same _) (.cons (.none 1) .nil))))))))))
  | cmsg_Swap x => exact .miss _ _ _ _ rfl hz (.cons (.same _) (.cons (.same _) (.cons (.same _) (.cons (.same _) (.cons (.same _) (.cons (.same _) (.cons (.none 3) (.cons (.same _) (.cons (.same _) (.cons (.none 1) .nil))))))))))
  | cmsg_Reset x => exact .miss _ _ _ _ rfl hz (.cons (.same _) (.cons (.same _) (.cons (.same _) (.cons (.same _) (.cons (.same _) (.cons (.same _) (.cons (.none 3) (.cons (.same _) (.cons (.same _) (.cons (.none 1) .nil))))))))))
theorem msg_Message.atmsg_Prices (x : msg_Message) : AsT prog 84 x.enc (msg_Prices.enc x.asmsg_Prices) x.ismsg_Prices := by
  have hz : (prog.info? 84).bind (·.zero) = some (.agg #[.slice none 0 0]) := by kernel_rfl
  cases x with
  | cmsg_Prices x => exact .hit _
  | nil => exact .none _ _ hz (.cons (.none 2) .nil)
  | cmsg_Join x => exact .miss _ _ _ _ rfl hz (.cons (.none 2) .nil)
  | cmsg_Offer x => exact .miss _ _ _ _ rfl hz (.cons (.none 2) .nil)
  | cmsg_List x => exact .miss _ _ _ _ rfl hz (.cons (.none 2) .nil)
  | cmsg_Rules x => exact .miss _ _ _ _ rfl hz (.cons (.none 2) .nil)
  | cmsg_Roll x => exact .miss _ _ _ _ rfl hz (.cons (.none 2) .nil)
  | cmsg_Cash x => exact .miss _ _ _ _ rfl hz (.cons (.none 2) .nil)
  | cmsg_Move x => exact .miss _ _ _ _ rfl hz (.cons (.none 2) .nil)
  | cmsg_Settle x => exact .miss _ _ _ _ rfl hz (.cons (.none 2) .nil)
  | cmsg_Default x => exact .miss _ _ _ _ rfl hz (.cons (.none 2) .nil)
  | cmsg_Bound x => exact .miss _ _ _ _ rfl hz (.cons (.none 2) .nil)
  | cmsg_Cancel x => exact .miss _ _ _ _ rfl hz (.cons (.none 2) .nil)
  | cmsg_Notice x => exact .miss _ _ _ _ rfl hz (.cons (.none 2) .nil)
  | cmsg_Swap x => exact .miss _ _ _ _ rfl hz (.cons (.none 2) .nil)
  | cmsg_Reset x => exact .miss _ _ _ _ rfl hz (.cons (.none 2) .nil)
theorem msg_Message.atmsg_Roll (x : msg_Message) : AsT prog 87 x.enc (msg_Roll.enc x.asmsg_Roll) x.ismsg_Roll := by
  have hz : (prog.info? 87).bind (·.zero) = some (.agg #[.int .i64 0]) := by kernel_rfl
  cases x with
  | cmsg_Roll x => exact .hit _
  | nil => exact .none _ _ hz (.cons (.same _) .nil)
  | cmsg_Join x => exact .miss _ _ _ _ rfl hz (.cons (.same _) .nil)
  | cmsg_Offer x => exact .miss _ _ _ _ rfl hz (.cons (.same _) .nil)
  | cmsg_List x => exact .miss _ _ _ _ rfl hz (.cons (.same _) .nil)
  | cmsg_Rules x => exact .miss _ _ _ _ rfl hz (.cons (.same _) .nil)
  | cmsg_Prices x => exact .miss _ _ _ _ rfl hz (.cons (.same _) .nil)
  | cmsg_Cash x => exact .miss _ _ _ _ rfl hz (.cons (.same _) .nil)
  | cmsg_Move x => exact .miss _ _ _ _ rfl hz (.cons (.same _) .nil)
  | cmsg_Settle x => exact .miss _ _ _ _ rfl hz (.cons (.same _) .nil)
  | cmsg_Default x => exact .miss _ _ _ _ rfl hz (.cons (.same _) .nil)
  | cmsg_Bound x => exact .miss _ _ _ _ rfl hz (.cons (.same _) .nil)
  | cmsg_Cancel x => exact .miss _ _ _ _ rfl hz (.cons (.same _) .nil)
  | cmsg_Notice x => exact .miss _ _ _ _ rfl hz (.cons (.same _) .nil)
  | cmsg_Swap x => exact .miss _ _ _ _ rfl hz (.cons (.same _) .nil)
  | cmsg_Reset x => exact .miss _ _ _ _ rfl hz (.cons (.same _) .nil)
theorem msg_Message.atmsg_Cash (x : msg_Message) : AsT prog 90 x.enc (msg_Cash.enc x.asmsg_Cash) x.ismsg_Cash := by
  have hz : (prog.info? 90).bind (·.zero) = some (.agg #[.int .i64 0, .string (tx []), .int .i64 0]) := by kernel_rfl
  cases x with
  | cmsg_Cash x => exact .hit _
  | nil => exact .none _ _ hz (.cons (.same _) (.cons (.same _) (.cons (.same _) .nil)))
  | cmsg_Join x => exact .miss _ _ _ _ rfl hz (.cons (.same _) (.cons (.same _) (.cons (.same _) .nil)))
  | cmsg_Offer x => exact .miss _ _ _ _ rfl hz (.cons (.same _) (.cons (.same _) (.cons (.same _) .nil)))
  | cmsg_List x => exact .miss _ _ _ _ rfl hz (.cons (.same _) (.cons (.same _) (.cons (.same _) .nil)))
  | cmsg_Rules x => exact .miss _ _ _ _ rfl hz (.cons (.same _) (.cons (.same _) (.cons (.same _) .nil)))
  | cmsg_Prices x => exact .miss _ _ _ _ rfl hz (.cons (.same _) (.cons (.same _) (.cons (.same _) .nil)))
  | cmsg_Roll x => exact .miss _ _ _ _ rfl hz (.cons (.same _) (.cons (.same _) (.cons (.same _) .nil)))
  | cmsg_Move x => exact .miss _ _ _ _ rfl hz (.cons (.same _) (.cons (.same _) (.cons (.same _) .nil)))
  | cmsg_Settle x => exact .miss _ _ _ _ rfl hz (.cons (.same _) (.cons (.same _) (.cons (.same _) .nil)))
  | cmsg_Default x => exact .miss _ _ _ _ rfl hz (.cons (.same _) (.cons (.same _) (.cons (.same _) .nil)))
  | cmsg_Bound x => exact .miss _ _ _ _ rfl hz (.cons (.same _) (.cons (.same _) (.cons (.same _) .nil)))
  | cmsg_Cancel x => exact .miss _ _ _ _ rfl hz (.cons (.same _) (.cons (.same _) (.cons (.same _) .nil)))
  | cmsg_Notice x => exact .miss _ _ _ _ rfl hz (.cons (.same _) (.cons (.same _) (.cons (.same _) .nil)))
  | cmsg_Swap x => exact .miss _ _ _ _ rfl hz (.cons (.same _) (.cons (.same _) (.cons (.same _) .nil)))
  | cmsg_Reset x => exact .miss _ _ _ _ rfl hz (.cons (.same _) (.cons (.same _) (.cons (.same _) .nil)))
theorem msg_Message.atmsg_Move (x : msg_Message) : AsT prog 93 x.enc (msg_Move.enc x.asmsg_Move) x.ismsg_Move := by
  have hz : (prog.info? 93).bind (·.zero) = some (.agg #[.int .i64 0, .string (tx []), .int .i64 0]) := by kernel_rfl
  cases x with
  | cmsg_Move x => exact .hit _
  | nil => exact .none _ _ hz (.cons (.same _) (.cons (.same _) (.cons (.same _) .nil)))
  | cmsg_Join x => exact .miss _ _ _ _ rfl hz (.cons (.same _) (.cons (.same _) (.cons (.same _) .nil)))
  | cmsg_Offer x => exact .miss _ _ _ _ rfl hz (.cons (.same _) (.cons (.same _) (.cons (.same _) .nil)))
  | cmsg_List x => exact .miss _ _ _ _ rfl hz (.cons (.same _) (.cons (.same _) (.cons (.same _) .nil)))
  | cmsg_Rules x => exact .miss _ _ _ _ rfl hz (.cons (.same _) (.cons (.same _) (.cons (.same _) .nil)))
  | cmsg_Prices x => exact .miss _ _ _ _ rfl hz (.cons (.same _) (.cons (.same _) (.cons (.same _) .nil)))
  | cmsg_Roll x => exact .miss _ _ _ _ rfl hz (.cons (.same _) (.cons (.same _) (.cons (.same _) .nil)))
  | cmsg_Cash x => exact .miss _ _ _ _ rfl hz (.cons (.same _) (.cons (.same _) (.cons (.same _) .nil)))
  | cmsg_Settle x => exact .miss _ _ _ _ rfl hz (.cons (.same _) (.cons (.same _) (.cons (.same _) .nil)))
  | cmsg_Default x => exact .miss _ _ _ _ rfl hz (.cons (.same _) (.cons (.same _) (.cons (.same _) .nil)))
  | cmsg_Bound x => exact .miss _ _ _ _ rfl hz (.cons (.same _) (.cons (.same _) (.cons (.same _) .nil)))
  | cmsg_Cancel x => exact .miss _ _ _ _ rfl hz (.cons (.same _) (.cons (.same _) (.cons (.same _) .nil)))
  | cmsg_Notice x => exact .miss _ _ _ _ rfl hz (.cons (.same _) (.cons (.same _) (.cons (.same _) .nil)))
  | cmsg_Swap x => exact .miss _ _ _ _ rfl hz (.cons (.same _) (.cons (.same _) (.cons (.same _) .nil)))
  | cmsg_Reset x => exact .miss _ _ _ _ rfl hz (.cons (.same _) (.cons (.same _) (.cons (.same _) .nil)))
theorem msg_Message.atmsg_Settle (x : msg_Message) : AsT prog 100 x.enc (msg_Settle.enc x.asmsg_Settle) x.ismsg_Settle := by
  have hz : (prog.info? 100).bind (·.zero) = some (.agg #[.int .i64 0, .int .i64 0, .bool false]) := by kernel_rfl
  cases x with
  | cmsg_Settle x => exact .hit _
  | nil => exact .none _ _ hz (.cons (.same _) (.cons (.same _) (.cons (.same _) .nil)))
  | cmsg_Join x => exact .miss _ _ _ _ rfl hz (.cons (.same _) (.cons (.same _) (.cons (.same _) .nil)))
  | cmsg_Offer x => exact .miss _ _ _ _ rfl hz (.cons (.same _) (.cons (.same _) (.cons (.same _) .nil)))
  | cmsg_List x => exact .miss _ _ _ _ rfl hz (.cons (.same _) (.cons (.same _) (.cons (.same _) .nil)))
  | cmsg_Rules x => exact .miss _ _ _ _ rfl hz (.cons (.same _) (.cons (.same _) (.cons (.same _) .nil)))
  | cmsg_Prices x => exact .miss _ _ _ _ rfl hz (.cons (.same _) (.cons (.same _) (.cons (.same _) .nil)))
  | cmsg_Roll x => exact .miss _ _ _ _ rfl hz (.cons (.same _) (.cons (.same _) (.cons (.same _) .nil)))
  | cmsg_Cash x => exact .miss _ _ _ _ rfl hz (.cons (.same _) (.cons (.same _) (.cons (.same _) .nil)))
  | cmsg_Move x => exact .miss _ _ _ _ rfl hz (.cons (.same _) (.cons (.same _) (.cons (.same _) .nil)))
  | cmsg_Default x => exact .miss _ _ _ _ rfl hz (.cons (.same _) (.cons (.same _) (.cons (.same _) .nil)))
  | cmsg_Bound x => exact .miss _ _ _ _ rfl hz (.cons (.same _) (.cons (.same _) (.cons (.same _) .nil)))
  | cmsg_Cancel x => exact .miss _ _ _ _ rfl hz (.cons (.same _) (.cons (.same _) (.cons (.same _) .nil)))
  | cmsg_Notice x => exact .miss _ _ _ _ rfl hz (.cons (.same _) (.cons (.same _) (.cons (.same _) .nil)))
  | cmsg_Swap x => exact .miss _ _ _ _ rfl hz (.cons (.same _) (.cons (.same _) (.cons (.same _) .nil)))
  | cmsg_Reset x => exact .miss _ _ _ _ rfl hz (.cons (.same _) (.cons (.same _) (.cons (.same _) .nil)))
theorem msg_Message.atmsg_Default (x : msg_Message) : AsT prog 102 x.enc (msg_Default.enc x.asmsg_Default) x.ismsg_Default := by
  have hz : (prog.info? 102).bind (·.zero) = some (.agg #[.int .i64 0]) := by kernel_rfl
  cases x with
  | cmsg_Default x => exact .hit _
  | nil => exact .none _ _ hz (.cons (.same _) .nil)
  | cmsg_Join x => exact .miss _ _ _ _ rfl hz (.cons (.same _) .nil)
  | cmsg_Offer x => exact .miss _ _ _ _ rfl hz (.cons (.same _) .nil)
  | cmsg_List x => exact .miss _ _ _ _ rfl hz (.cons (.same _) .nil)
  | cmsg_Rules x => exact .miss _ _ _ _ rfl hz (.cons (.same _) .nil)
  | cmsg_Prices x => exact .miss _ _ _ _ rfl hz (.cons (.same _) .nil)
  | cmsg_Roll x => exact .miss _ _ _ _ rfl hz (.cons (.same _) .nil)
  | cmsg_Cash x => exact .miss _ _ _ _ rfl hz (.cons (.same _) .nil)
  | cmsg_Move x => exact .miss _ _ _ _ rfl hz (.cons (.same _) .nil)
  | cmsg_Settle x => exact .miss _ _ _ _ rfl hz (.cons (.same _) .nil)
  | cmsg_Bound x => exact .miss _ _ _ _ rfl hz (.cons (.same _) .nil)
  | cmsg_Cancel x => exact .miss _ _ _ _ rfl hz (.cons (.same _) .nil)
  | cmsg_Notice x => exact .miss _ _ _ _ rfl hz (.cons (.same _) .nil)
  | cmsg_Swap x => exact .miss _ _ _ _ rfl hz (.cons (.same _) .nil)
  | cmsg_Reset x => exact .miss _ _ _ _ rfl hz (.cons (.same _) .nil)
theorem msg_Message.atmsg_Bound (x : msg_Message) : AsT prog 104 x.enc (msg_Bound.enc x.asmsg_Bound) x.ismsg_Bound := by
  have hz : (prog.info? 104).bind (·.zero) = some (.agg #[.int .i64 0, .int .i64 0]) := by kernel_rfl
  cases x with
  | cmsg_Bound x => exact .hit _
  | nil => exact .none _ _ hz (.cons (.same _) (.cons (.same _) .nil))
  | cmsg_Join x => exact .miss _ _ _ _ rfl hz (.cons (.same _) (.cons (.same _) .nil))
  | cmsg_Offer x => exact .miss _ _ _ _ rfl hz (.cons (.same _) (.cons (.same _) .nil))
  | cmsg_List x => exact .miss _ _ _ _ rfl hz (.cons (.same _) (.cons (.same _) .nil))
  | cmsg_Rules x => exact .miss _ _ _ _ rfl hz (.cons (.same _) (.cons (.same _) .nil))
  | cmsg_Prices x => exact .miss _ _ _ _ rfl hz (.cons (.same _) (.cons (.same _) .nil))
  | cmsg_Roll x => exact .miss _ _ _ _ rfl hz (.cons (.same _) (.cons (.same _) .nil))
  | cmsg_Cash x => exact .miss _ _ _ _ rfl hz (.cons (.same _) (.cons (.same _) .nil))
  | cmsg_Move x => exact .miss _ _ _ _ rfl hz (.cons (.same _) (.cons (.same _) .nil))
  | cmsg_Settle x => exact .miss _ _ _ _ rfl hz (.cons (.same _) (.cons (.same _) .nil))
  | cmsg_Default x => exact .miss _ _ _ _ rfl hz (.cons (.same _) (.cons (.same _) .nil))
  | cmsg_Cancel x => exact .miss _ _ _ _ rfl hz (.cons (.same _) (.cons (.same _) .nil))
  | cmsg_Notice x => exact .miss _ _ _ _ rfl hz (.cons (.same _) (.cons (.same _) .nil))
  | cmsg_Swap x => exact .miss _ _ _ _ rfl hz (.cons (.same _) (.cons (.same _) .nil))
  | cmsg_Reset x => exact .miss _ _ _ _ rfl hz (.cons (.same _) (.cons (.same _) .nil))
theorem msg_Message.atmsg_Cancel (x : msg_Message) : AsT prog 126 x.enc (msg_Cancel.enc x.asmsg_Cancel) x.ismsg_Cancel := by
  have hz : (prog.info? 126).bind (·.zero) = some (.agg #[.int .i64 0, .int .i64 0]) := by kernel_rfl
  cases x with
  | cmsg_Cancel x => exact .hit _
  | nil => exact .none _ _ hz (.cons (.same _) (.cons (.same _) .nil))
  | cmsg_Join x => exact .miss _ _ _ _ rfl hz (.cons (.same _) (.cons (.same _) .nil))
  | cmsg_Offer x => exact .miss _ _ _ _ rfl hz (.cons (.same _) (.cons (.same _) .nil))
  | cmsg_List x => exact .miss _ _ _ _ rfl hz (.cons (.same _) (.cons (.same _) .nil))
  | cmsg_Rules x => exact .miss _ _ _ _ rfl hz (.cons (.same _) (.cons (.same _) .nil))
  | cmsg_Prices x => exact .miss _ _ _ _ rfl hz (.cons (.same _) (.cons (.same _) .nil))
  | cmsg_Roll x => exact .miss _ _ _ _ rfl hz (.cons (.same _) (.cons (.same _) .nil))
  | cmsg_Cash x => exact .miss _ _ _ _ rfl hz (.cons (.same _) (.cons (.same _) .nil))
  | cmsg_Move x => exact .miss _ _ _ _ rfl hz (.cons (.same _) (.cons (.same _) .nil))
  | cmsg_Settle x => exact .miss _ _ _ _ rfl hz (.cons (.same _) (.cons (.same _) .nil))
  | cmsg_Default x => exact .miss _ _ _ _ rfl hz (.cons (.same _) (.cons (.same _) .nil))
  | cmsg_Bound x => exact .miss _ _ _ _ rfl hz (.cons (.same _) (.cons (.same _) .nil))
  | cmsg_Notice x => exact .miss _ _ _ _ rfl hz (.cons (.same _) (.cons (.same _) .nil))
  | cmsg_Swap x => exact .miss _ _ _ _ rfl hz (.cons (.same _) (.cons (.same _) .nil))
  | cmsg_Reset x => exact .miss _ _ _ _ rfl hz (.cons (.same _) (.cons (.same _) .nil))
theorem msg_Message.atmsg_Notice (x : msg_Message) : AsT prog 128 x.enc (msg_Notice.enc x.asmsg_Notice) x.ismsg_Notice := by
  have hz : (prog.info? 128).bind (·.zero) = some (.agg #[.int .i64 0, .int .i64 0, .int .i64 0]) := by kernel_rfl
  cases x with
  | cmsg_Notice x => exact .hit _
  | nil => exact .none _ _ hz (.cons (.same _) (.cons (.same _) (.cons (.same _) .nil)))
  | cmsg_Join x => exact .miss _ _ _ _ rfl hz (.cons (.same _) (.cons (.same _) (.cons (.same _) .nil)))
  | cmsg_Offer x => exact .miss _ _ _ _ rfl hz (.cons (.same _) (.cons (.same _) (.cons (.same _) .nil)))
  | cmsg_List x => exact .miss _ _ _ _ rfl hz (.cons (.same _) (.cons (.same _) (.cons (.same _) .nil)))
  | cmsg_Rules x => exact .miss _ _ _ _ rfl hz (.cons (.same _) (.cons (.same _) (.cons (.same _) .nil)))
  | cmsg_Prices x => exact .miss _ _ _ _ rfl hz (.cons (.same _) (.cons (.same _) (.cons (.same _) .nil)))
  | cmsg_Roll x => exact .miss _ _ _ _ rfl hz (.cons (.same _) (.cons (.same _) (.cons (.same _) .nil)))
  | cmsg_Cash x => exact .miss _ _ _ _ rfl hz (.cons (.same _) (.cons (.same _) (.cons (.same _) .nil)))
  | cmsg_Move x => exact .miss _ _ _ _ rfl hz (.cons (.same _) (.cons (.same _) (.cons (.same _) .nil)))
  | cmsg_Settle x => exact .miss _ _ _ _ rfl hz (.cons (.same _) (.cons (.same _) (.cons (.same _) .nil)))
  | cmsg_Default x => exact .miss _ _ _ _ rfl hz (.cons (.same _) (.cons (.same _) (.cons (.same _) .nil)))
  | cmsg_Bound x => exact .miss _ _ _ _ rfl hz (.cons (.same _) (.cons (.same _) (.cons (.same _) .nil)))
  | cmsg_Cancel x => exact .miss _ _ _ _ rfl hz (.cons (.same _) (.cons (.same _) (.cons (.same _) .nil)))
  | cmsg_Swap x => exact .miss _ _ _ _ rfl hz (.cons (.same _) (.cons (.same _) (.cons (.same _) .nil)))
  | cmsg_Reset x => exact .miss _ _ _ _ rfl hz (.cons (.same _) (.cons (.same _) (.cons (.same _) .nil)))
theorem msg_Message.atmsg_Swap (x : msg_Message) : AsT prog 133 x.enc (msg_Swap.enc x.asmsg_Swap) x.ismsg_Swap := by
  have hz : (prog.info? 133).bind (·.zero) = some (.agg #[.int .i64 0, .int .i64 0, .string (tx []), .int .i64 0, .slice none 0 0]) := by kernel_rfl
  cases x with
  | cmsg_Swap x => exact .hit _
  | nil => exact .none _ _ hz (.cons (.same _) (.cons (.same _) (.cons (.same _) (.cons (.same _) (.cons (.none 2) .nil)))))
  | cmsg_Join x => exact .miss _ _ _ _ rfl hz (.cons (.same _) (.cons (.same _) (.cons (.same _) (.cons (.same _) (.cons (.none 2) .nil)))))
  | cmsg_Offer x => exact .miss _ _ _ _ rfl hz (.cons (.same _) (.cons (.same _) (.cons (.same _) (.cons (.same _) (.cons (.none 2) .nil)))))
  | cmsg_List x => exact .miss _ _ _ _ rfl hz (.cons (.same _) (.cons (.same _) (.cons (.same _) (.cons (.same _) (.cons (.none 2) .nil)))))
  | cmsg_Rules x => exact .miss _ _ _ _ rfl hz (.cons (.same _) (.cons (.same _) (.cons (.same _) (.cons (.same _) (.cons (.none 2) .nil)))))
  | cmsg_Prices x => exact .miss _ _ _ _ rfl hz (.cons (.same _) (.cons (.same _) (.cons (.same _) (.cons (.same _) (.cons (.none 2) .nil)))))
  | cmsg_Roll x => exact .miss _ _ _ _ rfl hz (.cons (.same _) (.cons (.same _) (.cons (.same _) (.cons (.same _) (.cons (.none 2) .nil)))))
  | cmsg_Cash x => exact .miss _ _ _ _ rfl hz (.cons (.same _) (.cons (.same _) (.cons (.same _) (.cons (.same _) (.cons (.none 2) .nil)))))
  | cmsg_Move x => exact .miss _ _ _ _ rfl hz (.cons (.same _) (.cons (.same _) (.cons (.same _) (.cons (.same _) (.cons (.none 2) .nil)))))
  | cmsg_Settle x => exact .miss _ _ _ _ rfl hz (.cons (.same _) (.cons (.same _) (.cons (.same _) (.cons (.same _) (.cons (.none 2) .nil)))))
  | cmsg_Default x => exact .miss _ _ _ _ rfl hz (.cons (.same _) (.cons (.same _) (.cons (.same _) (.cons (.same _) (.cons (.none 2) .nil)))))
  | cmsg_Bound x => exact .miss _ _ _ _ rfl hz (.cons (.same _) (.cons (.same _) (.cons (.same _) (.cons (.same _) (.cons (.none 2) .nil)))))
  | cmsg_Cancel x => exact .miss _ _ _ _ rfl hz (.cons (.same _) (.cons (.same _) (.cons (.same _) (.cons (.same _) (.cons (.none 2) .nil)))))
  | cmsg_Notice x => exact .miss _ _ _ _ rfl hz (.cons (.same _) (.cons (.same _) (.cons (.same _) (.cons (.same _) (.cons (.none 2) .nil)))))
  | cmsg_Reset x => exact .miss _ _ _ _ rfl hz (.cons (.same _) (.cons (.same _) (.cons (.same _) (.cons (.same _) (.cons (.none 2) .nil)))))
theorem msg_Message.atmsg_Reset (x : msg_Message) : AsT prog 136 x.enc (msg_Reset.enc x.asmsg_Reset) x.ismsg_Reset := by
  have hz : (prog.info? 136).bind (·.zero) = some (.agg #[.int .i64 0, .int .i64 0, .int .i64 0]) := by kernel_rfl
  cases x with
  | cmsg_Reset x => exact .hit _
  | nil => exact .none _ _ hz (.cons (.same _) (.cons (.same _) (.cons (.same _) .nil)))
  | cmsg_Join x => exact .miss _ _ _ _ rfl hz (.cons (.same _) (.cons (.same _) (.cons (.same _) .nil)))
  | cmsg_Offer x => exact .miss _ _ _ _ rfl hz (.cons (.same _) (.cons (.same _) (.cons (.same _) .nil)))
  | cmsg_List x => exact .miss _ _ _ _ rfl hz (.cons (.same _) (.cons (.same _) (.cons (.same _) .nil)))
  | cmsg_Rules x => exact .miss _ _ _ _ rfl hz (.cons (.same _) (.cons (.same _) (.cons (.same _) .nil)))
  | cmsg_Prices x => exact .miss _ _ _ _ rfl hz (.cons (.same _) (.cons (.same _) (.cons (.same _) .nil)))
  | cmsg_Roll x => exact .miss _ _ _ _ rfl hz (.cons (.same _) (.cons (.same _) (.cons (.same _) .nil)))
  | cmsg_Cash x => exact .miss _ _ _ _ rfl hz (.cons (.same _) (.cons (.same _) (.cons (.same _) .nil)))
  | cmsg_Move x => exact .miss _ _ _ _ rfl hz (.cons (.same _) (.cons (.same _) (.cons (.same _) .nil)))
  | cmsg_Settle x => exact .miss _ _ _ _ rfl hz (.cons (.same _) (.cons (.same _) (.cons (.same _) .nil)))
  | cmsg_Default x => exact .miss _ _ _ _ rfl hz (.cons (.same _) (.cons (.same _) (.cons (.same _) .nil)))
  | cmsg_Bound x => exact .miss _ _ _ _ rfl hz (.cons (.same _) (.cons (.same _) (.cons (.same _) .nil)))
  | cmsg_Cancel x => exact .miss _ _ _ _ rfl hz (.cons (.same _) (.cons (.same _) (.cons (.same _) .nil)))
  | cmsg_Notice x => exact .miss _ _ _ _ rfl hz (.cons (.same _) (.cons (.same _) (.cons (.same _) .nil)))
  | cmsg_Swap x => exact .miss _ _ _ _ rfl hz (.cons (.same _) (.cons (.same _) (.cons (.same _) .nil)))
end Go.Proofs.Ytjdkibnhlmgppaa
