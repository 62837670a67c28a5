/- Shows the types of the data that the printed functions speak of, and facts about the program's types: written by a program of the author's for this claim. -/
import Derived.Test.YtjdkibnhlmgppaaGreatProg
import Derived.Test.YtjdkibnhlmgppaaGreatPmS
namespace Go.Proofs.YtjdkibnhlmgppaaGreat
open Go Go.Pm
noncomputable abbrev prog : Program := Tryz.prog
structure lombardlaw30_Act where
  Kind : Int
  ID : Int
  Name : Bs
  N : Int
  Yes : Bool
instance : Inhabited lombardlaw30_Act := ⟨⟨0, 0, [], 0, false⟩⟩
def lombardlaw30_Act.enc (x : lombardlaw30_Act) : List T := [(.val (.int .i64 x.Kind)), (.val (.int .i64 x.ID)), (.val (.string (tx x.Name))), (.val (.int .i64 x.N)), (.val (.bool x.Yes))]
abbrev lombardlaw30_Act.av (x : lombardlaw30_Act) : List AV := [.i x.Kind, .i x.ID, .s x.Name, .i x.N, .b x.Yes]
theorem lombardlaw30_Act.ok : EncOk lombardlaw30_Act.enc 5 := ⟨fun _ => rfl, fun _ => rfl⟩
structure auth_Member where
  ID : Int
  Name : Bs
  State : Int
  Bound : Int
  Late : Bool
instance : Inhabited auth_Member := ⟨⟨0, [], 0, 0, false⟩⟩
def auth_Member.enc (x : auth_Member) : List T := [(.val (.int .i64 x.ID)), (.val (.string (tx x.Name))), (.val (.int .i64 x.State)), (.val (.int .i64 x.Bound)), (.val (.bool x.Late))]
abbrev auth_Member.av (x : auth_Member) : List AV := [.i x.ID, .s x.Name, .i x.State, .i x.Bound, .b x.Late]
theorem auth_Member.ok : EncOk auth_Member.enc 5 := ⟨fun _ => rfl, fun _ => rfl⟩
structure auth_List where
  l : List auth_Member
  made : Bool
instance : Inhabited auth_List := ⟨⟨[], false⟩⟩
def auth_List.enc (x : auth_List) : List T := [(.row 5 (List.map auth_Member.enc x.l)), (.val (.bool x.made))]
abbrev auth_List.av (x : auth_List) : List AV := [.imm (.row 5 (List.map auth_Member.enc x.l)), .b x.made]
theorem auth_List.ok : EncOk auth_List.enc 2 := ⟨fun _ => rfl, fun _ => rfl⟩
structure lombardref30_Member where
  ID : Int
  Name : Bs
  State : Int
  Bound : Int
  Late : Bool
instance : Inhabited lombardref30_Member := ⟨⟨0, [], 0, 0, false⟩⟩
def lombardref30_Member.enc (x : lombardref30_Member) : List T := [(.val (.int .i64 x.ID)), (.val (.string (tx x.Name))), (.val (.int .i64 x.State)), (.val (.int .i64 x.Bound)), (.val (.bool x.Late))]
abbrev lombardref30_Member.av (x : lombardref30_Member) : List AV := [.i x.ID, .s x.Name, .i x.State, .i x.Bound, .b x.Late]
theorem lombardref30_Member.ok : EncOk lombardref30_Member.enc 5 := ⟨fun _ => rfl, fun _ => rfl⟩
structure api_Asset where
  ISIN : Bs
  Issuer : Int
  Rating : Int
  Maturity : Int
  Currency : Bs
instance : Inhabited api_Asset := ⟨⟨[], 0, 0, 0, []⟩⟩
def api_Asset.enc (x : api_Asset) : List T := [(.val (.string (tx x.ISIN))), (.val (.int .i64 x.Issuer)), (.val (.int .i64 x.Rating)), (.val (.int .i64 x.Maturity)), (.val (.string (tx x.Currency)))]
abbrev api_Asset.av (x : api_Asset) : List AV := [.s x.ISIN, .i x.Issuer, .i x.Rating, .i x.Maturity, .s x.Currency]
theorem api_Asset.ok : EncOk api_Asset.enc 5 := ⟨fun _ => rfl, fun _ => rfl⟩
structure api_Cut where
  Days : Int
  Rating : Int
  Cut : Int
instance : Inhabited api_Cut := ⟨⟨0, 0, 0⟩⟩
def api_Cut.enc (x : api_Cut) : List T := [(.val (.int .i64 x.Days)), (.val (.int .i64 x.Rating)), (.val (.int .i64 x.Cut))]
abbrev api_Cut.av (x : api_Cut) : List AV := [.i x.Days, .i x.Rating, .i x.Cut]
theorem api_Cut.ok : EncOk api_Cut.enc 3 := ⟨fun _ => rfl, fun _ => rfl⟩
structure api_Basket where
  ID : Int
  Version : Int
  Currency : Bs
  Rating : Int
  Least : Int
  Most : Int
  Cuts : List api_Cut
  Issuer : Int
  Asset : Int
  Barred : List Int
instance : Inhabited api_Basket := ⟨⟨0, 0, [], 0, 0, 0, [], 0, 0, []⟩⟩
def api_Basket.enc (x : api_Basket) : List T := [(.val (.int .i64 x.ID)), (.val (.int .i64 x.Version)), (.val (.string (tx x.Currency))), (.val (.int .i64 x.Rating)), (.val (.int .i64 x.Least)), (.val (.int .i64 x.Most)), (.row 3 (List.map api_Cut.enc x.Cuts)), (.val (.int .i64 x.Issuer)), (.val (.int .i64 x.Asset)), (.row 1 (List.map (encI .i64) x.Barred))]
abbrev api_Basket.av (x : api_Basket) : List AV := [.i x.ID, .i x.Version, .s x.Currency, .i x.Rating, .i x.Least, .i x.Most, .imm (.row 3 (List.map api_Cut.enc x.Cuts)), .i x.Issuer, .i x.Asset, .imm (.row 1 (List.map (encI .i64) x.Barred))]
theorem api_Basket.ok : EncOk api_Basket.enc 10 := ⟨fun _ => rfl, fun _ => rfl⟩
structure api_Price where
  ISIN : Bs
  Price : Int
instance : Inhabited api_Price := ⟨⟨[], 0⟩⟩
def api_Price.enc (x : api_Price) : List T := [(.val (.string (tx x.ISIN))), (.val (.int .i64 x.Price))]
abbrev api_Price.av (x : api_Price) : List AV := [.s x.ISIN, .i x.Price]
theorem api_Price.ok : EncOk api_Price.enc 2 := ⟨fun _ => rfl, fun _ => rfl⟩
structure api_Quote where
  ID : Int
  Member : Int
  Side : Int
  Basket : Int
  Amount : Int
  Rate : Int
  Start : Int
  End : Int
instance : Inhabited api_Quote := ⟨⟨0, 0, 0, 0, 0, 0, 0, 0⟩⟩
def api_Quote.enc (x : api_Quote) : List T := [(.val (.int .i64 x.ID)), (.val (.int .i64 x.Member)), (.val (.int .i64 x.Side)), (.val (.int .i64 x.Basket)), (.val (.int .i64 x.Amount)), (.val (.int .i64 x.Rate)), (.val (.int .i64 x.Start)), (.val (.int .i64 x.End))]
abbrev api_Quote.av (x : api_Quote) : List AV := [.i x.ID, .i x.Member, .i x.Side, .i x.Basket, .i x.Amount, .i x.Rate, .i x.Start, .i x.End]
theorem api_Quote.ok : EncOk api_Quote.enc 8 := ⟨fun _ => rfl, fun _ => rfl⟩
structure api_Lot where
  ISIN : Bs
  Qty : Int
instance : Inhabited api_Lot := ⟨⟨[], 0⟩⟩
def api_Lot.enc (x : api_Lot) : List T := [(.val (.string (tx x.ISIN))), (.val (.int .i64 x.Qty))]
abbrev api_Lot.av (x : api_Lot) : List AV := [.s x.ISIN, .i x.Qty]
theorem api_Lot.ok : EncOk api_Lot.enc 2 := ⟨fun _ => rfl, fun _ => rfl⟩
structure lombardref10_Msg where
  Kind : Int
  Member : Int
  Name : Bs
  Asset : api_Asset
  Basket : api_Basket
  Prices : List api_Price
  Day : Int
  Text : Bs
  N : Int
  Quote : api_Quote
  Out : api_Lot
  In : List api_Lot
  Trade : Int
  Done : Bool
  Rate : Int
instance : Inhabited lombardref10_Msg := ⟨⟨0, 0, [], (⟨[], 0, 0, 0, []⟩ : api_Asset), (⟨0, 0, [], 0, 0, 0, [], 0, 0, []⟩ : api_Basket), [], 0, [], 0, (⟨0, 0, 0, 0, 0, 0, 0, 0⟩ : api_Quote), (⟨[], 0⟩ : api_Lot), [], 0, false, 0⟩⟩
def lombardref10_Msg.enc (x : lombardref10_Msg) : List T := [(.val (.int .i64 x.Kind)), (.val (.int .i64 x.Member)), (.val (.string (tx x.Name))), (.val (.string (tx x.Asset.ISIN))), (.val (.int .i64 x.Asset.Issuer)), (.val (.int .i64 x.Asset.Rating)), (.val (.int .i64 x.Asset.Maturity)), (.val (.string (tx x.Asset.Currency))), (.val (.int .i64 x.Basket.ID)), (.val (.int .i64 x.Basket.Version)), (.val (.string (tx x.Basket.Currency))), (.val (.int .i64 x.Basket.Rating)), (.val (.int .i64 x.Basket.Least)), (.val (.int .i64 x.Basket.Most)), (.row 3 (List.map api_Cut.enc x.Basket.Cuts)), (.val (.int .i64 x.Basket.Issuer)), (.val (.int .i64 x.Basket.Asset)), (.row 1 (List.map (encI .i64) x.Basket.Barred)), (.row 2 (List.map api_Price.enc x.Prices)), (.val (.int .i64 x.Day)), (.val (.string (tx x.Text))), (.val (.int .i64 x.N)), (.val (.int .i64 x.Quote.ID)), (.val (.int .i64 x.Quote.Member)), (.val (.int .i64 x.Quote.Side)), (.val (.int .i64 x.Quote.Basket)), (.val (.int .i64 x.Quote.Amount)), (.val (.int .i64 x.Quote.Rate)), (.val (.int .i64 x.Quote.Start)), (.val (.int .i64 x.Quote.End)), (.val (.string (tx x.Out.ISIN))), (.val (.int .i64 x.Out.Qty)), (.row 2 (List.map api_Lot.enc x.In)), (.val (.int .i64 x.Trade)), (.val (.bool x.Done)), (.val (.int .i64 x.Rate))]
abbrev lombardref10_Msg.av (x : lombardref10_Msg) : List AV := [.i x.Kind, .i x.Member, .s x.Name, .s x.Asset.ISIN, .i x.Asset.Issuer, .i x.Asset.Rating, .i x.Asset.Maturity, .s x.Asset.Currency, .i x.Basket.ID, .i x.Basket.Version, .s x.Basket.Currency, .i x.Basket.Rating, .i x.Basket.Least, .i x.Basket.Most, .imm (.row 3 (List.map api_Cut.enc x.Basket.Cuts)), .i x.Basket.Issuer, .i x.Basket.Asset, .imm (.row 1 (List.map (encI .i64) x.Basket.Barred)), .imm (.row 2 (List.map api_Price.enc x.Prices)), .i x.Day, .s x.Text, .i x.N, .i x.Quote.ID, .i x.Quote.Member, .i x.Quote.Side, .i x.Quote.Basket, .i x.Quote.Amount, .i x.Quote.Rate, .i x.Quote.Start, .i x.Quote.End, .s x.Out.ISIN, .i x.Out.Qty, .imm (.row 2 (List.map api_Lot.enc x.In)), .i x.Trade, .b x.Done, .i x.Rate]
theorem lombardref10_Msg.ok : EncOk lombardref10_Msg.enc 36 := ⟨fun _ => rfl, fun _ => rfl⟩
structure msg_Offer where
  Quote : api_Quote
instance : Inhabited msg_Offer := ⟨⟨(⟨0, 0, 0, 0, 0, 0, 0, 0⟩ : api_Quote)⟩⟩
def msg_Offer.enc (x : msg_Offer) : List T := [(.val (.int .i64 x.Quote.ID)), (.val (.int .i64 x.Quote.Member)), (.val (.int .i64 x.Quote.Side)), (.val (.int .i64 x.Quote.Basket)), (.val (.int .i64 x.Quote.Amount)), (.val (.int .i64 x.Quote.Rate)), (.val (.int .i64 x.Quote.Start)), (.val (.int .i64 x.Quote.End))]
abbrev msg_Offer.av (x : msg_Offer) : List AV := [.i x.Quote.ID, .i x.Quote.Member, .i x.Quote.Side, .i x.Quote.Basket, .i x.Quote.Amount, .i x.Quote.Rate, .i x.Quote.Start, .i x.Quote.End]
theorem msg_Offer.ok : EncOk msg_Offer.enc 8 := ⟨fun _ => rfl, fun _ => rfl⟩
structure msg_List where
  Asset : api_Asset
instance : Inhabited msg_List := ⟨⟨(⟨[], 0, 0, 0, []⟩ : api_Asset)⟩⟩
def msg_List.enc (x : msg_List) : List T := [(.val (.string (tx x.Asset.ISIN))), (.val (.int .i64 x.Asset.Issuer)), (.val (.int .i64 x.Asset.Rating)), (.val (.int .i64 x.Asset.Maturity)), (.val (.string (tx x.Asset.Currency)))]
abbrev msg_List.av (x : msg_List) : List AV := [.s x.Asset.ISIN, .i x.Asset.Issuer, .i x.Asset.Rating, .i x.Asset.Maturity, .s x.Asset.Currency]
theorem msg_List.ok : EncOk msg_List.enc 5 := ⟨fun _ => rfl, fun _ => rfl⟩
structure msg_Rules where
  Basket : api_Basket
instance : Inhabited msg_Rules := ⟨⟨(⟨0, 0, [], 0, 0, 0, [], 0, 0, []⟩ : api_Basket)⟩⟩
def msg_Rules.enc (x : msg_Rules) : List T := [(.val (.int .i64 x.Basket.ID)), (.val (.int .i64 x.Basket.Version)), (.val (.string (tx x.Basket.Currency))), (.val (.int .i64 x.Basket.Rating)), (.val (.int .i64 x.Basket.Least)), (.val (.int .i64 x.Basket.Most)), (.row 3 (List.map api_Cut.enc x.Basket.Cuts)), (.val (.int .i64 x.Basket.Issuer)), (.val (.int .i64 x.Basket.Asset)), (.row 1 (List.map (encI .i64) x.Basket.Barred))]
abbrev msg_Rules.av (x : msg_Rules) : List AV := [.i x.Basket.ID, .i x.Basket.Version, .s x.Basket.Currency, .i x.Basket.Rating, .i x.Basket.Least, .i x.Basket.Most, .imm (.row 3 (List.map api_Cut.enc x.Basket.Cuts)), .i x.Basket.Issuer, .i x.Basket.Asset, .imm (.row 1 (List.map (encI .i64) x.Basket.Barred))]
theorem msg_Rules.ok : EncOk msg_Rules.enc 10 := ⟨fun _ => rfl, fun _ => rfl⟩
structure msg_Prices where
  L : List api_Price
instance : Inhabited msg_Prices := ⟨⟨[]⟩⟩
def msg_Prices.enc (x : msg_Prices) : List T := [(.row 2 (List.map api_Price.enc x.L))]
abbrev msg_Prices.av (x : msg_Prices) : List AV := [.imm (.row 2 (List.map api_Price.enc x.L))]
theorem msg_Prices.ok : EncOk msg_Prices.enc 1 := ⟨fun _ => rfl, fun _ => rfl⟩
structure msg_Roll where
  Day : Int
instance : Inhabited msg_Roll := ⟨⟨0⟩⟩
def msg_Roll.enc (x : msg_Roll) : List T := [(.val (.int .i64 x.Day))]
abbrev msg_Roll.av (x : msg_Roll) : List AV := [.i x.Day]
theorem msg_Roll.ok : EncOk msg_Roll.enc 1 := ⟨fun _ => rfl, fun _ => rfl⟩
structure msg_Cash where
  Member : Int
  Currency : Bs
  Amount : Int
instance : Inhabited msg_Cash := ⟨⟨0, [], 0⟩⟩
def msg_Cash.enc (x : msg_Cash) : List T := [(.val (.int .i64 x.Member)), (.val (.string (tx x.Currency))), (.val (.int .i64 x.Amount))]
abbrev msg_Cash.av (x : msg_Cash) : List AV := [.i x.Member, .s x.Currency, .i x.Amount]
theorem msg_Cash.ok : EncOk msg_Cash.enc 3 := ⟨fun _ => rfl, fun _ => rfl⟩
structure msg_Move where
  Member : Int
  ISIN : Bs
  Qty : Int
instance : Inhabited msg_Move := ⟨⟨0, [], 0⟩⟩
def msg_Move.enc (x : msg_Move) : List T := [(.val (.int .i64 x.Member)), (.val (.string (tx x.ISIN))), (.val (.int .i64 x.Qty))]
abbrev msg_Move.av (x : msg_Move) : List AV := [.i x.Member, .s x.ISIN, .i x.Qty]
theorem msg_Move.ok : EncOk msg_Move.enc 3 := ⟨fun _ => rfl, fun _ => rfl⟩
structure msg_Cancel where
  Member : Int
  Quote : Int
instance : Inhabited msg_Cancel := ⟨⟨0, 0⟩⟩
def msg_Cancel.enc (x : msg_Cancel) : List T := [(.val (.int .i64 x.Member)), (.val (.int .i64 x.Quote))]
abbrev msg_Cancel.av (x : msg_Cancel) : List AV := [.i x.Member, .i x.Quote]
theorem msg_Cancel.ok : EncOk msg_Cancel.enc 2 := ⟨fun _ => rfl, fun _ => rfl⟩
structure msg_Notice where
  Member : Int
  Trade : Int
  Day : Int
instance : Inhabited msg_Notice := ⟨⟨0, 0, 0⟩⟩
def msg_Notice.enc (x : msg_Notice) : List T := [(.val (.int .i64 x.Member)), (.val (.int .i64 x.Trade)), (.val (.int .i64 x.Day))]
abbrev msg_Notice.av (x : msg_Notice) : List AV := [.i x.Member, .i x.Trade, .i x.Day]
theorem msg_Notice.ok : EncOk msg_Notice.enc 3 := ⟨fun _ => rfl, fun _ => rfl⟩
structure msg_Join where
  Member : Int
  Name : Bs
instance : Inhabited msg_Join := ⟨⟨0, []⟩⟩
def msg_Join.enc (x : msg_Join) : List T := [(.val (.int .i64 x.Member)), (.val (.string (tx x.Name)))]
abbrev msg_Join.av (x : msg_Join) : List AV := [.i x.Member, .s x.Name]
theorem msg_Join.ok : EncOk msg_Join.enc 2 := ⟨fun _ => rfl, fun _ => rfl⟩
structure msg_Swap where
  Member : Int
  Trade : Int
  Out : api_Lot
  In : List api_Lot
instance : Inhabited msg_Swap := ⟨⟨0, 0, (⟨[], 0⟩ : api_Lot), []⟩⟩
def msg_Swap.enc (x : msg_Swap) : List T := [(.val (.int .i64 x.Member)), (.val (.int .i64 x.Trade)), (.val (.string (tx x.Out.ISIN))), (.val (.int .i64 x.Out.Qty)), (.row 2 (List.map api_Lot.enc x.In))]
abbrev msg_Swap.av (x : msg_Swap) : List AV := [.i x.Member, .i x.Trade, .s x.Out.ISIN, .i x.Out.Qty, .imm (.row 2 (List.map api_Lot.enc x.In))]
theorem msg_Swap.ok : EncOk msg_Swap.enc 5 := ⟨fun _ => rfl, fun _ => rfl⟩
structure msg_Settle where
  Member : Int
  Day : Int
  Done : Bool
instance : Inhabited msg_Settle := ⟨⟨0, 0, false⟩⟩
def msg_Settle.enc (x : msg_Settle) : List T := [(.val (.int .i64 x.Member)), (.val (.int .i64 x.Day)), (.val (.bool x.Done))]
abbrev msg_Settle.av (x : msg_Settle) : List AV := [.i x.Member, .i x.Day, .b x.Done]
theorem msg_Settle.ok : EncOk msg_Settle.enc 3 := ⟨fun _ => rfl, fun _ => rfl⟩
structure msg_Default where
  Member : Int
instance : Inhabited msg_Default := ⟨⟨0⟩⟩
def msg_Default.enc (x : msg_Default) : List T := [(.val (.int .i64 x.Member))]
abbrev msg_Default.av (x : msg_Default) : List AV := [.i x.Member]
theorem msg_Default.ok : EncOk msg_Default.enc 1 := ⟨fun _ => rfl, fun _ => rfl⟩
structure msg_Bound where
  Member : Int
  Amount : Int
instance : Inhabited msg_Bound := ⟨⟨0, 0⟩⟩
def msg_Bound.enc (x : msg_Bound) : List T := [(.val (.int .i64 x.Member)), (.val (.int .i64 x.Amount))]
abbrev msg_Bound.av (x : msg_Bound) : List AV := [.i x.Member, .i x.Amount]
theorem msg_Bound.ok : EncOk msg_Bound.enc 2 := ⟨fun _ => rfl, fun _ => rfl⟩
structure msg_Reset where
  Trade : Int
  Day : Int
  Rate : Int
instance : Inhabited msg_Reset := ⟨⟨0, 0, 0⟩⟩
def msg_Reset.enc (x : msg_Reset) : List T := [(.val (.int .i64 x.Trade)), (.val (.int .i64 x.Day)), (.val (.int .i64 x.Rate))]
abbrev msg_Reset.av (x : msg_Reset) : List AV := [.i x.Trade, .i x.Day, .i x.Rate]
theorem msg_Reset.ok : EncOk msg_Reset.enc 3 := ⟨fun _ => rfl, fun _ => rfl⟩
inductive msg_Message where
  | nil
  | cmsg_Join (x : msg_Join)
  | cmsg_Offer (x : msg_Offer)
  | cmsg_List (x : msg_List)
  | cmsg_Rules (x : msg_Rules)
  | cmsg_Prices (x : msg_Prices)
  | cmsg_Roll (x : msg_Roll)
  | cmsg_Cash (x : msg_Cash)
  | cmsg_Move (x : msg_Move)
  | cmsg_Cancel (x : msg_Cancel)
  | cmsg_Notice (x : msg_Notice)
  | cmsg_Swap (x : msg_Swap)
  | cmsg_Settle (x : msg_Settle)
  | cmsg_Default (x : msg_Default)
  | cmsg_Bound (x : msg_Bound)
  | cmsg_Reset (x : msg_Reset)
instance : Inhabited msg_Message := ⟨.nil⟩
def msg_Message.enc : msg_Message → T
  | .nil => .val .nilIface
  | .cmsg_Join x => .ifc 84 (.agg (msg_Join.enc x))
  | .cmsg_Offer x => .ifc 97 (.agg (msg_Offer.enc x))
  | .cmsg_List x => .ifc 100 (.agg (msg_List.enc x))
  | .cmsg_Rules x => .ifc 102 (.agg (msg_Rules.enc x))
  | .cmsg_Prices x => .ifc 104 (.agg (msg_Prices.enc x))
  | .cmsg_Roll x => .ifc 106 (.agg (msg_Roll.enc x))
  | .cmsg_Cash x => .ifc 108 (.agg (msg_Cash.enc x))
  | .cmsg_Move x => .ifc 110 (.agg (msg_Move.enc x))
  | .cmsg_Cancel x => .ifc 112 (.agg (msg_Cancel.enc x))
  | .cmsg_Notice x => .ifc 114 (.agg (msg_Notice.enc x))
  | .cmsg_Swap x => .ifc 116 (.agg (msg_Swap.enc x))
  | .cmsg_Settle x => .ifc 118 (.agg (msg_Settle.enc x))
  | .cmsg_Default x => .ifc 120 (.agg (msg_Default.enc x))
  | .cmsg_Bound x => .ifc 122 (.agg (msg_Bound.enc x))
  | .cmsg_Reset x => .ifc 124 (.agg (msg_Reset.enc x))
def msg_Message.isNil : msg_Message → Bool
  | .nil => true
  | _ => false
def msg_Message.ismsg_Join : msg_Message → Bool
  | .cmsg_Join _ => true
  | _ => false
def msg_Message.asmsg_Join : msg_Message → msg_Join
  | .cmsg_Join x => x
  | _ => default
def msg_Message.ismsg_Offer : msg_Message → Bool
  | .cmsg_Offer _ => true
  | _ => false
def msg_Message.asmsg_Offer : msg_Message → msg_Offer
  | .cmsg_Offer x => x
  | _ => default
def msg_Message.ismsg_List : msg_Message → Bool
  | .cmsg_List _ => true
  | _ => false
def msg_Message.asmsg_List : msg_Message → msg_List
  | .cmsg_List x => x
  | _ => default
def msg_Message.ismsg_Rules : msg_Message → Bool
  | .cmsg_Rules _ => true
  | _ => false
def msg_Message.asmsg_Rules : msg_Message → msg_Rules
  | .cmsg_Rules x => x
  | _ => default
def msg_Message.ismsg_Prices : msg_Message → Bool
  | .cmsg_Prices _ => true
  | _ => false
def msg_Message.asmsg_Prices : msg_Message → msg_Prices
  | .cmsg_Prices x => x
  | _ => default
def msg_Message.ismsg_Roll : msg_Message → Bool
  | .cmsg_Roll _ => true
  | _ => false
def msg_Message.asmsg_Roll : msg_Message → msg_Roll
  | .cmsg_Roll x => x
  | _ => default
def msg_Message.ismsg_Cash : msg_Message → Bool
  | .cmsg_Cash _ => true
  | _ => false
def msg_Message.asmsg_Cash : msg_Message → msg_Cash
  | .cmsg_Cash x => x
  | _ => default
def msg_Message.ismsg_Move : msg_Message → Bool
  | .cmsg_Move _ => true
  | _ => false
def msg_Message.asmsg_Move : msg_Message → msg_Move
  | .cmsg_Move x => x
  | _ => default
def msg_Message.ismsg_Cancel : msg_Message → Bool
  | .cmsg_Cancel _ => true
  | _ => false
def msg_Message.asmsg_Cancel : msg_Message → msg_Cancel
  | .cmsg_Cancel x => x
  | _ => default
def msg_Message.ismsg_Notice : msg_Message → Bool
  | .cmsg_Notice _ => true
  | _ => false
def msg_Message.asmsg_Notice : msg_Message → msg_Notice
  | .cmsg_Notice x => x
  | _ => default
def msg_Message.ismsg_Swap : msg_Message → Bool
  | .cmsg_Swap _ => true
  | _ => false
def msg_Message.asmsg_Swap : msg_Message → msg_Swap
  | .cmsg_Swap x => x
  | _ => default
def msg_Message.ismsg_Settle : msg_Message → Bool
  | .cmsg_Settle _ => true
  | _ => false
def msg_Message.asmsg_Settle : msg_Message → msg_Settle
  | .cmsg_Settle x => x
  | _ => default
def msg_Message.ismsg_Default : msg_Message → Bool
  | .cmsg_Default _ => true
  | _ => false
def msg_Message.asmsg_Default : msg_Message → msg_Default
  | .cmsg_Default x => x
  | _ => default
def msg_Message.ismsg_Bound : msg_Message → Bool
  | .cmsg_Bound _ => true
  | _ => false
def msg_Message.asmsg_Bound : msg_Message → msg_Bound
  | .cmsg_Bound x => x
  | _ => default
def msg_Message.ismsg_Reset : msg_Message → Bool
  | .cmsg_Reset _ => true
  | _ => false
def msg_Message.asmsg_Reset : msg_Message → msg_Reset
  | .cmsg_Reset x => x
  | _ => default
theorem bl79 : placesB prog 79 = some ([.slice none 0 0, .bool false], [(0, 1), (1, 1)]) := by kernel_rfl
theorem z24 : (prog.info? 24).map (fun i => i.zero.map (·.cells.toList)) = some (some [.slice none 0 0]) := by kernel_rfl
theorem sl22 : SlT prog 22 75 5 48 [.int .i64 0, .int .i64 0, .string (tx []), .int .i64 0, .bool false] := ⟨by kernel_rfl, by kernel_rfl, rfl, by decide⟩
theorem fld75_2 : fieldB prog 75 2 2 = true := by kernel_rfl
theorem ty9 : tyV prog 9 = some (false, 1) := by kernel_rfl
theorem u9 : prog.underlying 9 = some .string := by kernel_rfl
theorem ty75 : tyV prog 75 = some (true, 5) := by kernel_rfl
theorem fld75_0 : fieldB prog 75 0 0 = true := by kernel_rfl
theorem ty3 : tyV prog 3 = some (false, 1) := by kernel_rfl
theorem ty24 : tyV prog 24 = some (false, 1) := by kernel_rfl
theorem fld75_1 : fieldB prog 75 1 1 = true := by kernel_rfl
theorem bl64 : placesB prog 64 = some ([.int .i64 0, .int .i64 0, .string (tx []), .string (tx []), .int .i64 0, .int .i64 0, .int .i64 0, .string (tx []), .int .i64 0, .int .i64 0, .string (tx []), .int .i64 0, .int .i64 0, .int .i64 0, .slice none 0 0, .int .i64 0, .int .i64 0, .slice none 0 0, .slice none 0 0, .int .i64 0, .string (tx []), .int .i64 0, .int .i64 0, .int .i64 0, .int .i64 0, .int .i64 0, .int .i64 0, .int .i64 0, .int .i64 0, .int .i64 0, .string (tx []), .int .i64 0, .slice none 0 0, .int .i64 0, .bool false, .int .i64 0], [(0, 1), (1, 1), (2, 1), (3, 5), (8, 10), (18, 1), (19, 1), (20, 1), (21, 1), (22, 8), (30, 2), (32, 1), (33, 1), (34, 1), (35, 1)]) := by kernel_rfl
theorem fld64_0 : fieldB prog 64 0 0 = true := by kernel_rfl
theorem fld64_3 : fieldB prog 64 3 3 = true := by kernel_rfl
theorem ty52 : tyV prog 52 = some (true, 5) := by kernel_rfl
theorem fld52_0 : fieldB prog 52 0 0 = true := by kernel_rfl
theorem h5 : (prog.underlying 5).isSome = true := by kernel_rfl
theorem u3 : prog.underlying 3 = some (.int .i64) := by kernel_rfl
theorem sl54 : SlT prog 54 3 1 8 [.int .i64 0] := ⟨by kernel_rfl, by kernel_rfl, rfl, by decide⟩
theorem ca120 : callOk prog 120 = true := by kernel_rfl
theorem ca111 : callOk prog 111 = true := by kernel_rfl
theorem ca112 : callOk prog 112 = true := by kernel_rfl
theorem fld52_4 : fieldB prog 52 4 4 = true := by kernel_rfl
theorem fld52_1 : fieldB prog 52 1 1 = true := by kernel_rfl
theorem fld52_2 : fieldB prog 52 2 2 = true := by kernel_rfl
theorem fld52_3 : fieldB prog 52 3 3 = true := by kernel_rfl
theorem ca96 : callOk prog 96 = true := by kernel_rfl
theorem ca77 : callOk prog 77 = true := by kernel_rfl
theorem fld64_4 : fieldB prog 64 4 8 = true := by kernel_rfl
theorem ty56 : tyV prog 56 = some (true, 10) := by kernel_rfl
theorem fld56_0 : fieldB prog 56 0 0 = true := by kernel_rfl
theorem fld56_1 : fieldB prog 56 1 1 = true := by kernel_rfl
theorem fld56_3 : fieldB prog 56 3 3 = true := by kernel_rfl
theorem fld56_7 : fieldB prog 56 7 7 = true := by kernel_rfl
theorem fld56_8 : fieldB prog 56 8 8 = true := by kernel_rfl
theorem fld56_6 : fieldB prog 56 6 6 = true := by kernel_rfl
theorem ty53 : tyV prog 53 = some (false, 1) := by kernel_rfl
theorem sl53 : SlT prog 53 157 3 24 [.int .i64 0, .int .i64 0, .int .i64 0] := ⟨by kernel_rfl, by kernel_rfl, rfl, by decide⟩
theorem fld56_9 : fieldB prog 56 9 9 = true := by kernel_rfl
theorem ty54 : tyV prog 54 = some (false, 1) := by kernel_rfl
theorem fld56_4 : fieldB prog 56 4 4 = true := by kernel_rfl
theorem fld56_5 : fieldB prog 56 5 5 = true := by kernel_rfl
theorem fld56_2 : fieldB prog 56 2 2 = true := by kernel_rfl
theorem fld157_0 : fieldB prog 157 0 0 = true := by kernel_rfl
theorem fld157_1 : fieldB prog 157 1 1 = true := by kernel_rfl
theorem fld157_2 : fieldB prog 157 2 2 = true := by kernel_rfl
theorem ca97 : callOk prog 97 = true := by kernel_rfl
theorem ca98 : callOk prog 98 = true := by kernel_rfl
theorem fld64_5 : fieldB prog 64 5 18 = true := by kernel_rfl
theorem ty57 : tyV prog 57 = some (false, 1) := by kernel_rfl
theorem sl57 : SlT prog 57 159 2 24 [.string (tx []), .int .i64 0] := ⟨by kernel_rfl, by kernel_rfl, rfl, by decide⟩
theorem fld159_0 : fieldB prog 159 0 0 = true := by kernel_rfl
theorem fld159_1 : fieldB prog 159 1 1 = true := by kernel_rfl
theorem fld64_6 : fieldB prog 64 6 19 = true := by kernel_rfl
theorem ca99 : callOk prog 99 = true := by kernel_rfl
theorem fld64_7 : fieldB prog 64 7 20 = true := by kernel_rfl
theorem fld64_9 : fieldB prog 64 9 22 = true := by kernel_rfl
theorem fld59_1 : fieldB prog 59 1 1 = true := by kernel_rfl
theorem ty59 : tyV prog 59 = some (true, 8) := by kernel_rfl
theorem fld59_0 : fieldB prog 59 0 0 = true := by kernel_rfl
theorem fld59_2 : fieldB prog 59 2 2 = true := by kernel_rfl
theorem fld59_3 : fieldB prog 59 3 3 = true := by kernel_rfl
theorem fld59_4 : fieldB prog 59 4 4 = true := by kernel_rfl
theorem fld59_5 : fieldB prog 59 5 5 = true := by kernel_rfl
theorem fld59_6 : fieldB prog 59 6 6 = true := by kernel_rfl
theorem fld59_7 : fieldB prog 59 7 7 = true := by kernel_rfl
theorem fld64_1 : fieldB prog 64 1 1 = true := by kernel_rfl
theorem ty64 : tyV prog 64 = some (true, 36) := by kernel_rfl
theorem fld64_2 : fieldB prog 64 2 2 = true := by kernel_rfl
theorem ca103 : callOk prog 103 = true := by kernel_rfl
theorem ca104 : callOk prog 104 = true := by kernel_rfl
theorem ca81 : callOk prog 81 = true := by kernel_rfl
theorem ca121 : callOk prog 121 = true := by kernel_rfl
theorem ca46 : callOk prog 46 = true := by kernel_rfl
theorem ca113 : callOk prog 113 = true := by kernel_rfl
theorem ca114 : callOk prog 114 = true := by kernel_rfl
theorem ca115 : callOk prog 115 = true := by kernel_rfl
theorem fld64_8 : fieldB prog 64 8 21 = true := by kernel_rfl
theorem fld64_12 : fieldB prog 64 12 33 = true := by kernel_rfl
theorem fld64_14 : fieldB prog 64 14 35 = true := by kernel_rfl
theorem fld64_11 : fieldB prog 64 11 32 = true := by kernel_rfl
theorem ty62 : tyV prog 62 = some (false, 1) := by kernel_rfl
theorem sl62 : SlT prog 62 61 2 24 [.string (tx []), .int .i64 0] := ⟨by kernel_rfl, by kernel_rfl, rfl, by decide⟩
theorem fld64_10 : fieldB prog 64 10 30 = true := by kernel_rfl
theorem ty61 : tyV prog 61 = some (true, 2) := by kernel_rfl
theorem fld61_1 : fieldB prog 61 1 1 = true := by kernel_rfl
theorem fld61_0 : fieldB prog 61 0 0 = true := by kernel_rfl
theorem ca100 : callOk prog 100 = true := by kernel_rfl
theorem ca101 : callOk prog 101 = true := by kernel_rfl
theorem ca76 : callOk prog 76 = true := by kernel_rfl
theorem ca102 : callOk prog 102 = true := by kernel_rfl
theorem ca73 : callOk prog 73 = true := by kernel_rfl
theorem ca74 : callOk prog 74 = true := by kernel_rfl
theorem ca75 : callOk prog 75 = true := by kernel_rfl
theorem ca78 : callOk prog 78 = true := by kernel_rfl
theorem ca79 : callOk prog 79 = true := by kernel_rfl
theorem ca80 : callOk prog 80 = true := by kernel_rfl
theorem sl24 : SlT prog 24 31 5 48 [.int .i64 0, .string (tx []), .int .i64 0, .int .i64 0, .bool false] := ⟨by kernel_rfl, by kernel_rfl, rfl, by decide⟩
theorem fld31_0 : fieldB prog 31 0 0 = true := by kernel_rfl
theorem fld31_1 : fieldB prog 31 1 1 = true := by kernel_rfl
theorem h3 : (prog.underlying 3).isSome = true := by kernel_rfl
theorem u5 : prog.underlying 5 = some (.int .u8) := by kernel_rfl
theorem sl154 : SlT prog 154 5 1 1 [.int .u8 0] := ⟨by kernel_rfl, by kernel_rfl, rfl, by decide⟩
theorem ca48 : callOk prog 48 = true := by kernel_rfl
theorem ca47 : callOk prog 47 = true := by kernel_rfl
theorem ca27 : callOk prog 27 = true := by kernel_rfl
theorem bl31 : placesB prog 31 = some ([.int .i64 0, .string (tx []), .int .i64 0, .int .i64 0, .bool false], [(0, 1), (1, 1), (2, 1), (3, 1), (4, 1)]) := by kernel_rfl
theorem ty31 : tyV prog 31 = some (true, 5) := by kernel_rfl
theorem ca44 : callOk prog 44 = true := by kernel_rfl
theorem ca19 : callOk prog 19 = true := by kernel_rfl
theorem ca21 : callOk prog 21 = true := by kernel_rfl
theorem u23 : prog.underlying 23 = some (.pointer (prog.pointee 23)) := by kernel_rfl
theorem fld79_1 : fieldB prog 79 1 1 = true := by kernel_rfl
theorem ty4 : tyV prog 4 = some (false, 1) := by kernel_rfl
theorem bl84 : placesB prog 84 = some ([.int .i64 0, .string (tx [])], [(0, 1), (1, 1)]) := by kernel_rfl
theorem cn84 : prog.concrete 84 = true := by kernel_rfl
theorem pl84 : plainT prog 84 = true := by kernel_rfl
theorem z84 : (prog.info? 84).map (fun i => i.zero.map (·.cells.toList)) = some (some [.int .i64 0, .string (tx [])]) := by kernel_rfl
theorem ty84 : tyV prog 84 = some (true, 2) := by kernel_rfl
theorem fld84_1 : fieldB prog 84 1 1 = true := by kernel_rfl
theorem ca84 : callOk prog 84 = true := by kernel_rfl
theorem ca85 : callOk prog 85 = true := by kernel_rfl
theorem ca86 : callOk prog 86 = true := by kernel_rfl
theorem fld84_0 : fieldB prog 84 0 0 = true := by kernel_rfl
theorem pl100 : plainT prog 100 = true := by kernel_rfl
theorem z100 : (prog.info? 100).map (fun i => i.zero.map (·.cells.toList)) = some (some [.string (tx []), .int .i64 0, .int .i64 0, .int .i64 0, .string (tx [])]) := by kernel_rfl
theorem ty100 : tyV prog 100 = some (true, 5) := by kernel_rfl
theorem fld100_0 : fieldB prog 100 0 0 = true := by kernel_rfl
theorem ca116 : callOk prog 116 = true := by kernel_rfl
theorem ca88 : callOk prog 88 = true := by kernel_rfl
theorem z3 : (prog.info? 3).map (fun i => i.zero.map (·.cells.toList)) = some (some [.int .i64 0]) := by kernel_rfl
theorem ca117 : callOk prog 117 = true := by kernel_rfl
theorem ca105 : callOk prog 105 = true := by kernel_rfl
theorem ca106 : callOk prog 106 = true := by kernel_rfl
theorem ca89 : callOk prog 89 = true := by kernel_rfl
theorem ca62 : callOk prog 62 = true := by kernel_rfl
theorem ca60 : callOk prog 60 = true := by kernel_rfl
theorem pl102 : plainT prog 102 = true := by kernel_rfl
theorem z102 : (prog.info? 102).map (fun i => i.zero.map (·.cells.toList)) = some (some [.int .i64 0, .int .i64 0, .string (tx []), .int .i64 0, .int .i64 0, .int .i64 0, .slice none 0 0, .int .i64 0, .int .i64 0, .slice none 0 0]) := by kernel_rfl
theorem ty102 : tyV prog 102 = some (true, 10) := by kernel_rfl
theorem fld102_0 : fieldB prog 102 0 0 = true := by kernel_rfl
theorem ty157 : tyV prog 157 = some (true, 3) := by kernel_rfl
theorem z157 : (prog.info? 157).map (fun i => i.zero.map (·.cells.toList)) = some (some [.int .i64 0, .int .i64 0, .int .i64 0]) := by kernel_rfl
theorem ca87 : callOk prog 87 = true := by kernel_rfl
theorem pl104 : plainT prog 104 = true := by kernel_rfl
theorem z104 : (prog.info? 104).map (fun i => i.zero.map (·.cells.toList)) = some (some [.slice none 0 0]) := by kernel_rfl
theorem ty104 : tyV prog 104 = some (true, 1) := by kernel_rfl
theorem fld104_0 : fieldB prog 104 0 0 = true := by kernel_rfl
theorem ty159 : tyV prog 159 = some (true, 2) := by kernel_rfl
theorem z159 : (prog.info? 159).map (fun i => i.zero.map (·.cells.toList)) = some (some [.string (tx []), .int .i64 0]) := by kernel_rfl
theorem pl106 : plainT prog 106 = true := by kernel_rfl
theorem z106 : (prog.info? 106).map (fun i => i.zero.map (·.cells.toList)) = some (some [.int .i64 0]) := by kernel_rfl
theorem ty106 : tyV prog 106 = some (true, 1) := by kernel_rfl
theorem fld106_0 : fieldB prog 106 0 0 = true := by kernel_rfl
theorem pl108 : plainT prog 108 = true := by kernel_rfl
theorem z108 : (prog.info? 108).map (fun i => i.zero.map (·.cells.toList)) = some (some [.int .i64 0, .string (tx []), .int .i64 0]) := by kernel_rfl
theorem ty108 : tyV prog 108 = some (true, 3) := by kernel_rfl
theorem fld108_1 : fieldB prog 108 1 1 = true := by kernel_rfl
theorem fld108_0 : fieldB prog 108 0 0 = true := by kernel_rfl
theorem fld108_2 : fieldB prog 108 2 2 = true := by kernel_rfl
theorem pl110 : plainT prog 110 = true := by kernel_rfl
theorem z110 : (prog.info? 110).map (fun i => i.zero.map (·.cells.toList)) = some (some [.int .i64 0, .string (tx []), .int .i64 0]) := by kernel_rfl
theorem ty110 : tyV prog 110 = some (true, 3) := by kernel_rfl
theorem fld110_0 : fieldB prog 110 0 0 = true := by kernel_rfl
theorem fld110_2 : fieldB prog 110 2 2 = true := by kernel_rfl
theorem fld110_1 : fieldB prog 110 1 1 = true := by kernel_rfl
theorem pl97 : plainT prog 97 = true := by kernel_rfl
theorem z97 : (prog.info? 97).map (fun i => i.zero.map (·.cells.toList)) = some (some [.int .i64 0, .int .i64 0, .int .i64 0, .int .i64 0, .int .i64 0, .int .i64 0, .int .i64 0, .int .i64 0]) := by kernel_rfl
theorem ty97 : tyV prog 97 = some (true, 8) := by kernel_rfl
theorem fld97_0 : fieldB prog 97 0 0 = true := by kernel_rfl
theorem ca59 : callOk prog 59 = true := by kernel_rfl
theorem pl112 : plainT prog 112 = true := by kernel_rfl
theorem z112 : (prog.info? 112).map (fun i => i.zero.map (·.cells.toList)) = some (some [.int .i64 0, .int .i64 0]) := by kernel_rfl
theorem ty112 : tyV prog 112 = some (true, 2) := by kernel_rfl
theorem fld112_0 : fieldB prog 112 0 0 = true := by kernel_rfl
theorem fld112_1 : fieldB prog 112 1 1 = true := by kernel_rfl
theorem pl114 : plainT prog 114 = true := by kernel_rfl
theorem z114 : (prog.info? 114).map (fun i => i.zero.map (·.cells.toList)) = some (some [.int .i64 0, .int .i64 0, .int .i64 0]) := by kernel_rfl
theorem ty114 : tyV prog 114 = some (true, 3) := by kernel_rfl
theorem fld114_0 : fieldB prog 114 0 0 = true := by kernel_rfl
theorem fld114_1 : fieldB prog 114 1 1 = true := by kernel_rfl
theorem fld114_2 : fieldB prog 114 2 2 = true := by kernel_rfl
theorem pl116 : plainT prog 116 = true := by kernel_rfl
theorem z116 : (prog.info? 116).map (fun i => i.zero.map (·.cells.toList)) = some (some [.int .i64 0, .int .i64 0, .string (tx []), .int .i64 0, .slice none 0 0]) := by kernel_rfl
theorem ty116 : tyV prog 116 = some (true, 5) := by kernel_rfl
theorem fld116_0 : fieldB prog 116 0 0 = true := by kernel_rfl
theorem fld116_1 : fieldB prog 116 1 1 = true := by kernel_rfl
theorem fld116_3 : fieldB prog 116 3 4 = true := by kernel_rfl
theorem fld116_2 : fieldB prog 116 2 2 = true := by kernel_rfl
theorem z61 : (prog.info? 61).map (fun i => i.zero.map (·.cells.toList)) = some (some [.string (tx []), .int .i64 0]) := by kernel_rfl
theorem ca54 : callOk prog 54 = true := by kernel_rfl
theorem ca107 : callOk prog 107 = true := by kernel_rfl
theorem pl118 : plainT prog 118 = true := by kernel_rfl
theorem z118 : (prog.info? 118).map (fun i => i.zero.map (·.cells.toList)) = some (some [.int .i64 0, .int .i64 0, .bool false]) := by kernel_rfl
theorem ty118 : tyV prog 118 = some (true, 3) := by kernel_rfl
theorem fld118_0 : fieldB prog 118 0 0 = true := by kernel_rfl
theorem fld118_1 : fieldB prog 118 1 1 = true := by kernel_rfl
theorem pl120 : plainT prog 120 = true := by kernel_rfl
theorem z120 : (prog.info? 120).map (fun i => i.zero.map (·.cells.toList)) = some (some [.int .i64 0]) := by kernel_rfl
theorem ty120 : tyV prog 120 = some (true, 1) := by kernel_rfl
theorem fld120_0 : fieldB prog 120 0 0 = true := by kernel_rfl
theorem pl122 : plainT prog 122 = true := by kernel_rfl
theorem z122 : (prog.info? 122).map (fun i => i.zero.map (·.cells.toList)) = some (some [.int .i64 0, .int .i64 0]) := by kernel_rfl
theorem ty122 : tyV prog 122 = some (true, 2) := by kernel_rfl
theorem fld122_0 : fieldB prog 122 0 0 = true := by kernel_rfl
theorem fld122_1 : fieldB prog 122 1 1 = true := by kernel_rfl
theorem pl124 : plainT prog 124 = true := by kernel_rfl
theorem z124 : (prog.info? 124).map (fun i => i.zero.map (·.cells.toList)) = some (some [.int .i64 0, .int .i64 0, .int .i64 0]) := by kernel_rfl
theorem ty124 : tyV prog 124 = some (true, 3) := by kernel_rfl
theorem fld124_0 : fieldB prog 124 0 0 = true := by kernel_rfl
theorem fld124_2 : fieldB prog 124 2 2 = true := by kernel_rfl
theorem fld124_1 : fieldB prog 124 1 1 = true := by kernel_rfl
theorem ca58 : callOk prog 58 = true := by kernel_rfl
theorem ca90 : callOk prog 90 = true := by kernel_rfl
theorem ca53 : callOk prog 53 = true := by kernel_rfl
theorem ca55 : callOk prog 55 = true := by kernel_rfl
theorem ca56 : callOk prog 56 = true := by kernel_rfl
theorem ca57 : callOk prog 57 = true := by kernel_rfl
theorem ca61 : callOk prog 61 = true := by kernel_rfl
theorem ca63 : callOk prog 63 = true := by kernel_rfl
theorem ca64 : callOk prog 64 = true := by kernel_rfl
theorem fld79_0 : fieldB prog 79 0 0 = true := by kernel_rfl
theorem ty29 : tyV prog 29 = some (false, 1) := by kernel_rfl
theorem sl29 : SlT prog 29 32 5 48 [.int .i64 0, .string (tx []), .int .i64 0, .int .i64 0, .bool false] := ⟨by kernel_rfl, by kernel_rfl, rfl, by decide⟩
theorem u164 : prog.underlying 164 = some (.int .u64) := by kernel_rfl
theorem h164 : (prog.underlying 164).isSome = true := by kernel_rfl
theorem ty32 : tyV prog 32 = some (true, 5) := by kernel_rfl
theorem fld32_0 : fieldB prog 32 0 0 = true := by kernel_rfl
theorem ca91 : callOk prog 91 = true := by kernel_rfl
theorem ca67 : callOk prog 67 = true := by kernel_rfl
theorem ca66 : callOk prog 66 = true := by kernel_rfl
theorem ca65 : callOk prog 65 = true := by kernel_rfl
theorem fld32_1 : fieldB prog 32 1 1 = true := by kernel_rfl
theorem ca69 : callOk prog 69 = true := by kernel_rfl
theorem ca37 : callOk prog 37 = true := by kernel_rfl
theorem ca36 : callOk prog 36 = true := by kernel_rfl
theorem ca68 : callOk prog 68 = true := by kernel_rfl
theorem bl32 : placesB prog 32 = some ([.int .i64 0, .string (tx []), .int .i64 0, .int .i64 0, .bool false], [(0, 1), (1, 1), (2, 1), (3, 1), (4, 1)]) := by kernel_rfl
theorem ca33 : callOk prog 33 = true := by kernel_rfl
theorem ca34 : callOk prog 34 = true := by kernel_rfl
theorem ca35 : callOk prog 35 = true := by kernel_rfl
theorem ca38 : callOk prog 38 = true := by kernel_rfl
theorem fld75_3 : fieldB prog 75 3 3 = true := by kernel_rfl
theorem fld75_4 : fieldB prog 75 4 4 = true := by kernel_rfl
theorem fld31_2 : fieldB prog 31 2 2 = true := by kernel_rfl
theorem fld31_3 : fieldB prog 31 3 3 = true := by kernel_rfl
theorem fld31_4 : fieldB prog 31 4 4 = true := by kernel_rfl
theorem fld32_2 : fieldB prog 32 2 2 = true := by kernel_rfl
theorem ca82 : callOk prog 82 = true := by kernel_rfl
theorem ca39 : callOk prog 39 = true := by kernel_rfl
theorem ca83 : callOk prog 83 = true := by kernel_rfl
theorem ca49 : callOk prog 49 = true := by kernel_rfl
theorem ca40 : callOk prog 40 = true := by kernel_rfl
theorem ca32 : callOk prog 32 = true := by kernel_rfl
theorem fld32_3 : fieldB prog 32 3 3 = true := by kernel_rfl
theorem fld32_4 : fieldB prog 32 4 4 = true := by kernel_rfl
theorem fl31 : flatT prog 31 = some [.i, .s, .i, .i, .b] := by kernel_rfl
theorem ca31 : callOk prog 31 = true := by kernel_rfl
theorem ca13 : callOk prog 13 = true := by kernel_rfl
theorem ca50 : callOk prog 50 = true := by kernel_rfl
theorem ca51 : callOk prog 51 = true := by kernel_rfl
theorem ca52 : callOk prog 52 = true := by kernel_rfl
theorem ca28 : callOk prog 28 = true := by kernel_rfl
theorem ca14 : callOk prog 14 = true := by kernel_rfl
theorem ca17 : callOk prog 17 = true := by kernel_rfl
theorem ca16 : callOk prog 16 = true := by kernel_rfl
theorem ca15 : callOk prog 15 = true := by kernel_rfl
theorem ca29 : callOk prog 29 = true := by kernel_rfl
theorem ca30 : callOk prog 30 = true := by kernel_rfl
theorem z32 : (prog.info? 32).map (fun i => i.zero.map (·.cells.toList)) = some (some [.int .i64 0, .string (tx []), .int .i64 0, .int .i64 0, .bool false]) := by kernel_rfl
theorem ca18 : callOk prog 18 = true := by kernel_rfl
theorem ca22 : callOk prog 22 = true := by kernel_rfl
theorem ca8 : callOk prog 8 = true := by kernel_rfl
theorem ca9 : callOk prog 9 = true := by kernel_rfl
theorem z31 : (prog.info? 31).map (fun i => i.zero.map (·.cells.toList)) = some (some [.int .i64 0, .string (tx []), .int .i64 0, .int .i64 0, .bool false]) := by kernel_rfl
theorem u4 : prog.underlying 4 = some .bool := by kernel_rfl
theorem ca10 : callOk prog 10 = true := by kernel_rfl
theorem ca11 : callOk prog 11 = true := by kernel_rfl
theorem ca12 : callOk prog 12 = true := by kernel_rfl
theorem ca42 : callOk prog 42 = true := by kernel_rfl
theorem ca41 : callOk prog 41 = true := by kernel_rfl
theorem ca20 : callOk prog 20 = true := by kernel_rfl
theorem bl100 : placesB prog 100 = some ([.string (tx []), .int .i64 0, .int .i64 0, .int .i64 0, .string (tx [])], [(0, 5)]) := by kernel_rfl
theorem cn100 : prog.concrete 100 = true := by kernel_rfl
theorem bl102 : placesB prog 102 = some ([.int .i64 0, .int .i64 0, .string (tx []), .int .i64 0, .int .i64 0, .int .i64 0, .slice none 0 0, .int .i64 0, .int .i64 0, .slice none 0 0], [(0, 10)]) := by kernel_rfl
theorem cn102 : prog.concrete 102 = true := by kernel_rfl
theorem bl104 : placesB prog 104 = some ([.slice none 0 0], [(0, 1)]) := by kernel_rfl
theorem cn104 : prog.concrete 104 = true := by kernel_rfl
theorem bl106 : placesB prog 106 = some ([.int .i64 0], [(0, 1)]) := by kernel_rfl
theorem cn106 : prog.concrete 106 = true := by kernel_rfl
theorem bl108 : placesB prog 108 = some ([.int .i64 0, .string (tx []), .int .i64 0], [(0, 1), (1, 1), (2, 1)]) := by kernel_rfl
theorem cn108 : prog.concrete 108 = true := by kernel_rfl
theorem bl110 : placesB prog 110 = some ([.int .i64 0, .string (tx []), .int .i64 0], [(0, 1), (1, 1), (2, 1)]) := by kernel_rfl
theorem cn110 : prog.concrete 110 = true := by kernel_rfl
theorem bl97 : placesB prog 97 = some ([.int .i64 0, .int .i64 0, .int .i64 0, .int .i64 0, .int .i64 0, .int .i64 0, .int .i64 0, .int .i64 0], [(0, 8)]) := by kernel_rfl
theorem cn97 : prog.concrete 97 = true := by kernel_rfl
theorem bl112 : placesB prog 112 = some ([.int .i64 0, .int .i64 0], [(0, 1), (1, 1)]) := by kernel_rfl
theorem cn112 : prog.concrete 112 = true := by kernel_rfl
theorem bl114 : placesB prog 114 = some ([.int .i64 0, .int .i64 0, .int .i64 0], [(0, 1), (1, 1), (2, 1)]) := by kernel_rfl
theorem cn114 : prog.concrete 114 = true := by kernel_rfl
theorem bl116 : placesB prog 116 = some ([.int .i64 0, .int .i64 0, .string (tx []), .int .i64 0, .slice none 0 0], [(0, 1), (1, 1), (2, 2), (4, 1)]) := by kernel_rfl
theorem cn116 : prog.concrete 116 = true := by kernel_rfl
theorem fld64_13 : fieldB prog 64 13 34 = true := by kernel_rfl
theorem bl118 : placesB prog 118 = some ([.int .i64 0, .int .i64 0, .bool false], [(0, 1), (1, 1), (2, 1)]) := by kernel_rfl
theorem cn118 : prog.concrete 118 = true := by kernel_rfl
theorem bl120 : placesB prog 120 = some ([.int .i64 0], [(0, 1)]) := by kernel_rfl
theorem cn120 : prog.concrete 120 = true := by kernel_rfl
theorem bl122 : placesB prog 122 = some ([.int .i64 0, .int .i64 0], [(0, 1), (1, 1)]) := by kernel_rfl
theorem cn122 : prog.concrete 122 = true := by kernel_rfl
theorem bl124 : placesB prog 124 = some ([.int .i64 0, .int .i64 0, .int .i64 0], [(0, 1), (1, 1), (2, 1)]) := by kernel_rfl
theorem cn124 : prog.concrete 124 = true := by kernel_rfl
theorem ca72 : callOk prog 72 = true := by kernel_rfl
theorem ca43 : callOk prog 43 = true := by kernel_rfl
theorem ca45 : callOk prog 45 = true := by kernel_rfl
theorem ca23 : callOk prog 23 = true := by kernel_rfl
theorem ca25 : callOk prog 25 = true := by kernel_rfl
theorem ca24 : callOk prog 24 = true := by kernel_rfl
theorem ca26 : callOk prog 26 = true := by kernel_rfl
theorem z64 : (prog.info? 64).map (fun i => i.zero.map (·.cells.toList)) = some (some [.int .i64 0, .int .i64 0, .string (tx []), .string (tx []), .int .i64 0, .int .i64 0, .int .i64 0, .string (tx []), .int .i64 0, .int .i64 0, .string (tx []), .int .i64 0, .int .i64 0, .int .i64 0, .slice none 0 0, .int .i64 0, .int .i64 0, .slice none 0 0, .slice none 0 0, .int .i64 0, .string (tx []), .int .i64 0, .int .i64 0, .int .i64 0, .int .i64 0, .int .i64 0, .int .i64 0, .int .i64 0, .int .i64 0, .int .i64 0, .string (tx []), .int .i64 0, .slice none 0 0, .int .i64 0, .bool false, .int .i64 0]) := by kernel_rfl
theorem msg_Message.atNil (x : msg_Message) : IsN x.enc x.isNil := by cases x <;> first | exact .none | exact .some _ _
theorem msg_Message.atmsg_Join (x : msg_Message) : AsT prog 84 x.enc (msg_Join.enc x.asmsg_Join) x.ismsg_Join := by
  have hz : (prog.info? 84).bind (·.zero) = some (.agg #[.int .i64 0, .string (tx [])]) := by kernel_rfl
  cases x with
  | cmsg_Join x => exact .hit _
  | nil => exact .none _ _ hz (.cons (.same _) (.cons (.same _) .nil))
  | cmsg_Offer x => exact .miss _ _ _ _ rfl hz (.cons (.same _) (.cons (.same _) .nil))
  | cmsg_List x => exact .miss _ _ _ _ rfl hz (.cons (.same _) (.cons (.same _) .nil))
  | cmsg_Rules x => exact .miss _ _ _ _ rfl hz (.cons (.same _) (.cons (.same _) .nil))
  | cmsg_Prices x => exact .miss _ _ _ _ rfl hz (.cons (.same _) (.cons (.same _) .nil))
  | cmsg_Roll x => exact .miss _ _ _ _ rfl hz (.cons (.same _) (.cons (.same _) .nil))
  | cmsg_Cash x => exact .miss _ _ _ _ rfl hz (.cons (.same _) (.cons (.same _) .nil))
  | cmsg_Move x => exact .miss _ _ _ _ rfl hz (.cons (.same _) (.cons (.same _) .nil))
  | cmsg_Cancel x => exact .miss _ _ _ _ rfl hz (.cons (.same _) (.cons (.same _) .nil))
  | cmsg_Notice x => exact .miss _ _ _ _ rfl hz (.cons (.same _) (.cons (.same _) .nil))
  | cmsg_Swap x => exact .miss _ _ _ _ rfl hz (.cons (.same _) (.cons (.same _) .nil))
  | cmsg_Settle x => exact .miss _ _ _ _ rfl hz (.cons (.same _) (.cons (.same _) .nil))
  | cmsg_Default x => exact .miss _ _ _ _ rfl hz (.cons (.same _) (.cons (.same _) .nil))
  | cmsg_Bound x => exact .miss _ _ _ _ rfl hz (.cons (.same _) (.cons (.same _) .nil))
  | cmsg_Reset x => exact .miss _ _ _ _ rfl hz (.cons (.same _) (.cons (.same _) .nil))
theorem msg_Message.atmsg_Offer (x : msg_Message) : AsT prog 97 x.enc (msg_Offer.enc x.asmsg_Offer) x.ismsg_Offer := by
  have hz : (prog.info? 97).bind (·.zero) = some (.agg #[.int .i64 0, .int .i64 0, .int .i64 0, .int .i64 0, .int .i64 0, .int .i64 0, .int .i64 0, .int .i64 0]) := by kernel_rfl
  cases x with
  | cmsg_Offer x => exact .hit _
  | nil => exact .none _ _ hz (.cons (.same _) (.cons (.same _) (.cons (.same _) (.cons (.same _) (.cons (.same _) (.cons (.same _) (.cons (.same _) (.cons (.same _) .nil))))))))
  | cmsg_Join x => exact .miss _ _ _ _ rfl hz (.cons (.same _) (.cons (.same _) (.cons (.same _) (.cons (.same _) (.cons (.same _) (.cons (.same _) (.cons (.same _) (.cons (.same _) .nil))))))))
  | cmsg_List x => exact .miss _ _ _ _ rfl hz (.cons (.same _) (.cons (.same _) (.cons (.same _) (.cons (.same _) (.cons (.same _) (.cons (.same _) (.cons (.same _) (.cons (.same _) .nil))))))))
  | cmsg_Rules x => exact .miss _ _ _ _ rfl hz (.cons (.same _) (.cons (.same _) (.cons (.same _) (.cons (.same _) (.cons (.same _) (.cons (.same _) (.cons (.same _) (.cons (.same _) .nil))))))))
  | cmsg_Prices x => exact .miss _ _ _ _ rfl hz (.cons (.same _) (.cons (.same _) (.cons (.same _) (.cons (.same _) (.cons (.same _) (.cons (.same _) (.cons (.same _) (.cons (.same _) .nil))))))))
  | cmsg_Roll x => exact .miss _ _ _ _ rfl hz (.cons (.same _) (.cons (.same _) (.cons (.same _) (.cons (.same _) (.cons (.same _) (.cons (.same _) (.cons (.same _) (.cons (.same _) .nil))))))))
  | cmsg_Cash x => exact .miss _ _ _ _ rfl hz (.cons (.same _) (.cons (.same _) (.cons (.same _) (.cons (.same _) (.cons (.same _) (.cons (.same _) (.cons (.same _) (.cons (.same _) .nil))))))))
  | cmsg_Move x => exact .miss _ _ _ _ rfl hz (.cons (.same _) (.cons (.same _) (.cons (.same _) (.cons (.same _) (.cons (.same _) (.cons (.same _) (.cons (.same _) (.cons (.same _) .nil))))))))
  | cmsg_Cancel x => exact .miss _ _ _ _ rfl hz (.cons (.same _) (.cons (.same _) (.cons (.same _) (.cons (.same _) (.cons (.same _) (.cons (.same _) (.cons (.same _) (.cons (.same _) .nil))))))))
  | cmsg_Notice x => exact .miss _ _ _ _ rfl hz (.cons (.same _) (.cons (.same _) (.cons (.same _) (.cons (.same _) (.cons (.same _) (.cons (.same _) (.cons (.same _) (.cons (.same _) .nil))))))))
  | cmsg_Swap x => exact .miss _ _ _ _ rfl hz (.cons (.same _) (.cons (.same _) (.cons (.same _) (.cons (.same _) (.cons (.same _) (.cons (.same _) (.cons (.same _) (.cons (.same _) .nil))))))))
  | cmsg_Settle x => exact .miss _ _ _ _ rfl hz (.cons (.same _) (.cons (.same _) (.cons (.same _) (.cons (.same _) (.cons (.same _) (.cons (.same _) (.cons (.same _) (.cons (.same _) .nil))))))))
  | cmsg_Default x => exact .miss _ _ _ _ rfl hz (.cons (.same _) (.cons (.same _) (.cons (.same _) (.cons (.same _) (.cons (.same _) (.cons (.same _) (.cons (.same _) (.cons (.same _) .nil))))))))
  | cmsg_Bound x => exact .miss _ _ _ _ rfl hz (.cons (.same _) (.cons (.same _) (.cons (.same _) (.cons (.same _) (.cons (.same _) (.cons (.same _) (.cons (.same _) (.cons (.same _) .nil))))))))
  | cmsg_Reset x => exact .miss _ _ _ _ rfl hz (.cons (.same _) (.cons (.same _) (.cons (.same _) (.cons (.same _) (.cons (.same _) (.cons (.same _) (.cons (.same _) (.cons (.same _) .nil))))))))
theorem msg_Message.atmsg_List (x : msg_Message) : AsT prog 100 x.enc (msg_List.enc x.asmsg_List) x.ismsg_List := by
  have hz : (prog.info? 100).bind (·.zero) = some (.agg #[.string (tx []), .int .i64 0, .int .i64 0, .int .i64 0, .string (tx [])]) := by kernel_rfl
  cases x with
  | cmsg_List x => exact .hit _
  | nil => exact .none _ _ hz (.cons (.same _) (.cons (.same _) (.cons (.same _) (.cons (.same _) (.cons (.same _) .nil)))))
  | cmsg_Join x => exact .miss _ _ _ _ rfl hz (.cons (.same _) (.cons (.same _) (.cons (.same _) (.cons (.same _) (.cons (.same _) .nil)))))
  | cmsg_Offer x => exact .miss _ _ _ _ rfl hz (.cons (.same _) (.cons (.same _) (.cons (.same _) (.cons (.same _) (.cons (.same _) .nil)))))
  | cmsg_Rules x => exact .miss _ _ _ _ rfl hz (.cons (.same _) (.cons (.same _) (.cons (.same _) (.cons (.same _) (.cons (.same _) .nil)))))
  | cmsg_Prices x => exact .miss _ _ _ _ rfl hz (.cons (.same _) (.cons (.same _) (.cons (.same _) (.cons (.same _) (.cons (.same _) .nil)))))
  | cmsg_Roll x => exact .miss _ _ _ _ rfl hz (.cons (.same _) (.cons (.same _) (.cons (.same _) (.cons (.same _) (.cons (.same _) .nil)))))
  | cmsg_Cash x => exact .miss _ _ _ _ rfl hz (.cons (.same _) (.cons (.same _) (.cons (.same _) (.cons (.same _) (.cons (.same _) .nil)))))
  | cmsg_Move x => exact .miss _ _ _ _ rfl hz (.cons (.same _) (.cons (.same _) (.cons (.same _) (.cons (.same _) (.cons (.same _) .nil)))))
  | cmsg_Cancel x => exact .miss _ _ _ _ rfl hz (.cons (.same _) (.cons (.same _) (.cons (.same _) (.cons (.same _) (.cons (.same _) .nil)))))
  | cmsg_Notice x => exact .miss _ _ _ _ rfl hz (.cons (.same _) (.cons (.same _) (.cons (.same _) (.cons (.same _) (.cons (.same _) .nil)))))
  | cmsg_Swap x => exact .miss _ _ _ _ rfl hz (.cons (.same _) (.cons (.same _) (.cons (.same _) (.cons (.same _) (.cons (.same _) .nil)))))
  | cmsg_Settle x => exact .miss _ _ _ _ rfl hz (.cons (.same _) (.cons (.same _) (.cons (.same _) (.cons (.same _) (.cons (.same _) .nil)))))
  | cmsg_Default x => exact .miss _ _ _ _ rfl hz (.cons (.same _) (.cons (.same _) (.cons (.same _) (.cons (.same _) (.cons (.same _) .nil)))))
  | cmsg_Bound x => exact .miss _ _ _ _ rfl hz (.cons (.same _) (.cons (.same _) (.cons (.same _) (.cons (.same _) (.cons (.same _) .nil)))))
  | cmsg_Reset x => exact .miss _ _ _ _ rfl hz (.cons (.same _) (.cons (.same _) (.cons (.same _) (.cons (.same _) (.cons (.same _) .nil)))))
theorem msg_Message.atmsg_Rules (x : msg_Message) : AsT prog 102 x.enc (msg_Rules.enc x.asmsg_Rules) x.ismsg_Rules := by
  have hz : (prog.info? 102).bind (·.zero) = some (.agg #[.int .i64 0, .int .i64 0, .string (tx []), .int .i64 0, .int .i64 0, .int .i64 0, .slice none 0 0, .int .i64 0, .int .i64 0, .slice none 0 0]) := by kernel_rfl
  cases x with
  | cmsg_Rules x => exact .hit _
  | nil => exact .none _ _ hz (.cons (.same _) (.cons (.same _) (.cons (.same _) (.cons (.same _) (.cons (.same _) (.cons (.same _) (.cons (.none 3) (.cons (.same _) (.cons (.same _) (.cons (.none 1) .nil))))))))))
  | cmsg_Join x => exact .miss _ _ _ _ rfl hz (.cons (.same _) (.cons (.same _) (.cons (.same _) (.cons (.same _) (.cons (.same _) (.cons (.same _) (.cons (.none 3) (.cons (.same _) (.cons (.same _) (.cons (.none 1) .nil))))))))))
  | cmsg_Offer x => exact .miss _ _ _ _ rfl hz (.cons (.same _) (.cons (.same _) (.cons (.same _) (.cons (.same _) (.cons (.same _) (.cons (.same _) (.cons (.none 3) (.cons (.same _) (.cons (.same _) (.cons (.none 1) .nil))))))))))
  | cmsg_List x => exact .miss _ _ _ _ rfl hz (.cons (.same _) (.cons (.same _) (.cons (.same _) (.cons (.same _) (.cons (.same _) (.cons (.same _) (.cons (.none 3) (.cons (.same _) (.cons (.same _) (.cons (.none 1) .nil))))))))))
  | cmsg_Prices x => exact .miss _ _ _ _ rfl hz (.cons (.same _) (.cons (.same _) (.cons (.same _) (.cons (.same _) (.cons (.same _) (.cons (.same _) (.cons (.none 3) (.cons (.same _) (.cons (.same _) (.cons (.none 1) .nil))))))))))
  | cmsg_Roll x => exact .miss _ _ _ _ rfl hz (.cons (.same _) (.cons (.same _) (.cons (.same _) (.cons (.same _) (.cons (.same _) (.cons (.same _) (.cons (.none 3) (.cons (.same _) (.cons (.same _) (.cons (.none 1) .nil))))))))))
  | cmsg_Cash x => exact .miss _ _ _ _ rfl hz (.cons (.same _) (.cons (.same _) (.cons (.same _) (.cons (.same _) (.cons (.same _) (.cons (.same _) (.cons (.none 3) (.cons (.same _) (.cons (.same _) (.cons (.none 1) .nil))))))))))
  | cmsg_Move x => exact .miss _ _ _ _ rfl hz (.cons (.same _) (.cons (.same _) (.cons (.same _) (.cons (.same _) (.cons (.same _) (.cons (.same _) (.cons (.none 3) (.cons (.same _) (.cons (.same _) (.cons (.none 1) .nil))))))))))
  | cmsg_Cancel x => exact .miss _ _ _ _ rfl hz (.cons (.same _) (.cons (.same _) (.cons (.same _) (.cons (.same _) (.cons (.same _) (.cons (.same _) (.cons (.none 3) (.cons (.same _) (.cons (.same _) (.cons (.none 1) .nil))))))))))
  | cmsg_Notice x => exact .miss _ _ _ _ rfl hz (.cons (.same _) (.cons (.same _) (.cons (.same _) (.cons (.same _) (.cons (.same _) (.cons (.same _) (.cons (.none 3) (.cons (.same _) (.cons (.same _) (.cons (.none 1) .nil))))))))))
  | cmsg_Swap x => exact .miss _ _ _ _ rfl hz (.cons (.same _) (.cons (.same _) (.cons (.same _) (.cons (.same _) (.cons (.same _) (.cons (.same _) (.cons (.none 3) (.cons (.same _) (.cons (.same _) (.cons (.none 1) .nil))))))))))
  | cmsg_Settle x => exact .miss _ _ _ _ rfl hz (.cons (.same _) (.cons (.same _) (.cons (.same _) (.cons (.same _) (.cons (.same _) (.cons (.same _) (.cons (.none 3) (.cons (.same _) (.cons (.same _) (.cons (.none 1) .nil))))))))))
  | cmsg_Default x => exact .miss _ _ _ _ rfl hz (.cons (.same _) (.cons (.same _) (.cons (.same _) (.cons (.same _) (.cons (.same _) (.cons (.same _) (.cons (.none 3) (.cons (.same _) (.cons (.same _) (.cons (.none 1) .nil))))))))))
  | cmsg_Bound x => exact .miss _ _ _ _ rfl hz (.cons (.same _) (.cons (.same _) (.cons (.same _) (.cons (.same _) (.cons (.same _) (.cons (.same _) (.cons (.none 3) (.cons (.same _) (.cons (.same _) (.cons (.none 1) .nil))))))))))
  | cmsg_Reset x => exact .miss _ _ _ _ rfl hz (.cons (.same _) (.cons (.same _) (.cons (.same _) (.cons (.same _) (.cons (.same _) (.cons (.same _) (.cons (.none 3) (.cons (.same _) (.cons (.same _) (.cons (.none 1) .nil))))))))))
theorem msg_Message.atmsg_Prices (x : msg_Message) : AsT prog 104 x.enc (msg_Prices.enc x.asmsg_Prices) x.ismsg_Prices := by
  have hz : (prog.info? 104).bind (·.zero) = some (.agg #[.slice none 0 0]) := by kernel_rfl
  cases x with
  | cmsg_Prices x => exact .hit _
  | nil => exact .none _ _ hz (.cons (.none 2) .nil)
  | cmsg_Join x => exact .miss _ _ _ _ rfl hz (.cons (.none 2) .nil)
  | cmsg_Offer x => exact .miss _ _ _ _ rfl hz (.cons (.none 2) .nil)
  | cmsg_List x => exact .miss _ _ _ _ rfl hz (.cons (.none 2) .nil)
  | cmsg_Rules x => exact .miss _ _ _ _ rfl hz (.cons (.none 2) .nil)
  | cmsg_Roll x => exact .miss _ _ _ _ rfl hz (.cons (.none 2) .nil)
  | cmsg_Cash x => exact .miss _ _ _ _ rfl hz (.cons (.none 2) .nil)
  | cmsg_Move x => exact .miss _ _ _ _ rfl hz (.cons (.none 2) .nil)
  | cmsg_Cancel x => exact .miss _ _ _ _ rfl hz (.cons (.none 2) .nil)
  | cmsg_Notice x => exact .miss _ _ _ _ rfl hz (.cons (.none 2) .nil)
  | cmsg_Swap x => exact .miss _ _ _ _ rfl hz (.cons (.none 2) .nil)
  | cmsg_Settle x => exact .miss _ _ _ _ rfl hz (.cons (.none 2) .nil)
  | cmsg_Default x => exact .miss _ _ _ _ rfl hz (.cons (.none 2) .nil)
  | cmsg_Bound x => exact .miss _ _ _ _ rfl hz (.cons (.none 2) .nil)
  | cmsg_Reset x => exact .miss _ _ _ _ rfl hz (.cons (.none 2) .nil)
theorem msg_Message.atmsg_Roll (x : msg_Message) : AsT prog 106 x.enc (msg_Roll.enc x.asmsg_Roll) x.ismsg_Roll := by
  have hz : (prog.info? 106).bind (·.zero) = some (.agg #[.int .i64 0]) := by kernel_rfl
  cases x with
  | cmsg_Roll x => exact .hit _
  | nil => exact .none _ _ hz (.cons (.same _) .nil)
  | cmsg_Join x => exact .miss _ _ _ _ rfl hz (.cons (.same _) .nil)
  | cmsg_Offer x => exact .miss _ _ _ _ rfl hz (.cons (.same _) .nil)
  | cmsg_List x => exact .miss _ _ _ _ rfl hz (.cons (.same _) .nil)
  | cmsg_Rules x => exact .miss _ _ _ _ rfl hz (.cons (.same _) .nil)
  | cmsg_Prices x => exact .miss _ _ _ _ rfl hz (.cons (.same _) .nil)
  | cmsg_Cash x => exact .miss _ _ _ _ rfl hz (.cons (.same _) .nil)
  | cmsg_Move x => exact .miss _ _ _ _ rfl hz (.cons (.same _) .nil)
  | cmsg_Cancel x => exact .miss _ _ _ _ rfl hz (.cons (.same _) .nil)
  | cmsg_Notice x => exact .miss _ _ _ _ rfl hz (.cons (.same _) .nil)
  | cmsg_Swap x => exact .miss _ _ _ _ rfl hz (.cons (.same _) .nil)
  | cmsg_Settle x => exact .miss _ _ _ _ rfl hz (.cons (.same _) .nil)
  | cmsg_Default x => exact .miss _ _ _ _ rfl hz (.cons (.same _) .nil)
  | cmsg_Bound x => exact .miss _ _ _ _ rfl hz (.cons (.same _) .nil)
  | cmsg_Reset x => exact .miss _ _ _ _ rfl hz (.cons (.same _) .nil)
theorem msg_Message.atmsg_Cash (x : msg_Message) : AsT prog 108 x.enc (msg_Cash.enc x.asmsg_Cash) x.ismsg_Cash := by
  have hz : (prog.info? 108).bind (·.zero) = some (.agg #[.int .i64 0, .string (tx []), .int .i64 0]) := by kernel_rfl
  cases x with
  | cmsg_Cash x => exact .hit _
  | nil => exact .none _ _ hz (.cons (.same _) (.cons (.same _) (.cons (.same _) .nil)))
  | cmsg_Join x => exact .miss _ _ _ _ rfl hz (.cons (.same _) (.cons (.same _) (.cons (.same _) .nil)))
  | cmsg_Offer x => exact .miss _ _ _ _ rfl hz (.cons (.same _) (.cons (.same _) (.cons (.same _) .nil)))
  | cmsg_List x => exact .miss _ _ _ _ rfl hz (.cons (.same _) (.cons (.same _) (.cons (.same _) .nil)))
  | cmsg_Rules x => exact .miss _ _ _ _ rfl hz (.cons (.same _) (.cons (.same _) (.cons (.same _) .nil)))
  | cmsg_Prices x => exact .miss _ _ _ _ rfl hz (.cons (.same _) (.cons (.same _) (.cons (.same _) .nil)))
  | cmsg_Roll x => exact .miss _ _ _ _ rfl hz (.cons (.same _) (.cons (.same _) (.cons (.same _) .nil)))
  | cmsg_Move x => exact .miss _ _ _ _ rfl hz (.cons (.same _) (.cons (.same _) (.cons (.same _) .nil)))
  | cmsg_Cancel x => exact .miss _ _ _ _ rfl hz (.cons (.same _) (.cons (.same _) (.cons (.same _) .nil)))
  | cmsg_Notice x => exact .miss _ _ _ _ rfl hz (.cons (.same _) (.cons (.same _) (.cons (.same _) .nil)))
  | cmsg_Swap x => exact .miss _ _ _ _ rfl hz (.cons (.same _) (.cons (.same _) (.cons (.same _) .nil)))
  | cmsg_Settle x => exact .miss _ _ _ _ rfl hz (.cons (.same _) (.cons (.same _) (.cons (.same _) .nil)))
  | cmsg_Default x => exact .miss _ _ _ _ rfl hz (.cons (.same _) (.cons (.same _) (.cons (.same _) .nil)))
  | cmsg_Bound x => exact .miss _ _ _ _ rfl hz (.cons (.same _) (.cons (.same _) (.cons (.same _) .nil)))
  | cmsg_Reset x => exact .miss _ _ _ _ rfl hz (.cons (.same _) (.cons (.same _) (.cons (.same _) .nil)))
theorem msg_Message.atmsg_Move (x : msg_Message) : AsT prog 110 x.enc (msg_Move.enc x.asmsg_Move) x.ismsg_Move := by
  have hz : (prog.info? 110).bind (·.zero) = some (.agg #[.int .i64 0, .string (tx []), .int .i64 0]) := by kernel_rfl
  cases x with
  | cmsg_Move x => exact .hit _
  | nil => exact .none _ _ hz (.cons (.same _) (.cons (.same _) (.cons (.same _) .nil)))
  | cmsg_Join x => exact .miss _ _ _ _ rfl hz (.cons (.same _) (.cons (.same _) (.cons (.same _) .nil)))
  | cmsg_Offer x => exact .miss _ _ _ _ rfl hz (.cons (.same _) (.cons (.same _) (.cons (.same _) .nil)))
  | cmsg_List x => exact .miss _ _ _ _ rfl hz (.cons (.same _) (.cons (.same _) (.cons (.same _) .nil)))
  | cmsg_Rules x => exact .miss _ _ _ _ rfl hz (.cons (.same _) (.cons (.same _) (.cons (.same _) .nil)))
  | cmsg_Prices x => exact .miss _ _ _ _ rfl hz (.cons (.same _) (.cons (.same _) (.cons (.same _) .nil)))
  | cmsg_Roll x => exact .miss _ _ _ _ rfl hz (.cons (.same _) (.cons (.same _) (.cons (.same _) .nil)))
  | cmsg_Cash x => exact .miss _ _ _ _ rfl hz (.cons (.same _) (.cons (.same _) (.cons (.same _) .nil)))
  | cmsg_Cancel x => exact .miss _ _ _ _ rfl hz (.cons (.same _) (.cons (.same _) (.cons (.same _) .nil)))
  | cmsg_Notice x => exact .miss _ _ _ _ rfl hz (.cons (.same _) (.cons (.same _) (.cons (.same _) .nil)))
  | cmsg_Swap x => exact .miss _ _ _ _ rfl hz (.cons (.same _) (.cons (.same _) (.cons (.same _) .nil)))
  | cmsg_Settle x => exact .miss _ _ _ _ rfl hz (.cons (.same _) (.cons (.same _) (.cons (.same _) .nil)))
  | cmsg_Default x => exact .miss _ _ _ _ rfl hz (.cons (.same _) (.cons (.same _) (.cons (.same _) .nil)))
  | cmsg_Bound x => exact .miss _ _ _ _ rfl hz (.cons (.same _) (.cons (.same _) (.cons (.same _) .nil)))
  | cmsg_Reset x => exact .miss _ _ _ _ rfl hz (.cons (.same _) (.cons (.same _) (.cons (.same _) .nil)))
theorem msg_Message.atmsg_Cancel (x : msg_Message) : AsT prog 112 x.enc (msg_Cancel.enc x.asmsg_Cancel) x.ismsg_Cancel := by
  have hz : (prog.info? 112).bind (·.zero) = some (.agg #[.int .i64 0, .int .i64 0]) := by kernel_rfl
  cases x with
  | cmsg_Cancel x => exact .hit _
  | nil => exact .none _ _ hz (.cons (.same _) (.cons (.same _) .nil))
  | cmsg_Join x => exact .miss _ _ _ _ rfl hz (.cons (.same _) (.cons (.same _) .nil))
  | cmsg_Offer x => exact .miss _ _ _ _ rfl hz (.cons (.same _) (.cons (.same _) .nil))
  | cmsg_List x => exact .miss _ _ _ _ rfl hz (.cons (.same _) (.cons (.same _) .nil))
  | cmsg_Rules x => exact .miss _ _ _ _ rfl hz (.cons (.same _) (.cons (.same _) .nil))
  | cmsg_Prices x => exact .miss _ _ _ _ rfl hz (.cons (.same _) (.cons (.same _) .nil))
  | cmsg_Roll x => exact .miss _ _ _ _ rfl hz (.cons (.same _) (.cons (.same _) .nil))
  | cmsg_Cash x => exact .miss _ _ _ _ rfl hz (.cons (.same _) (.cons (.same _) .nil))
  | cmsg_Move x => exact .miss _ _ _ _ rfl hz (.cons (.same _) (.cons (.same _) .nil))
  | cmsg_Notice x => exact .miss _ _ _ _ rfl hz (.cons (.same _) (.cons (.same _) .nil))
  | cmsg_Swap x => exact .miss _ _ _ _ rfl hz (.cons (.same _) (.cons (.same _) .nil))
  | cmsg_Settle x => exact .miss _ _ _ _ rfl hz (.cons (.same _) (.cons (.same _) .nil))
  | cmsg_Default x => exact .miss _ _ _ _ rfl hz (.cons (.same _) (.cons (.same _) .nil))
  | cmsg_Bound x => exact .miss _ _ _ _ rfl hz (.cons (.same _) (.cons (.same _) .nil))
  | cmsg_Reset x => exact .miss _ _ _ _ rfl hz (.cons (.same _) (.cons (.same _) .nil))
theorem msg_Message.atmsg_Notice (x : msg_Message) : AsT prog 114 x.enc (msg_Notice.enc x.asmsg_Notice) x.ismsg_Notice := by
  have hz : (prog.info? 114).bind (·.zero) = some (.agg #[.int .i64 0, .int .i64 0, .int .i64 0]) := by kernel_rfl
  cases x with
  | cmsg_Notice x => exact .hit _
  | nil => exact .none _ _ hz (.cons (.same _) (.cons (.same _) (.cons (.same _) .nil)))
  | cmsg_Join x => exact .miss _ _ _ _ rfl hz (.cons (.same _) (.cons (.same _) (.cons (.same _) .nil)))
  | cmsg_Offer x => exact .miss _ _ _ _ rfl hz (.cons (.same _) (.cons (.same _) (.cons (.same _) .nil)))
  | cmsg_List x => exact .miss _ _ _ _ rfl hz (.cons (.same _) (.cons (.same _) (.cons (.same _) .nil)))
  | cmsg_Rules x => exact .miss _ _ _ _ rfl hz (.cons (.same _) (.cons (.same _) (.cons (.same _) .nil)))
  | cmsg_Prices x => exact .miss _ _ _ _ rfl hz (.cons (.same _) (.cons (.same _) (.cons (.same _) .nil)))
  | cmsg_Roll x => exact .miss _ _ _ _ rfl hz (.cons (.same _) (.cons (.same _) (.cons (.same _) .nil)))
  | cmsg_Cash x => exact .miss _ _ _ _ rfl hz (.cons (.same _) (.cons (.same _) (.cons (.same _) .nil)))
  | cmsg_Move x => exact .miss _ _ _ _ rfl hz (.cons (.same _) (.cons (.same _) (.cons (.same _) .nil)))
  | cmsg_Cancel x => exact .miss _ _ _ _ rfl hz (.cons (.same _) (.cons (.same _) (.cons (.same _) .nil)))
  | cmsg_Swap x => exact .miss _ _ _ _ rfl hz (.cons (.same _) (.cons (.same _) (.cons (.same _) .nil)))
  | cmsg_Settle x => exact .miss _ _ _ _ rfl hz (.cons (.same _) (.cons (.same _) (.cons (.same _) .nil)))
  | cmsg_Default x => exact .miss _ _ _ _ rfl hz (.cons (.same _) (.cons (.same _) (.cons (.same _) .nil)))
  | cmsg_Bound x => exact .miss _ _ _ _ rfl hz (.cons (.same _) (.cons (.same _) (.cons (.same _) .nil)))
  | cmsg_Reset x => exact .miss _ _ _ _ rfl hz (.cons (.same _) (.cons (.same _) (.cons (.same _) .nil)))
theorem msg_Message.atmsg_Swap (x : msg_Message) : AsT prog 116 x.enc (msg_Swap.enc x.asmsg_Swap) x.ismsg_Swap := by
  have hz : (prog.info? 116).bind (·.zero) = some (.agg #[.int .i64 0, .int .i64 0, .string (tx []), .int .i64 0, .slice none 0 0]) := by kernel_rfl
  cases x with
  | cmsg_Swap x => exact .hit _
  | nil => exact .none _ _ hz (.cons (.same _) (.cons (.same _) (.cons (.same _) (.cons (.same _) (.cons (.none 2) .nil)))))
  | cmsg_Join x => exact .miss _ _ _ _ rfl hz (.cons (.same _) (.cons (.same _) (.cons (.same _) (.cons (.same _) (.cons (.none 2) .nil)))))
  | cmsg_Offer x => exact .miss _ _ _ _ rfl hz (.cons (.same _) (.cons (.same _) (.cons (.same _) (.cons (.same _) (.cons (.none 2) .nil)))))
  | cmsg_List x => exact .miss _ _ _ _ rfl hz (.cons (.same _) (.cons (.same _) (.cons (.same _) (.cons (.same _) (.cons (.none 2) .nil)))))
  | cmsg_Rules x => exact .miss _ _ _ _ rfl hz (.cons (.same _) (.cons (.same _) (.cons (.same _) (.cons (.same _) (.cons (.none 2) .nil)))))
  | cmsg_Prices x => exact .miss _ _ _ _ rfl hz (.cons (.same _) (.cons (.same _) (.cons (.same _) (.cons (.same _) (.cons (.none 2) .nil)))))
  | cmsg_Roll x => exact .miss _ _ _ _ rfl hz (.cons (.same _) (.cons (.same _) (.cons (.same _) (.cons (.same _) (.cons (.none 2) .nil)))))
  | cmsg_Cash x => exact .miss _ _ _ _ rfl hz (.cons (.same _) (.cons (.same _) (.cons (.same _) (.cons (.same _) (.cons (.none 2) .nil)))))
  | cmsg_Move x => exact .miss _ _ _ _ rfl hz (.cons (.same _) (.cons (.same _) (.cons (.same _) (.cons (.same _) (.cons (.none 2) .nil)))))
  | cmsg_Cancel x => exact .miss _ _ _ _ rfl hz (.cons (.same _) (.cons (.same _) (.cons (.same _) (.cons (.same _) (.cons (.none 2) .nil)))))
  | cmsg_Notice x => exact .miss _ _ _ _ rfl hz (.cons (.same _) (.cons (.same _) (.cons (.same _) (.cons (.same _) (.cons (.none 2) .nil)))))
  | cmsg_Settle x => exact .miss _ _ _ _ rfl hz (.cons (.same _) (.cons (.same _) (.cons (.same _) (.cons (.same _) (.cons (.none 2) .nil)))))
  | cmsg_Default x => exact .miss _ _ _ _ rfl hz (.cons (.same _) (.cons (.same _) (.cons (.same _) (.cons (.same _) (.cons (.none 2) .nil)))))
  | cmsg_Bound x => exact .miss _ _ _ _ rfl hz (.cons (.same _) (.cons (.same _) (.cons (.same _) (.cons (.same _) (.cons (.none 2) .nil)))))
  | cmsg_Reset x => exact .miss _ _ _ _ rfl hz (.cons (.same _) (.cons (.same _) (.cons (.same _) (.cons (.same _) (.cons (.none 2) .nil)))))
theorem msg_Message.atmsg_Settle (x : msg_Message) : AsT prog 118 x.enc (msg_Settle.enc x.asmsg_Settle) x.ismsg_Settle := by
  have hz : (prog.info? 118).bind (·.zero) = some (.agg #[.int .i64 0, .int .i64 0, .bool false]) := by kernel_rfl
  cases x with
  | cmsg_Settle x => exact .hit _
  | nil => exact .none _ _ hz (.cons (.same _) (.cons (.same _) (.cons (.same _) .nil)))
  | cmsg_Join x => exact .miss _ _ _ _ rfl hz (.cons (.same _) (.cons (.same _) (.cons (.same _) .nil)))
  | cmsg_Offer x => exact .miss _ _ _ _ rfl hz (.cons (.same _) (.cons (.same _) (.cons (.same _) .nil)))
  | cmsg_List x => exact .miss _ _ _ _ rfl hz (.cons (.same _) (.cons (.same _) (.cons (.same _) .nil)))
  | cmsg_Rules x => exact .miss _ _ _ _ rfl hz (.cons (.same _) (.cons (.same _) (.cons (.same _) .nil)))
  | cmsg_Prices x => exact .miss _ _ _ _ rfl hz (.cons (.same _) (.cons (.same _) (.cons (.same _) .nil)))
  | cmsg_Roll x => exact .miss _ _ _ _ rfl hz (.cons (.same _) (.cons (.same _) (.cons (.same _) .nil)))
  | cmsg_Cash x => exact .miss _ _ _ _ rfl hz (.cons (.same _) (.cons (.same _) (.cons (.same _) .nil)))
  | cmsg_Move x => exact .miss _ _ _ _ rfl hz (.cons (.same _) (.cons (.same _) (.cons (.same _) .nil)))
  | cmsg_Cancel x => exact .miss _ _ _ _ rfl hz (.cons (.same _) (.cons (.same _) (.cons (.same _) .nil)))
  | cmsg_Notice x => exact .miss _ _ _ _ rfl hz (.cons (.same _) (.cons (.same _) (.cons (.same _) .nil)))
  | cmsg_Swap x => exact .miss _ _ _ _ rfl hz (.cons (.same _) (.cons (.same _) (.cons (.same _) .nil)))
  | cmsg_Default x => exact .miss _ _ _ _ rfl hz (.cons (.same _) (.cons (.same _) (.cons (.same _) .nil)))
  | cmsg_Bound x => exact .miss _ _ _ _ rfl hz (.cons (.same _) (.cons (.same _) (.cons (.same _) .nil)))
  | cmsg_Reset x => exact .miss _ _ _ _ rfl hz (.cons (.same _) (.cons (.same _) (.cons (.same _) .nil)))
theorem msg_Message.atmsg_Default (x : msg_Message) : AsT prog 120 x.enc (msg_Default.enc x.asmsg_Default) x.ismsg_Default := by
  have hz : (prog.info? 120).bind (·.zero) = some (.agg #[.int .i64 0]) := by kernel_rfl
  cases x with
  | cmsg_Default x => exact .hit _
  | nil => exact .none _ _ hz (.cons (.same _) .nil)
  | cmsg_Join x => exact .miss _ _ _ _ rfl hz (.cons (.same _) .nil)
  | cmsg_Offer x => exact .miss _ _ _ _ rfl hz (.cons (.same _) .nil)
  | cmsg_List x => exact .miss _ _ _ _ rfl hz (.cons (.same _) .nil)
  | cmsg_Rules x => exact .miss _ _ _ _ rfl hz (.cons (.same _) .nil)
  | cmsg_Prices x => exact .miss _ _ _ _ rfl hz (.cons (.same _) .nil)
  | cmsg_Roll x => exact .miss _ _ _ _ rfl hz (.cons (.same _) .nil)
  | cmsg_Cash x => exact .miss _ _ _ _ rfl hz (.cons (.same _) .nil)
  | cmsg_Move x => exact .miss _ _ _ _ rfl hz (.cons (.same _) .nil)
  | cmsg_Cancel x => exact .miss _ _ _ _ rfl hz (.cons (.same _) .nil)
  | cmsg_Notice x => exact .miss _ _ _ _ rfl hz (.cons (.same _) .nil)
  | cmsg_Swap x => exact .miss _ _ _ _ rfl hz (.cons (.same _) .nil)
  | cmsg_Settle x => exact .miss _ _ _ _ rfl hz (.cons (.same _) .nil)
  | cmsg_Bound x => exact .miss _ _ _ _ rfl hz (.cons (.same _) .nil)
  | cmsg_Reset x => exact .miss _ _ _ _ rfl hz (.cons (.same _) .nil)
theorem msg_Message.atmsg_Bound (x : msg_Message) : AsT prog 122 x.enc (msg_Bound.enc x.asmsg_Bound) x.ismsg_Bound := by
  have hz : (prog.info? 122).bind (·.zero) = some (.agg #[.int .i64 0, .int .i64 0]) := by kernel_rfl
  cases x with
  | cmsg_Bound x => exact .hit _
  | nil => exact .none _ _ hz (.cons (.same _) (.cons (.same _) .nil))
  | cmsg_Join x => exact .miss _ _ _ _ rfl hz (.cons (.same _) (.cons (.same _) .nil))
  | cmsg_Offer x => exact .miss _ _ _ _ rfl hz (.cons (.same _) (.cons (.same _) .nil))
  | cmsg_List x => exact .miss _ _ _ _ rfl hz (.cons (.same _) (.cons (.same _) .nil))
  | cmsg_Rules x => exact .miss _ _ _ _ rfl hz (.cons (.same _) (.cons (.same _) .nil))
  | cmsg_Prices x => exact .miss _ _ _ _ rfl hz (.cons (.same _) (.cons (.same _) .nil))
  | cmsg_Roll x => exact .miss _ _ _ _ rfl hz (.cons (.same _) (.cons (.same _) .nil))
  | cmsg_Cash x => exact .miss _ _ _ _ rfl hz (.cons (.same _) (.cons (.same _) .nil))
  | cmsg_Move x => exact .miss _ _ _ _ rfl hz (.cons (.same _) (.cons (.same _) .nil))
  | cmsg_Cancel x => exact .miss _ _ _ _ rfl hz (.cons (.same _) (.cons (.same _) .nil))
  | cmsg_Notice x => exact .miss _ _ _ _ rfl hz (.cons (.same _) (.cons (.same _) .nil))
  | cmsg_Swap x => exact .miss _ _ _ _ rfl hz (.cons (.same _) (.cons (.same _) .nil))
  | cmsg_Settle x => exact .miss _ _ _ _ rfl hz (.cons (.same _) (.cons (.same _) .nil))
  | cmsg_Default x => exact .miss _ _ _ _ rfl hz (.cons (.same _) (.cons (.same _) .nil))
  | cmsg_Reset x => exact .miss _ _ _ _ rfl hz (.cons (.same _) (.cons (.same _) .nil))
theorem msg_Message.atmsg_Reset (x : msg_Message) : AsT prog 124 x.enc (msg_Reset.enc x.asmsg_Reset) x.ismsg_Reset := by
  have hz : (prog.info? 124).bind (·.zero) = some (.agg #[.int .i64 0, .int .i64 0, .int .i64 0]) := by kernel_rfl
  cases x with
  | cmsg_Reset x => exact .hit _
  | nil => exact .none _ _ hz (.cons (.same _) (.cons (.same _) (.cons (.same _) .nil)))
  | cmsg_Join x => exact .miss _ _ _ _ rfl hz (.cons (.same _) (.cons (.same _) (.cons (.same _) .nil)))
  | cmsg_Offer x => exact .miss _ _ _ _ rfl hz (.cons (.same _) (.cons (.same _) (.cons (.same _) .nil)))
  | cmsg_List x => exact .miss _ _ _ _ rfl hz (.cons (.same _) (.cons (.same _) (.cons (.same _) .nil)))
  | cmsg_Rules x => exact .miss _ _ _ _ rfl hz (.cons (.same _) (.cons (.same _) (.cons (.same _) .nil)))
  | cmsg_Prices x => exact .miss _ _ _ _ rfl hz (.cons (.same _) (.cons (.same _) (.cons (.same _) .nil)))
  | cmsg_Roll x => exact .miss _ _ _ _ rfl hz (.cons (.same _) (.cons (.same _) (.cons (.same _) .nil)))
  | cmsg_Cash x => exact .miss _ _ _ _ rfl hz (.cons (.same _) (.cons (.same _) (.cons (.same _) .nil)))
  | cmsg_Move x => exact .miss _ _ _ _ rfl hz (.cons (.same _) (.cons (.same _) (.cons (.same _) .nil)))
  | cmsg_Cancel x => exact .miss _ _ _ _ rfl hz (.cons (.same _) (.cons (.same _) (.cons (.same _) .nil)))
  | cmsg_Notice x => exact .miss _ _ _ _ rfl hz (.cons (.same _) (.cons (.same _) (.cons (.same _) .nil)))
  | cmsg_Swap x => exact .miss _ _ _ _ rfl hz (.cons (.same _) (.cons (.same _) (.cons (.same _) .nil)))
  | cmsg_Settle x => exact .miss _ _ _ _ rfl hz (.cons (.same _) (.cons (.same _) (.cons (.same _) .nil)))
  | cmsg_Default x => exact .miss _ _ _ _ rfl hz (.cons (.same _) (.cons (.same _) (.cons (.same _) .nil)))
  | cmsg_Bound x => exact .miss _ _ _ _ rfl hz (.cons (.same _) (.cons (.same _) (.cons (.same _) .nil)))
def lombardlaw30_Act.bd (x : lombardlaw30_Act) : Prop := inK .i64 x.Kind ∧ inK .i64 x.ID ∧ (fun s : Bs => s.length ≤ reach) x.Name ∧ inK .i64 x.N ∧ (fun _ : Bool => True) x.Yes ∧ True
def lombardref30_Member.bd (x : lombardref30_Member) : Prop := inK .i64 x.ID ∧ (fun s : Bs => s.length ≤ reach) x.Name ∧ inK .i64 x.State ∧ inK .i64 x.Bound ∧ (fun _ : Bool => True) x.Late ∧ True
def api_Asset.bd (x : api_Asset) : Prop := (fun s : Bs => s.length ≤ reach) x.ISIN ∧ inK .i64 x.Issuer ∧ inK .i64 x.Rating ∧ inK .i64 x.Maturity ∧ (fun s : Bs => s.length ≤ reach) x.Currency ∧ True
def api_Cut.bd (x : api_Cut) : Prop := inK .i64 x.Days ∧ inK .i64 x.Rating ∧ inK .i64 x.Cut ∧ True
def api_Basket.bd (x : api_Basket) : Prop := inK .i64 x.ID ∧ inK .i64 x.Version ∧ (fun s : Bs => s.length ≤ reach) x.Currency ∧ inK .i64 x.Rating ∧ inK .i64 x.Least ∧ inK .i64 x.Most ∧ (fun l : List api_Cut => l.length * 24 ≤ reach ∧ ∀ x ∈ l, api_Cut.bd x) x.Cuts ∧ inK .i64 x.Issuer ∧ inK .i64 x.Asset ∧ (fun l : List Int => l.length * 8 ≤ reach ∧ ∀ x ∈ l, inK .i64 x) x.Barred ∧ True
def api_Price.bd (x : api_Price) : Prop := (fun s : Bs => s.length ≤ reach) x.ISIN ∧ inK .i64 x.Price ∧ True
def api_Quote.bd (x : api_Quote) : Prop := inK .i64 x.ID ∧ inK .i64 x.Member ∧ inK .i64 x.Side ∧ inK .i64 x.Basket ∧ inK .i64 x.Amount ∧ inK .i64 x.Rate ∧ inK .i64 x.Start ∧ inK .i64 x.End ∧ True
def api_Lot.bd (x : api_Lot) : Prop := (fun s : Bs => s.length ≤ reach) x.ISIN ∧ inK .i64 x.Qty ∧ True
def lombardref10_Msg.bd (x : lombardref10_Msg) : Prop := inK .i64 x.Kind ∧ inK .i64 x.Member ∧ (fun s : Bs => s.length ≤ reach) x.Name ∧ api_Asset.bd x.Asset ∧ api_Basket.bd x.Basket ∧ (fun l : List api_Price => l.length * 24 ≤ reach ∧ ∀ x ∈ l, api_Price.bd x) x.Prices ∧ inK .i64 x.Day ∧ (fun s : Bs => s.length ≤ reach) x.Text ∧ inK .i64 x.N ∧ api_Quote.bd x.Quote ∧ api_Lot.bd x.Out ∧ (fun l : List api_Lot => l.length * 24 ≤ reach ∧ ∀ x ∈ l, api_Lot.bd x) x.In ∧ inK .i64 x.Trade ∧ (fun _ : Bool => True) x.Done ∧ inK .i64 x.Rate ∧ True
end Go.Proofs.YtjdkibnhlmgppaaGreat
