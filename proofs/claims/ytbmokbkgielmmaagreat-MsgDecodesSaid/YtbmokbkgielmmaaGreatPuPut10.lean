/- Shows what the program writes for every message, as a plain list of bytes. -/
import Derived.Test.YtbmokbkgielmmaaGreatPuEnc10
import Derived.Test.YtbmokbkgielmmaaGreatGx1
namespace Go.Proofs.YtbmokbkgielmmaaGreat
open Go Go.Pm Go.Pm.Arith
set_option linter.unusedVariables false
set_option linter.unusedSimpArgs false
noncomputable def eLot (x : api_Lot) : List Int := eT x.ISIN ++ eI x.Qty
noncomputable def ePrice (x : api_Price) : List Int := eT x.ISIN ++ eI x.Price
noncomputable def eCut (x : api_Cut) : List Int := eI x.Days ++ (eI x.Rating ++ eI x.Cut)
noncomputable def eAsset (a : api_Asset) : List Int := eT a.ISIN ++ (eI a.Issuer ++ (eI a.Rating ++ (eI a.Maturity ++ eT a.Currency)))
noncomputable def eBasket (b : api_Basket) : List Int :=
 [b.ID, b.Version, b.Rating, b.Least, b.Most, b.Issuer, b.Asset].flatMap eI ++ (eT b.Currency ++ (eU (b.Cuts.length : Int) ++ (b.Cuts.flatMap eCut ++ (eU (b.Barred.length : Int) ++ b.Barred.flatMap eI))))
noncomputable def eSwap (x : msg_Swap) : List Int := eI x.Member ++ (eI x.Trade ++ (eLot x.Out ++ (eU (x.In.length : Int) ++ x.In.flatMap eLot)))
noncomputable def eQuote (q : api_Quote) : List Int := [q.ID, q.Member, q.Side, q.Basket, q.Amount, q.Rate, q.Start, q.End].flatMap eI
noncomputable def eMsg : msg_Message → List Int
 | .nil => []
 | .cmsg_Join x => eI x.Member ++ eT x.Name
 | .cmsg_List x => eAsset x.Asset
 | .cmsg_Rules x => eBasket x.Basket
 | .cmsg_Prices x => eU (x.L.length : Int) ++ x.L.flatMap ePrice
 | .cmsg_Roll x => eI x.Day
 | .cmsg_Cash x => [x.Member, x.Amount].flatMap eI ++ eT x.Currency
 | .cmsg_Move x => [x.Member, x.Qty].flatMap eI ++ eT x.ISIN
 | .cmsg_Offer x => eQuote x.Quote
 | .cmsg_Cancel x => [x.Member, x.Quote].flatMap eI
 | .cmsg_Notice x => [x.Member, x.Trade, x.Day].flatMap eI
 | .cmsg_Swap x => eSwap x
 | .cmsg_Settle x => [x.Member, x.Day].flatMap eI ++ eB x.Done
 | .cmsg_Default x => eI x.Member
 | .cmsg_Bound x => [x.Member, x.Amount].flatMap eI
 | .cmsg_Reset x => [x.Trade, x.Day, x.Rate].flatMap eI
def kd : msg_Message → Int
 | .nil => 0
 | .cmsg_Join _ => 1
 | .cmsg_List _ => 2
 | .cmsg_Rules _ => 3
 | .cmsg_Prices _ => 4
 | .cmsg_Roll _ => 5
 | .cmsg_Cash _ => 6
 | .cmsg_Move _ => 7
 | .cmsg_Offer _ => 8
 | .cmsg_Cancel _ => 9
 | .cmsg_Notice _ => 10
 | .cmsg_Swap _ => 11
 | .cmsg_Settle _ => 12
 | .cmsg_Default _ => 13
 | .cmsg_Bound _ => 14
 | .cmsg_Reset _ => 15
def Fit : msg_Message → Prop
 | .cmsg_Join x => x.Name.length ≤ 160
 | .cmsg_List x => x.Asset.ISIN.length ≤ 12 ∧ x.Asset.Currency.length ≤ 12
 | .cmsg_Rules x => x.Basket.Currency.length ≤ 12 ∧ x.Basket.Cuts.length ≤ 64 ∧ x.Basket.Barred.length ≤ 64
 | .cmsg_Prices x => x.L.length ≤ 64 ∧ ∀ y ∈ x.L, y.ISIN.length ≤ 12
 | .cmsg_Cash x => x.Currency.length ≤ 12
 | .cmsg_Move x => x.ISIN.length ≤ 12
 | .cmsg_Swap x => x.Out.ISIN.length ≤ 12 ∧ x.In.length ≤ 64 ∧ ∀ y ∈ x.In, y.ISIN.length ≤ 12
 | _ => True
end Go.Proofs.YtbmokbkgielmmaaGreat
