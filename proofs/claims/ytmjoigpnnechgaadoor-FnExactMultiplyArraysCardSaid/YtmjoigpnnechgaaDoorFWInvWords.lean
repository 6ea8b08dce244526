/- Words on the model's steps, pruned to what this claim uses. -/
-- PRINTED BY print.sh 35421559b90ae4d0a3588c463048766b98c2df88dd9212a6774a882060cdf62d: not written by this session
import Derived.Test.YtmjoigpnnechgaaDoorFWInv
import Derived.Test.YtmjoigpnnechgaaDoorFWFootNe
namespace Go.Proofs.YtmjoigpnnechgaaDoorW.PrintWords
open Go.RowKit
end Go.Proofs.YtmjoigpnnechgaaDoorW.PrintWords
namespace Go.Proofs.YtmjoigpnnechgaaDoorW.PrintLast
section
variable {ops : Array Oper} {a : Act} {o og : Oper} {g : Nat} {t : Tmp} {u : Bool}
end
end Go.Proofs.YtmjoigpnnechgaaDoorW.PrintLast
