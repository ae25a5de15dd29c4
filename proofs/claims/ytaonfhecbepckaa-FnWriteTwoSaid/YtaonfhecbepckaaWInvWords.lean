-- PRINTED BY print.sh 35421559b90ae4d0a3588c463048766b98c2df88dd9212a6774a882060cdf62d: not written by this session
import Derived.Test.YtaonfhecbepckaaWInv
import Derived.Test.YtaonfhecbepckaaWFootNe
namespace Go.Proofs.YtaonfhecbepckaaW.PrintWords
open Go.RowKit
end Go.Proofs.YtaonfhecbepckaaW.PrintWords
namespace Go.Proofs.YtaonfhecbepckaaW.PrintLast
section
variable {ops : Array Oper} {a : Act} {o og : Oper} {g : Nat} {t : Tmp} {u : Bool}
end
end Go.Proofs.YtaonfhecbepckaaW.PrintLast
