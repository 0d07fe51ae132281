import Derived.Test.YtdafekighdmhfaaDoorWInv
import Derived.Test.YtdafekighdmhfaaDoorWFootNe
namespace Go.Proofs.YtdafekighdmhfaaDoorW.PrintWords
open Go.RowKit
end Go.Proofs.YtdafekighdmhfaaDoorW.PrintWords
namespace Go.Proofs.YtdafekighdmhfaaDoorW.PrintLast
section
variable {ops : Array Oper} {a : Act} {o og : Oper} {g : Nat} {t : Tmp} {u : Bool}
end
end Go.Proofs.YtdafekighdmhfaaDoorW.PrintLast
