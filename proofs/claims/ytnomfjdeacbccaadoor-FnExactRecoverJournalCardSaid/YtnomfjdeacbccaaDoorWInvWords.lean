import Derived.Test.YtnomfjdeacbccaaDoorWInv
import Derived.Test.YtnomfjdeacbccaaDoorWFootNe
namespace Go.Proofs.YtnomfjdeacbccaaDoorW.PrintWords
open Go.RowKit
end Go.Proofs.YtnomfjdeacbccaaDoorW.PrintWords
namespace Go.Proofs.YtnomfjdeacbccaaDoorW.PrintLast
section
variable {ops : Array Oper} {a : Act} {o og : Oper} {g : Nat} {t : Tmp} {u : Bool}
end
end Go.Proofs.YtnomfjdeacbccaaDoorW.PrintLast
