import Derived.Test.YtbpmnjjmdgphhaaDoorWInv
import Derived.Test.YtbpmnjjmdgphhaaDoorWFootNe
namespace Go.Proofs.YtbpmnjjmdgphhaaDoorW.PrintWords
open Go.RowKit
end Go.Proofs.YtbpmnjjmdgphhaaDoorW.PrintWords
namespace Go.Proofs.YtbpmnjjmdgphhaaDoorW.PrintLast
section
variable {ops : Array Oper} {a : Act} {o og : Oper} {g : Nat} {t : Tmp} {u : Bool}
end
end Go.Proofs.YtbpmnjjmdgphhaaDoorW.PrintLast
