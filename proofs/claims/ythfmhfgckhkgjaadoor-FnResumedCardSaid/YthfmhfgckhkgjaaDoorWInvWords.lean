import Derived.Test.YthfmhfgckhkgjaaDoorWInv
import Derived.Test.YthfmhfgckhkgjaaDoorWFootNe
namespace Go.Proofs.YthfmhfgckhkgjaaDoorW.PrintWords
open Go.RowKit
end Go.Proofs.YthfmhfgckhkgjaaDoorW.PrintWords
namespace Go.Proofs.YthfmhfgckhkgjaaDoorW.PrintLast
section
variable {ops : Array Oper} {a : Act} {o og : Oper} {g : Nat} {t : Tmp} {u : Bool}
end
end Go.Proofs.YthfmhfgckhkgjaaDoorW.PrintLast
