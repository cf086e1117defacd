/- The struct types of this family, opened: what reads as one is told as the print tells it. -/
import Derived.Test.YtkfnbnfdcfcfpaaQ9ax0
import Derived.Test.YtkfnbnfdcfcfpaaOpn
namespace Go.Proofs.Ytkfnbnfdcfcfpaa.O9a
open Go.RowKit Go.Proofs.YtkfnbnfdcfcfpaaW.PrintWords Go.Proofs.YtkfnbnfdcfcfpaaW.PrintLast Go.Proofs.YtkfnbnfdcfcfpaaW.PrintMore Go.Proofs.Ytkfnbnfdcfcfpaa.Opn Go.Proofs.Ytkfnbnfdcfcfpaa.Q9a
open Go.Joins Go.ChangeShapes Go.WideShapes Go.Deep
set_option linter.unusedVariables false


end Go.Proofs.Ytkfnbnfdcfcfpaa.O9a
