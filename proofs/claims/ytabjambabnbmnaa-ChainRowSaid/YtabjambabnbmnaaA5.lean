/- The layer 'chain' is awake. -/
import Derived.Test.YtabjambabnbmnaaQ5x137
import Derived.Test.YtabjambabnbmnaaL5
namespace Go.Proofs.Ytabjambabnbmnaa.L5
open Go.RowKit Go.Proofs.YtabjambabnbmnaaW.PrintWords Go.Proofs.YtabjambabnbmnaaW.PrintLast Go.Proofs.YtabjambabnbmnaaW.PrintMore Go.Proofs.Ytabjambabnbmnaa.Base Go.Proofs.Ytabjambabnbmnaa.Q5
/-- The layer is awake. -/
theorem awake_ok {k : Nat} (hk : 100 ≤ k) : watchwordlaw5_awake.f k = some true :=
  at_rounds (g := fun k => watchwordlaw5_awake.f k) watchwordlaw5_awake.mono hk (by decide +kernel)

end Go.Proofs.Ytabjambabnbmnaa.L5
