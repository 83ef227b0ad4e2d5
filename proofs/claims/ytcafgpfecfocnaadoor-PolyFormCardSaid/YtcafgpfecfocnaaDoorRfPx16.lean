/- What the claim's proof needs: Px16. -/
import Derived.Test.YtcafgpfecfocnaaDoorRfPx0
import Derived.Test.YtcafgpfecfocnaaDoorRfPx1
/- Printed by a program of this work over the translation: plain functions and contracts of Go functions; checked by Lean alone. -/
namespace Go.Proofs.YtcafgpfecfocnaaDoor.P
open Go.RowKit Go.Proofs.YtcafgpfecfocnaaDoorW.PrintWords Go.Proofs.YtcafgpfecfocnaaDoorW.PrintLast Go.Proofs.YtcafgpfecfocnaaDoorW.PrintMore
attribute [local go_sem] min2_int min_two
set_option linter.unusedVariables false
set_option linter.unusedSimpArgs false

end Go.Proofs.YtcafgpfecfocnaaDoor.P
