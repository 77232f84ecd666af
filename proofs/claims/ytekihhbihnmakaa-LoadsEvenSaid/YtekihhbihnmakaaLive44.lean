/- Plain law: the page's example of 44. No program in sight. No condition. -/
import Derived.Test.YtekihhbihnmakaaPAx16
import Derived.Test.YtekihhbihnmakaaPAx802
import Derived.Test.YtekihhbihnmakaaPAx903
import Derived.Test.YtekihhbihnmakaaLoadDef
import Derived.Test.YtekihhbihnmakaaSumsLaw
open Go.RowKit Go.Proofs.Ytekihhbihnmakaa Go.Proofs.Ytekihhbihnmakaa.PA Go.Proofs.YtekihhbihnmakaaW.PrintWords Go.Proofs.YtekihhbihnmakaaW.PrintLast
set_option linter.unusedVariables false
set_option linter.unusedSimpArgs false
namespace Go.Proofs.Ytekihhbihnmakaa.Geo
theorem live44_eq : revetmentlaw44_live.f = some true := by
  unfold revetmentlaw44_live.f conf_Plain.f
  simp only [Option.bind_some, loads_Of.f]
  decide +kernel
end Go.Proofs.Ytekihhbihnmakaa.Geo
