import Derived.SizedLaws
import Derived.ChangeSlices
namespace Go.Proofs.YtgckcaoncjhgbaaW.PrintWords
open Go.ChangeShapes Go.WideShapes
end Go.Proofs.YtgckcaoncjhgbaaW.PrintWords
