-- Words of the kit's print, without those that this seat's texts don't name (wip/tools/trim.py of this session).
import Derived.SizedLaws
import Derived.ChangeSlices
namespace Go.Proofs.YtocnlpnlngnbnaaW.PrintWords
open Go.ChangeShapes Go.WideShapes
end Go.Proofs.YtocnlpnlngnbnaaW.PrintWords
