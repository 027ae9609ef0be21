/- Exponentials of 1000 numbers lie above 0 and not above 1, by computing. -/
import Derived.Test.YtngfhggdombdgaaPow
namespace Go.Proofs.Ytngfhggdombdgaa
open Go Go.Fl Go.Vc
set_option linter.all false
set_option maxRecDepth 100000

theorem good4 : allGood 4000 1000 = true := by decide +kernel

end Go.Proofs.Ytngfhggdombdgaa
