/- Part of a proof that the program answers as the reference does: FC60, FC61, FC62, FC63, FC64. -/
import Derived.Test.YtemgbochnkpihaaGreatDoorHY
import Derived.Test.YtemgbochnkpihaaGreatDoorHQ
import Derived.Test.YtemgbochnkpihaaGreatDoorHZ
import Derived.Test.YtemgbochnkpihaaGreatDoorHV
/- Contracts: marks of typed constants. -/
set_option linter.unusedVariables false
set_option linter.unusedSimpArgs false
namespace Go.H.Tryz
open Go Go.H

end Go.H.Tryz
/- Contracts: the reference's SimpleSig. -/
set_option linter.unusedVariables false
set_option linter.unusedSimpArgs false
namespace Go.H.Tryz
open Go Go.H

end Go.H.Tryz
/- Contracts: the program's SimpleSig, if erase hands back what its caller owns; the law FnExactSimpleSig from that. -/
set_option linter.unusedVariables false
set_option linter.unusedSimpArgs false
namespace Go.H.Tryz
open Go Go.H

end Go.H.Tryz
/- Contracts: the law FnExactSimpleSig, if erase hands back what its caller owns. -/
set_option linter.unusedVariables false
set_option linter.unusedSimpArgs false
namespace Go.H.Tryz
open Go Go.H

end Go.H.Tryz
/- Contracts: erase hands back what its caller owns; the law FnExactSimpleSig. -/
set_option linter.unusedVariables false
set_option linter.unusedSimpArgs false
namespace Go.H.Tryz
open Go Go.H

end Go.H.Tryz
