/- Texts of this proof: Y10 Y11. -/
import Derived.Test.YtmgpefenkilffaaGreatSW06
import Derived.Test.YtmgpefenkilffaaGreatSW20
import Derived.Laws.CopyRow
import Derived.Laws.IdiomCopy
set_option linter.all false
