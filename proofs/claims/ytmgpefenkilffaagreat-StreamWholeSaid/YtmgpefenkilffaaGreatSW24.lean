/- Texts of this proof: O2. -/
import Derived.Test.YtmgpefenkilffaaGreatSW17
set_option linter.all false
