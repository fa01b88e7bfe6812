/- Texts of this proof: O2. -/
import Derived.Test.YtmgpefenkilffaaGreatSP14
set_option linter.all false
