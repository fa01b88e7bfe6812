/- Texts of this proof: Y12 Y13. -/
import Derived.Test.YtmgpefenkilffaaGreatSW23
set_option linter.all false
