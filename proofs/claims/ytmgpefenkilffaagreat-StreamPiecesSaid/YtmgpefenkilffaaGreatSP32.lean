/- Texts of this proof: Y12 Y13. -/
import Derived.Test.YtmgpefenkilffaaGreatSP29
set_option linter.all false
