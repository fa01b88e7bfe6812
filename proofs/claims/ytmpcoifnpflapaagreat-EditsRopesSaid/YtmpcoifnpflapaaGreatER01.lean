/- Texts of this proof: ShelfI. -/
import Derived.Test.YtmpcoifnpflapaaGreatER00
import Derived.Shelf.Small.Bits
import Derived.Shelf.Strconv.Itoa0
import Derived.Shelf.Sort.Plain
import Derived.Ground.Names2Prog
import Derived.Shelf.Slices.CompactI
import Derived.Shelf.Slices.SearchI
import Derived.Shelf.Slices.Cells
import Derived.Shelf.Slices.In.SortNone
import Derived.Test.YtmpcoifnpflapaaGreatProg
set_option linter.all false

