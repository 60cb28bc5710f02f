/- strings.IndexRune and strings.IndexAny beyond ASCII, where the letters that are sought are ASCII. -/
import Derived.Test.YtieikooalmfmfaaDoorRows
import Derived.Shelf.Strings.IndexAnyAll
import Derived.Shelf.Small.Utf8
import Derived.Laws.RangeAny
import Derived.Laws.Runes
import Derived.Lib.OthersKept
import Derived.Deep.QuietTactic
import Derived.BigQuiet
namespace Go.Proofs
open Go.Shelf Go.RowKit Go.Lib
variable {ρ : Ren}

end Go.Proofs
