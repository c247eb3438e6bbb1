/- strings.IndexAny of a quote or a line feed in whatever text. Condition: the text is shorter than 1000000000 bytes. -/
import Derived.Test.YtdikgijfekfaoaaGreatDoorL1
import Derived.Test.YtdikgijfekfaoaaGreatDoorShelf
import Derived.Test.YtdikgijfekfaoaaGreatDoorS
import Derived.Test.YtdikgijfekfaoaaGreatDoorAbsc
import Derived.Shelf.Strings.IndexAnyAll
set_option linter.all false
set_option linter.unusedSimpArgs false
set_option linter.unusedVariables false
namespace Go.Proofs.YtdikgijfekfaoaaGreatDoor
open Go.Proofs.YtdikgijfekfaoaaGreatDoor.Abs Go.RowKit

end Go.Proofs.YtdikgijfekfaoaaGreatDoor
