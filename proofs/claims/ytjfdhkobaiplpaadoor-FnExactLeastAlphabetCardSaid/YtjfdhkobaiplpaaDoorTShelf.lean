/- The shelf's contracts at this seat that the walks lean on, in plain words: written by the kit's own tools. -/
import Derived.Shelf.Small.Bits
import Derived.Shelf.Strconv.Itoa0
import Derived.Ground.SlgnProg
import Derived.Shelf.SlicesG.Turned
import Derived.Shelf.SlicesG.Equal
import Derived.Shelf.SlicesG.Clone
import Derived.Shelf.SlicesG.SearchI
import Derived.Shelf.SlicesE.Clone
import Derived.Test.YtjfdhkobaiplpaaDoorProg
namespace Go.Proofs
open Go.Shelf
end Go.Proofs
