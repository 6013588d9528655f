/- The shelf's contracts at this seat that the walks lean on, in plain words: written by the kit's own tools. -/
import Derived.Shelf.Small.Bits
import Derived.Shelf.Strconv.Itoa0
import Derived.Ground.SlgnProg
import Derived.Shelf.SlicesE.Clone
import Derived.Test.YtjfdhkobaiplpaaProg
namespace Go.Proofs
open Go.Shelf
end Go.Proofs
