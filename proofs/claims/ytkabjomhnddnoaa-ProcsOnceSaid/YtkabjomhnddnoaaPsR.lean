/-
  The document's sets: what its calls do.
-/
import Derived.Test.YtkabjomhnddnoaaPsTk
import Derived.Test.YtkabjomhnddnoaaBase7
namespace Go.Am
open Go.Proofs Crc
set_option maxRecDepth 100000
end Go.Am
