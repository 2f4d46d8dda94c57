/-
  The document's sets: Take and Child.
-/
import Derived.Test.YtkabjomhnddnoaaPsR
namespace Go.Am
open Go.Proofs Crc
set_option maxRecDepth 100000
end Go.Am
