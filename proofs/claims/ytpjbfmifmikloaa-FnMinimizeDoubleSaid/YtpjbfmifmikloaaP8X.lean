/-
  Plain laws: sizes, copies and comparisons of domains.
-/
import Derived.Test.YtpjbfmifmikloaaP6X
namespace Go.AE.Y
open Go Go.AE

end Go.AE.Y
