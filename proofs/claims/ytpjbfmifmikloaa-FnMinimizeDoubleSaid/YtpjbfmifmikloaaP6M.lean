/-
  Plain laws: marks on models and domains.
-/
import Derived.Test.YtpjbfmifmikloaaP8
import Derived.Test.YtpjbfmifmikloaaP11D
namespace Go.AE.Y
open Go Go.AE

end Go.AE.Y
