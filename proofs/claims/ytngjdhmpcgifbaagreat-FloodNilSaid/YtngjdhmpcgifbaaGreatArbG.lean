/-
  THE FUNCTIONS OF THE PROGRAM FOR THE ABSTRACT MACHINE: printed by gen.py.
-/
import Derived.Test.YtngjdhmpcgifbaaGreatArbA
import Derived.Test.YtngjdhmpcgifbaaGreatArbB
import Derived.Test.YtngjdhmpcgifbaaGreatArbC
import Derived.Test.YtngjdhmpcgifbaaGreatArbD
import Derived.Test.YtngjdhmpcgifbaaGreatArbE
import Derived.Test.YtngjdhmpcgifbaaGreatArbF
namespace Arb
open Go
end Arb
