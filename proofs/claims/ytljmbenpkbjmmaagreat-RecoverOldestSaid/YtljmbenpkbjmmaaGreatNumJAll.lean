/-
  The conditions of the functions, all of them. Conditions: none; printed by a program of our own.
-/
import Derived.Test.YtljmbenpkbjmmaaGreatNumJA
import Derived.Test.YtljmbenpkbjmmaaGreatNumJB
import Derived.Test.YtljmbenpkbjmmaaGreatNumJC
import Derived.Test.YtljmbenpkbjmmaaGreatNumJD
import Derived.Test.YtljmbenpkbjmmaaGreatNumJE
import Derived.Test.YtljmbenpkbjmmaaGreatNumJK
import Derived.Test.YtljmbenpkbjmmaaGreatNumJG
import Derived.Test.YtljmbenpkbjmmaaGreatNumJH
import Derived.Test.YtljmbenpkbjmmaaGreatNumJI
