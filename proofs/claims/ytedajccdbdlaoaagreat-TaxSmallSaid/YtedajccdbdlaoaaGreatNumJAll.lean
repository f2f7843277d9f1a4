/-
  The conditions of the functions, all of them. Conditions: none; printed by a program of our own.
-/
import Derived.Test.YtedajccdbdlaoaaGreatNumJA
import Derived.Test.YtedajccdbdlaoaaGreatNumJB
import Derived.Test.YtedajccdbdlaoaaGreatNumJC
import Derived.Test.YtedajccdbdlaoaaGreatNumJD
import Derived.Test.YtedajccdbdlaoaaGreatNumJE
import Derived.Test.YtedajccdbdlaoaaGreatNumJK
import Derived.Test.YtedajccdbdlaoaaGreatNumJT
import Derived.Test.YtedajccdbdlaoaaGreatNumJR
import Derived.Test.YtedajccdbdlaoaaGreatNumJL
