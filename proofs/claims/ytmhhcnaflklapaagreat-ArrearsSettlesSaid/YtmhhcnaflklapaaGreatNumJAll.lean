/-
  The conditions of the functions, all of them. Conditions: none; printed by a program of our own.
-/
import Derived.Test.YtmhhcnaflklapaaGreatNumJA
import Derived.Test.YtmhhcnaflklapaaGreatNumJB
import Derived.Test.YtmhhcnaflklapaaGreatNumJC
import Derived.Test.YtmhhcnaflklapaaGreatNumJH
import Derived.Test.YtmhhcnaflklapaaGreatNumJG
import Derived.Test.YtmhhcnaflklapaaGreatNumJI
