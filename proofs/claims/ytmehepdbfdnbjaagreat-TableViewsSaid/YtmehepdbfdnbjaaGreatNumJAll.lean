/-
 The conditions of the functions, all of them. Conditions: none; printed by a program of our own.
-/
import Derived.Test.YtmehepdbfdnbjaaGreatNumJA
import Derived.Test.YtmehepdbfdnbjaaGreatNumJB
import Derived.Test.YtmehepdbfdnbjaaGreatNumJC
import Derived.Test.YtmehepdbfdnbjaaGreatNumJD
import Derived.Test.YtmehepdbfdnbjaaGreatNumJE
import Derived.Test.YtmehepdbfdnbjaaGreatNumJK
import Derived.Test.YtmehepdbfdnbjaaGreatNumJG
import Derived.Test.YtmehepdbfdnbjaaGreatNumJH
