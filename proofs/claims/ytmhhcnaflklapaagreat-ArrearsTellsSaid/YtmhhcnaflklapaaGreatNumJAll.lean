/-
 The conditions of the functions, all of them. Conditions: none; printed by a program of our own.
-/
import Derived.Test.YtmhhcnaflklapaaGreatNumJA
import Derived.Test.YtmhhcnaflklapaaGreatNumJI
import Derived.Test.YtmhhcnaflklapaaGreatNumJR
