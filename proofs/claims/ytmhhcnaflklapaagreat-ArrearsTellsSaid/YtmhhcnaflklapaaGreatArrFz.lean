/-
 All conditions of the functions. Conditions: none.
-/
import Derived.Test.YtmhhcnaflklapaaGreatArrFk
