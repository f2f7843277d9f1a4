/-
  The conditions of the functions, all of them. Conditions: none; printed by a program of our own.
-/
import Derived.Test.YtjbknheeiaaioaaNumJA
import Derived.Test.YtjbknheeiaaioaaNumJB
import Derived.Test.YtjbknheeiaaioaaNumJC
import Derived.Test.YtjbknheeiaaioaaNumJD
import Derived.Test.YtjbknheeiaaioaaNumJE
import Derived.Test.YtjbknheeiaaioaaNumJK
import Derived.Test.YtjbknheeiaaioaaNumJG
import Derived.Test.YtjbknheeiaaioaaNumJH
