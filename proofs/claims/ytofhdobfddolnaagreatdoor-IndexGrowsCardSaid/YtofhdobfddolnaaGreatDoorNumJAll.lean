/-
 The conditions of the functions, all of them. Conditions: none; printed by a program of our own.
-/
import Derived.Test.YtofhdobfddolnaaGreatDoorNumJA
import Derived.Test.YtofhdobfddolnaaGreatDoorNumJB
import Derived.Test.YtofhdobfddolnaaGreatDoorNumJC
import Derived.Test.YtofhdobfddolnaaGreatDoorNumJD
import Derived.Test.YtofhdobfddolnaaGreatDoorNumJE
import Derived.Test.YtofhdobfddolnaaGreatDoorNumJK
import Derived.Test.YtofhdobfddolnaaGreatDoorNumJG
import Derived.Test.YtofhdobfddolnaaGreatDoorNumJH
import Derived.Test.YtofhdobfddolnaaGreatDoorNumJI
import Derived.Test.YtofhdobfddolnaaGreatDoorNumJM
import Derived.Test.YtofhdobfddolnaaGreatDoorNumJN
