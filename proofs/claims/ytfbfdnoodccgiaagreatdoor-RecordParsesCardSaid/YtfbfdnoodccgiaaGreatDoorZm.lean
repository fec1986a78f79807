/- Merged texts of this proof (walks and plain laws), printed by a program of the prover. -/
import Derived.Test.YtfbfdnoodccgiaaGreatDoorZb
import Derived.Test.YtfbfdnoodccgiaaGreatDoorZh
import Derived.Test.YtfbfdnoodccgiaaGreatDoorZg
import Derived.Test.YtfbfdnoodccgiaaGreatDoorZc

