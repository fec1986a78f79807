/- Merged texts of this proof (walks and plain laws), printed by a program of the prover. -/
import Derived.Test.YtbboikncaihafaaGreatDoorXa
import Derived.Test.YtbboikncaihafaaGreatDoorZb

