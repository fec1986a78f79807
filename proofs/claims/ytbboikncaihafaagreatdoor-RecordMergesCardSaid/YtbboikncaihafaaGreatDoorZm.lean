/- Merged texts of this proof (walks and plain laws), printed by a program of the prover. -/
import Derived.Test.YtbboikncaihafaaGreatDoorZb
import Derived.Test.YtbboikncaihafaaGreatDoorZh
import Derived.Test.YtbboikncaihafaaGreatDoorZg
import Derived.Test.YtbboikncaihafaaGreatDoorZc

