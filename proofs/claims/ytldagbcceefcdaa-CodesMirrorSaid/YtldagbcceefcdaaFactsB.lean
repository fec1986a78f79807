/- Facts on the program that the walks use: types, fields, entries. -/
import Derived.Test.YtldagbcceefcdaaFacts
import Derived.Test.YtldagbcceefcdaaProg
import Derived.KernelRfl
namespace Go.Proofs.Ytldagbcceefcdaa
open Go.Proofs


end Go.Proofs.Ytldagbcceefcdaa
