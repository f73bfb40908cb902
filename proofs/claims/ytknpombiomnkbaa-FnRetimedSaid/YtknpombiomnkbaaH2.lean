import Derived.Test.YtknpombiomnkbaaS5
import Derived.Test.YtknpombiomnkbaaAhU
namespace Go.Proofs.Ytknpombiomnkbaa
open Go Go.Ah
set_option linter.unusedSimpArgs false
set_option linter.unusedVariables false
set_option maxRecDepth 10000
set_option maxHeartbeats 4000000
structure Key where
  pos : Int
  to : Int
  deriving DecidableEq
def zKey : Key := ⟨0, 0⟩
def encKey (k : Key) : List Value := [.int .i64 k.pos, .int .i64 k.to]
theorem encKey_len (k : Key) : (encKey k).length = 2 := rfl
def markKey (k : Int) (n : Nat) : List Key := (List.range n).map fun i : Nat => ⟨k + 2 * (i : Int), k + 2 * (i : Int) + 1⟩
end Go.Proofs.Ytknpombiomnkbaa
