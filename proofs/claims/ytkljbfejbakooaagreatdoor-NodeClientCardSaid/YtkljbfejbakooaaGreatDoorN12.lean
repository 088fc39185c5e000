/- Part 12 of a proof, put together by a program. Conditions: none beyond those that a theorem states. -/
import Derived.Test.YtkljbfejbakooaaGreatDoorN09
import Derived.Shelf.SlicesE.DeleteFunc
set_option linter.unusedSimpArgs false
set_option linter.unusedVariables false
set_option linter.unnecessarySimpa false
set_option maxHeartbeats 40000000
namespace Go.Proofs.YtkljbfejbakooaaGreatDoor
namespace Wi
open Go.Gar
abbrev pat : BitVec 32:=0x741b8cd7#32
def Yu (b : Bool) : BitVec 32:=if b then 1#32 else 0#32
def Eo (s : BitVec 32) (b : Bool) : BitVec 32:=(s <<< 1 ^^^ Yu b) ^^^ (if s.getLsbD 31 then pat else 0#32)
def D4 (s : BitVec 32) (l : List Bool) : BitVec 32:=l.foldl Eo s
theorem Gq (s : BitVec 32) (l m : List Bool) : D4 s (l ++ m) = D4 (D4 s l) m:=by simp [D4]
end Wi
end Go.Proofs.YtkljbfejbakooaaGreatDoor
