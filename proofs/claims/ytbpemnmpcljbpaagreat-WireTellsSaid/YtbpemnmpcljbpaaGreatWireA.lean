/- Written by a program (pre.py) from the source of the same name. -/
/- The sum of bytes, plain: a step is linear; a step without a bit is one to one; what stands in the lowest 32 places. -/
import Derived.Test.YtbpemnmpcljbpaaGreatTab
import Derived.Test.YtbpemnmpcljbpaaGreatFwC
set_option linter.unusedSimpArgs false
set_option linter.unusedVariables false
set_option linter.unnecessarySimpa false
namespace Go.Proofs.YtbpemnmpcljbpaaGreat
namespace Wi
open Go.Gar

abbrev pat : BitVec 32 := 0x741b8cd7#32
def bitB (b : Bool) : BitVec 32 := if b then 1#32 else 0#32
def cstep (s : BitVec 32) (b : Bool) : BitVec 32 := (s <<< 1 ^^^ bitB b) ^^^ (if s.getLsbD 31 then pat else 0#32)
def crun (s : BitVec 32) (l : List Bool) : BitVec 32 := l.foldl cstep s

theorem crun_app (s : BitVec 32) (l m : List Bool) : crun s (l ++ m) = crun (crun s l) m := by simp [crun]

end Wi
end Go.Proofs.YtbpemnmpcljbpaaGreat
