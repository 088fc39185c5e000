/- Part 19 of a proof. Conditions: those that its theorems state. -/
import Derived.Test.YtklaicomfolefaaU11
set_option linter.unusedSimpArgs false
set_option linter.unusedVariables false
set_option maxHeartbeats 40000000
set_option maxRecDepth 4000
namespace Go.Proofs.Ytklaicomfolefaa
open Go.Gar
theorem Hx{b:AQ}(h:b.great=false):b.grams.length<=420/\small b.grams:=by
 simp only[AQ.great,Bool.or_eq_false_iff,decide_eq_false_iff_not]at h;refine⟨om,fun g hg=> ?_⟩;have h1:=h.1;rw[List.take_of_length_le om,List.any_eq_false]at h1;have:=h1 g hg;simp only[PO]at this;omega
end Go.Proofs.Ytklaicomfolefaa
