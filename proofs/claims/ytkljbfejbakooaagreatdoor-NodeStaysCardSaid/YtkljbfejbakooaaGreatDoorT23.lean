/- Part 23 of a proof. Conditions: those that its theorems state. -/
import Derived.Test.YtkljbfejbakooaaGreatDoorT21
import Derived.Test.YtkljbfejbakooaaGreatDoorT22
set_option linter.unusedSimpArgs false
set_option linter.unusedVariables false
set_option maxHeartbeats 40000000
set_option maxRecDepth 4000
namespace Go.Proofs.YtkljbfejbakooaaGreatDoor
namespace Nd
open Go.Gar
open Wi (AC Bp BE AN Bc mC)
theorem VP{n:AA}(h:Av n=true):0<=n.next/\n.next<16:=by
 unfold Av at h;simp only[xI,xK]at h;exact h.2.2.1
theorem eY(n:AA)(h:Fe n)(w AL AT:Int)(x:AK)(hs:x.AH.length<=9223372036854775807)(ha:(Ep n.A7 AL AT x).BN.length<=100000)(hk:0<=(Ep n.A7 AL AT x).job.A9.AH.length):xB 52 [n.d,.i .u8 w,.i .u8 AL,.i .i64 AT,x.d] (.tup [(Bh n w AL AT x).1.d,Ab (Bh n w AL AT x).2]):=by
 unfold Bh
 cases hr:Av n with
 |false=>
  rw[zY,if_neg (by decide)]
  by_cases h5:w=5
  .subst h5;exact ZI n h AL AT x hr
  by_cases h6:w=6
  .subst h6;exact ZJ n h AL AT x hr
  by_cases h7:w=7
  .subst h7;exact ZK n h AL AT x hr
  exact X9 n h w AL AT x h5 h6 h7
 |true=>
  obtain⟨a,b⟩:=VP hr
  by_cases h5:w=5
  .subst h5;rw[if_pos (by decide)];exact ZL n h AL AT x hr a b hs ha hk
  by_cases h6:w=6
  .subst h6;rw[if_pos (by decide)];exact ZM n h AL AT x hr a b hs ha hk
  by_cases h7:w=7
  .subst h7;rw[if_pos (by decide)];exact ZN n h AL AT x hr a b hs ha hk
  rw[if_neg (by simp;omega)];exact X9 n h w AL AT x h5 h6 h7
end Nd
end Go.Proofs.YtkljbfejbakooaaGreatDoor
