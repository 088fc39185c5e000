/- Part 33 of a proof. Conditions: those that its theorems state. -/
import Derived.Test.YtamjpnmjpponpaaGreatDoorC31
import Derived.Test.YtamjpnmjpponpaaGreatDoorC32
set_option linter.unusedSimpArgs false
set_option linter.unusedVariables false
set_option maxHeartbeats 40000000
set_option maxRecDepth 4000
namespace Go.Proofs.YtamjpnmjpponpaaGreatDoor
namespace Nd
open Go.Gar
open Wi (AF BV B7 AU Bp mC)
theorem Ve{n:AA}(h:BL n=true):0<=n.next/\n.next<16:=by
 unfold BL at h;simp only[zO,zW]at h;exact h.2.2.1
theorem g9(n:AA)(h:Hm n)(w AR AP:Int)(x:AS)(hs:x.AI.length<=9223372036854775807)(ha:(Ei n.A7 AR AP x).BY.length<=100000)(hk:0<=(Ei n.A7 AR AP x).job.AC.AI.length):yS 165 [n.d,.i .u8 w,.i .u8 AR,.yX AP,x.d] (.tup [(Bq n w AR AP x).1.d,BS (Bq n w AR AP x).2]):=by
 unfold Bq
 cases hr:BL n with
 |false=>
  rw[q0v,zx (by decide)]
  by_cases h5:w=5
  .subst h5;exact Zr n h AR AP x hr
  by_cases h6:w=6
  .subst h6;exact Zs n h AR AP x hr
  by_cases h7:w=7
  .subst h7;exact Zt n h AR AP x hr
  exact XR n h w AR AP x h5 h6 h7
 |true=>
  obtain⟨a,b⟩:=Ve hr
  by_cases h5:w=5
  .subst h5;rw[zn (by decide)];exact Zu n h AR AP x hr a b hs ha hk
  by_cases h6:w=6
  .subst h6;rw[zn (by decide)];exact Zv n h AR AP x hr a b hs ha hk
  by_cases h7:w=7
  .subst h7;rw[zn (by decide)];exact Zw n h AR AP x hr a b hs ha hk
  rw[zx (by simp;omega)];exact XR n h w AR AP x h5 h6 h7
end Nd
end Go.Proofs.YtamjpnmjpponpaaGreatDoor
