/- Part 31 of a proof. Conditions: those that its theorems state. -/
import Derived.Test.YtamjpnmjpponpaaGreatDoorC18
import Derived.Test.YtamjpnmjpponpaaGreatDoorC20
import Derived.Test.YtamjpnmjpponpaaGreatDoorC21
set_option linter.unusedSimpArgs false
set_option linter.unusedVariables false
set_option maxHeartbeats 40000000
set_option maxRecDepth 4000
namespace Go.Proofs.YtamjpnmjpponpaaGreatDoor
namespace Nd
open Go.Gar
open Wi (AF BV B7 AU Bp mC)
theorem oR(n:AA)(w:Int)(h5:w≠5)(h6:w≠6)(h7:w≠7):yT 224 [.ptr 0 0 77,.yQ w] [.c (hC n .e0)] (.d .np) [.c (hC n .e0)]:=by
 have f5:=eq_false' h5;have f6:=eq_false' h6;have f7:=eq_false' h7;refine zD AE Tryz.func224 ?_;refine Aj [0,1,4,5,6,11,16] ?_ (CP f5 f6 f7);exact wE
theorem XR(n:AA)(h:Hm n)(w AR AP:Int)(x:AS)(h5:w≠5)(h6:w≠6)(h7:w≠7):yS 165 [n.d,.i .u8 w,.i .u8 AR,.yX AP,x.d] (.tup [n.d,BS []]):=by
 have c1:=BN n h;have c2:=oR n w h5 h6 h7;refine zF AE Tryz.func165 ?_;unfold AA.d AA.A4 AG.A4 Calls.A4 B9.A4 AS.d AS.A4 at *;unfold hC at c2;simp only[zY,zZ]at *;refine B6 [0,1,2,3,4,5,9,10,11,12,13,14,15,27] ?_ (AK @c1) (BJ [3] c2) [(2,4),(3,4)];exact zE
end Nd
end Go.Proofs.YtamjpnmjpponpaaGreatDoor
