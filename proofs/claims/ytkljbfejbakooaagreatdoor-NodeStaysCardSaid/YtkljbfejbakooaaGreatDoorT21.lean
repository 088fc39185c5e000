/- Part 21 of a proof. Conditions: those that its theorems state. -/
import Derived.Test.YtkljbfejbakooaaGreatDoorT17
import Derived.Test.YtkljbfejbakooaaGreatDoorT20
set_option linter.unusedSimpArgs false
set_option linter.unusedVariables false
set_option maxHeartbeats 40000000
set_option maxRecDepth 4000
namespace Go.Proofs.YtkljbfejbakooaaGreatDoor
namespace Nd
open Go.Gar
open Wi (AC Bp BE AN Bc mC)
theorem my(n:AA)(w:Int)(h5:w≠5)(h6:w≠6)(h7:w≠7):xC 136 [.ptr 0 0 77,.wz w] [.c (hC n .e0)] (.d .np) [.c (hC n .e0)]:=by
 have f5:=eq_false' h5;have f6:=eq_false' h6;have f7:=eq_false' h7;refine zD AF Tryz.func136 ?_;refine wd [0,1,4,5,6,11,16] [] (Ci f5 f6 f7) A4 ?_;exact⟨_,(A6.ck rfl),xA,_,_,rfl,rfl,rfl,rfl⟩
theorem X9(n:AA)(h:Fe n)(w AL AT:Int)(x:AK)(h5:w≠5)(h6:w≠6)(h7:w≠7):xB 52 [n.d,.i .u8 w,.i .u8 AL,.i .i64 AT,x.d] (.tup [n.d,Ab []]):=by
 have c1:=Ay n h;have c2:=my n w h5 h6 h7;refine zF AF Tryz.func52 ?_;unfold AA.d AA.A0 AD.A0 Calls.A0 An.A0 AK.d AK.A0 at *;unfold hC at c2;simp only[xX,xY]at *;have d1:=Ds.mk [3] (c2);refine wd [0,1,2,3,4,5,9,10,11,12,13,14,15,27] [] A4 (AM @c1) ?_ [(2,4),(3,4)] true;clear d1;exact zE
end Nd
end Go.Proofs.YtkljbfejbakooaaGreatDoor
