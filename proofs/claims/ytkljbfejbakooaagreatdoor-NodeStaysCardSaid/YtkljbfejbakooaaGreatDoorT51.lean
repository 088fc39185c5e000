/- Part 51 of a proof. Conditions: those that its theorems state. -/
import Derived.Test.YtkljbfejbakooaaGreatDoorT37
import Derived.Test.YtkljbfejbakooaaGreatDoorT41
import Derived.Test.YtkljbfejbakooaaGreatDoorT44
import Derived.Test.YtkljbfejbakooaaGreatDoorT45
import Derived.Test.YtkljbfejbakooaaGreatDoorT50
set_option linter.unusedSimpArgs false
set_option linter.unusedVariables false
set_option maxHeartbeats 40000000
set_option maxRecDepth 4000
namespace Go.Proofs.YtkljbfejbakooaaGreatDoor
namespace Nd
open Go.Gar
open Wi (AC Bp BE AN Bc mC C6 BP)
set_option maxRecDepth 100000
abbrev Dy:Aw:=[0,1,2,3,4,7,8,9,10,11,12,13,14,15,16,34,95,124,149]
theorem VS(n:AA)(b:AJ)(AL:Int)(x:AK)(hw:TG n):xB 3 [n.d,.by b,.i .u8 AL,x.d] (.b true):=by
 have cw:=YR;obtain⟨g,c1,hG⟩:=U7 n
 cases g with
 |true=>
  clear hG;refine zF AF Tryz.func3 ?_;unfold AA.d AA.A0 AD.A0 Calls.A0 An.A0 AK.d AK.A0 at *;refine wd Dy [] A4 (Ax @c1 @cw) ?_;exact zE
 |false=>
 have hg:=hG rfl;clear hG;have c2:=PL n (qi hg hw)
 cases hr:Av n with
 |false=>
  rw[hr]at c2;refine zF AF Tryz.func3 ?_;unfold AA.d AA.A0 AD.A0 Calls.A0 An.A0 AK.d AK.A0 at *;refine wd Dy [] A4 (Ci @c1 @c2 @cw) ?_;exact zE
 |true=>
 rw[hr]at c2;have hN:=ve hg hw hr;clear hr hg hw
 by_cases h300:b.length>300
 .have f1:decide ((b.length:Int)>300)=true:=xM om;refine zF AF Tryz.func3 ?_;unfold AA.d AA.A0 AD.A0 Calls.A0 An.A0 AK.d AK.A0 at *;refine wd Dy [] (AM f1) (Ci @c1 @c2 @cw) ?_;exact zE
 have f1:decide ((b.length:Int)>300)=false:=xO om
 by_cases h100:x.AH.length>100
 .have f2:decide ((x.AH.length:Int)>100)=true:=xM om;refine zF AF Tryz.func3 ?_;unfold AA.d AA.A0 AD.A0 Calls.A0 An.A0 AK.d AK.A0 at *;refine wd Dy [] (Ax f1 f2) (Ci @c1 @c2 @cw) ?_;exact zE
 have f2:decide ((x.AH.length:Int)>100)=false:=xO om;have hx:x.AH.length<=big:=zB (show x.AH.length<=100 by omega) (by decide);have c3:=dL n hN;have c4:=Lr n b hN (Nat.lt_of_le_of_lt (show b.length<=300 by omega) xA);have c5:=s7 n AL x hN hx;have c6:=lA n hN;obtain⟨t1,t2,t3,t4,t5,t6,t7⟩:=dM hN;obtain⟨k1,k2,k3,k4,k5,k6⟩:=dI hN b;obtain⟨a1,a2,a3,a4,a5⟩:=s8 hN AL x hx;have l1:=lB hN
 have l2:(Iz n).length<=1048576:=by
  have:=(fG hN).1;have:=hN.FV.kn;omega
 have t8:=t1.tP;have c7:=Sg t1;have c8:=Sg k1;have c9:=Sg a1;have c10:=QZ _ _ t6 om;have c11:=QZ _ _ k5 om;have c12:=QZ _ _ a3 om;have c13:=QZ _ _ l1 l2;have c14:=mj n hN.FV;have q1:=(Aq.1 hN.r).1;generalize GP n=T at *;generalize HV n b=K at *;generalize OW n AL x=A at *;generalize Iz n=L at *;obtain⟨T1,T2⟩:=T;obtain⟨K1,K2⟩:=K;obtain⟨⟨A1,A2⟩,Ae⟩:=A;dsimp only at *;clear t1 t2 t6 k1 k2 k5 a1 a3 l1 l2 hN hx;have f3:decide ((T2.length:Int)>48)=false:=xO om;have f4:decide ((K2.length:Int)>16)=false:=xO om;have f5:decide ((A2.length:Int)>16)=false:=xO om;have f6:decide ((T1.AX.op.length:Int)>16)=false:=xO om;have f7:decide (T1.AX.AU<n.AX.AU)=false:=xO om;have f8:=AS k3;have f9:=AS a2;have f10:decide ((T1.keep.length:Int)>=(n.keep.length:Int))=true:=xM om;have f11:decide ((K1.keep.length:Int)>=(n.keep.length:Int))=true:=xM om
 obtain⟨C,hC,hC2⟩:∃C,decide (n.Aj<1099511627776)=C/\(C=true->T1.Aj=n.Aj+1):=
  ⟨_,rfl,fun e=>by
   have e:=of_decide_eq_true e;rw[if_neg om]at t3
   exact t3⟩
 have hA:(Ae==0)=true\/((Ae==0)=false/\A1=n/\A2=[]):=by
  by_cases e:Ae=0
  .exact .inl (AS e)
  .rcases a5 with h|h
   .exact absurd h e
   .exact .inr ⟨eq_false' e,(Prod.mk.inj h).1,(Prod.mk.inj h).2⟩
 clear t3 t4 t5 t7 t8 k4 k6 a4 a5 h300 h100;refine zF AF Tryz.func3 ?_;rcases hA with f14|⟨f14,rfl,rfl⟩
 .unfold AA.d AA.A0 AD.A0 Calls.A0 An.A0 AK.d AK.A0 at*
  cases C with
  |true=>
   have h13:=hC2 rfl;have f13:=AS h13;refine wd Dy [7] (Ax f1 f2) (MX @c1 @c2 @c3 @c4 @c5) ?_;refine wd Dy [9] A4 (qP @c6 @c7 @c8 @c9 @c10 @c11 @c12 @c13) ?_;refine wd Dy [] (wV f3 f4 f5 f6 f7 f8 f9 f10 f11 hC f13 f14) (AM @cw) ?_;with_reducible repeat' first|constructor|intro hc
   exact zE
  |false=>
   refine wd Dy [7] (Ax f1 f2) (MX @c1 @c2 @c3 @c4 @c5) ?_;refine wd Dy [9] A4 (qP @c6 @c7 @c8 @c9 @c10 @c11 @c12 @c13) ?_;refine wd Dy [] (wU f3 f4 f5 f6 f7 f8 f9 f10 f11 hC f14) (AM @cw) ?_;with_reducible repeat' first|constructor|intro hc
   exact zE
 .unfold AA.d AA.A0 AD.A0 Calls.A0 An.A0 AK.d AK.A0 at*
  cases C with
  |true=>
   have h13:=hC2 rfl;have f13:=AS h13;refine wd Dy [7] (Ax f1 f2) (MX @c1 @c2 @c3 @c4 @c5) ?_;refine wd Dy [9] A4 (qP @c6 @c7 @c8 @c9 @c10 @c11 @c12 @c13) ?_;refine wd Dy [] (wV f3 f4 f5 f6 f7 f8 f9 f10 f11 hC f13 f14) (Ax @c14 @cw) ?_;with_reducible repeat' first|constructor|intro hc
   exact zE
  |false=>
   refine wd Dy [7] (Ax f1 f2) (MX @c1 @c2 @c3 @c4 @c5) ?_;refine wd Dy [9] A4 (qP @c6 @c7 @c8 @c9 @c10 @c11 @c12 @c13) ?_;refine wd Dy [] (wU f3 f4 f5 f6 f7 f8 f9 f10 f11 hC f14) (Ax @c14 @cw) ?_;with_reducible repeat' first|constructor|intro hc
   exact zE
end Nd
end Go.Proofs.YtkljbfejbakooaaGreatDoor
