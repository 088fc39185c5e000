/- Part 41 of a proof. Conditions: those that its theorems state. -/
import Derived.Test.YtkljbfejbakooaaGreatDoorT36
import Derived.Test.YtkljbfejbakooaaGreatDoorT38
import Derived.Test.YtkljbfejbakooaaGreatDoorT40
set_option linter.unusedSimpArgs false
set_option linter.unusedVariables false
set_option maxHeartbeats 40000000
set_option maxRecDepth 4000
namespace Go.Proofs.YtkljbfejbakooaaGreatDoor
namespace Nd
open Go.Gar
open Wi (AC Bp BE AN Bc mC C6 BP)
abbrev Dx:Aw:=[0,1,2,4,5,6,7,8,9,10,11,12,13,24,34,36,57,72]
theorem gV(b:AJ):Am (BP b).1:=by
 have:=Wi.ab b;unfold Am;omega
theorem Lr(n:AA)(b:AJ)(h:NB n)(hb:b.length<70368744177664):xB 12 [n.d,.by b] (.tup [(HV n b).1.d,GZ (HV n b).2]):=by
 have c1:=Ay n h.FV;have c2:=Ar n h.FV;have c3:=Wi.N9 b hb;have hm:=gV b;rw[h.r]at c2
 have hT:HV n b=(if(BP b).2≠0\/(BP b).1.dst≠n.A7.id then({n with bad:=if n.bad<1099511627776 then n.bad+1 else n.bad},[])
  else if(BP b).1.BN then((BH n (BP b).1).1,GG (BH n (BP b).1).2)
  else if(D9 n.AX (BP b).1).2.2 then Ei [] (Cd {n with AX:=(D9 n.AX (BP b).1).1} (D9 n.AX (BP b).1).2.1 (BP b).1)
  else(n,[])):=by unfold HV;rw[if_pos h.r]
 rw[hT];clear hT;generalize BP b=p at *;obtain⟨m,e⟩:=p;dsimp only at *;have c4:=Wi.H9 m;refine zF AF Tryz.func12 ?_;have hbad:=(Aq.1 h.r).2.1
 by_cases hx:e≠0\/m.dst≠n.A7.id
 .rw[if_pos hx];unfold AA.d AA.A0 AD.A0 Calls.A0 An.A0 Wi.AC.d Wi.AC.A0 at *;have hE:(e=0/\¬m.dst=n.A7.id)\/¬e=0:=by grind
  by_cases hq:n.bad<1099511627776
  .rw[if_pos hq];have f2:=xM hq;rcases hE with⟨g1,g2⟩|g1
   .have f1:=AS g1;have f3:=eq_false' g2;refine wd Dx [15] (Ci f1 f2 f3) (Ci @c1 @c2 @c3) ?_ [] true;with_reducible repeat' first|constructor|intro hc
    refine wd Dx [] A4 A4 ?_ [(2,4),(3,4)] true;exact zE
   .have f1:=eq_false' g1;refine wd Dx [15] (Ax f1 f2) (Ci @c1 @c2 @c3) ?_ [] true;with_reducible repeat' first|constructor|intro hc
    refine wd Dx [] A4 A4 ?_ [(2,4),(3,4)] true;exact zE
  .rw[if_neg hq];have f2:=xO hq;rcases hE with⟨g1,g2⟩|g1
   .have f1:=AS g1;have f3:=eq_false' g2;refine wd Dx [15] (Ci f1 f2 f3) (Ci @c1 @c2 @c3) ?_ [] true;with_reducible repeat' first|constructor|intro hc
    refine wd Dx [] A4 A4 ?_ [(2,4),(3,4)] true;exact zE
   .have f1:=eq_false' g1;refine wd Dx [15] (Ax f1 f2) (Ci @c1 @c2 @c3) ?_ [] true;with_reducible repeat' first|constructor|intro hc
    refine wd Dx [] A4 A4 ?_ [(2,4),(3,4)] true;exact zE
 rw[if_neg hx];have f1:=AS (show e=0 by grind);have f3:=AS (show m.dst=n.A7.id by grind)
 cases ha:m.BN with
 |true=>
  rw[ha]at c4;rw[if_pos rfl];have c5:=mo n m h hm
  have hl:(BH n m).2.A8.length<9223372036854775807:=by
   cases hs:D3 n m with
   |false=>
    have e:BH n m=(n,AN):=by unfold BH;rw[hs];rfl
    rw[e];exact xA
   |true=>
    obtain⟨_,_,_,_,_,_,_,_,t1,_⟩:=Sl h hs;have:=K4 t1;unfold Am at this;omega
  generalize BH n m=q at *;obtain⟨n1,t⟩:=q;dsimp only at *;have c6:=QY n1 [] t hl (xQ _);simp only[xY]at c6;unfold nH at c6;unfold AA.d AA.A0 AD.A0 Calls.A0 An.A0 Wi.AC.d Wi.AC.A0 at *;refine wd Dx [8] (Ax f1 f3) (MX @c1 @c2 @c3 @c4 @c5) ?_ [] true;with_reducible repeat' first|constructor|intro hc
  refine BC (A6.EO 2 76 (.sl 3 []) rfl rfl rfl rfl (by simp[B0])) sm ?_;have d1:=Ds.mk [2,6] (c6);refine wd Dx [15] A4 A4 ?_ [] true;clear d1;refine wd Dx [] A4 A4 ?_ [(2,4),(3,4)] true;exact zE
 |false=>
 rw[ha]at c4;rw[if_neg (by decide)];have c5:=dx n.AX m h.FV.cl h.FV.cn (by unfold Am at hm;omega);have hc:=h.close m;have hk:=fun e=>(WX (c:=n.AX) (m:=m) e).2.1
 generalize D9 n.AX m=q at *;obtain⟨q1,x,q3⟩:=q;dsimp only at*
 cases q3 with
 |false=>
  rw[if_neg (by decide)];unfold AA.d AA.A0 AD.A0 Calls.A0 An.A0 Wi.AC.d Wi.AC.A0 Calls.d Calls.A0 AW.d AW.A0 at *;refine wd Dx [15] (Ax f1 f3) (MX @c1 @c2 @c3 @c4 @c5) ?_ [] true;with_reducible repeat' first|constructor|intro hc
  refine wd Dx [] A4 A4 ?_ [(2,4),(3,4)] true;exact zE
 |true=>
  rw[if_pos rfl];have hky:=zB (PK (hk rfl)) (show 20<=big by decide);have c6:=kM {n with AX:=q1} hc.hok x m hm (xQ _);have c7:=O3 {n with AX:=q1} (Cd {n with AX:=q1} x m).1 [] (Cd {n with AX:=q1} x m).2 (hc.heard hky) (oz _ _ _) (by have:=ed {n with AX:=q1} x m;omega) (xQ _);rw[show((Cd {n with AX:=q1} x m).1,(Cd {n with AX:=q1} x m).2)=Cd {n with AX:=q1} x m from rfl]at c7;generalize Cd {n with AX:=q1} x m=t at *;generalize Ei [] t=u at *;obtain⟨t1,t2⟩:=t;dsimp only at c6 c7;unfold nH at c7;unfold hC at c7;unfold AA.d AA.A0 AD.A0 Calls.A0 An.A0 Wi.AC.d Wi.AC.A0 Calls.d Calls.A0 AW.d AW.A0 at *;refine wd Dx [12] (Ax f1 f3) (MX @c1 @c2 @c3 @c4 @c5) ?_ [] true;with_reducible repeat' first|constructor|intro hc
  refine BC (A6.EO 2 76 (.sl 3 []) rfl rfl rfl rfl (by simp[B0])) sm ?_;have d1:=Ds.mk [2,6] (c7);refine wd Dx [15] A4 (AM @c6) ?_ [] true;clear d1;refine wd Dx [] A4 A4 ?_ [(2,4),(3,4)] true;exact zE
end Nd
end Go.Proofs.YtkljbfejbakooaaGreatDoor
