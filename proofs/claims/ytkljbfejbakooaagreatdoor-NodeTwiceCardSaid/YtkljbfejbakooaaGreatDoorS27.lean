/- Part 27 of a proof. Conditions: those that its theorems state. -/
import Derived.Test.YtkljbfejbakooaaGreatDoorS18
import Derived.Test.YtkljbfejbakooaaGreatDoorS26
set_option linter.unusedSimpArgs false
set_option linter.unusedVariables false
set_option maxHeartbeats 40000000
set_option maxRecDepth 4000
namespace Go.Proofs.YtkljbfejbakooaaGreatDoor
namespace Nd
open Go.Gar
open Wi (A2 B5 AU A5 B6 mC B7 Ad)
abbrev CZ:List Nat:=[0,1,2,4,5,6,7,8,9,10,11,12,13,24,34,36,57,72]
theorem aJ(b:List UInt8):AD (Ad b).1:=by
 have:=Wi.WH b;unfold AD;omega
theorem Jo(n:Node)(b:List UInt8)(h:NB n)(hb:b.length<70368744177664):qB 12 [n.d,.by b] (.tup [(Cs n b).1.d,KV (Cs n b).2]):=by
 have c1:=Ax n h.Fa;have c2:=Az n h.Fa;have c3:=Wi.Kv b hb;have hm:=aJ b;rw[h.r]at c2
 have hT:Cs n b=(if(Ad b).2≠0\/(Ad b).1.dst≠n.view.id then({n with bad:=if n.bad<1099511627776 then n.bad+1 else n.bad},[])
  else if(Ad b).1.asks then((AK n (Ad b).1).1,NP (AK n (Ad b).1).2)
  else if(Ar n.calls (Ad b).1).2.2 then IV [] (BS {n with calls:=(Ar n.calls (Ad b).1).1} (Ar n.calls (Ad b).1).2.1 (Ad b).1)
  else(n,[])):=by unfold Cs;rw[if_pos h.r]
 rw[hT];clear hT;generalize Ad b=p at *;obtain⟨m,e⟩:=p;dsimp only at *;have c4:=Wi.FK m;refine zF A4 Tryz.func12 ?_;have hbad:=(AW.1 h.r).2.1
 by_cases hx:e≠0\/m.dst≠n.view.id
 .rw[if_pos hx];unfold Node.d Node.cells View.cells Calls.cells Job.cells Wi.A2.d Wi.A2.cells at *;have hE:(e=0/\¬m.dst=n.view.id)\/¬e=0:=by grind
  by_cases hq:n.bad<1099511627776
  .rw[if_pos hq];have f2:=qM hq;rcases hE with⟨g1,g2⟩|g1
   .have f1:=A9 g1;have f3:=eq_false' g2;refine wd CZ [15] (C3 f1 f2 f3) (C3 @c1 @c2 @c3) ?_ [] true;with_reducible repeat' first|constructor|intro hc;try simp only[AB]at hc
    refine wd CZ [] A0 A0 ?_ [(2,4),(3,4)] true;exact zE
   .have f1:=eq_false' g1;refine wd CZ [15] (AX f1 f2) (C3 @c1 @c2 @c3) ?_ [] true;with_reducible repeat' first|constructor|intro hc;try simp only[AB]at hc
    refine wd CZ [] A0 A0 ?_ [(2,4),(3,4)] true;exact zE
  .rw[if_neg hq];have f2:=qO hq;rcases hE with⟨g1,g2⟩|g1
   .have f1:=A9 g1;have f3:=eq_false' g2;refine wd CZ [15] (C3 f1 f2 f3) (C3 @c1 @c2 @c3) ?_ [] true;with_reducible repeat' first|constructor|intro hc;try simp only[AB]at hc
    refine wd CZ [] A0 A0 ?_ [(2,4),(3,4)] true;exact zE
   .have f1:=eq_false' g1;refine wd CZ [15] (AX f1 f2) (C3 @c1 @c2 @c3) ?_ [] true;with_reducible repeat' first|constructor|intro hc;try simp only[AB]at hc
    refine wd CZ [] A0 A0 ?_ [(2,4),(3,4)] true;exact zE
 rw[if_neg hx];have f1:=A9 (show e=0 by grind);have f3:=A9 (show m.dst=n.view.id by grind)
 cases ha:m.asks with
 |true=>
  rw[ha]at c4;rw[if_pos rfl];have c5:=em n m h hm
  have hl:(AK n m).2.list.length<9223372036854775807:=by
   cases hs:Bc n m with
   |false=>
    have e:AK n m=(n,A5):=by unfold AK;rw[hs];rfl
    rw[e];exact qA
   |true=>
    obtain⟨_,_,_,_,_,_,_,_,t1,_⟩:=PK h hs;have:=IF t1;unfold AD at this;omega
  generalize AK n m=q at *;obtain⟨n1,t⟩:=q;dsimp only at *;have c6:=Xv n1 [] t hl (qP _);simp only[qX]at c6;unfold nH at c6;unfold Node.d Node.cells View.cells Calls.cells Job.cells Wi.A2.d Wi.A2.cells at *;refine wd CZ [8] (AX f1 f3) (NU @c1 @c2 @c3 @c4 @c5) ?_ [] true;with_reducible repeat' first|constructor|intro hc;try simp only[AB]at hc
  refine Ah (A1.FV 2 76 (.sl 3 []) rfl rfl rfl rfl (by simp[AF])) sm ?_;have d1:=Ds.mk [2,6] (c6);refine wd CZ [15] A0 A0 ?_ [] true;clear d1;refine wd CZ [] A0 A0 ?_ [(2,4),(3,4)] true;exact zE
 |false=>
 rw[ha]at c4;rw[if_neg (by decide)];have c5:=YZ n.calls m h.Fa.cl h.Fa.cn (by unfold AD at hm;omega);have hc:=h.close m;have hk:=fun e=>(L9 (c:=n.calls) (m:=m) e).2.1
 generalize Ar n.calls m=q at *;obtain⟨q1,x,q3⟩:=q;dsimp only at*
 cases q3 with
 |false=>
  rw[if_neg (by decide)];unfold Node.d Node.cells View.cells Calls.cells Job.cells Wi.A2.d Wi.A2.cells Calls.d Calls.cells Call.d Call.cells at *;refine wd CZ [15] (AX f1 f3) (NU @c1 @c2 @c3 @c4 @c5) ?_ [] true;with_reducible repeat' first|constructor|intro hc;try simp only[AB]at hc
  refine wd CZ [] A0 A0 ?_ [(2,4),(3,4)] true;exact zE
 |true=>
  rw[if_pos rfl];have hky:=tJ (Jk (hk rfl)) (show 20<=big by decide);have c6:=cq {n with calls:=q1} hc.hok x m hm (qP _);have c7:=jQ {n with calls:=q1} (BS {n with calls:=q1} x m).1 [] (BS {n with calls:=q1} x m).2 (hc.heard hky) (iA _ _ _) (by have:=Z5 {n with calls:=q1} x m;omega) (qP _);rw[show((BS {n with calls:=q1} x m).1,(BS {n with calls:=q1} x m).2)=BS {n with calls:=q1} x m from rfl]at c7;generalize BS {n with calls:=q1} x m=t at *;generalize IV [] t=u at *;obtain⟨t1,t2⟩:=t;dsimp only at c6 c7;unfold nH at c7;unfold hC at c7;unfold Node.d Node.cells View.cells Calls.cells Job.cells Wi.A2.d Wi.A2.cells Calls.d Calls.cells Call.d Call.cells at *;refine wd CZ [12] (AX f1 f3) (NU @c1 @c2 @c3 @c4 @c5) ?_ [] true;with_reducible repeat' first|constructor|intro hc;try simp only[AB]at hc
  refine Ah (A1.FV 2 76 (.sl 3 []) rfl rfl rfl rfl (by simp[AF])) sm ?_;have d1:=Ds.mk [2,6] (c7);refine wd CZ [15] A0 (A6 @c6) ?_ [] true;clear d1;refine wd CZ [] A0 A0 ?_ [(2,4),(3,4)] true;exact zE
end Nd
end Go.Proofs.YtkljbfejbakooaaGreatDoor
