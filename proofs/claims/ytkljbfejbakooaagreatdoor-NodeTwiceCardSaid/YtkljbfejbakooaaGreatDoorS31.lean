/- Part 31 of a proof. Conditions: those that its theorems state. -/
import Derived.Test.YtkljbfejbakooaaGreatDoorS27
import Derived.Test.YtkljbfejbakooaaGreatDoorS30
set_option linter.unusedSimpArgs false
set_option linter.unusedVariables false
set_option maxHeartbeats 40000000
set_option maxRecDepth 4000
namespace Go.Proofs.YtkljbfejbakooaaGreatDoor
namespace Nd
open Go.Gar
open Wi (A2 B5 AU A5 B6 mC B7 Ad)
set_option maxRecDepth 100000
abbrev E9:List Nat:=[0,1,2,3,4,5,6,7,8,28,47,50]
theorem Rt(n:Node)(m:A2)(hw:Sp n)(hm:m.list.length<=9223372036854775807):qB 5 [n.d,m.d] (.b true):=by
 have cw:=fR;obtain⟨g,c1,hG⟩:=Ze n
 cases g with
 |true=>
  clear hG;refine zF A4 Tryz.func5 ?_;unfold Node.d Node.cells View.cells Calls.cells Job.cells Wi.A2.d Wi.A2.cells at *;refine wd E9 [] A0 (AX @c1 @cw) ?_;exact zE
 |false=>
 have hg:=hG rfl;clear hG;have c2:=Zp n (oj hg hw);have c3:=Wi.QV m hm
 cases hr:Ak n with
 |false=>
  rw[hr]at c2;refine zF A4 Tryz.func5 ?_;unfold Node.d Node.cells View.cells Calls.cells Job.cells Wi.A2.d Wi.A2.cells at *;refine wd E9 [] A0 (C3 @c1 @c2 @cw) ?_;exact zE
 |true=>
 rw[hr]at c2;have hN:=gbNb hg hw hr;clear hr hg hw
 cases hmr:m.right with
 |false=>
  rw[hmr]at c3;refine zF A4 Tryz.func5 ?_;unfold Node.d Node.cells View.cells Calls.cells Job.cells Wi.A2.d Wi.A2.cells at *;refine wd E9 [] A0 (Kl @c1 @c2 @c3 @cw) ?_;exact zE
 |true=>
 rw[hmr]at c3
 by_cases hd:m.dst=n.view.id
 .have f1:=A9 hd;have hl:m.list.length<9223372036854775807:=by have:=IF hmr;unfold AD at this;omega
  have c4:=iU m hl;have c5:=Jo n (B7 m).1 hN (QT hmr);have hT:=jN hN (B7 m).1;have c6:=Jo _ (B7 m).1 hT.1 (QT hmr);have c7:=eg _ hT.1.Fa;have c8:=Wi.Ld m
  cases ha:m.asks with
  |true=>
   obtain⟨t1,⟨x,t2,t3⟩,t4⟩:=aM hN hmr hd ha;rw[t1]at c6;rw[ha]at c8;generalize Cs n (B7 m).1=T at *;obtain⟨T1,T2⟩:=T;dsimp only at *;subst t2;have c9:=cp [x] sm;have f2:=A9 t3;have f3:=A9 (show(T1.calls.op.length:Int)=(n.calls.op.length:Int)by rw[t4]);have i1:[x][0]? =some x:=rfl;have f4:(([x].length:Nat):Int)==1:=rfl;clear t1 t4 hT hm hl ha hmr;generalize(B7 m).1=pb at *;refine zF A4 Tryz.func5 ?_;unfold Node.d Node.cells View.cells Calls.cells Job.cells Wi.A2.d Wi.A2.cells at *;refine wd E9 [3] (A6 f1) (C3 @c1 @c2 @c3) ?_;with_reducible repeat' first|constructor|intro hc;try simp only[AB]at hc
   refine wd E9 [4] A0 (AX @c4 @c5) ?_ [(0,7),(1,7)];refine wd E9 [5] A0 (AX @c4 @c6) ?_ [(0,7),(1,7)];have ix1:=i1;refine wd E9 [] (C3 f2 f3 f4) (Kl @c7 @c8 @c9 @cw) ?_;clear ix1;exact zE
  |false=>
   obtain⟨t1,t2⟩:=WJ hN hmr hd ha;rw[t1]at c6;rw[ha]at c8;generalize Cs n (B7 m).1=T at *;obtain⟨T1,T2⟩:=T;dsimp only at *;have f2:=A9 t2;clear t1 hT hm hl ha hmr;generalize(B7 m).1=pb at *;refine zF A4 Tryz.func5 ?_;unfold Node.d Node.cells View.cells Calls.cells Job.cells Wi.A2.d Wi.A2.cells at *;refine wd E9 [3] (A6 f1) (C3 @c1 @c2 @c3) ?_;with_reducible repeat' first|constructor|intro hc;try simp only[AB]at hc
   refine wd E9 [4] A0 (AX @c4 @c5) ?_ [(0,7),(1,7)];refine wd E9 [5] A0 (AX @c4 @c6) ?_ [(0,7),(1,7)];refine wd E9 [] (A6 f2) (C3 @c7 @c8 @cw) ?_;exact zE
 .have f1:=eq_false' hd;refine zF A4 Tryz.func5 ?_;unfold Node.d Node.cells View.cells Calls.cells Job.cells Wi.A2.d Wi.A2.cells at *;refine wd E9 [] (A6 f1) (Kl @c1 @c2 @c3 @cw) ?_;with_reducible repeat' first|constructor|intro hc;try simp only[AB]at hc
  exact zE
end Nd
end Go.Proofs.YtkljbfejbakooaaGreatDoor
