/- Part 37 of a proof. Conditions: those that its theorems state. -/
import Derived.Test.YtkljbfejbakooaaGreatDoorT35
import Derived.Test.YtkljbfejbakooaaGreatDoorT36
set_option linter.unusedSimpArgs false
set_option linter.unusedVariables false
set_option maxHeartbeats 40000000
set_option maxRecDepth 4000
namespace Go.Proofs.YtkljbfejbakooaaGreatDoor
namespace Nd
open Go.Gar
open Wi (AC Bp BE AN Bc mC C6 BP)
abbrev MC:Aw:=[0,1,2,3,4,5,11,34]
abbrev tH(n:AA)(g:List Dp):xS:=[.c (hC n (.sl 1 g.length 3)),.a (GZ g),.c [.ptr 0 0 77],.c [.ptr 0 0 77]]
abbrev tFs:xD:=[.fn (.func 105) [] [.ptr 3 0 1],.fn (.func 106) [.ptr 0 0 77] [],.fn (.func 107) [] [.ptr 3 0 1,.ptr 2 0 1],.fn (.func 109) [] [.ptr 3 0 1,.ptr 2 0 1],.fn (.func 112) [] [.ptr 3 0 1,.ptr 2 0 1],.fn (.func 114) [] [.ptr 3 0 1,.ptr 2 0 1]]
theorem nV(n:AA)(g:List Dp):xC 42 [.ptr 0 0 77] (nH n g) (.bs 4 0 6 1 6) (tH n g++[.c tFs]):=by
 refine zC AF Tryz.func42 ?_;unfold nH tH;simp only[xX,xY];refine wd [0,1,2,3] [] A4 A4 ?_;exact Hc
theorem nP(n:AA)(g:List Dp)(h0:0<=n.Aj)(h1:n.Aj<1099511627776):xC 105 [.ptr 3 0 1] (tH n g) (.tup []) (tH {n with Aj:=n.Aj+1} g):=by
 refine zC AF Tryz.func105 ?_;unfold tH hC;refine wd [0] [] A4 A4 ?_;exact Hc
theorem nQ(n:AA)(g:List Dp)(h:NB n)(hg:g.length<=900000):xC 107 [.ptr 3 0 1,.ptr 2 0 1] (tH n g) (.tup []) (tH (K5 (n,g)).1 (K5 (n,g)).2):=by
 have hok:=h.hok;have c1:=jH n.A7 n.A5 n.B8 hok.ok.vb hok.ok.vl hok.h0;have hs:=Me h.rv (Aq.1 h.r).2.2.2.2.2.1 h.ph;have hb:=oO n.A7 n.A5 n.B8;have hf:=dm n.A7 n.A5 n.B8;have hT:K5 (n,g)=FC ({n with A5:=(Cc n.A7 n.A5 n.B8).1.1,B8:=(Cc n.A7 n.A5 n.B8).1.2},g) (Cc n.A7 n.A5 n.B8).2:=rfl;rw[hT];clear hT;generalize Cc n.A7 n.A5 n.B8=b at *;obtain⟨⟨b1,b2⟩,l⟩:=b;dsimp only at *;have c2:=VX {n with A5:=b1,B8:=b2} g l (h.tx hs.1 hs.2) hb om om;generalize FC ({n with A5:=b1,B8:=b2},g) l=t at *;refine zC AF Tryz.func107 ?_;unfold AD.d AD.A0 at c1;unfold nH at c2;unfold tH hC;have d1:=Ds.mk [0,1] (c2);refine wd [0,1,2,3] [] A4 (AM @c1) ?_ [(0,12),(1,12),(2,12),(3,12),(4,12),(5,12),(6,12),(7,12)];clear d1;exact Hc
theorem nR(n:AA)(g:List Dp)(h:NB n)(hg:g.length<=900000):xC 109 [.ptr 3 0 1,.ptr 2 0 1] (tH n g) (.tup []) (tH (LA (n,g)).1 (LA (n,g)).2):=by
 have hok:=h.hok;have c1:=mV n.A7 hok.ok.vb hok.ok.vl;have c2:=jN n.AX 4 hok.ok.cl hok.ok.cn;have hT:LA (n,g)=if(Pn n.A7).2&& !(NP n.AX 4).2 then FC (n,g) [(⟨2,0,0,(Pn n.A7).1,0,false,false,0,0,[],AY,0⟩,4)]else(n,g):=rfl
 rw[hT];clear hT;generalize Pn n.A7=a at *;generalize NP n.AX 4=f at *;obtain⟨a1,a2⟩:=a;obtain⟨x,f2⟩:=f;dsimp only at *;have c3:=VX n g [(⟨2,0,0,a1,0,false,false,0,0,[],AY,0⟩,4)] h (by unfold MP;simp) sm om;refine zC AF Tryz.func109 ?_;generalize FC (n,g) [(⟨2,0,0,a1,0,false,false,0,0,[],AY,0⟩,4)]=t at *;unfold AD.d AD.A0 at c1;unfold Calls.d Calls.A0 AW.d AW.A0 at c2;unfold nH at c3;simp only[zA,q0F,Ab,DC]at c3
 cases a2 with
 |false=>
  unfold tH hC;refine wd [0,1,2,3,5,26] [] A4 (Ax @c1 @c2) ?_;exact Hc
 |true=>
 cases f2 with
 |true=>
  unfold tH hC;refine wd [0,1,2,3,5,26] [] A4 (Ax @c1 @c2) ?_;exact Hc
 |false=>
  rw[if_pos (show(true&& !false)=true from rfl)];unfold tH hC;refine wd [0,1,2,3,5,26] [3] A4 (Ax @c1 @c2) ?_;have nS:=zl
  repeat'(first|((with_reducible refine sg ?_);first|with_reducible rfl|((with_reducible refine Pz ?_);first|kernel_rfl|rfl|(simp[GX,JI,nS];done))|with_reducible refine Ki ?_ ?_|with_reducible exact zn _|with_reducible exact E4 _|((with_reducible refine xM ?_);first|omega|(simp only[KZ,nS];omega))|decide|(simp[KZ,slc,DF,D.one,FE,AV.one,nS];done)|(simp[KZ,nS];omega))|((with_reducible refine kI ?_);first|refine Xfd 29 (.agg [.i .u8 2,.i .i64 0,.i .i64 0,.i .i64 a1,.i .i64 0,.b false,.b false,.i .i64 0,.i .i64 0,.is [],.s [],.i .i64 0,.i .i64 0,.b false,.i .i64 0]) rfl rfl (by first|(simp[MO,EE,Cq,Bd,BK,B0];done)|(repeat'(first|rfl|trivial|refine⟨rfl,rfl,by simp[B0]⟩|refine⟨_,_,rfl,?_,?_⟩|refine⟨_,rfl,?_⟩))) rfl ?_|(refine Fy rfl ?_;refine ic AF rfl rfl rfl rfl ?_)|refine Xq AF rfl rfl rfl rfl ?_ ?_|refine Xn [0,1,2,3,5,26] rfl ?_|refine XD [0,1] (c3) rfl rfl rfl ⟨rfl,rfl,trivial⟩ rfl rfl rfl rfl ?_|refine Xa AF rfl rfl rfl rfl rfl ?_ ?_|refine Xw AF rfl rfl rfl rfl ?_ ?_|refine Xs rfl rfl rfl ?_|(refine Yk rfl rfl (fun hc=> ?_) (fun hc=> ?_)<;>(fail_if_success (with_reducible first|exact tF hc|exact fT hc))<;>(try simp only[Pu]at hc)<;>(try(exfalso;omega))))|refine J6 ?_|refine EW ?_|refine GV ?_|refine J5 ?_|refine F0 ?_|refine GU ?_|refine E1 rfl ?_|refine E0 rfl ?_|(refine GT rfl (fun hc=> ?_) (fun hc=> ?_)<;>(try simp only[Pu]at hc)<;>(try(exfalso;omega))))
  exact Hc
theorem nT(n:AA)(g:List Dp)(h:NB n)(hg:g.length<=900000):xC 112 [.ptr 3 0 1,.ptr 2 0 1] (tH n g) (.tup []) (tH (G9 (n,g)).1 (G9 (n,g)).2):=by
 have hok:=h.hok;have c1:=SB n.AP;have c2:=js n.A7 n.next hok.ok.vb hok.ok.vl;have hw:=Vy h.rv n.next;have hT:G9 (n,g)=if Ko n.AP then(if(walkT n.A7 n.next).2.2.2 then Ei g (Bh {n with A7:=(walkT n.A7 n.next).1,next:=(walkT n.A7 n.next).2.1} 5 1 (walkT n.A7 n.next).2.2.1 AY)else({n with A7:=(walkT n.A7 n.next).1,next:=(walkT n.A7 n.next).2.1},g))else(n,g):=rfl
 rw[hT];clear hT;generalize walkT n.A7 n.next=w at *;obtain⟨w1,w2,w3,w4⟩:=w;dsimp only at *;unfold An.d An.A0 at c1;unfold AD.d AD.A0 at c2;refine zC AF Tryz.func112 ?_
 cases hfr:Ko n.AP with
 |false=>
  rw[hfr]at c1;unfold tH hC;refine wd MC [] A4 (AM @c1) ?_;exact Hc
 |true=>
 rw[hfr]at c1;have hN:NB {n with A7:=w1,next:=w2}:=h.A7 hw.1 hw.2.2
 cases w4 with
 |false=>
  unfold tH hC;refine wd MC [2] A4 (Ax @c1 @c2) ?_ [(0,14),(1,14),(2,14),(3,14),(4,14),(5,14),(6,14),(7,14)];refine wd MC [] A4 A4 ?_ [(1,6)];exact Hc
 |true=>
  rw[if_pos rfl,if_pos rfl];have c3:=Re {n with A7:=w1,next:=w2} hN.hok 5 1 w3 AY (xQ _);have c4:=O3 {n with A7:=w1,next:=w2} (Bh {n with A7:=w1,next:=w2} 5 1 w3 AY).1 g (Bh {n with A7:=w1,next:=w2} 5 1 w3 AY).2 (hN.start (xQ _)) (Vs _ _ _ _ _) (by have:=PQ {n with A7:=w1,next:=w2} 5 1 w3 AY;omega) om;rw[show((Bh {n with A7:=w1,next:=w2} 5 1 w3 AY).1,(Bh {n with A7:=w1,next:=w2} 5 1 w3 AY).2)=Bh {n with A7:=w1,next:=w2} 5 1 w3 AY from rfl]at c4;generalize Bh {n with A7:=w1,next:=w2} 5 1 w3 AY=t at *;generalize Ei g t=u at *;obtain⟨t1,t2⟩:=t;dsimp only at c3 c4;unfold nH hC at c4;unfold AA.d AA.A0 AD.A0 Calls.A0 An.A0 at c3 c4;unfold AY AK.d AK.A0 at c3;unfold tH hC;refine wd MC [2] A4 (Ax @c1 @c2) ?_ [(0,14),(1,14),(2,14),(3,14),(4,14),(5,14),(6,14),(7,14)];refine wd MC [4] A4 A4 ?_ [(1,6)];have d1:=Ds.mk [0,1] (c4);refine wd MC [] A4 (AM @c3) ?_;clear d1;exact Hc
theorem nU(n:AA)(g:List Dp)(h:NB n)(hg:g.length<=900000):xC 114 [.ptr 3 0 1,.ptr 2 0 1] (tH n g) (.tup []) (tH (Hh (n,g)).1 (Hh (n,g)).2):=by
 have hok:=h.hok;have c1:=SB n.Ai;have c2:=ko n.keep n.last hok.ok.kn;have hx:(Fi n.keep n.last).2=true->(Fi n.keep n.last).1.AH.length<=20:=fun e=>Rj (QS e).1 (QS e).2
 have hT:Hh (n,g)=if Ko n.Ai&&(Fi n.keep n.last).2 then Ei g (Bh {n with last:=(Fi n.keep n.last).1.AH} 6 2 0 (Fi n.keep n.last).1)else(n,g):=rfl
 rw[hT];clear hT;generalize Fi n.keep n.last=w at *;obtain⟨x,w2⟩:=w;dsimp only at *;unfold An.d An.A0 at c1;unfold AK.d AK.A0 at c2;refine zC AF Tryz.func114 ?_
 cases hfr:Ko n.Ai with
 |false=>
  rw[hfr]at c1;unfold tH hC;refine wd [0,1,2,3,9,22] [] A4 (AM @c1) ?_;exact Hc
 |true=>
 rw[hfr]at c1
 cases w2 with
 |false=>
  unfold tH hC;refine wd [0,1,2,3,9,22] [] A4 (Ax @c1 @c2) ?_ [(0,12),(1,12),(2,12),(3,12),(4,12),(5,12),(6,12),(7,12)];exact Hc
 |true=>
  rw[yF,if_pos rfl];have hx:=hx rfl;have hN:NB {n with last:=x.AH}:=h.last x.AH;have c3:=Re {n with last:=x.AH} hN.hok 6 2 0 x om;have c4:=O3 {n with last:=x.AH} (Bh {n with last:=x.AH} 6 2 0 x).1 g (Bh {n with last:=x.AH} 6 2 0 x).2 (hN.start (zB hx (by decide))) (Vs _ _ _ _ _) (by have:=PQ {n with last:=x.AH} 6 2 0 x;omega) om;rw[show((Bh {n with last:=x.AH} 6 2 0 x).1,(Bh {n with last:=x.AH} 6 2 0 x).2)=Bh {n with last:=x.AH} 6 2 0 x from rfl]at c4;generalize Bh {n with last:=x.AH} 6 2 0 x=t at *;generalize Ei g t=u at *;obtain⟨t1,t2⟩:=t;dsimp only at c3 c4;unfold nH hC at c4;unfold AA.d AA.A0 AD.A0 Calls.A0 An.A0 at c3 c4;unfold AK.d AK.A0 at c3;unfold tH hC;refine wd [0,1,2,3,9,22] [3] A4 (Ax @c1 @c2) ?_ [(0,12),(1,12),(2,12),(3,12),(4,12),(5,12),(6,12),(7,12)];have d1:=Ds.mk [0,1] (c4);refine wd [0,1,2,3,9,22] [] A4 (AM @c3) ?_;clear d1;exact Hc
abbrev OK:Aw:=[0,1,2,3,4,6,17,18,19,20,21]
theorem sE{n:AA}(h:NB n):0<=n.Aj:=(Aq.1 h.r).1.1
theorem dL(n:AA)(h:NB n):xB 11 [n.d] (.tup [(GP n).1.d,GZ (GP n).2]):=by
 have c1:=Ay n h.FV;have c2:=Ar n h.FV;rw[h.r]at c2;refine zF AF Tryz.func11 ?_
 by_cases hc:n.Aj>=1099511627776
 .have f1:=xM hc;have hT:GP n=(n,[]):=by unfold GP;rw[if_pos (.inl hc)]
  rw[hT];unfold AA.d AA.A0 AD.A0 Calls.A0 An.A0 at *;refine wd OK [8] (AM f1) (AM @c1) ?_ [] true;refine wd OK [] A4 A4 ?_ [(2,4),(3,4)] true;exact zE
 .have f1:=xO hc
  have hT:GP n=Hh (G9 (LA (K5 (L0 ({n with Aj:=n.Aj+1},[]))))):=by
   unfold GP;rw[if_neg (fun q=>q.elim hc (fun e=>by rw[h.r]at e;cases e))]
  rw[hT];clear hT;have b0:=h.Aj om;have w1:=nP n [] (sE h) om;obtain⟨M,hM⟩:∃M:AA,M={n with Aj:=n.Aj+1}:=⟨_,rfl⟩;rw[<-hM]at w1 b0|-;have b1:=(S6 (s:=({M with AX:=(CH M.AX M.Aj).1},Io [] (CH M.AX M.Aj).2.1)) (b0.late M.Aj) (CH M.AX M.Aj).2.2);rw[<-cM]at b1;have w2:=pL M [] b0 (xQ _)
  have b1s:(L0 (M,[])).2.length<=100:=by
   have:=Ln (CH M.AX M.Aj).2.1 [];have:=(Rp b0).2.1;have:=b1.2;simp only[yI]at *;omega
  replace b1:=b1.1;generalize L0 (M,[])=s1 at *;obtain⟨n1,g1⟩:=s1;dsimp only at b1 b1s w2;have w3:=nQ n1 g1 b1 om;have b2:=Vm (s:=(n1,g1)) b1;generalize K5 (n1,g1)=s2 at *;obtain⟨n2,g2⟩:=s2;have z2:=b2.size;replace b2:=b2.nb;dsimp only at b2 z2 w3;have w4:=nR n2 g2 b2 om;have b3:=Zv (s:=(n2,g2)) b2;generalize LA (n2,g2)=s3 at *;obtain⟨n3,g3⟩:=s3;have z3:=b3.size;replace b3:=b3.nb;dsimp only at b3 z3 w4;have w5:=nT n3 g3 b3 om;have b4:=RU (s:=(n3,g3)) b3;generalize G9 (n3,g3)=s4 at *;obtain⟨n4,g4⟩:=s4;have z4:=b4.size;replace b4:=b4.nb;dsimp only at b4 z4 w5;have w6:=nU n4 g4 b4 om;generalize Hh (n4,g4)=s5 at *;obtain⟨n5,g5⟩:=s5;dsimp only at w6|-;have w0:=nV n [];clear b0 b1 b2 b3 b4 b1s z2 z3 z4 hM;unfold nH at w0 w2;unfold tH at *;simp only[xX,xY]at w0;unfold AA.d AA.A0 AD.A0 Calls.A0 An.A0 at *;refine wd OK [3] (AM f1) (Ax @c1 @c2) ?_ [] true;refine BC (A6.EO 2 76 (.sl 3 []) rfl rfl rfl rfl (by simp[B0])) sm ?_;have un:No 7:=trivial;have d1:=Ds.mk [2,3] (w0);have d2:=Ds.mk [2,3,4,5] (w1);have d3:=Ds.mk [2,3] (w2);have d4:=Ds.mk [2,3,4,5] (w3);have d5:=Ds.mk [2,3,4,5] (w4);have d6:=Ds.mk [2,3,4,5] (w5);have d7:=Ds.mk [2,3,4,5] (w6);refine wd OK [8] A4 A4 ?_ [] true;clear d7 d6 d5 d4 d3 d2 d1 un;refine wd OK [] A4 A4 ?_ [(2,4),(3,4)] true;exact zE
end Nd
end Go.Proofs.YtkljbfejbakooaaGreatDoor
