/- Part 50 of a proof. Conditions: those that its theorems state. -/
import Derived.Test.YtkljbfejbakooaaGreatDoorT35
import Derived.Test.YtkljbfejbakooaaGreatDoorT36
set_option linter.unusedSimpArgs false
set_option linter.unusedVariables false
set_option linter.unnecessarySimpa false
set_option maxHeartbeats 40000000
set_option maxRecDepth 4000
namespace Go.Proofs.YtkljbfejbakooaaGreatDoor
namespace Nd
open Go.Gar
open Wi (AC Bp BE AN Bc mC C6 BP)
abbrev DZ:Aw:=[0,1,2,3,5,6,7,8,9,10,16,17,24,42]
abbrev Ql:Aw:=[0,1,2,3,4,5,6,7,8,13,18,19,20,21,39]
theorem s7(n:AA)(AL:Int)(x:AK)(h:NB n)(hx:x.AH.length<=big):xB 13 [n.d,.i .u8 AL,x.d] (.tup [(OW n AL x).1.1.d,GZ (OW n AL x).1.2,.i .i64 (OW n AL x).2]):=by
 have c1:=Ay n h.FV;have c2:=Ar n h.FV;have c3:=Wi.LO x;have c4:=SB n.Ah;rw[h.r]at c2
 have hT:OW n AL x=if UY AL x then(if Ko n.Ah then(Ei [] (Bh n 7 AL 0 x),0)else((n,[]),100))else((n,[]),2):=by
  unfold OW;rw[h.r,yF]
 rw[hT];clear hT;have hA:UY AL x=((decide (AL=2)&&BE x)||(decide (AL=3)&&(decide ((x.AH.length:Int)>=1)&&decide ((x.AH.length:Int)<=20)))):=rfl;have c5:=Re n h.hok 7 AL 0 x hx;have c6:=O3 n (Bh n 7 AL 0 x).1 [] (Bh n 7 AL 0 x).2 (h.start hx) (Vs _ _ _ _ _) (by have:=PQ n 7 AL 0 x;omega) (xQ _);rw[show((Bh n 7 AL 0 x).1,(Bh n 7 AL 0 x).2)=Bh n 7 AL 0 x from rfl]at c6;generalize Bh n 7 AL 0 x=t at *;generalize Ei [] t=u at *;obtain⟨t1,t2⟩:=t;dsimp only at c5 c6;refine zF AF Tryz.func13 ?_;unfold nH hC at c6;unfold AA.d AA.A0 AD.A0 Calls.A0 An.d An.A0 AK.d AK.A0 at*
 cases hq:UY AL x with
 |false=>
  rw[hA]at hq;rw[if_neg (by decide)]
  by_cases h2:AL=2
  .subst h2;have hi:BE x=false:=by simpa using hq
   rw[hi]at c3;refine wd DZ [9] A4 (Ci @c1 @c2 @c3) ?_ [] true;refine wd DZ [] A4 A4 ?_ [(2,5),(3,5)] true;exact zE
  .have f2:=eq_false' h2;rw[xO h2,zN,zJ]at hq
   by_cases h3:AL=3
   .subst h3;rw[xM rfl,yF]at hq
    cases k1:decide ((x.AH.length:Int)>=1)with
    |false=>
     refine wd DZ [9] (AM k1) (Ax @c1 @c2) ?_ [] true;refine wd DZ [] A4 A4 ?_ [(2,5),(3,5)] true;exact zE
    |true=>
     rw[k1,yF]at hq;refine wd DZ [9] (Ax k1 hq) (Ax @c1 @c2) ?_ [] true;refine wd DZ [] A4 A4 ?_ [(2,5),(3,5)] true;exact zE
   .have f3:=eq_false' h3;refine wd DZ [9] (Ax f2 f3) (Ax @c1 @c2) ?_ [] true;refine wd DZ [] A4 A4 ?_ [(2,5),(3,5)] true;exact zE
 |true=>
  rw[hA]at hq;rw[if_pos rfl]
  have hw:(AL=2/\BE x=true)\/(AL=3/\decide ((x.AH.length:Int)>=1)=true/\decide ((x.AH.length:Int)<=20)=true):=by
   simpa only[yL,xI,xK]using hq
  clear hq hA
  cases hf:Ko n.Ah with
  |false=>
   rw[hf]at c4;rw[if_neg (by decide)];rcases hw with⟨rfl,hi⟩|⟨rfl,k1,k2⟩
   .rw[hi]at c3;refine wd DZ [9] A4 (KQ @c1 @c2 @c3 @c4) ?_ [] true;refine wd DZ [] A4 A4 ?_ [(2,5),(3,5)] true;exact zE
   .refine wd DZ [9] (Ax k1 k2) (Ci @c1 @c2 @c4) ?_ [] true;refine wd DZ [] A4 A4 ?_ [(2,5),(3,5)] true;exact zE
  |true=>
   rw[hf]at c4;rw[if_pos rfl];rcases hw with⟨rfl,hi⟩|⟨rfl,k1,k2⟩
   .rw[hi]at c3;refine wd DZ [8] A4 (KQ @c1 @c2 @c3 @c4) ?_ [] true;refine BC (A6.EO 3 76 (.sl 3 []) rfl rfl rfl rfl (by simp[B0])) sm ?_;have d1:=Ds.mk [3,4] (c6);refine wd DZ [9] A4 (AM @c5) ?_ [] true;clear d1;refine wd DZ [] A4 A4 ?_ [(2,5),(3,5)] true;exact zE
   .refine wd DZ [8] (Ax k1 k2) (Ci @c1 @c2 @c4) ?_ [] true;refine BC (A6.EO 3 76 (.sl 3 []) rfl rfl rfl rfl (by simp[B0])) sm ?_;have d1:=Ds.mk [3,4] (c6);refine wd DZ [9] A4 (AM @c5) ?_ [] true;clear d1;refine wd DZ [] A4 A4 ?_ [(2,5),(3,5)] true;exact zE
theorem XP(n:AA)(i:Nat)(x:AK)(r:List AK):Fb n i (x::r)=if(Gx n.A7.id (n.AX.AU+1+i)).2=0 then GG (L1 n i x)++Fb n (i+1) r else[]:=rfl
theorem lA(n:AA)(h:NB n):xB 15 [n.d] (GZ (Iz n)):=by
 have c1:=Ar n h.FV;have c2:=JZ n.A7 h.hok.ok.vb h.hok.ok.vl;rw[h.r]at c1;have hT:Iz n=Fb n 0 n.keep:=by unfold Iz;rw[if_pos h.r]
 rw[hT];have hM:∀(i:Nat)(x:AK),L1 n i x=⟨5,(Gx n.A7.id (n.AX.AU+1+i)).1,n.A7.id,FK n.A7,0,false,false,0,0,[],x,0⟩:=fun _ _=>rfl
 have hmany:0<=n.AX.AU/\n.AX.AU<=1048576:=by
  obtain⟨⟨_,a,b,_⟩,_⟩:=Bz.1 h.cB.1;exact⟨a,b⟩
 have hkn:=h.FV.kn;generalize FK n.A7=fi at *;refine zF AF Tryz.func15 ?_;unfold AA.d AA.A0 AD.d AD.A0 Calls.A0 An.A0 at *;refine wd Ql [] A4 (Ax @c1 @c2) ?_;refine BC (A6.EO 1 76 (.sl 3 []) rfl rfl rfl rfl (by simp[B0])) sm ?_;refine Ct (fun s:Nat×List Dp=>s.1<=n.keep.length/\s.2.length<=s.1/\s.2++Fb n s.1 (n.keep.drop s.1)=Fb n 0 n.keep) (fun s=>[(20,.wo s.1)]) (fun s=>[(1,.c (hC n (.sl 2 s.2.length 3))),(2,.a (GZ s.2))]) (fun s=>n.keep.length-s.1) (0,[]) ⟨xQ _,xH _,rfl⟩ (fun _=>rfl) (fun _=>rfl) ?_ ?_
 .exact A6.ck rfl
 rintro⟨j,g⟩ ⟨hj,hg,he⟩;dsimp only at hj hg he
 by_cases hjl:j<n.keep.length
 .obtain⟨x,hx⟩:=BB hjl;rw[zS hjl,show n.keep[j]=x by rw[xP hjl]at hx;exact q0A hx,XP]at he;have c3:=UL n.A7.id (n.AX.AU+1+j);have hMj:=hM j x;generalize Gx n.A7.id (n.AX.AU+1+j)=q at *;obtain⟨q1,q2⟩:=q;dsimp only at c3 he hMj
  by_cases hq:q2=0
  .have f1:=AS hq;rw[if_pos hq]at he;rw[hMj]at he;have c4:=QY n g ⟨5,q1,n.A7.id,fi,0,false,false,0,0,[],x,0⟩ xA om;have hp:(GG ⟨5,q1,n.A7.id,fi,0,false,false,0,0,[],x,0⟩).length<=1:=by unfold GG;split<;>simp
   generalize GG ⟨5,q1,n.A7.id,fi,0,false,false,0,0,[],x,0⟩=p at *;unfold nH at c4;unfold Wi.AC.d Wi.AC.A0 at c4;have ix1:=hx;refine wd Ql [10] (AM f1) (AM @c3) ?_;clear ix1;with_reducible repeat' first|constructor|intro hc
   have nS:=zl
   repeat'(first|((with_reducible refine sg ?_);first|with_reducible rfl|((with_reducible refine Pz ?_);first|kernel_rfl|rfl|(simp[GX,JI,nS];done))|with_reducible refine Ki ?_ ?_|with_reducible exact zn _|with_reducible exact E4 _|((with_reducible refine xM ?_);first|omega|(simp only[KZ,nS];omega))|decide|(simp[KZ,slc,DF,D.one,FE,AV.one,nS];done)|(simp[KZ,nS];omega))|((with_reducible refine kI ?_);first|refine Xfd 46 (.agg [.i .u8 5,.i .i64 q1,.i .i64 n.A7.id,.i .i64 fi,.i .i64 0,.b false,.b false,.i .i64 0,.i .i64 0,.is [],.s x.AH,.i .i64 x.B2,.i .i64 x.AZ,.b x.gone,.i .i64 0]) rfl rfl (by first|(simp[MO,EE,Cq,Bd,BK,B0];done)|(repeat'(first|rfl|trivial|refine⟨rfl,rfl,by simp[B0]⟩|refine⟨_,_,rfl,?_,?_⟩|refine⟨_,rfl,?_⟩))) rfl ?_|(refine Fy rfl ?_;refine ic AF rfl rfl rfl rfl ?_)|refine Xq AF rfl rfl rfl rfl ?_ ?_|refine Xn [0,1,2,3,4,5,6,7,8,13,18,19,20,21,39] rfl ?_|refine XD [1,2] (c4) rfl rfl rfl ⟨rfl,rfl,trivial⟩ rfl rfl rfl rfl ?_|refine Xa AF rfl rfl rfl rfl rfl ?_ ?_|refine Xw AF rfl rfl rfl rfl ?_ ?_)|refine J6 ?_|refine EW ?_|refine GV ?_|refine J5 ?_|refine F0 ?_|refine GU ?_|refine E1 rfl ?_|refine E0 rfl ?_|(refine GT rfl (fun hc=> ?_) (fun hc=> ?_)<;>(try simp only[Pu]at hc)<;>(try(exfalso;omega))))
   refine⟨(j+1,g++p),⟨hjl,by dsimp only;rw[y9];omega,by dsimp only;rw[yB];exact he⟩,by dsimp only;omega,xH _,?_⟩;exact A6.ck rfl
  .have f1:=eq_false' hq;rw[if_neg hq,yK]at he;subst he;have ix1:=hx;refine wd Ql [] (AM f1) (AM @c3) ?_;clear ix1;with_reducible repeat' first|constructor|intro hc
   exact zE
 .have e:j=n.keep.length:=om
  subst e;rw[List.drop_length]at he;have he:g=Fb n 0 n.keep:=by rw[<-he];exact(yK g).symm
  subst he;refine wd Ql [] A4 A4 ?_;with_reducible repeat' first|constructor|intro hc
  exact zE
end Nd
end Go.Proofs.YtkljbfejbakooaaGreatDoor
