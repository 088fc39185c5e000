/- Part 39 of a proof. Conditions: those that its theorems state. -/
import Derived.Test.YtamjpnmjpponpaaGreatDoorC28
import Derived.Test.YtamjpnmjpponpaaGreatDoorC29
import Derived.Test.YtamjpnmjpponpaaGreatDoorC38
set_option linter.unusedSimpArgs false
set_option linter.unusedVariables false
set_option linter.unnecessarySimpa false
set_option maxHeartbeats 40000000
set_option maxRecDepth 4000
namespace Go.Proofs.YtamjpnmjpponpaaGreatDoor
namespace Nd
open Go.Gar
open Wi (AF BV B7 AU Bp mC Cp Bc)
abbrev DT:BF:=[0,1,2,3,5,6,7,8,9,10,16,17,24,42]
abbrev Oc:BF:=[0,1,2,3,4,5,6,7,8,13,18,19,20,21,39]
abbrev WL:BF:=[0,1,4,5,6,7,8,16,24]
theorem uR(n:AA)(AR:Int)(x:AS)(h:NB n)(hx:x.AI.length<=big):yS 102 [n.d,.i .u8 AR,x.d] (.tup [(Jl n AR x).1.1.d,Ab (Jl n AR x).1.2,.yX (Jl n AR x).2]):=by
 have c1:=BN n h.FG;have c2:=BO n h.FG;have c3:=Wi.LO x;have c4:=Sg n.AW;rw[h.r]at c2
 have hT:Jl n AR x=if Un AR x then(if Ku n.AW then(Em [] (Bq n 7 AR 0 x),0)else((n,[]),100))else((n,[]),2):=by
  unfold Jl;rw[h.r,q0A]
 rw[hT];clear hT;have hA:Un AR x=((decide (AR=2)&&B7 x)||(decide (AR=3)&&(decide ((x.AI.length:Int)>=1)&&decide ((x.AI.length:Int)<=20)))):=rfl;have c5:=SG n h.hok 7 AR 0 x hx;have c6:=OA n (Bq n 7 AR 0 x).1 [] (Bq n 7 AR 0 x).2 (h.start hx) (W3 _ _ _ _ _) (by have:=Pd n 7 AR 0 x;omega) (zi _);rw[show((Bq n 7 AR 0 x).1,(Bq n 7 AR 0 x).2)=Bq n 7 AR 0 x from rfl]at c6;generalize Bq n 7 AR 0 x=t at *;generalize Em [] t=u at *;obtain⟨t1,t2⟩:=t;dsimp only at c5 c6;refine zF AE Tryz.func102 ?_;unfold nH hC at c6;unfold AA.d AA.A4 AG.A4 Calls.A4 B9.d B9.A4 AS.d AS.A4 at*
 cases hq:Un AR x with
 |false=>
  rw[hA]at hq;rw[zx (by decide)]
  by_cases h2:AR=2
  .subst h2;have hi:B7 x=false:=by simpa using hq
   rw[hi]at c3;refine AO DT ?_ (CP @c1 @c2 @c3) [] [9];refine A9 DT ?_ [(2,5),(3,5)];exact zE
  .have f2:=eq_false' h2;rw[zQ h2,q0m,q0k]at hq
   by_cases h3:AR=3
   .subst h3;rw[zU rfl,q0A]at hq
    cases k1:decide ((x.AI.length:Int)>=1)with
    |false=>
     refine AJ DT ?_ (AK k1) (Au @c1 @c2) [] [9];refine A9 DT ?_ [(2,5),(3,5)];exact zE
    |true=>
     rw[k1,q0A]at hq;refine AJ DT ?_ (Au k1 hq) (Au @c1 @c2) [] [9];refine A9 DT ?_ [(2,5),(3,5)];exact zE
   .have f3:=eq_false' h3;refine AJ DT ?_ (Au f2 f3) (Au @c1 @c2) [] [9];refine A9 DT ?_ [(2,5),(3,5)];exact zE
 |true=>
  rw[hA]at hq;rw[zn rfl]
  have hw:(AR=2/\B7 x=true)\/(AR=3/\decide ((x.AI.length:Int)>=1)=true/\decide ((x.AI.length:Int)<=20)=true):=by
   simpa only[q0j,zO,zW]using hq
  clear hq hA
  cases hf:Ku n.AW with
  |false=>
   rw[hf]at c4;rw[zx (by decide)];rcases hw with⟨rfl,hi⟩|⟨rfl,k1,k2⟩
   .rw[hi]at c3;refine AO DT ?_ (ME @c1 @c2 @c3 @c4) [] [9];refine A9 DT ?_ [(2,5),(3,5)];exact zE
   .refine AJ DT ?_ (Au k1 k2) (CP @c1 @c2 @c4) [] [9];refine A9 DT ?_ [(2,5),(3,5)];exact zE
  |true=>
   rw[hf]at c4;rw[zn rfl];rcases hw with⟨rfl,hi⟩|⟨rfl,k1,k2⟩
   .rw[hi]at c3;refine AO DT ?_ (ME @c1 @c2 @c3 @c4) [] [8];refine BG (A8.ES 3 76 (.sl 3 []) rfl rfl rfl rfl (by simp[BM])) sm ?_;refine B6 DT ?_ (AK @c5) (BJ [3,4] c6) [] [9];refine A9 DT ?_ [(2,5),(3,5)];exact zE
   .refine AJ DT ?_ (Au k1 k2) (CP @c1 @c2 @c4) [] [8];refine BG (A8.ES 3 76 (.sl 3 []) rfl rfl rfl rfl (by simp[BM])) sm ?_;refine B6 DT ?_ (AK @c5) (BJ [3,4] c6) [] [9];refine A9 DT ?_ [(2,5),(3,5)];exact zE
theorem Xi(n:AA)(i:Nat)(x:AS)(r:List AS):FN n i (x::r)=if(Gl n.A7.id (n.Ac.Ad+1+i)).2=0 then GO (L3 n i x)++FN n (i+1) r else[]:=rfl
theorem mq(n:AA)(h:NB n):yS 121 [n.d] (Ab (GL n)):=by
 have c1:=BO n h.FG;have c2:=JX n.A7 h.hok.ok.vb h.hok.ok.vl;rw[h.r]at c1;have hT:GL n=FN n 0 n.keep:=by unfold GL;rw[zn h.r]
 rw[hT];have hM:∀(i:Nat)(x:AS),L3 n i x=⟨5,(Gl n.A7.id (n.Ac.Ad+1+i)).1,n.A7.id,FM n.A7,0,false,false,0,0,[],x,0⟩:=fun _ _=>rfl
 have hmany:0<=n.Ac.Ad/\n.Ac.Ad<=1048576:=by
  obtain⟨⟨_,a,b,_⟩,_⟩:=C0.1 h.cB.1;exact⟨a,b⟩
 have hkn:=h.FG.kn;generalize FM n.A7=fi at *;refine zF AE Tryz.func121 ?_;unfold AA.d AA.A4 AG.d AG.A4 Calls.A4 B9.A4 at *;refine AO Oc ?_ (Au @c1 @c2);refine BG (A8.ES 1 76 (.sl 3 []) rfl rfl rfl rfl (by simp[BM])) sm ?_;refine CM (fun s:Nat×List B0=>s.1<=n.keep.length/\s.2.length<=s.1/\s.2++FN n s.1 (n.keep.drop s.1)=FN n 0 n.keep) (fun s=>[(20,.yO s.1)]) (fun s=>[(1,.c (hC n (.sl 2 s.2.length 3))),(2,.a (Ab s.2))]) (fun s=>n.keep.length-s.1) (0,[]) ⟨zi _,zN _,rfl⟩ (fun _=>rfl) (fun _=>rfl) ?_ ?_
 .exact A8.ck rfl
 rintro⟨j,g⟩ ⟨hj,hg,he⟩;dsimp only at hj hg he
 by_cases hjl:j<n.keep.length
 .obtain⟨x,hx⟩:=Ah hjl;rw[q14 hjl,show n.keep[j]=x by rw[zV hjl]at hx;exact q1E hx,Xi]at he;have c3:=Ue n.A7.id (n.Ac.Ad+1+j);have hMj:=hM j x;generalize Gl n.A7.id (n.Ac.Ad+1+j)=q at *;obtain⟨q1,q2⟩:=q;dsimp only at c3 he hMj
  by_cases hq:q2=0
  .have f1:=AT hq;rw[zn hq]at he;rw[hMj]at he;have c4:=KB n g ⟨5,q1,n.A7.id,fi,0,false,false,0,0,[],x,0⟩ yR om;have hp:(GO ⟨5,q1,n.A7.id,fi,0,false,false,0,0,[],x,0⟩).length<=1:=by unfold GO;split<;>simp
   generalize GO ⟨5,q1,n.A7.id,fi,0,false,false,0,0,[],x,0⟩=p at *;unfold nH at c4;unfold Wi.AF.d Wi.AF.A4 at c4;have ix1:=hx;refine AJ Oc ?_ (AK f1) (AK @c3) [] [10];clear ix1;with_reducible repeat' first|constructor|intro hc
   have fd1:Dd (.tup [.yX 46,.agg [.i .u8 5,.yX q1,.yX n.A7.id,.yX fi,.yX 0,.b false,.b false,.yX 0,.yX 0,.is [],.s x.AI,.yX x.B4,.yX x.AZ,.b x.gone,.yX 0]]):=trivial;refine Ax Oc ?_ (BJ [1,2] c4);clear fd1;refine⟨(j+1,g++p),⟨hjl,by dsimp only;rw[q04];omega,by dsimp only;rw[q0Z];exact he⟩,by dsimp only;omega,zN _,?_⟩;exact A8.ck rfl
  .have f1:=eq_false' hq;rw[zx hq,q1U]at he;subst he;have ix1:=hx;refine AJ Oc ?_ (AK f1) (AK @c3);clear ix1;with_reducible repeat' first|constructor|intro hc
   exact zE
 .have e:j=n.keep.length:=om
  subst e;rw[List.drop_length]at he;have he:g=FN n 0 n.keep:=by rw[<-he];exact(q1U g).symm
  subst he;refine A9 Oc ?_;with_reducible repeat' first|constructor|intro hc
  exact zE
def EA(id:Int)(A6:Ai):AA×Int:=
 if(newT id A6).2=0 then(if BV id then(⟨(newT id A6).1,0,⟨id,0,[]⟩,[],0,0,IP,IP,IP,0,[],[],0⟩,0)else(⟨zeroV,0,⟨0,0,[]⟩,[],0,0,IP,IP,IP,0,[],[],0⟩,2))else(⟨zeroV,0,⟨0,0,[]⟩,[],0,0,IP,IP,IP,0,[],[],0⟩,2)
theorem dV(id:Int)(A6:Ai)(hb:A6.length<=1000):yS 20 [.yX id,.is A6] (.tup [(EA id A6).1.d,.yX (EA id A6).2]):=by
 have c1:=tZ id A6 hb;have c2:=qU id;have hT:EA id A6=if(newT id A6).2=0 then(if BV id then(⟨(newT id A6).1,0,⟨id,0,[]⟩,[],0,0,IP,IP,IP,0,[],[],0⟩,0)else(⟨zeroV,0,⟨0,0,[]⟩,[],0,0,IP,IP,IP,0,[],[],0⟩,2))else(⟨zeroV,0,⟨0,0,[]⟩,[],0,0,IP,IP,IP,0,[],[],0⟩,2):=rfl
 rw[hT];clear hT;generalize newT id A6=v at *;obtain⟨v,e⟩:=v;dsimp only at *;refine zF AE Tryz.func20 ?_;unfold AG.d AG.A4 at c1
 by_cases he:e=0
 .have f1:=AT he;rw[zn he]
  cases hp:BV id with
  |true=>
   rw[hp]at c2;simp only[q0X,Calls.d,Calls.A4]at c2;rw[zn rfl];refine AJ WL ?_ (AK f1) (Au @c1 @c2);with_reducible repeat' first|constructor|intro hc
   exact BW (zh @AA.d.eq_1 (zh @AA.A4.eq_1 (zh @AG.A4.eq_1 (zh @Calls.A4.eq_1 (zh @B9.A4.eq_1 @An.eq_1)))))
  |false=>
   rw[hp]at c2;simp only[q0E,q0U,Calls.d,Calls.A4]at c2;rw[zx (by decide)];refine AJ WL ?_ (AK f1) (Au @c1 @c2);with_reducible repeat' first|constructor|intro hc
   exact BW (zh @AA.d.eq_1 (zh @AA.A4.eq_1 (zh @AG.A4.eq_1 (zh @Calls.A4.eq_1 (zh @B9.A4.eq_1 (zh @An.eq_1 @zeroV.eq_1))))))
 .have f1:=eq_false' he;rw[zx he];refine AJ WL ?_ (AK f1) (AK @c1);with_reducible repeat' first|constructor|intro hc
  exact BW (zh @AA.d.eq_1 (zh @AA.A4.eq_1 (zh @AG.A4.eq_1 (zh @Calls.A4.eq_1 (zh @B9.A4.eq_1 (zh @An.eq_1 @zeroV.eq_1))))))
end Nd
end Go.Proofs.YtamjpnmjpponpaaGreatDoor
