/- Part 24 of a proof. Conditions: those that its theorems state. -/
import Derived.Test.YtkljbfejbakooaaGreatDoorT17
import Derived.Test.YtkljbfejbakooaaGreatDoorT19
set_option linter.unusedSimpArgs false
set_option linter.unusedVariables false
set_option maxHeartbeats 40000000
set_option maxRecDepth 4000
namespace Go.Proofs.YtkljbfejbakooaaGreatDoor
namespace Nd
open Go.Gar
open Wi (AC Bp BE AN Bc mC)
abbrev Iq:Aw:=[0,1,2,3,4,5,6,7,8,9,10,28,33,60]
abbrev OA:Aw:=[0,1,2,3,4,6,7,15,27]
theorem XU(v:AD)(l:Ad):(DY v l).AB.length=v.AB.length/\(DY v l).A8.length<=v.A8.length+l.length:=by
 unfold DY;split
 .exact⟨rfl,Nat.le_add_left _ _⟩
 .exact⟨rfl,Nat.le_add_right _ _⟩
theorem aI{v:AD}(h:Al v=true):v.AB.length<=4/\v.A8.length<=3:=by
 obtain⟨-,h2,h3,-,-⟩:=Cw h;unfold Cl at h2;unfold CO at h3;simp only[xI,xK]at h2 h3;exact⟨h2.1.2,h3.1⟩
theorem gQ(v:AD)(A5 B8:Int)(m:AC)(h0:0<=A5)(hb:v.AB.length<=1000)(hl:v.A8.length<=1000)(hm:Am m):
  xB 129 [v.d,.agg [.i .u8 A5,.i .i64 B8],m.d] (.tup [(Cb v A5 B8 m).1.A7.d,.agg [.i .u8 (Cb v A5 B8 m).1.A5,.i .i64 (Cb v A5 B8 m).1.B8],Ab (Cb v A5 B8 m).2]):=by
 have c1:=Hk v om om;have c2:=BV v hb hl;have c3:=Qa A5 B8;have hst:=dN (v:=v) (A5:=A5) (B8:=B8) (m:=m)
 have hT:Cb v A5 B8 m=if Al v&&(CZ A5 B8&&Uf v A5 B8 m)then
  (if A5=3 then(⟨v,0,0⟩,[])else if A5=1/\m.AG≠ -1/\Ee v.id m.AG m.As=true then(⟨DY v (HQ v.id m.As m.A8),2,m.AG⟩,GK 2 m.AG)else(⟨DY v (HQ v.id m.As m.A8),3,FK (DY v (HQ v.id m.As m.A8))⟩,GK 3 (FK (DY v (HQ v.id m.As m.A8)))))else(⟨v,A5,B8⟩,[]):=rfl
 refine zF AF Tryz.func129 ?_
 cases h1:Al v with
 |false=>
  rw[h1]at c2 hT;rw[hT];clear hT hst;obtain⟨id,AB,A8,AG,f⟩:=v;unfold Wi.AC.d Wi.AC.A0;refine wd Iq [] A4 (Ax @c1 @c2) ?_ [(1,2)] true;exact BL (xU @AD.d.eq_1 @AD.A0.eq_1)
 |true=>
 rw[h1]at c2 hT
 cases h2:CZ A5 B8 with
 |false=>
  rw[h2]at c3 hT;rw[hT];clear hT hst;obtain⟨id,AB,A8,AG,f⟩:=v;unfold Wi.AC.d Wi.AC.A0;refine wd Iq [] A4 (Ci @c1 @c2 @c3) ?_ [(1,2)] true;exact BL (xU @AD.d.eq_1 @AD.A0.eq_1)
 |true=>
 have hst':=(hst h2).2;have c4:=eD v A5 B8 m h0 h2 hm;rw[h2]at c3 hT
 cases h3:Uf v A5 B8 m with
 |false=>
  rw[h3]at c4 hT;rw[hT];clear hT hst hst';obtain⟨id,AB,A8,AG,f⟩:=v;unfold Wi.AC.d Wi.AC.A0 at *;refine wd Iq [] A4 (KQ @c1 @c2 @c3 @c4) ?_ [(1,2)] true;exact BL (xU @AD.d.eq_1 @AD.A0.eq_1)
 |true=>
 rw[h3]at c4 hT
 by_cases hp:A5=3
 .rw[yF,yF,if_pos rfl,if_pos hp]at hT;rw[hT];clear hT hst hst';have c9:=QB 0 0 (q0C _) rfl;rw[show GK 0 0=[]from rfl]at c9;subst hp;obtain⟨id,AB,A8,AG,f⟩:=v;unfold Wi.AC.d Wi.AC.A0 at *;refine wd Iq [] A4 (MX @c1 @c2 @c3 @c4 @c9) ?_ [(1,4)] true;exact BL (xU @AD.d.eq_1 @AD.A0.eq_1)
 rw[yF,yF,if_pos rfl,if_neg hp]at hT;have f3:=eq_false' hp;have hll:=lN v.id m.As m.A8;have hlen:=XU v (HQ v.id m.As m.A8);have c5:=nv v.id m.As m.A8 hm;have c6:=dT v (HQ v.id m.As m.A8) hb hl om;have hlens:=aI h1;have c8:=JZ (DY v (HQ v.id m.As m.A8)) om om;generalize hw:DY v (HQ v.id m.As m.A8)=w at *;generalize HQ v.id m.As m.A8=ml at*
 by_cases hq:A5=1/\m.AG≠ -1/\Ee v.id m.AG m.As=true
 .have c7:=Rh v.id m.AG m.As;rw[hq.2.2]at c7;rw[if_pos hq]at hT;rw[hT]at hst'|-;have c9:=QB 2 m.AG (by decide) hst';have f1:=AS hq.1;have f2:=C4 hq.2.1;generalize GK 2 m.AG=al at *;clear hT hst hst' hq hw hlen;obtain⟨id,AB,A8,AG,f⟩:=v;obtain⟨id',base',list',pred',f'⟩:=w;unfold Wi.AC.d Wi.AC.A0 at *;refine wd Iq [] (Ci f1 f2 f3) (qP @c1 @c2 @c3 @c4 @c5 @c6 @c7 @c9) ?_ [(1,4)] true;exact BL (xU @AD.d.eq_1 @AD.A0.eq_1)
 .rw[if_neg hq]at hT;rw[hT]at hst'|-;have c9:=QB 3 (FK w) (by decide) hst';generalize GK 3 (FK w)=al at *;generalize FK w=fw at *;clear hT hst hst' hw hlen;obtain⟨id,AB,A8,AG,f⟩:=v;obtain⟨id',base',list',pred',f'⟩:=w
  by_cases q1:A5=1
  .have f1:=AS q1
   by_cases q2:m.AG= -1
   .have f2:=C2 q2;unfold Wi.AC.d Wi.AC.A0 at *;refine wd Iq [] (Ci f1 f2 f3) (qP @c1 @c2 @c3 @c4 @c5 @c6 @c8 @c9) ?_ [(1,4)] true;exact BL (xU @AD.d.eq_1 @AD.A0.eq_1)
   .have f2:=C4 q2;have c7:=Rh id m.AG m.As
    have q3:Ee id m.AG m.As=false:=by
     cases hh:Ee id m.AG m.As with
     |false=>rfl
     |true=>exact absurd ⟨q1,q2,hh⟩ hq
    rw[q3]at c7;unfold Wi.AC.d Wi.AC.A0 at *;refine wd Iq [] (Ci f1 f2 f3) (zq9 @c1 @c2 @c3 @c4 @c5 @c6 @c7 @c8 @c9) ?_ [(1,4)] true;exact BL (xU @AD.d.eq_1 @AD.A0.eq_1)
  .have f1:=eq_false' q1;unfold Wi.AC.d Wi.AC.A0 at *;refine wd Iq [] (Ax f1 f3) (qP @c1 @c2 @c3 @c4 @c5 @c6 @c8 @c9) ?_ [(1,4)] true;exact BL (xU @AD.d.eq_1 @AD.A0.eq_1)
theorem gP(v:AD)(A5 B8 d:Int)(hb:v.AB.length<=1000)(hl:v.A8.length<=1000):
  xB 246 [v.d,.agg [.i .u8 A5,.i .i64 B8],.i .i64 d] (.tup [(DW v A5 B8 d).A7.d,.agg [.i .u8 (DW v A5 B8 d).A5,.i .i64 (DW v A5 B8 d).B8]]):=by
 have c1:=Hk v om om;have c2:=BV v hb hl;have c3:=Qa A5 B8;have c4:=IX v d hb hl;have hT:DW v A5 B8 d=if Al v&&CZ A5 B8 then(if A5≠0/\B8=d then⟨BU v d,0,0⟩else⟨BU v d,A5,B8⟩)else⟨v,A5,B8⟩:=rfl
 refine zF AF Tryz.func246 ?_;generalize CZ A5 B8=b2 at *;generalize BU v d=w at*
 cases h1:Al v with
 |false=>
  rw[h1]at c2 hT;rw[hT];clear hT;obtain⟨id,AB,A8,AG,f⟩:=v;refine wd OA [] A4 (Ax @c1 @c2) ?_ [(2,3)];exact BL (xU @AD.d.eq_1 @AD.A0.eq_1)
 |true=>
 rw[h1]at c2 hT
 cases b2 with
 |false=>
  rw[hT];clear hT;obtain⟨id,AB,A8,AG,f⟩:=v;refine wd OA [] A4 (Ci @c1 @c2 @c3) ?_ [(2,3)];exact BL (xU @AD.d.eq_1 @AD.A0.eq_1)
 |true=>
 rw[zh,if_pos rfl]at hT;obtain⟨id,AB,A8,AG,f⟩:=v;obtain⟨id',base',list',pred',f'⟩:=w
 by_cases q1:A5=0
 .have f1:=C2 q1;rw[if_neg (fun h=>h.1 q1)]at hT;rw[hT];clear hT;refine wd OA [] (AM f1) (Ci @c2 @c3 @c4) ?_ [(3,4)];exact BL (xU @AD.d.eq_1 @AD.A0.eq_1)
 .have f1:=C4 q1
  by_cases q2:B8=d
  .have f2:=AS q2;rw[if_pos ⟨q1,q2⟩]at hT;rw[hT];clear hT;refine wd OA [] (Ax f1 f2) (Ci @c2 @c3 @c4) ?_ [(3,4)];exact BL (xU @AD.d.eq_1 @AD.A0.eq_1)
  .have f2:=eq_false' q2;rw[if_neg (fun h=>q2 h.2)]at hT;rw[hT];clear hT;refine wd OA [] (Ax f1 f2) (Ci @c2 @c3 @c4) ?_ [(3,4)];exact BL (xU @AD.d.eq_1 @AD.A0.eq_1)
end Nd
end Go.Proofs.YtkljbfejbakooaaGreatDoor
