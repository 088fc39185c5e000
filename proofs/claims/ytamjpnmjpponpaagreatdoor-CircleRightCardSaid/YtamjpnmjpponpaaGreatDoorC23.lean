/- Part 23 of a proof. Conditions: those that its theorems state. -/
import Derived.Test.YtamjpnmjpponpaaGreatDoorC20
import Derived.Test.YtamjpnmjpponpaaGreatDoorC21
set_option linter.unusedSimpArgs false
set_option linter.unusedVariables false
set_option maxHeartbeats 40000000
set_option maxRecDepth 4000
namespace Go.Proofs.YtamjpnmjpponpaaGreatDoor
namespace Nd
open Go.Gar
open Wi (AF BV B7 AU Bp mC)
abbrev Qx:BF:=[0,1,2,3,15,23]
abbrev jD(v:AG)(j:B9):z6:=[.c (jC v j (.yV j.left) .e0 false)]
abbrev jO(v:AG)(j:B9):z6:=[.c (jC v j (.sl 1 j.left.length 1) .e0 false),.a (.is j.left)]
abbrev jT:z6:=[.c [.ptr 0 0 37],.c [.ptr 0 20 37]]
theorem oc(v:AG)(j:B9)(m:AF)(hb:v.A6.length<=1000)(hl:v.AB.length<=1000)(hm:Ay m):yT 363 [.d m.d,.ptr 2 0 1,.ptr 1 0 1] (jD v j++jT) (.tup []) (jE v (if m.AN=10/\m.B8=j.Ap.CF then GB v ⟨j.AR,j.A5,TU v j.Ap m,j.AC,j.Ao,j.left,j.Aa⟩else⟨j,[],false⟩)++jT):=by
 obtain⟨AR,A5,Ap,AC,Ao,left,Aa⟩:=j;obtain⟨AI,CF,C3,BA,CK,lcode⟩:=Ap;have c1:=uz v ⟨AI,CF,C3,BA,CK,lcode⟩ m hb hl hm;generalize TU v ⟨AI,CF,C3,BA,CK,lcode⟩ m=q at *;have c2:=PI v ⟨AR,A5,q,AC,Ao,left,Aa⟩ om;dsimp only;generalize GB v ⟨AR,A5,q,AC,Ao,left,Aa⟩=r at *;refine zD AE Tryz.func363 ?_;unfold Wi.AF.d Wi.AF.A4 at *;unfold AG.d AG.A4 C6.d C6.A4 at c1;unfold jD jT jE jC at *;simp only[zY,zZ]
 by_cases h1:m.AN=10
 .have f1:=AT h1
  by_cases h2:m.B8=CF
  .have f2:=AT h2;rw[zn ⟨h1,h2⟩];refine By [0,1,2,3,16] ?_ (Au f1 f2) (AK @c1) (BJ [0] c2);exact wE
  .have f2:=eq_false' h2;rw[zx (fun h=>h2 h.2)];refine Aj [0,1,2,3,16] ?_ (Au f1 f2);exact QO 0 35 (.sl 15 [])
 .have f1:=eq_false' h1;rw[zx (fun h=>h1 h.1)];refine Aj [0,1,2,3,16] ?_ (AK f1);exact QO 0 35 (.sl 15 [])
theorem od(v:AG)(j:B9)(m:AF)(hm:Ay m):yT 365 [.d m.d,.ptr 2 0 1,.ptr 1 0 1] (jD v j++jT) (.tup []) (jE v (if m.AN=7/\m.B8=j.Ao then MJ v.id j j.Ao m.AB else⟨j,[],false⟩)++jT):=by
 obtain⟨AR,A5,Ap,AC,Ao,left,Aa⟩:=j;have c2:=dH v ⟨AR,A5,Ap,AC,Ao,left,Aa⟩ Ao m.AB (by unfold Ay at hm;omega);dsimp only;generalize MJ v.id ⟨AR,A5,Ap,AC,Ao,left,Aa⟩ Ao m.AB=r at *;refine zD AE Tryz.func365 ?_;unfold Wi.AF.d Wi.AF.A4 at *;unfold jD jT jE jC at *;simp only[zY,zZ]
 by_cases h1:m.AN=7
 .have f1:=AT h1
  by_cases h2:m.B8=Ao
  .have f2:=AT h2;rw[zn ⟨h1,h2⟩];refine Cd [0,1,2,3,15] ?_ (Au f1 f2) (BJ [0] c2);exact wE
  .have f2:=eq_false' h2;rw[zx (fun h=>h2 h.2)];refine Aj [0,1,2,3,15] ?_ (Au f1 f2);exact QO 0 35 (.sl 15 [])
 .have f1:=eq_false' h1;rw[zx (fun h=>h1 h.1)];refine Aj [0,1,2,3,15] ?_ (AK f1);exact QO 0 35 (.sl 15 [])
theorem Yh(v:AG)(j:B9)(m:AF)(h:m.AN≠11\/m.B8∉j.left)(hn:j.left.length<=100000):yT 366 [.d m.d,.ptr 1 0 1] (jD v j++jT) (.tup []) (jE v ⟨if m.AN=11 then F9 j m.B8 m.Aa else j,[],false⟩++jT):=by
 refine zD AE Tryz.func366 ?_
 by_cases h1:m.AN=11
 .have h2:m.B8∉j.left:=h.resolve_left (fun e=>e h1);have c2:=eY v j m.B8 m.Aa h2 hn;rw[zn h1];generalize F9 j m.B8 m.Aa=q at *;unfold Wi.AF.d Wi.AF.A4 at *;unfold jD jT jE jC at *;simp only[zY,zZ];have f1:=AT h1;refine Cd [0,1,2,5] ?_ (AK f1) (BJ [0] c2);exact wE
 .have f1:=eq_false' h1;rw[zx h1];unfold Wi.AF.d Wi.AF.A4 at *;unfold jD jT jE jC at *;simp only[zY,zZ];refine Aj [0,1,2,5] ?_ (AK f1);exact QO 0 35 (.sl 15 [])
theorem ij(v:AG)(j:B9)(m:AF)(h:m.AN=11/\m.B8∈j.left)(hn:j.left.length<=100000):yT 366 [.d m.d,.ptr 2 0 1] (jO v j++jT) (.tup []) (jE v ⟨if m.AN=11 then F9 j m.B8 m.Aa else j,[],false⟩++[.gone]++jT):=by
 refine zD AE Tryz.func366 ?_;obtain⟨h1,h2⟩:=h;have c2:=Yy v j m.B8 m.Aa h2 hn;rw[zn h1];generalize F9 j m.B8 m.Aa=q at *;unfold Wi.AF.d Wi.AF.A4 at *;unfold jO jT jE jC at *;simp only[zY,zZ];simp only[zY,zZ]at c2;have f1:=AT h1;refine Cd [0,1,2,5] ?_ (AK f1) (BJ [0,1] c2);exact wE
theorem oe(v:AG)(j:B9)(m:AF):yT 368 [.d m.d,.ptr 2 0 1,.ptr 1 0 1] (jD v j++jT) (.tup []) (jE v (if m.AN=12/\m.B8=j.Ao then⟨Dg (DW ⟨j.AR,j.A5,j.Ap,if m.Aa=0 then m.AC else j.AC,j.Ao,j.left,j.Aa⟩ m.Aa),[],false⟩else⟨j,[],false⟩)++jT):=by
 obtain⟨AR,A5,Ap,AC,Ao,left,Aa⟩:=j;dsimp only;refine zD AE Tryz.func368 ?_;have hv:=Ie v ⟨AR,A5,Ap,if m.Aa=0 then m.AC else AC,Ao,left,m.Aa⟩ .e0 false rfl;unfold Wi.AF.d Wi.AF.A4 at *;unfold jD jT jE jC at *;simp only[zY,zZ]
 by_cases h1:m.AN=12
 .have f1:=AT h1
  by_cases h2:m.B8=Ao
  .have f2:=AT h2;rw[zn ⟨h1,h2⟩]
   by_cases h3:m.Aa=0
   .have f3:=AT h3;rw[zn h3]at *;refine Cd Qx ?_ (CP f1 f2 f3) (BJ [0] hv);exact QO 0 35 (.sl 15 [])
   .have f3:=eq_false' h3;rw[zx h3]at *;refine Cd Qx ?_ (CP f1 f2 f3) (BJ [0] hv);exact QO 0 35 (.sl 15 [])
  .have f2:=eq_false' h2;rw[zx (fun h=>h2 h.2)];refine Aj Qx ?_ (Au f1 f2);exact QO 0 35 (.sl 15 [])
 .have f1:=eq_false' h1;rw[zx (fun h=>h1 h.1)];refine Aj Qx ?_ (AK f1);exact QO 0 35 (.sl 15 [])
theorem X9(v:AG)(j:B9)(d:Int):yT 416 [.yO d,.ptr 2 0 1,.ptr 1 0 1] (jD v j++jT) (.tup []) (jE v (if j.Ao=d then⟨Dg (DW j 210),[],false⟩else⟨j,[],false⟩)++jT):=by
 obtain⟨AR,A5,Ap,AC,Ao,left,Aa⟩:=j;dsimp only;refine zD AE Tryz.func416 ?_;have hv:=Ie v ⟨AR,A5,Ap,AC,Ao,left,210⟩ .e0 false rfl;unfold jD jT jE jC at *;simp only[zY,zZ]
 by_cases h1:Ao=d
 .have f1:=AT h1;rw[zn h1];refine Cd [0,1,2,9] ?_ (AK f1) (BJ [0] hv);exact QO 0 35 (.sl 15 [])
 .have f1:=eq_false' h1;rw[zx h1];refine Aj [0,1,2,9] ?_ (AK f1);exact QO 0 35 (.sl 15 [])
theorem lW(v:AG)(j:B9)(d:Int)(hb:v.A6.length<=1000)(hl:v.AB.length<=1000):yT 417 [.yO d,.ptr 2 0 1,.ptr 1 0 1] (jD v j++jT) (.tup []) (jE v (if j.Ap.CF=d then GB v ⟨j.AR,j.A5,tE v j.Ap,j.AC,j.Ao,j.left,j.Aa⟩else⟨j,[],false⟩)++jT):=by
 obtain⟨AR,A5,Ap,AC,Ao,left,Aa⟩:=j;obtain⟨AI,CF,C3,BA,CK,lcode⟩:=Ap;have c1:=uy v ⟨AI,CF,C3,BA,CK,lcode⟩ hb hl;generalize tE v ⟨AI,CF,C3,BA,CK,lcode⟩=q at *;have c2:=PI v ⟨AR,A5,q,AC,Ao,left,Aa⟩ om;dsimp only;generalize GB v ⟨AR,A5,q,AC,Ao,left,Aa⟩=r at *;refine zD AE Tryz.func417 ?_;unfold AG.d AG.A4 C6.d C6.A4 at c1;unfold jD jT jE jC at *;simp only[zY,zZ]
 by_cases h1:CF=d
 .have f1:=AT h1;rw[zn h1];refine By [0,1,2,10] ?_ (AK f1) (AK @c1) (BJ [0] c2);exact wE
 .have f1:=eq_false' h1;rw[zx h1];refine Aj [0,1,2,10] ?_ (AK f1);exact QO 0 35 (.sl 15 [])
theorem lX(v:AG)(j:B9)(d:Int)(h:d∉j.left)(hn:j.left.length<=100000):yT 419 [.yO d,.ptr 1 0 1] (jD v j++jT) (.tup []) (jE v ⟨F9 j d 210,[],false⟩++jT):=by
 refine zD AE Tryz.func419 ?_;have c2:=eY v j d 210 h hn;generalize F9 j d 210=q at *;unfold jD jT jE jC at *;simp only[zY,zZ];refine Ax [0,1] ?_ (BJ [0] c2);exact wE
theorem fy(v:AG)(j:B9)(d:Int)(h:d∈j.left)(hn:j.left.length<=100000):yT 419 [.yO d,.ptr 2 0 1] (jO v j++jT) (.tup []) (jE v ⟨F9 j d 210,[],false⟩++[.gone]++jT):=by
 refine zD AE Tryz.func419 ?_;have c2:=Yy v j d 210 h hn;generalize F9 j d 210=q at *;unfold jO jT jE jC at *;simp only[zY,zZ];simp only[zY,zZ]at c2;refine Ax [0,1] ?_ (BJ [0,1] c2);exact wE
abbrev OT:BF:=[0,1,2,3,4,5,6,7,8,9,10,11,28,36]
theorem ve(v:AG)(j:B9)(m:AF)(hb:v.A6.length<=1000)(hl:v.AB.length<=1000)(hn:j.left.length<=100000)(hm:Ay m)(h1:Aq v=true)(h2:m.right=true)(h3:m.dst=v.id)(h4:j.A5=3)(h:m.AN=11/\m.B8∈j.left):yS 251 [v.d,j.d,m.d] (.tup [(F9 j m.B8 m.Aa).d,CB [],.b false]):=by
 have h0:j.left≠[]:=fun e=>by have:=h.2;rw[e]at this;cases this
 have c0:=Xc j om h0;have c1:=Bo v hb hl;have c2:=Wi.Ct m (by unfold Ay at hm;omega);have c3:=Yj v j;have c4:=ij v j m h hn;rw[zn h.1]at c4;generalize F9 j m.B8 m.Aa=r at *;obtain⟨AR,A5,Ap,AC,Ao,left,Aa⟩:=j;dsimp only at h4;subst h4;unfold AG.d AG.A4 at c1;unfold Wi.AF.d Wi.AF.A4 at c2 c4;unfold B9.d B9.A4 Tb at c0;refine zF AE Tryz.func251 ?_;unfold AG.d AG.A4 B9.d B9.A4 Wi.AF.d Wi.AF.A4;rw[h1]at c1;rw[h2]at c2;have f1:=AT h3;unfold jO jT jE at c4;simp only[zY,zZ]at c4;unfold jC at *;unfold tT at *;dsimp only at c0 c3 c4|-;refine A9 OT ?_ [] [1];refine Hn T.get 2 4 4 5 ⟨[(0,.d (.agg [.yX v.id,.is v.A6,.is v.AB,.yX v.AH,.yX (v.f 0),.yX (v.f 1),.yX (v.f 2),.yX (v.f 3),.yX (v.f 4),.yX (v.f 5),.yX (v.f 6),.yX (v.f 7),.yX (v.f 8),.yX (v.f 9),.yX (v.f 10),.yX (v.f 11),.yX (v.f 12),.yX (v.f 13),.yX (v.f 14),.yX (v.f 15)])),(1,.d (.agg [.i .u8 AR,.i .u8 3,.yX Ap.AI,.yX Ap.CF,.yX Ap.C3,.b Ap.BA,.b Ap.CK,.yX Ap.Aa,.s AC.AI,.yX AC.B4,.yX AC.AZ,.b AC.gone,.yX Ao,.is left,.yX Aa])),(2,.d (.agg [.i .u8 m.AN,.yX m.Ae,.yX m.B8,.yX m.dst,.yX m.AI,.b m.BA,.b m.done,.yX m.AP,.yX m.AH,.is m.AB,.s m.AC.AI,.yX m.AC.B4,.yX m.AC.AZ,.b m.AC.gone,.yX m.Aa])),(3,.ptr 0 0 20),(4,.ptr 1 0 15),(5,.ptr 2 0 15),(6,.ptr 3 0 15),(7,.e0),(8,.yP false),(9,.ptr 5 0 37)],[.c [.yO v.id,.yV v.A6,.yV v.AB,.yO v.AH,.yO (v.f 0),.yO (v.f 1),.yO (v.f 2),.yO (v.f 3),.yO (v.f 4),.yO (v.f 5),.yO (v.f 6),.yO (v.f 7),.yO (v.f 8),.yO (v.f 9),.yO (v.f 10),.yO (v.f 11),.yO (v.f 12),.yO (v.f 13),.yO (v.f 14),.yO (v.f 15)],.c [.yQ AR,.yQ 3,.yO Ap.AI,.yO Ap.CF,.yO Ap.C3,.yP Ap.BA,.yP Ap.CK,.yO Ap.Aa,.yU AC.AI,.yO AC.B4,.yO AC.AZ,.yP AC.gone,.yO Ao,.yV left,.yO Aa],.c [.yQ m.AN,.yO m.Ae,.yO m.B8,.yO m.dst,.yO m.AI,.yP m.BA,.yP m.done,.yO m.AP,.yO m.AH,.yV m.AB,.yU m.AC.AI,.yO m.AC.B4,.yO m.AC.AZ,.yP m.AC.gone,.yO m.Aa],.c [.yQ 0,.yQ 0,.yO 0,.yO 0,.yO 0,.yP false,.yP false,.yO 0,.yU ([]),.yO 0,.yO 0,.yP false,.yO 0,.e0,.yO 0],.a (.is left),.c [.yO v.id,.yV v.A6,.yV v.AB,.yO v.AH,.yO (v.f 0),.yO (v.f 1),.yO (v.f 2),.yO (v.f 3),.yO (v.f 4),.yO (v.f 5),.yO (v.f 6),.yO (v.f 7),.yO (v.f 8),.yO (v.f 9),.yO (v.f 10),.yO (v.f 11),.yO (v.f 12),.yO (v.f 13),.yO (v.f 14),.yO (v.f 15),.yQ AR,.yQ 3,.yO Ap.AI,.yO Ap.CF,.yO Ap.C3,.yP Ap.BA,.yP Ap.CK,.yO Ap.Aa,.yU AC.AI,.yO AC.B4,.yO AC.AZ,.yP AC.gone,.yO Ao,.sl 4 left.length 1,.yO Aa,.e0,.yP false]],46⟩ mixed rfl rfl rfl ?_ ?_ ?_
 .refine Ax OT ?_ (BJ [] c0) [(0,2),(1,2),(0,4),(1,4),(3,4)];exact⟨rfl,.inl rfl⟩
 .refine Ax OT ?_ (BJ [] c0) [(0,2),(1,2),(0,3)];exact⟨rfl,.inr rfl⟩
 refine By OT ?_ (AK f1) (Au @c1 @c2) (H0 [5,4] c3 [5,4,6,7] c4) [(1,0),(2,0)] [6];refine A9 OT ?_ [(2,6),(3,6),(4,6),(5,6)];exact BW (zh @B9.d.eq_1 @B9.A4.eq_1)
end Nd
end Go.Proofs.YtamjpnmjpponpaaGreatDoor
