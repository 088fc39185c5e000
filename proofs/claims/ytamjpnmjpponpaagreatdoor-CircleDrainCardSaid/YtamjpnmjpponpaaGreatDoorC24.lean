/- Part 24 of a proof. Conditions: those that its theorems state. -/
import Derived.Test.YtamjpnmjpponpaaGreatDoorC17
import Derived.Test.YtamjpnmjpponpaaGreatDoorC23
set_option linter.unusedSimpArgs false
set_option linter.unusedVariables false
set_option maxHeartbeats 40000000
set_option maxRecDepth 4000
namespace Go.Proofs.YtamjpnmjpponpaaGreatDoor
namespace Nd
open Go.Gar
open Wi (AF BV B7 AU Bp mC)
abbrev EJ:BF:=[0,1,2,3,4,5,6,7,8,9,10,11,28,36]
theorem sZ(v:AG)(j:B9)(m:AF)(hb:v.A6.length<=1000)(hl:v.AB.length<=1000)(hn:j.left.length<=100000)(hm:Ay m)(h:(Aq v&&(m.right&&decide (m.dst=v.id)))=false):yS 251 [v.d,j.d,m.d] (.tup [(JC.mk j [] false).job.d,CB (JC.mk j [] false).BY,.b (JC.mk j [] false).own]):=by
 have c0:=HP j om;have c1:=Bo v hb hl;have c2:=Wi.Ct m (by unfold Ay at hm;omega);obtain⟨AR,A5,Ap,AC,Ao,left,Aa⟩:=j;unfold AG.d AG.A4 at c1;unfold Wi.AF.d Wi.AF.A4 at c2;unfold B9.d B9.A4 at c0;refine zF AE Tryz.func251 ?_;unfold AG.d AG.A4 B9.d B9.A4 Wi.AF.d Wi.AF.A4;dsimp only
 cases h1:Aq v with
 |false=>
  rw[h1]at c1;refine AO EJ ?_ (AK @c0) [(0,4),(1,4)] [2];refine AO EJ ?_ (AK @c1) [] [6];refine A9 EJ ?_ [(2,6),(3,6),(4,6),(5,6)];exact zE
 |true=>
  rw[h1]at c1 h
  cases h2:m.right with
  |false=>
   rw[h2]at c2;refine AO EJ ?_ (AK @c0) [(0,4),(1,4)] [2];refine AO EJ ?_ (Au @c1 @c2) [] [6];refine A9 EJ ?_ [(2,6),(3,6),(4,6),(5,6)];exact zE
  |true=>
   rw[h2]at c2 h;rw[q0A,q0A]at h;have f1:=eq_false' (of_decide_eq_false h);refine AO EJ ?_ (AK @c0) [(0,4),(1,4)] [2];refine AJ EJ ?_ (AK f1) (Au @c1 @c2) [] [6];refine A9 EJ ?_ [(2,6),(3,6),(4,6),(5,6)];exact zE
theorem TM(v:AG)(j:B9)(m:AF)(hb:v.A6.length<=1000)(hl:v.AB.length<=1000)(hn:j.left.length<=100000)(hm:Ay m)(h1:Aq v=true)(h2:m.right=true)(h3:m.dst=v.id)(r:JC)(f:Nat)(a:yr)
  (h4:(j.A5=1/\f=363/\a=[.ptr 2 0 1,.ptr 1 0 1])\/(j.A5=2/\f=365/\a=[.ptr 2 0 1,.ptr 1 0 1])\/(j.A5=3/\f=366/\a=[.ptr 1 0 1])\/(j.A5=4/\f=368/\a=[.ptr 2 0 1,.ptr 1 0 1]))
  (c4:yT f (.d m.d::a) (jD v j++jT) (.tup []) (jE v r++jT)):yS 251 [v.d,j.d,m.d] (.tup [r.job.d,CB r.BY,.b r.own]):=by
 have c0:=HP j om;have c1:=Bo v hb hl;have c2:=Wi.Ct m (by unfold Ay at hm;omega);have c3:=TL v j;rcases h4 with⟨h4,rfl,rfl⟩|⟨h4,rfl,rfl⟩|⟨h4,rfl,rfl⟩|⟨h4,rfl,rfl⟩
 all_goals
  obtain⟨AR,A5,Ap,AC,Ao,left,Aa⟩:=j;unfold AG.d AG.A4 at c1;unfold Wi.AF.d Wi.AF.A4 at c2;unfold B9.d B9.A4 at c0;refine zF AE Tryz.func251 ?_;unfold AG.d AG.A4 B9.d B9.A4 Wi.AF.d Wi.AF.A4;dsimp only at h4;subst h4;rw[h1]at c1;rw[h2]at c2;have f1:=AT h3;unfold Wi.AF.d Wi.AF.A4 at c4;unfold jD jT jE at c4;simp only[zY,zZ]at c4;unfold jC at *;unfold oh at *;dsimp only at c0 c3 c4|-;refine AO EJ ?_ (AK @c0) [(0,4),(1,4)] [2];refine By EJ ?_ (AK f1) (Au @c1 @c2) (H0 [4] c3 [4,5,6] c4) [(1,0),(2,0)] [6];refine A9 EJ ?_ [(2,6),(3,6),(4,6),(5,6)];exact zE
theorem vf(v:AG)(j:B9)(m:AF)(hb:v.A6.length<=1000)(hl:v.AB.length<=1000)(hn:j.left.length<=100000)(hm:Ay m)(h1:Aq v=true)(h2:m.right=true)(h3:m.dst=v.id)(h4:j.A5≠1/\j.A5≠2/\j.A5≠3/\j.A5≠4):yS 251 [v.d,j.d,m.d] (.tup [(JC.mk j [] false).job.d,CB (JC.mk j [] false).BY,.b (JC.mk j [] false).own]):=by
 have c0:=HP j om;have c1:=Bo v hb hl;have c2:=Wi.Ct m (by unfold Ay at hm;omega);have c3:=TL v j;obtain⟨AR,A5,Ap,AC,Ao,left,Aa⟩:=j;unfold AG.d AG.A4 at c1;unfold Wi.AF.d Wi.AF.A4 at c2;unfold B9.d B9.A4 at c0;refine zF AE Tryz.func251 ?_;unfold AG.d AG.A4 B9.d B9.A4 Wi.AF.d Wi.AF.A4;dsimp only at h4;rw[h1]at c1;rw[h2]at c2;have f1:=AT h3;unfold jC at *;unfold oh at *;have hk:Ke A5 [1,2,3,4]=true:=by simp[Ke,h4]
 dsimp only at c0 c3|-;refine AO EJ ?_ (AK @c0) [(0,4),(1,4)] [2];have lk1:=hk;refine By EJ ?_ (AK f1) (Au @c1 @c2) (BJ [4] c3) [(1,0),(2,0)] [6];clear lk1;refine A9 EJ ?_ [(2,6),(3,6),(4,6),(5,6)];exact zE
theorem mc(v:AG)(j:B9)(m:AF)(hb:v.A6.length<=1000)(hl:v.AB.length<=1000)(hn:j.left.length<=100000)(hm:Ay m):yS 251 [v.d,j.d,m.d] (.tup [(CH v j m).job.d,CB (CH v j m).BY,.b (CH v j m).own]):=by
 unfold CH
 cases h:Aq v&&(m.right&&decide (m.dst=v.id))with
 |false=>exact sZ v j m hb hl hn hm h
 |true=>
  rw[zn rfl];simp only[zO,zW]at h;obtain⟨h1,h2,h3⟩:=h
  by_cases p1:j.A5=1
  .rw[zn p1];exact TM v j m hb hl hn hm h1 h2 h3 _ _ _ (.inl ⟨p1,rfl,rfl⟩) (oc v j m hb hl hm)
  rw[zx p1]
  by_cases p2:j.A5=2
  .rw[zn p2];exact TM v j m hb hl hn hm h1 h2 h3 _ _ _ (.inr (.inl ⟨p2,rfl,rfl⟩)) (od v j m hm)
  rw[zx p2]
  by_cases p3:j.A5=3
  .rw[zn p3]
   by_cases hk:m.AN=11
   .rw[zn hk]
    by_cases hs:m.B8∈j.left
    .exact ve v j m hb hl hn hm h1 h2 h3 p3 ⟨hk,hs⟩
    .have:=TM v j m hb hl hn hm h1 h2 h3 _ _ _ (.inr (.inr (.inl ⟨p3,rfl,rfl⟩))) (Yh v j m (.inr hs) hn);rw[zn hk]at this;exact this
   .rw[zx hk];have:=TM v j m hb hl hn hm h1 h2 h3 _ _ _ (.inr (.inr (.inl ⟨p3,rfl,rfl⟩))) (Yh v j m (.inl hk) hn);rw[zx hk]at this;exact this
  rw[zx p3]
  by_cases p4:j.A5=4
  .rw[zn p4];exact TM v j m hb hl hn hm h1 h2 h3 _ _ _ (.inr (.inr (.inr ⟨p4,rfl,rfl⟩))) (oe v j m)
  .rw[zx p4];exact vf v j m hb hl hn hm h1 h2 h3 ⟨p1,p2,p3,p4⟩
end Nd
end Go.Proofs.YtamjpnmjpponpaaGreatDoor
