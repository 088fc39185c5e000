/- Part 25 of a proof. Conditions: those that its theorems state. -/
import Derived.Test.YtamjpnmjpponpaaGreatDoorC17
import Derived.Test.YtamjpnmjpponpaaGreatDoorC23
set_option linter.unusedSimpArgs false
set_option linter.unusedVariables false
set_option maxHeartbeats 40000000
set_option maxRecDepth 4000
namespace Go.Proofs.YtamjpnmjpponpaaGreatDoor
namespace Nd
open Go.Gar
open Wi (AF BV B7 AU Bp mC)
abbrev EZ:BF:=[0,1,2,3,4,6,7,8,9,10,11,17,25]
theorem qi(v:AG)(j:B9)(d:Int)(hb:v.A6.length<=1000)(hl:v.AB.length<=1000)(hn:j.left.length<=100000)(h:Aq v=false):yS 335 [v.d,j.d,.yX d] (.tup [(JC.mk j [] false).job.d,CB (JC.mk j [] false).BY,.b (JC.mk j [] false).own]):=by
 have c0:=HP j om;have c1:=Bo v hb hl;obtain⟨AR,A5,Ap,AC,Ao,left,Aa⟩:=j;unfold AG.d AG.A4 at c1;unfold B9.d B9.A4 at c0;refine zF AE Tryz.func335 ?_;unfold AG.d AG.A4 B9.d B9.A4;dsimp only;rw[h]at c1;refine AO EZ ?_ (AK @c0) [(0,4),(1,4)] [2];refine AO EZ ?_ (AK @c1) [] [6];refine A9 EZ ?_ [(2,6),(3,6),(4,6),(5,6)];exact zE
theorem VA(v:AG)(j:B9)(d:Int)(hb:v.A6.length<=1000)(hl:v.AB.length<=1000)(hn:j.left.length<=100000)(h1:Aq v=true)(r:JC)(f:Nat)(a:yr)
  (h4:(j.A5=1/\f=417/\a=[.ptr 2 0 1,.ptr 1 0 1])\/(j.A5=2/\f=416/\a=[.ptr 2 0 1,.ptr 1 0 1])\/(j.A5=3/\f=419/\a=[.ptr 1 0 1])\/(j.A5=4/\f=416/\a=[.ptr 2 0 1,.ptr 1 0 1]))
  (c4:yT f (.yO d::a) (jD v j++jT) (.tup []) (jE v r++jT)):yS 335 [v.d,j.d,.yX d] (.tup [r.job.d,CB r.BY,.b r.own]):=by
 have c0:=HP j om;have c1:=Bo v hb hl;have c3:=Rx v j;rcases h4 with⟨h4,rfl,rfl⟩|⟨h4,rfl,rfl⟩|⟨h4,rfl,rfl⟩|⟨h4,rfl,rfl⟩
 all_goals
  obtain⟨AR,A5,Ap,AC,Ao,left,Aa⟩:=j;unfold AG.d AG.A4 at c1;unfold B9.d B9.A4 at c0;refine zF AE Tryz.func335 ?_;unfold AG.d AG.A4 B9.d B9.A4;dsimp only at h4;subst h4;rw[h1]at c1;unfold jD jT jE at c4;simp only[zY,zZ]at c4;unfold jC at *;unfold lZ at *;dsimp only at c0 c3 c4|-;refine AO EZ ?_ (AK @c0) [(0,4),(1,4)] [2];refine B6 EZ ?_ (AK @c1) (H0 [3] c3 [3,4,5] c4) [(1,0),(2,0)] [6];refine A9 EZ ?_ [(2,6),(3,6),(4,6),(5,6)];exact zE
theorem ug(v:AG)(j:B9)(d:Int)(hb:v.A6.length<=1000)(hl:v.AB.length<=1000)(hn:j.left.length<=100000)(h1:Aq v=true)(h4:j.A5≠1/\j.A5≠2/\j.A5≠3/\j.A5≠4):yS 335 [v.d,j.d,.yX d] (.tup [(JC.mk j [] false).job.d,CB (JC.mk j [] false).BY,.b (JC.mk j [] false).own]):=by
 have c0:=HP j om;have c1:=Bo v hb hl;have c3:=Rx v j;obtain⟨AR,A5,Ap,AC,Ao,left,Aa⟩:=j;unfold AG.d AG.A4 at c1;unfold B9.d B9.A4 at c0;refine zF AE Tryz.func335 ?_;unfold AG.d AG.A4 B9.d B9.A4;dsimp only at h4;rw[h1]at c1;unfold jC at *;unfold lZ at *;have hk:Ke A5 [1,2,3,4]=true:=by simp[Ke,h4]
 dsimp only at c0 c3|-;refine AO EZ ?_ (AK @c0) [(0,4),(1,4)] [2];have lk1:=hk;refine B6 EZ ?_ (AK @c1) (BJ [3] c3) [(1,0),(2,0)] [6];clear lk1;refine A9 EZ ?_ [(2,6),(3,6),(4,6),(5,6)];exact zE
theorem uf(v:AG)(j:B9)(d:Int)(hb:v.A6.length<=1000)(hl:v.AB.length<=1000)(hn:j.left.length<=100000)(h1:Aq v=true)(h4:j.A5=3)(h:d∈j.left):yS 335 [v.d,j.d,.yX d] (.tup [(F9 j d 210).d,CB [],.b false]):=by
 have h0:j.left≠[]:=fun e=>by rw[e]at h;cases h
 have c0:=Xc j om h0;have c1:=Bo v hb hl;have c3:=XA v j;have c4:=fy v j d h hn;generalize F9 j d 210=r at *;obtain⟨AR,A5,Ap,AC,Ao,left,Aa⟩:=j;dsimp only at h4;subst h4;unfold AG.d AG.A4 at c1;unfold B9.d B9.A4 Tb at c0;refine zF AE Tryz.func335 ?_;unfold AG.d AG.A4 B9.d B9.A4;rw[h1]at c1;unfold jO jT jE at c4;simp only[zY,zZ]at c4;unfold jC at *;unfold sy at *;dsimp only at c0 c3 c4|-;refine A9 EZ ?_ [] [1];refine Hn T.get 2 4 3 4 ⟨[(0,.d (.agg [.yX v.id,.is v.A6,.is v.AB,.yX v.AH,.yX (v.f 0),.yX (v.f 1),.yX (v.f 2),.yX (v.f 3),.yX (v.f 4),.yX (v.f 5),.yX (v.f 6),.yX (v.f 7),.yX (v.f 8),.yX (v.f 9),.yX (v.f 10),.yX (v.f 11),.yX (v.f 12),.yX (v.f 13),.yX (v.f 14),.yX (v.f 15)])),(1,.d (.agg [.i .u8 AR,.i .u8 3,.yX Ap.AI,.yX Ap.CF,.yX Ap.C3,.b Ap.BA,.b Ap.CK,.yX Ap.Aa,.s AC.AI,.yX AC.B4,.yX AC.AZ,.b AC.gone,.yX Ao,.is left,.yX Aa])),(2,.yO d),(3,.ptr 0 0 20),(4,.ptr 1 0 15),(6,.ptr 2 0 15),(7,.e0),(8,.yP false),(9,.ptr 4 0 37)],[.c [.yO v.id,.yV v.A6,.yV v.AB,.yO v.AH,.yO (v.f 0),.yO (v.f 1),.yO (v.f 2),.yO (v.f 3),.yO (v.f 4),.yO (v.f 5),.yO (v.f 6),.yO (v.f 7),.yO (v.f 8),.yO (v.f 9),.yO (v.f 10),.yO (v.f 11),.yO (v.f 12),.yO (v.f 13),.yO (v.f 14),.yO (v.f 15)],.c [.yQ AR,.yQ 3,.yO Ap.AI,.yO Ap.CF,.yO Ap.C3,.yP Ap.BA,.yP Ap.CK,.yO Ap.Aa,.yU AC.AI,.yO AC.B4,.yO AC.AZ,.yP AC.gone,.yO Ao,.yV left,.yO Aa],.c [.yQ 0,.yQ 0,.yO 0,.yO 0,.yO 0,.yP false,.yP false,.yO 0,.yU ([]),.yO 0,.yO 0,.yP false,.yO 0,.e0,.yO 0],.a (.is left),.c [.yO v.id,.yV v.A6,.yV v.AB,.yO v.AH,.yO (v.f 0),.yO (v.f 1),.yO (v.f 2),.yO (v.f 3),.yO (v.f 4),.yO (v.f 5),.yO (v.f 6),.yO (v.f 7),.yO (v.f 8),.yO (v.f 9),.yO (v.f 10),.yO (v.f 11),.yO (v.f 12),.yO (v.f 13),.yO (v.f 14),.yO (v.f 15),.yQ AR,.yQ 3,.yO Ap.AI,.yO Ap.CF,.yO Ap.C3,.yP Ap.BA,.yP Ap.CK,.yO Ap.Aa,.yU AC.AI,.yO AC.B4,.yO AC.AZ,.yP AC.gone,.yO Ao,.sl 3 left.length 1,.yO Aa,.e0,.yP false]],35⟩ mixed rfl rfl rfl ?_ ?_ ?_
 .refine Ax EZ ?_ (BJ [] c0) [(0,2),(1,2),(0,4),(1,4),(3,4)];exact⟨rfl,.inl rfl⟩
 .refine Ax EZ ?_ (BJ [] c0) [(0,2),(1,2),(0,3)];exact⟨rfl,.inr rfl⟩
 refine B6 EZ ?_ (AK @c1) (H0 [4,3] c3 [4,3,5,6] c4) [(1,0),(2,0)] [6];refine A9 EZ ?_ [(2,6),(3,6),(4,6),(5,6)];exact BW (zh @B9.d.eq_1 @B9.A4.eq_1)
theorem aE(v:AG)(j:B9)(d:Int)(hb:v.A6.length<=1000)(hl:v.AB.length<=1000)(hn:j.left.length<=100000):yS 335 [v.d,j.d,.yX d] (.tup [(CE v j d).job.d,CB (CE v j d).BY,.b (CE v j d).own]):=by
 unfold CE
 cases h1:Aq v with
 |false=>exact qi v j d hb hl hn h1
 |true=>
  rw[zn rfl]
  by_cases p1:j.A5=1
  .rw[zn p1];exact VA v j d hb hl hn h1 _ _ _ (.inl ⟨p1,rfl,rfl⟩) (lW v j d hb hl)
  rw[zx p1]
  by_cases p2:j.A5=2
  .rw[zn (.inl p2)];exact VA v j d hb hl hn h1 _ _ _ (.inr (.inl ⟨p2,rfl,rfl⟩)) (X9 v j d)
  by_cases p4:j.A5=4
  .rw[zn (.inr p4)];exact VA v j d hb hl hn h1 _ _ _ (.inr (.inr (.inr ⟨p4,rfl,rfl⟩))) (X9 v j d)
  rw[zx (fun h=>h.elim p2 p4)]
  by_cases p3:j.A5=3
  .rw[zn p3]
   by_cases hs:d∈j.left
   .exact uf v j d hb hl hn h1 p3 hs
   .exact VA v j d hb hl hn h1 _ _ _ (.inr (.inr (.inl ⟨p3,rfl,rfl⟩))) (lX v j d hs hn)
  .rw[zx p3];exact ug v j d hb hl hn h1 ⟨p1,p2,p3,p4⟩
end Nd
end Go.Proofs.YtamjpnmjpponpaaGreatDoor
