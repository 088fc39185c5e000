/- Part 32 of a proof. Conditions: those that its theorems state. -/
import Derived.Test.YtkljbfejbakooaaGreatDoorT27
import Derived.Test.YtkljbfejbakooaaGreatDoorT31
set_option linter.unusedSimpArgs false
set_option linter.unusedVariables false
set_option linter.unnecessarySimpa false
set_option maxHeartbeats 40000000
set_option maxRecDepth 4000
namespace Go.Proofs.YtkljbfejbakooaaGreatDoor
namespace Nd
open Go.Gar
open Wi (AC Bp BE AN Bc C6 BP)
theorem ij{α:Type}{R:α->α->Prop}(tr:∀a b c,R a b->R b c->R a c)(d:α):∀l:List α,(∀k,k<l.length->k=0\/R (l.getD (k-1) d) (l.getD k d))->l.Pairwise R
 |[],_=>List.Pairwise.nil
 |[a],_=>by simp
 |a::b::r,h=>by
  have ih:=ij tr d (b::r) (fun k hk=>by
   rcases zu k with e|e
   .exact .inl e
   .have:=h (k+1) (by simpa using hk);obtain⟨j,rfl⟩:∃j,k=j+1:=⟨k-1,om⟩
    simpa using this)
  have hab:R a b:=by
   have:=h 1 sm;simpa using this
  refine q0L.2 ⟨fun x hx=> ?_,ih⟩;rcases yP.1 hx with rfl|hx
  .exact hab
  .exact tr _ _ _ hab ((q0L.1 ih).1 x hx)
theorem tV{α:Type}{R:α->α->Prop}(d:α){l:List α}(h:l.Pairwise R)(k:Nat)(hk:k<l.length):k=0\/R (l.getD (k-1) d) (l.getD k d):=by
 rcases zu k with e|e
 .exact .inl e
 .right;rw[getD_at (xP hk),getD_at (xP (show k-1<l.length by omega))];exact zk.1 h (k-1) k om hk om
variable {c:Calls}
theorem Bz:Bs c=true↔(Bp c.id=true/\0<=c.AU/\c.AU<=1048576/\c.op.length<=16)/\(∀x∈c.op,Em c.id c.AU x=true)/\c.op.Pairwise fun x y=>x.id<y.id:=by
 unfold Bs Pg;simp only[xI,xK,Kg];refine and_congr_right fun _=>⟨fun h=>⟨fun x hx=> ?_,ij (R:=fun x y:AW=>x.id<y.id) (fun _ _ _=>Int.lt_trans) KN _ fun k hk=> ?_⟩,fun h k hk=> ?_⟩
 .obtain⟨k,hk,rfl⟩:=List.getElem_of_mem hx;have:=h k hk;unfold JA at this;rw[xI,getD_at (xP hk)]at this;exact this.1
 .have:=h k hk;unfold JA at this;rw[xI,xK]at this;exact this.2
 .unfold JA;rw[xI,xK];refine⟨?_,tV KN h.2 k hk⟩;rw[getD_at (xP hk)];exact h.1 _ (q00 hk)
theorem Dq{id AU:Int}{x:AW}:Em id AU x=true↔x.Ao.right=true/\x.Ao.BN=true/\x.Ao.As=id/\x.id=x.Ao.Aa/\x.id<=id*1048576+AU/\1<=x.BA/\x.BA<=3/\DJ x.C0=true:=by
 unfold Em;simp only[xI,xK]
variable {m:AC}{now:Int}
theorem ca{BQ ref:Int}(h:Bs c=true)(he:(Bt c m BQ ref now).2.2=0):
  c.op.length<16/\c.AU<1048576/\DJ now=true/\∃q:AC,q={m with Aa:=c.id*1048576+(c.AU+1),As:=c.id}/\q.right=true/\q.BN=true/\Bt c m BQ ref now=(⟨c.id,c.AU+1,c.op++[⟨c.id*1048576+(c.AU+1),q,BQ,ref,now,1⟩]⟩,q,0):=by
 have hh:=(Bz.1 h).1;unfold Bt at he|-;rw[if_pos h]at he|-;split at he
 .cases he
 .rename_i h1;rw[if_neg h1];dsimp only at he|-;split at he
  .rename_i h2;rw[if_pos h2];simp only[xI]at h2;exact⟨om,om,h2.1,_,rfl,h2.2.2,h2.2.1,rfl⟩
  .cases he
theorem Zp{BQ ref:Int}(h:Bs c=true)(he:(Bt c m BQ ref now).2.2=0):Bs (Bt c m BQ ref now).1=true:=by
 obtain⟨h1,h2,h3,q,hq,h4,h5,e⟩:=ca h he;rw[e];obtain⟨⟨a1,a2,a3,a4⟩,a5,a6⟩:=Bz.1 h;have hs:q.As=c.id:=by rw[hq]
 have hc:q.Aa=c.id*1048576+(c.AU+1):=by rw[hq]
 refine Bz.2 ⟨⟨a1,by dsimp only;omega,by dsimp only;omega,by simp;omega⟩,fun x hx=> ?_,?_⟩
 .dsimp only at hx|-;rw[yx,zV]at hx;rcases hx with hx|rfl
  .obtain⟨b1,b2,b3,b4,b5,b6⟩:=Dq.1 (a5 x hx);exact Dq.2 ⟨b1,b2,b3,b4,om,b6⟩
  .exact Dq.2 ⟨h4,h5,hs,hc.symm,q0C _,q0C _,(by decide:(1:Int)<=3),h3⟩
 .refine List.pairwise_append.2 ⟨a6,sm,fun x hx y hy=> ?_⟩;rw[zV]at hy;subst hy;have:=(Dq.1 (a5 x hx)).2.2.2.2.1;dsimp only;omega
theorem TR{l:List AW}(h:Bs c=true)(hs:l.Sublist c.op):Bs ⟨c.id,c.AU,l⟩=true:=by
 obtain⟨⟨a1,a2,a3,a4⟩,a5,a6⟩:=Bz.1 h;have:=hs.length_le;exact Bz.2 ⟨⟨a1,a2,a3,by dsimp only;omega⟩,fun x hx=>a5 x (hs.subset hx),a6.sublist hs⟩
theorem WY(h:Bs c=true):Bs (D9 c m).1=true:=by
 unfold D9;split
 .split
  .exact TR h List.filter_sublist
  .exact h
 .exact h
theorem WX(hk:(D9 c m).2.2=true):Bs c=true/\m.right=true/\(D9 c m).2.1∈c.op/\Q2 c.id m (D9 c m).2.1=true/\(D9 c m).1=⟨c.id,c.AU,c.op.filter fun y=> !Q2 c.id m y⟩:=by
 unfold D9 at hk|-;split at hk
 .rename_i hc;rw[if_pos hc];rw[xI]at hc
  cases hf:c.op.find? (Q2 c.id m)with
  |none=>rw[hf]at hk;cases hk
  |some x=>exact⟨hc.1,hc.2,List.mem_of_find?_eq_some hf,List.find?_some hf,rfl⟩
 .cases hk
theorem SF(now:Int)(x:AW):(HC now x).id=x.id:=by unfold HC;split<;>rfl
theorem fO(now:Int)(x:AW):(HC now x).Ao=x.Ao:=by unfold HC;split<;>rfl
theorem Zc(h:Bs c=true):Bs (CH c now).1=true:=by
 unfold CH;split
 .rename_i hc;rw[xI]at hc;have hs:=TR h (List.filter_sublist (l:=c.op) (p:=fun x=> !Dc now x));obtain⟨⟨a1,a2,a3,a4⟩,a5,a6⟩:=Bz.1 hs;dsimp only at a1 a2 a3 a4 a5 a6;refine Bz.2 ⟨⟨a1,a2,a3,by dsimp only;rw[yS];exact a4⟩,fun y hy=> ?_,?_⟩
  .obtain⟨x,hx,rfl⟩:=List.mem_map.1 hy;obtain⟨b1,b2,b3,b4,b5,b6,b7,b8⟩:=Dq.1 (a5 x hx);rw[Dq,SF,fO];refine⟨b1,b2,b3,b4,b5,?_⟩;unfold HC;split
   .rename_i hd;unfold MK at hd;simp only[xI,xK]at hd;exact⟨by dsimp only;omega,by dsimp only;omega,hc.2⟩
   .exact⟨b6,b7,b8⟩
  .refine List.pairwise_map.2 (a6.imp fun{x y} hxy=> ?_);rw[SF,SF];exact hxy
 .exact h
theorem cN(c:Calls)(now:Int):(CH c now).1.id=c.id/\(CH c now).1.AU=c.AU:=by
 unfold CH;split<;>exact⟨rfl,rfl⟩
theorem l8(c:Calls)(now:Int)(h:Bs c=true):(CH c now).1.op.length<=16/\(CH c now).2.1.length<=(CH c now).1.op.length/\(CH c now).2.2.length<=16:=by
 have h16:=(Bz.1 h).1.2.2.2;unfold CH;split
 .dsimp only;have h1:=yu (fun x=> !Dc now x) c.op;have h2:=yu (MK now) (c.op.filter fun x=> !Dc now x);have h3:=yu (Dc now) c.op;rw[yS,yS];omega
 .exact⟨h16,xQ _,xQ _⟩
theorem fC(h:Bs c=true):(∀m∈(CH c now).2.1,m.right=true/\m.BN=true/\m.As=c.id)/\∀x∈(CH c now).2.2,Em c.id c.AU x=true:=by
 have a5:=(Bz.1 h).2.1;unfold CH;split
 .refine⟨fun m hm=> ?_,fun x hx=>a5 x (List.mem_filter.1 hx).1⟩;obtain⟨x,hx,rfl⟩:=List.mem_map.1 hm;obtain⟨b1,b2,b3,_⟩:=Dq.1 (a5 x (List.mem_filter.1 (List.mem_filter.1 hx).1).1);exact⟨b1,b2,b3⟩
 .exact⟨fun m hm=>(by cases hm),fun x hx=>(by cases hx)⟩
variable {l:List Past}
theorem Hr:GI l=true↔l.length<=40/\(∀p∈l,Mq p=true)/\l.Pairwise fun p q=>¬(p.As=q.As/\p.Aa=q.Aa):=by
 unfold GI;rw[xI,xK,Kg];refine and_congr_right fun _=>⟨fun h=>⟨fun x hx=> ?_,zk.2 fun i j hi hj hij=> ?_⟩,fun h k hk=> ?_⟩
 .obtain⟨k,hk,rfl⟩:=List.getElem_of_mem hx;have:=h k hk;unfold FP at this;rw[xI,getD_at (xP hk)]at this;exact this.1
 .have:=h j hj;unfold FP at this;rw[xI,getD_at (xP hj),zf]at this;have h2:=zM.1 this.2 l[i] (List.mem_iff_getElem?.2 ⟨i,by rw[zL,if_pos hij];exact xP hi⟩);unfold La at h2;simpa using h2
 .unfold FP;rw[xI,zf,getD_at (xP hk)];refine⟨h.1 _ (q00 hk),zM.2 fun p hp=> ?_⟩;obtain⟨i,hi,rfl⟩:=List.getElem_of_mem hp;rw[yM]at hi;rw[List.getElem_take];have:=zk.1 h.2 i k om hk om;unfold La;simpa using this
theorem Mr{p:Past}:Mq p=true↔p.AE.right=true/\p.AE.BN=false/\p.AE.dst=p.As/\p.AE.Aa=p.Aa:=by
 unfold Mq;simp only[xI,xK,zf]
theorem YH{s c:Int}(h:(Cr l s c).2=false):∀p∈l,¬(p.As=s/\p.Aa=c):=by
 unfold Cr at h;intro p hp
 cases hf:l.find? (fun p=>decide (p.As=s)&&decide (p.Aa=c))with
 |some q=>rw[hf]at h;cases h
 |none=>
  have:=List.find?_eq_none.1 hf p hp;simpa using this
theorem gG{s c:Int}(h:(Cr l s c).2=true):∃p∈l,p.As=s/\p.Aa=c/\(Cr l s c).1=p.AE:=by
 unfold Cr at h|-
 cases hf:l.find? (fun p=>decide (p.As=s)&&decide (p.Aa=c))with
 |some q=>
  have h2:=List.find?_some hf;simp only[xI,xK]at h2;exact⟨q,List.mem_of_find?_eq_some hf,h2.1,h2.2,rfl⟩
 |none=>rw[hf]at h;cases h
theorem YE{t:AC}(h:GI l=true):GI (EJ l t)=true:=by
 unfold EJ;split
 .rename_i hc;rw[xI,zf]at hc;split
  .exact h
  .rename_i hf;have hn:=YH (Bool.not_eq_true _▸hf);obtain⟨a1,a2,a3⟩:=Hr.1 h;have hs:=List.drop_sublist ((l.length+1)-40) (l++[⟨t.dst,t.Aa,t⟩]);refine Hr.2 ⟨?_,fun p hp=> ?_,List.Pairwise.sublist hs (List.pairwise_append.2 ⟨a3,sm,fun p hp q hq=> ?_⟩)⟩
   .rw[List.length_drop,y9,List.length_singleton];omega
   .have hp:=hs.subset hp;rw[yx,zV]at hp;rcases hp with hp|rfl
    .exact a2 p hp
    .exact Mr.2 ⟨hc.1,hc.2,rfl,rfl⟩
   .rw[zV]at hq;subst hq;exact hn p hp
 .exact h
theorem YC{t:AC}(h:GI l=true)(h1:t.right=true)(h2:t.BN=false)(h3:(Cr l t.dst t.Aa).2=false):Cr (EJ l t) t.dst t.Aa=(t,true):=by
 have hn:=YH h3;have hl:=(Hr.1 h).1;unfold EJ;rw[h1,h2,h3];simp only[Bool.not_false,zh,yG,yJ,yC]
 have hd:(l++[(⟨t.dst,t.Aa,t⟩:Past)]).drop ((l.length+1)-40)=l.drop ((l.length+1)-40)++[⟨t.dst,t.Aa,t⟩]:=by
  rw[List.drop_append_of_le_length om]
 rw[hd];unfold Cr
 have hnone:(l.drop ((l.length+1)-40)).find? (fun p=>decide (p.As=t.dst)&&decide (p.Aa=t.Aa))=none:=by
  rw[List.find?_eq_none];intro p hp;have:=hn p (List.mem_of_mem_drop hp);simpa using this
 rw[List.find?_append,hnone];simp
end Nd
end Go.Proofs.YtkljbfejbakooaaGreatDoor
namespace Go.Proofs.YtkljbfejbakooaaGreatDoor
namespace Nd
open Go.Gar
open Wi (AC Bp BE AN Bc mC C6 BP)
abbrev Do:Aw:=[0,1,2,3,4,5,6,10,11,12,13,14,17,26,53]
theorem dy(c:Calls)(m:AC)(BQ ref now:Int)(hl:∀x∈c.op,Am x.Ao)(hn:c.op.length<=1048576)(hm:Am m):xB 153 [c.d,m.d,.i .u8 BQ,.i .i64 ref,.i .i64 now] (.tup [(Bt c m BQ ref now).1.d,(Bt c m BQ ref now).2.1.d,.i .i64 (Bt c m BQ ref now).2.2]):=by
 have c1:=Kk c hl;have c2:=QF c hl hn;have c3:=On now;have c5:=ER m hm
 cases hc:Bs c with
 |false=>
  have hT:Bt c m BQ ref now=(c,AN,2):=by unfold Bt;rw[hc];rfl
  rw[hc]at c1;rw[hT];clear c3 c5 hT hc;refine zF AF Tryz.func153 ?_;unfold Wi.AC.d Wi.AC.A0 Calls.d Calls.A0 at *;refine wd Do [] A4 (Ax @c1 @c2) ?_ [] true;exact BL (xU @AN.eq_1 @AY.eq_1)
 |true=>
 have hh:=(Bz.1 hc).1;rw[hc]at c1
 by_cases h1:c.op.length=16
 .have f1:((c.op.length:Int)==16)=true:=AS om;have hT:Bt c m BQ ref now=(c,AN,100):=by unfold Bt;rw[hc,if_pos rfl,if_pos (.inl h1)]
  rw[hT];clear c3 c5 hT hc;refine zF AF Tryz.func153 ?_;unfold Wi.AC.d Wi.AC.A0 Calls.d Calls.A0 at *;refine wd Do [] (AM f1) (Ax @c1 @c2) ?_ [] true;exact BL (xU @AN.eq_1 @AY.eq_1)
 have f1:((c.op.length:Int)==16)=false:=eq_false' om
 by_cases h2:c.AU=1048576
 .have f2:=AS h2;have hT:Bt c m BQ ref now=(c,AN,100):=by unfold Bt;rw[hc,if_pos rfl,if_pos (.inr h2)]
  rw[hT];clear c3 c5 hT hc;refine zF AF Tryz.func153 ?_;unfold Wi.AC.d Wi.AC.A0 Calls.d Calls.A0 at *;refine wd Do [] (Ax f1 f2) (Ax @c1 @c2) ?_ [] true;exact BL (xU @AN.eq_1 @AY.eq_1)
 have f2:=eq_false' h2;have c4:=UL c.id (c.AU+1);have e4:Gx c.id (c.AU+1)=(c.id*1048576+(c.AU+1),0):=if_pos ⟨hh.1,om,om⟩;rw[e4]at c4;have hp:=Wi.FD hh.1;obtain⟨q,hq⟩:∃q:AC,q={m with Aa:=c.id*1048576+(c.AU+1),As:=c.id}:=⟨_,rfl⟩;have hql:Am q:=by rw[hq];exact hm
 have c6:=Wi.H9 q;have c7:=Wi.CX q (lm hql);have c8:=ER q hql
 have hT:Bt c m BQ ref now=if DJ now&&(q.BN&&q.right)then(⟨c.id,c.AU+1,c.op++[⟨c.id*1048576+(c.AU+1),q,BQ,ref,now,1⟩]⟩,q,0)else(c,AN,2):=by
  unfold Bt;rw[hc,if_pos rfl,if_neg om,hq]
 rw[hT];clear hT c5 e4;generalize q.BN=qa at *;generalize q.right=qr at *;subst hq;generalize hid:c.id*1048576+(c.AU+1)=k at *;refine zF AF Tryz.func153 ?_;unfold Wi.AC.d Wi.AC.A0 Calls.d Calls.A0 at*
 cases ht:DJ now with
 |false=>
  rw[ht]at c3;refine wd Do [7] (Ax f1 f2) (Ax @c1 @c4) ?_ [] true;refine wd Do [8] A4 A4 ?_ [(1,4),(2,4)] true;refine wd Do [] A4 (Ax @c2 @c3) ?_ [] true;exact BL (xU @AN.eq_1 @AY.eq_1)
 |true=>
 rw[ht]at c3
 cases qa with
 |false=>
  refine wd Do [7] (Ax f1 f2) (Ax @c1 @c4) ?_ [] true;refine wd Do [8] A4 A4 ?_ [(1,4),(2,4)] true;refine wd Do [] A4 (Ci @c2 @c3 @c6) ?_ [] true;exact BL (xU @AN.eq_1 @AY.eq_1)
 |true=>
 cases qr with
 |false=>
  refine wd Do [7] (Ax f1 f2) (Ax @c1 @c4) ?_ [] true;refine wd Do [8] A4 A4 ?_ [(1,4),(2,4)] true;refine wd Do [] A4 (KQ @c2 @c3 @c6 @c7) ?_ [] true;exact BL (xU @AN.eq_1 @AY.eq_1)
 |true=>
  have c9:=jR c.id c.AU c.op hl hn;unfold Calls.d Calls.A0 at c9;refine wd Do [7] (Ax f1 f2) (Ax @c1 @c4) ?_ [] true;refine wd Do [8] A4 A4 ?_ [(1,4),(2,4)] true;have d1:=Ds.mk [] (c9);refine wd Do [11] A4 (Ci @c3 @c6 @c7) ?_ [] true;clear d1;have ow:Lv [69]:=trivial;refine wd Do [12] A4 (AM @c8) ?_ [(0,9),(1,9)] true;clear ow;refine wd Do [] A4 (AM @c8) ?_ [(1,3)] true;refine⟨_,_,rfl,rfl,?_⟩;simp[IT,BK,Bd,B0,Ag,List.map_append,zA,q0F,AW.A0]
end Nd
end Go.Proofs.YtkljbfejbakooaaGreatDoor
