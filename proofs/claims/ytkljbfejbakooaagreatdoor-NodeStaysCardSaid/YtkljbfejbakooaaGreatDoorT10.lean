/- Part 10 of a proof. Conditions: those that its theorems state. -/
import Derived.Test.YtkljbfejbakooaaGreatDoorT07
import Derived.Test.YtkljbfejbakooaaGreatDoorT09
set_option linter.unusedSimpArgs false
set_option linter.unusedVariables false
set_option linter.unnecessarySimpa false
set_option maxHeartbeats 40000000
set_option maxRecDepth 4000
namespace Go.Proofs.YtkljbfejbakooaaGreatDoor
open Go.Gar
abbrev PX:Aw:=[0,1,4,5,6,11,12,13,16,19]
abbrev Ht:Aw:=[0,2,3,5,6,7,8,9,14]
theorem mixed:Tryz.prog.follows .mixedOrders=true:=by kernel_rfl
variable {α:Type}
theorem F2[BEq α][LawfulBEq α][DecidableEq α](a b:α):(a==b)=decide (a=b):=by
 by_cases h:a=b<;>simp[h]
theorem BB{xs:List α}{k:Nat}(h:k<xs.length):∃x,xs[k]? =some x:=⟨xs[k],xP h⟩
theorem Au{l:List α}{k:Nat}{x:α}(hx:l[k]? =some x):l.take (k+1)=l.take k++[x]:=by
 rw[List.take_add_one,hx];rfl
variable {a b:Int}
theorem C2(h:a=b):(a !=b)=false:=by rw[bne_eq_false_iff_eq];exact h
theorem C4(h:a≠b):(a !=b)=true:=by rw[bne_iff_ne];exact h
theorem eq_false'(h:a≠b):(a==b)=false:=by rw[beq_eq_false_iff_ne];exact h
theorem AS(h:a=b):(a==b)=true:=by rw[beq_iff_eq];exact h
structure AK where
 AH:AJ
 B2:Int
 AZ:Int
 gone:Bool
 deriving DecidableEq
def AK.A0(x:AK):ww:=[.s x.AH,.i .i64 x.B2,.i .i64 x.AZ,.b x.gone]
def AK.d(x:AK):D:=.agg x.A0
abbrev BX(l:List AK):D:=.sl 4 (l.map AK.A0)
def AY:AK:=⟨[],0,0,false⟩
def AK.rank(x:AK):D:=.agg [.i .i64 x.AZ,.i .i64 x.B2,.b x.gone]
theorem kg(x y:AK):Ix x.A0 y.A0=decide (x=y):=by
 obtain⟨a,b,c,d⟩:=x;obtain⟨a',b',c',d'⟩:=y;simp[AK.A0,Ix,eq1,F2]
theorem Kx(x y:AK):Ix [.s x.AH,.i .i64 x.B2,.i .i64 x.AZ,.b x.gone] [.s y.AH,.i .i64 y.B2,.i .i64 y.AZ,.b y.gone]=decide (x=y):=kg x y
theorem qp(x:AK):xB 351 [x.d] x.rank:=by
 obtain⟨k,v,n,g⟩:=x;refine zF AF Tryz.func351 ?_;refine wd [0,1,2] [] A4 A4 ?_;exact BL @AK.rank.eq_1
theorem XI(x:Int):xB 365 [.i .i64 x] (.b false):=by
 refine zF AF Tryz.func365 ?_;refine wd [0,2] [] A4 A4 ?_;exact zE
def I4(x y:Int):Int:=if x<y then -1 else if y<x then 1 else 0
theorem Qp(x y:Int):xB 353 [.i .i64 x,.i .i64 y] (.i .i64 (I4 x y)):=by
 have h1:=XI x;have h2:=XI y;refine zF AF Tryz.func353 ?_;rcases Int.lt_trichotomy x y with h|h|h
 .have e:I4 x y= -1:=if_pos h;refine wd PX [] A4 (Ax @h1 @h2) ?_;with_reducible repeat' first|constructor|intro hc
  exact BL e
 .have e:I4 x y=0:=by unfold I4;rw[if_neg om,if_neg om]
  refine wd PX [] A4 (Ax @h1 @h2) ?_;with_reducible repeat' first|constructor|intro hc
  exact BL e
 .have e:I4 x y=1:=by unfold I4;rw[if_neg om,if_pos h]
  refine wd PX [] A4 (Ax @h1 @h2) ?_;with_reducible repeat' first|constructor|intro hc
  exact BL e
def fZ(a b:Int):Int:=if a=0 then b else a
theorem uk(a b:Int):xB 352 [.is [a,b]] (.i .i64 (fZ a b)):=by
 refine zF AF Tryz.func352 ?_;refine wd Ht [] A4 A4 ?_;refine BS (fun k:Nat=>k<=2/\(1<=k->a=0)/\(2<=k->b=0)) (fun k:Nat=>⟨[(2,.wo 0),(3,.wo 0),(6,.xG ([a,b])),(7,.wo 2),(8,.wo k)],[],18⟩) (fun k=>2-k) 0 ⟨xQ _,om,om⟩ ?_ (xH _) ?_
 .exact A6.ck rfl
 rintro k ⟨hk,h1,h2⟩
 by_cases k0:k=0
 .subst k0
  by_cases ha:a=0
  .refine wd Ht [] (AM (C2 ha)) A4 ?_;refine⟨1,⟨om,fun _=>ha,om⟩,om,xH _,?_⟩;exact A6.ck rfl
  .have e:fZ a b=a:=if_neg ha;refine wd Ht [] (AM (C4 ha)) A4 ?_;exact BL e
 .have ha:=h1 om;have e:fZ a b=b:=if_pos ha
  by_cases k1:k=1
  .subst k1
   by_cases hb:b=0
   .refine wd Ht [] (AM (C2 hb)) A4 ?_;refine⟨2,⟨om,fun _=>ha,fun _=>hb⟩,om,xH _,?_⟩;exact A6.ck rfl
   .refine wd Ht [] (AM (C4 hb)) A4 ?_;exact BL e
  .have k2:k=2:=om
   subst k2;have hb:b=0:=h2 (xH 2);subst hb;refine wd Ht [] A4 A4 ?_;exact BL e
abbrev Ea:Aw:=[0,1,2,3,4,5,6,7,14,32,34]
def Jh(x y:AK):Int:=
 if x.AZ<y.AZ then -1 else if y.AZ<x.AZ then 1 else if x.B2<y.B2 then -1 else if y.B2<x.B2 then 1 else
 if x.gone=y.gone then 0 else if x.gone then 1 else -1
theorem rG(x y:AK):xB 318 [x.d,y.d] (.i .i64 (Jh x y)):=by
 have c1:=qp x;have c2:=qp y;obtain⟨k,v,n,g⟩:=x;obtain⟨k',v',n',g'⟩:=y;have c3:=Qp n n';have c4:=Qp v v';have c5:=uk (I4 n n') (I4 v v');refine zF AF Tryz.func318 ?_;refine wd Ea [1] A4 A4 ?_;refine Mb T.get 4 5 2 3 ⟨[(0,.d (AK.d ⟨k,v,n,g⟩)),(1,.d (AK.d ⟨k',v',n',g'⟩)),(2,.ptr 0 0 4),(3,.ptr 1 0 4),(4,.wo 0),(5,.ptr 2 0 3),(6,.ptr 3 0 3)],[.c [.xE k,.wo v,.wo n,.wu g],.c [.xE k',.wo v',.wo n',.wu g'],.c [.wo n,.wo v,.wu g],.c [.wo n',.wo v',.wu g']],36⟩ mixed rfl rfl rfl ?_ ?_ ?_
 .refine wd Ea [] A4 (Ax @c1 @c2) ?_ [(0,4),(0,5),(0,6),(0,7),(2,4),(2,5),(2,6),(2,7)];exact⟨rfl,.inl rfl⟩
 .refine wd Ea [] A4 (Ax @c1 @c2) ?_ [(0,4),(0,5),(0,6),(0,7),(2,4),(2,5),(2,6),(2,7)];exact⟨rfl,.inr rfl⟩
 by_cases hs:n=n'/\v=v'/\g=g'
 .obtain⟨rfl,rfl,rfl⟩:=hs;have e:Ix [.i .i64 n,.i .i64 v,.b g] [.i .i64 n,.i .i64 v,.b g]=true:=by simp[Ix,eq1]
  have eT:Jh ⟨k,v,n,g⟩ ⟨k',v,n,g⟩=0:=by simp[Jh]
  refine wd Ea [] (AM e) A4 ?_;exact BL eT
 have e:Ix [.i .i64 n,.i .i64 v,.b g] [.i .i64 n',.i .i64 v',.b g']=false:=by
  cases h:Ix [.i .i64 n,.i .i64 v,.b g] [.i .i64 n',.i .i64 v',.b g']with
  |false=>rfl
  |true=>simp[Ix,eq1]at h;exact absurd h hs
 rcases Int.lt_trichotomy n n' with h|h|h
 .have hO:fZ (I4 n n') (I4 v v')= -1:=by simp[fZ,I4,h]
  have eT:Jh ⟨k,v,n,g⟩ ⟨k',v',n',g'⟩= -1:=by simp[Jh,h]
  rw[hO]at c5;refine wd Ea [] (AM e) (Ci @c3 @c4 @c5) ?_;exact BL eT
 .subst h;rcases Int.lt_trichotomy v v' with h|h|h
  .have hO:fZ (I4 n n) (I4 v v')= -1:=by simp[fZ,I4,h]
   have eT:Jh ⟨k,v,n,g⟩ ⟨k',v',n,g'⟩= -1:=by simp[Jh,h]
   rw[hO]at c5;refine wd Ea [] (AM e) (Ci @c3 @c4 @c5) ?_;exact BL eT
  .subst h;have hg:¬g=g':=fun hg=>hs ⟨rfl,rfl,hg⟩
   have hO:fZ (I4 n n) (I4 v v)=0:=by simp[fZ,I4]
   rw[hO]at c5
   cases g with
   |true=>
    have eT:Jh ⟨k,v,n,true⟩ ⟨k',v,n,g'⟩=1:=by simp[Jh,hg]
    refine wd Ea [] (AM e) (Ci @c3 @c4 @c5) ?_;exact BL eT
   |false=>
    have eT:Jh ⟨k,v,n,false⟩ ⟨k',v,n,g'⟩= -1:=by simp[Jh,hg]
    refine wd Ea [] (AM e) (Ci @c3 @c4 @c5) ?_;exact BL eT
  .have hO:fZ (I4 n n) (I4 v v')=1:=by simp[fZ,I4,h,show ¬v<v' by omega]
   have eT:Jh ⟨k,v,n,g⟩ ⟨k',v',n,g'⟩=1:=by simp[Jh,h,show ¬v<v' by omega]
   rw[hO]at c5;refine wd Ea [] (AM e) (Ci @c3 @c4 @c5) ?_;exact BL eT
 .have hO:fZ (I4 n n') (I4 v v')=1:=by simp[fZ,I4,h,show ¬n<n' by omega]
  have eT:Jh ⟨k,v,n,g⟩ ⟨k',v',n',g'⟩=1:=by simp[Jh,h,show ¬n<n' by omega]
  rw[hO]at c5;refine wd Ea [] (AM e) (Ci @c3 @c4 @c5) ?_;exact BL eT
theorem iI(x y:AK):xB 275 [x.d,y.d] (.b (decide (Jh x y>0))):=by
 have c:=rG x y;refine zF AF Tryz.func275 ?_;refine wd [0,1,2,3,4] [] A4 (AM @c) ?_;exact zE
def AK.may(x:AK):Bool:=decide (1<=x.AH.length)&&decide (x.AH.length<=20)&&decide (0<=x.B2)&&decide (x.B2<=1048576)&&decide (0<=x.AZ)&&decide (x.AZ<=1048576)
theorem pT(x:AK):x.may=true↔(1<=x.AH.length/\x.AH.length<=20)/\(0<=x.B2/\x.B2<=1048576)/\(0<=x.AZ/\x.AZ<=1048576):=by
 simp only[AK.may,xI,xK];constructor
 .rintro⟨⟨⟨⟨⟨h1,h2⟩,h3⟩,h4⟩,h5⟩,h6⟩;exact⟨⟨h1,h2⟩,⟨h3,h4⟩,h5,h6⟩
 .rintro⟨⟨h1,h2⟩,⟨h3,h4⟩,h5,h6⟩;exact⟨⟨⟨⟨⟨h1,h2⟩,h3⟩,h4⟩,h5⟩,h6⟩
theorem NZ(s:AJ):xB 134 [.s s] (.b (decide (1<=s.length/\s.length<=20))):=by
 refine zF AF Tryz.func134 ?_
 by_cases h1:1<=s.length
 .have f1:decide ((s.length:Int)>=1)=true:=xM om
  by_cases h2:s.length<=20
  .have f2:decide ((s.length:Int)<=20)=true:=xM om;rw[xM (show 1<=s.length/\s.length<=20 from⟨h1,h2⟩)];refine wd [0,2] [] (Ax f1 f2) A4 ?_;exact zE
  .have f2:decide ((s.length:Int)<=20)=false:=xO om;rw[xO (show ¬(1<=s.length/\s.length<=20)from fun h=>h2 h.2)];refine wd [0,2] [] (Ax f1 f2) A4 ?_;exact zE
 .have f1:decide ((s.length:Int)>=1)=false:=xO om;rw[xO (show ¬(1<=s.length/\s.length<=20)from fun h=>h1 h.1)];refine wd [0,2] [] (AM f1) A4 ?_;exact zE
theorem IA(n:Int):xB 135 [.i .i64 n] (.b (decide (0<=n/\n<=1048576))):=by
 refine zF AF Tryz.func135 ?_;refine wd [0,2] [] A4 A4 ?_;with_reducible repeat' first|constructor|intro hc
 all_goals(refine⟨_,_,rfl,rfl,?_⟩;simp_all[Cq]<;>omega)
theorem LO(x:AK):xB 50 [x.d] (.b x.may):=by
 obtain⟨k,v,n,g⟩:=x;have c1:=NZ k;have c2:=IA v;have c3:=IA n;have hm:=pT ⟨k,v,n,g⟩;refine zF AF Tryz.func50 ?_;refine wd [0,1,2] [] A4 (Ci @c1 @c2 @c3) ?_;with_reducible repeat' first|constructor|intro hc
 all_goals(refine⟨_,_,rfl,rfl,?_⟩;simp_all[Cq,AK.may]<;>omega)
theorem SV(x:AK):xB 26 [x.d] (.b x.may):=by
 obtain⟨k,v,n,g⟩:=x;refine zF AF Tryz.func26 ?_;refine wd [0,1,2] [] A4 A4 ?_;with_reducible repeat' first|constructor|intro hc
 all_goals(refine⟨_,_,rfl,rfl,?_⟩;simp_all[Cq,AK.may]<;>omega)
end Go.Proofs.YtkljbfejbakooaaGreatDoor
namespace Go.Proofs.YtkljbfejbakooaaGreatDoor
namespace Wi
open Go.Gar
structure AC where
 AR:Int
 Aa:Int
 As:Int
 dst:Int
 AH:Int
 B4:Bool
 done:Bool
 AT:Int
 AG:Int
 A8:Ad
 A9:AK
 AQ:Int
 deriving DecidableEq
def AC.A0(m:AC):ww:=[.i .u8 m.AR,.i .i64 m.Aa,.i .i64 m.As,.i .i64 m.dst,.i .i64 m.AH,.b m.B4,.b m.done,.i .i64 m.AT,.i .i64 m.AG,.is m.A8,.s m.A9.AH,.i .i64 m.A9.B2,.i .i64 m.A9.AZ,.b m.A9.gone,.i .i64 m.AQ]
def AC.d(m:AC):D:=.agg m.A0
def AN:AC:=⟨0,0,0,0,0,false,false,0,0,[],AY,0⟩
def Bp(n:Int):Bool:=decide (0<=n)&&decide (n<65536)
theorem Di(n:Int):xB 63 [.i .i64 n] (.b (Bp n)):=by
 refine zF AF Tryz.func63 ?_;refine wd [0,2] [] A4 A4 ?_;with_reducible repeat' first|constructor|intro hc
 all_goals(refine⟨_,_,rfl,rfl,?_⟩;simp_all[Cq,Bp]<;>omega)
theorem Oy(n:Int):xB 140 [.i .i64 n] (.b (Bp n)):=by
 refine zF AF Tryz.func140 ?_;refine wd [0,2] [] A4 A4 ?_;with_reducible repeat' first|constructor|intro hc
 all_goals(refine⟨_,_,rfl,rfl,?_⟩;simp_all[Cq,Bp]<;>omega)
def AC.BN(m:AC):Bool:=decide (1<=m.AR)&&decide (m.AR<=6)
theorem SU(m:AC):xB 20 [m.d] (.b m.BN):=by
 obtain⟨k,c,s,d,ky,sl,dn,pl,pr,l,⟨ik,iv,ir,ig⟩,co⟩:=m;refine zF AF Tryz.func20 ?_;refine wd [0,1,2] [] A4 A4 ?_;with_reducible repeat' first|constructor|intro hc
 all_goals(refine⟨_,_,rfl,rfl,?_⟩;simp_all[Cq,AC.BN]<;>omega)
theorem H9(m:AC):xB 44 [m.d] (.b m.BN):=by
 obtain⟨k,c,s,d,ky,sl,dn,pl,pr,l,⟨ik,iv,ir,ig⟩,co⟩:=m;refine zF AF Tryz.func44 ?_;refine wd [0,1,2] [] A4 A4 ?_;with_reducible repeat' first|constructor|intro hc
 all_goals(refine⟨_,_,rfl,rfl,?_⟩;simp_all[Cq,AC.BN]<;>omega)
def AC.asker(m:AC):Int:=if m.BN then m.As else m.dst
theorem fq(m:AC):xB 64 [m.d] (.i .i64 m.asker):=by
 have h:=SU m
 by_cases e:m.BN=true
 .rw[e]at h;have e2:m.asker=m.As:=if_pos e;obtain⟨k,c,s,d,ky,sl,dn,pl,pr,l,⟨ik,iv,ir,ig⟩,co⟩:=m;refine zF AF Tryz.func64 ?_;refine wd [0,1,2,4] [] A4 (AM @h) ?_;exact BL e2
 .have e:m.BN=false:=by simpa using e
  rw[e]at h;have e2:m.asker=m.dst:=if_neg (by simp[e]);obtain⟨k,c,s,d,ky,sl,dn,pl,pr,l,⟨ik,iv,ir,ig⟩,co⟩:=m;refine zF AF Tryz.func64 ?_;refine wd [0,1,2,4] [] A4 (AM @h) ?_;exact BL e2
theorem fK(m:AC):xB 200 [m.d] (.i .i64 m.asker):=by
 have h:=H9 m
 by_cases e:m.BN=true
 .rw[e]at h;have e2:m.asker=m.As:=if_pos e;obtain⟨k,c,s,d,ky,sl,dn,pl,pr,l,⟨ik,iv,ir,ig⟩,co⟩:=m;refine zF AF Tryz.func200 ?_;refine wd [0,1,2,4] [] A4 (AM @h) ?_;exact BL e2
 .have e:m.BN=false:=by simpa using e
  rw[e]at h;have e2:m.asker=m.dst:=if_neg (by simp[e]);obtain⟨k,c,s,d,ky,sl,dn,pl,pr,l,⟨ik,iv,ir,ig⟩,co⟩:=m;refine zF AF Tryz.func200 ?_;refine wd [0,1,2,4] [] A4 (AM @h) ?_;exact BL e2
def Bc(s:AJ):Bool:=decide ((s.length:Int)>=1)&&decide ((s.length:Int)<=20)
def isVal(n:Int):Bool:=decide (0<=n)&&decide (n<=1048576)
def BE(x:AK):Bool:=Bc x.AH&&isVal x.B2&&isVal x.AZ
theorem NZ(s:AJ):xB 134 [.s s] (.b (Bc s)):=by
 refine zF AF Tryz.func134 ?_
 by_cases h:(s.length:Int)>=1
 .refine wd [0,2] [] A4 A4 ?_;with_reducible repeat' first|constructor|intro hc
  all_goals(refine⟨_,_,rfl,rfl,?_⟩;simp only[Cq,Bc,h,decide_true,yF])
 .refine wd [0,2] [] A4 A4 ?_;with_reducible repeat' first|constructor|intro hc
  all_goals(refine⟨_,_,rfl,rfl,?_⟩;simp only[Cq,Bc,h,q0M,zN])
theorem IA(n:Int):xB 135 [.i .i64 n] (.b (isVal n)):=by
 refine zF AF Tryz.func135 ?_;refine wd [0,2] [] A4 A4 ?_;with_reducible repeat' first|constructor|intro hc
 all_goals(refine⟨_,_,rfl,rfl,?_⟩;simp_all[Cq,isVal]<;>omega)
end Wi
end Go.Proofs.YtkljbfejbakooaaGreatDoor
