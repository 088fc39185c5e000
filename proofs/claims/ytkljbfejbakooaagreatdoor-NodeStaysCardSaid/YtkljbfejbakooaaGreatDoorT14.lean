/- Part 14 of a proof. Conditions: those that its theorems state. -/
import Derived.Test.YtkljbfejbakooaaGreatDoorT13
set_option linter.unusedSimpArgs false
set_option linter.unusedVariables false
set_option linter.unnecessarySimpa false
set_option maxHeartbeats 40000000
set_option maxRecDepth 4000
namespace Go.Proofs.YtkljbfejbakooaaGreatDoor
namespace Nd
open Go.Gar
open Wi (AC Bp)
abbrev M1:Aw:=[0,1,2,3,5,29,31,32,33,34,46]
abbrev KN:AW:=⟨0,Wi.AN,0,0,0,0⟩
def Em(id AU:Int)(x:AW):Bool:=x.Ao.right&&(x.Ao.BN&&(decide (x.Ao.As=id)&&(decide (x.id=x.Ao.Aa)&&(decide (x.id<=id*1048576+AU)&&(decide (1<=x.BA)&&(decide (x.BA<=3)&&DJ x.C0))))))
def JA(c:Calls)(k:Nat):Bool:=Em c.id c.AU (c.op.getD k KN)&&decide (k=0\/(c.op.getD (k-1) KN).id<(c.op.getD k KN).id)
def Pg(c:Calls):Bool:=Bp c.id&&(decide (0<=c.AU)&&(decide (c.AU<=1048576)&&decide (c.op.length<=16)))
def Bs(c:Calls):Bool:=Pg c&&HM c.op.length (JA c)
def Am(m:AC):Prop:=m.A8.length<=1048576
theorem lm{m:AC}(h:Am m):m.A8.length<9223372036854775807:=by unfold Am at h;omega
theorem Sa{m:AC}(h:m.right=true)(ha:m.BN=true):m.As*1048576+1<=m.Aa/\m.Aa<m.As*1048576+1+1048576/\Bp m.As=true:=by
 unfold AC.right AC.Iy at h;simp only[xI,xK]at h;obtain⟨⟨⟨⟨⟨⟨⟨_,_⟩,h1⟩,_⟩,_⟩,h2⟩,h3⟩,_⟩:=h;unfold AC.asker at h2 h3;rw[if_pos ha]at h2 h3;exact⟨h2,h3,h1⟩
theorem getD_at{α:Type}{l:List α}{k:Nat}{x d:α}(hx:l[k]? =some x):l.getD k d=x:=by rw[xu,hx];rfl
theorem Ol(id AU:Int)(op:List AW)(x:AW)(hi:Bp id=true)(hm:0<=AU/\AU<=1048576)(hl:Am x.Ao):xB 163 [Calls.d ⟨id,AU,op⟩,x.d] (.b (Em id AU x)):=by
 have hb:=Wi.FD hi;have c1:=UL id 1;rw[show Gx id 1=(id*1048576+1,0)from if_pos ⟨hi,om,om⟩]at c1;have c2:=Wi.H9 x.Ao;have c3:=Wi.CX x.Ao (lm hl);have c4:=On x.C0;have hR:=@Sa x.Ao;have hT:Em id AU x=(x.Ao.right&&(x.Ao.BN&&(decide (x.Ao.As=id)&&(decide (x.id=x.Ao.Aa)&&(decide (x.id<=id*1048576+AU)&&(decide (1<=x.BA)&&(decide (x.BA<=3)&&DJ x.C0))))))):=rfl;generalize Em id AU x=R at *;unfold AW.d AW.A0 Calls.d Calls.A0;unfold AC.d AC.A0 at c2 c3;generalize x.Ao.right=rr at *;generalize x.Ao.BN=aa at *;generalize DJ x.C0=tt at *;obtain⟨xid,⟨k,c,s,d,ky,sl,dn,pl,pr,l,⟨ik,iv,ir,ig⟩,co⟩,wh,rf,se,tr⟩:=x;simp only at *;refine zF AF Tryz.func163 ?_;refine wd [0,1,2,3,4,5,6,29] [] A4 (KQ @c1 @c2 @c3 @c4) ?_;with_reducible repeat' first|constructor|intro hc
 all_goals(clear c1 c2 c3 c4;refine⟨_,_,rfl,rfl,?_⟩;simp only[Cy];refine congrArg D.b ?_;rw[hT];clear hT;grind)
theorem Kk(c:Calls)(hl:∀x∈c.op,Am x.Ao):xB 95 [c.d] (.b (Bs c)):=by
 obtain⟨id,AU,op⟩:=c;replace hl:∀x∈op,Am x.Ao:=hl;refine zF AF Tryz.func95 ?_;unfold Calls.d Calls.A0
 cases hh:Pg ⟨id,AU,op⟩with
 |false=>
  have hT:Bs ⟨id,AU,op⟩=false:=by unfold Bs;rw[hh];rfl
  refine wd M1 [] A4 A4 ?_ [] true;with_reducible repeat' first|constructor|intro hc
  all_goals first
   |(refine⟨_,_,rfl,rfl,?_⟩;simp only[Cy];rw[hT];done)
   |(exfalso;simp[Pg,Bp]at hh;omega)
 |true=>
 have hT:Bs ⟨id,AU,op⟩=HM op.length (JA ⟨id,AU,op⟩):=by unfold Bs;rw[hh];rfl
 simp only[Pg,Bp,xI,xK]at hh;obtain⟨⟨h1,h2⟩,h3,h4,h5⟩:=hh;have hp:Bp id=true:=Wi.pp.2 ⟨h1,h2⟩;have f1:decide (id<0)=false:=xO om;have f2:decide (id>=65536)=false:=xO om;have f3:decide (AU<0)=false:=xO om;have f4:decide (AU>1048576)=false:=xO om;have f5:decide ((op.length:Int)>16)=false:=xO om;refine wd M1 [] (MX f1 f2 f3 f4 f5) A4 ?_ [] true;refine DD (fun k=>k<=op.length/\HM k (JA ⟨id,AU,op⟩)=true) (fun k:Nat=>[(33,.wo k),(3,.wo (if k=0 then 0 else(op.getD (k-1) KN).id))]) (fun k=>op.length-k) 0 ⟨xQ _,rfl⟩ (fun _=>rfl) ?_ ?_
 .exact A6.ck rfl
 rintro k ⟨hk,hpre⟩
 by_cases hkl:k<op.length
 .obtain⟨x,hx⟩:=BB hkl;have gx:op.getD k KN=x:=getD_at hx;have c1:=Ol id AU op x hp ⟨h3,h4⟩ (hl x (yH hx));have hK:JA ⟨id,AU,op⟩ k=(Em id AU x&&decide (k=0\/(op.getD (k-1) KN).id<x.id)):=by unfold JA;rw[gx]
  have hpos:Em id AU x=true->1<=x.id:=by
   intro h;simp only[Em,xI,xK]at h;have:=Sa h.1 h.2.1;have:=Wi.FD this.2.2;omega
  generalize hlast:(op.getD (k-1) KN).id=la at *;generalize Em id AU x=ok at *;unfold Calls.d Calls.A0 AW.d AW.A0 at c1;have hix:=Js (f:=AW.A0) hx;unfold AW.A0 at hix;have ix1:=hx;refine wd M1 [] A4 (AM @c1) ?_ [] true;clear ix1;with_reducible repeat' first|constructor|intro hc
  all_goals first
   |(refine⟨k+1,⟨hkl,Ff hpre (by rw[hK];grind)⟩,om,xH _,?_⟩
     exact(have nC:=gx;A6.co rfl))
   |(refine⟨_,_,rfl,rfl,?_⟩;simp only[Cy];rw[hT,I1 hkl (by rw[hK];grind)])
 .have e:k=op.length:=om
  subst e;rw[hpre]at hT;refine wd M1 [] A4 A4 ?_ [] true;with_reducible repeat' first|constructor|intro hc
  exact BL hT
end Nd
end Go.Proofs.YtkljbfejbakooaaGreatDoor
namespace Go.Proofs.YtkljbfejbakooaaGreatDoor
namespace Nd
open Go.Gar Go.Sort
open Wi (AC Bp BE)
abbrev Fo:Aw:=[0,1,2,3,4,7,9,10,11,29]
abbrev M2:Aw:=[0,1,3,4,5,6,7,8,16]
def GD(l:List AK)(k:Nat):Bool:=BE (l.getD k AY)&&decide (k=0\/(l.getD (k-1) AY).AH<(l.getD k AY).AH)
def Ck(l:List AK):Bool:=decide (l.length<=24)&&HM l.length (GD l)
theorem sa(a b:AJ):(!(Op.bytesLess a b))=(Op.bytesLess b a||b==a):=by
 rw[bytesLess_eq,bytesLess_eq,F2,Bool.eq_iff_iff];simp only[zf,zK,yL,xK];constructor
 .intro h
  by_cases e:b=a
  .exact .inr e
  .left
   by_cases h2:b<a
   .exact h2
   .exact absurd (List.le_antisymm (List.not_lt.1 h) (List.not_lt.1 h2)) e
 .rintro(h|rfl)
  .exact List.lt_asymm h
  .exact List.lt_irrefl _
theorem mZ(l:List AK)(hn:l.length<=9223372036854775807):xB 35 [BX l] (.b (Ck l)):=by
 refine zF AF Tryz.func35 ?_;have hT:Ck l=(decide (l.length<=24)&&HM l.length (GD l)):=rfl;refine wd [0,2,3,7,33] [] A4 A4 ?_;refine DD (fun k=>k<=l.length/\HM k (GD l)=true) (fun k:Nat=>[(3,.wo k)]) (fun k=>l.length-k) 0 ⟨xQ _,rfl⟩ (fun _=>rfl) ?_ ?_
 .exact A6.ck rfl
 rintro k ⟨hk,hpre⟩
 by_cases hkl:k<l.length
 .obtain⟨x,hx⟩:=BB hkl;have gx:l.getD k AY=x:=getD_at hx;have c1:=Wi.SV x;have hK:GD l k=(BE x&&decide (k=0\/(l.getD (k-1) AY).AH<x.AH)):=by unfold GD;rw[gx]
  unfold AK.d AK.A0 at c1;generalize BE x=ok at*
  by_cases h0:k=0
  .have f6:decide ((k:Int)>0)=false:=xO om;have ix1:=hx;refine wd [0,2,3,7,33] [] (AM f6) (AM @c1) ?_;clear ix1;with_reducible repeat' first|constructor|intro hc
   all_goals clear c1
   all_goals first
    |(refine⟨k+1,⟨hkl,Ff hpre (by rw[hK];grind)⟩,om,xH _,?_⟩
      exact A6.ck rfl)
    |(refine⟨_,_,rfl,rfl,?_⟩;simp only[Cy];rw[hT,I1 hkl (by rw[hK];grind),zY])
  .have f6:decide ((k:Int)>0)=true:=xM om;have e1:(k:Int)-1=((k-1:Nat):Int):=om
   obtain⟨y,hy⟩:=BB (xs:=l) (k:=k-1) om;have gy:l.getD (k-1) AY=y:=getD_at hy;rw[gy]at hK
   have hs:decide (k=0\/y.AH<x.AH)= !(Op.bytesLess x.AH y.AH||x.AH==y.AH):=by
    rw[<-sa,bytesLess_eq,Bool.not_not];simp[h0]
   rw[hs]at hK;obtain⟨q,hq⟩:∃q,(Op.bytesLess x.AH y.AH||x.AH==y.AH)=q:=⟨_,rfl⟩;rw[hq]at hK;have ix1:=hx;have ix2:=hy;refine wd [0,2,3,7,33] [] (Ci f6 e1 hq) (AM @c1) ?_;clear ix2 ix1;with_reducible repeat' first|constructor|intro hc
   all_goals clear c1
   all_goals first
    |(refine⟨k+1,⟨hkl,Ff hpre (by rw[hK];grind)⟩,om,xH _,?_⟩
      exact A6.ck rfl)
    |(refine⟨_,_,rfl,rfl,?_⟩;simp only[Cy];rw[hT,I1 hkl (by rw[hK];grind),zY])
 .have e:k=l.length:=om
  subst e;rw[hpre]at hT;refine wd [0,2,3,7,33] [] A4 A4 ?_;with_reducible repeat' first|constructor|intro hc
  all_goals(refine⟨_,_,rfl,rfl,?_⟩;simp only[Cy];rw[hT];simp;try omega)
theorem XO(l:List AK):xC 157 [.d (BX l)] [] (.fn (.func 235) [] [.ptr 0 0 1]) [.c [.d (BX l)]]:=by
 refine zD AF Tryz.func157 ?_;refine wd [0,1,2] [] A4 A4 ?_;exact⟨_,(A6.ck rfl),xQ _,_,_,rfl,rfl,rfl,rfl⟩
theorem QQ(l:List AK)(hn:l.length<=9223372036854775807):xB 99 [BX l] (.b (Ck l)):=by
 refine zF AF Tryz.func99 ?_
 by_cases h24:l.length>24
 .have f1:decide ((l.length:Int)>24)=true:=xM om;have hT:Ck l=false:=by unfold Ck;rw[xO om];rfl
  refine wd Fo [] (AM f1) A4 ?_;exact BL hT
 have f1:decide ((l.length:Int)>24)=false:=xO om;have hT:Ck l=HM l.length (GD l):=by unfold Ck;rw[xM om];rfl
 have d1:=Ds.mk [] (XO l);refine wd Fo [] (AM f1) A4 ?_;clear d1
 refine zG (K:=fun r _ H'=>(HM l.length (GD l)=true/\H'=[.c [.d (BX l)],.c [.wu false],.c [.d (BX l)],.lp r])\/
  (HM l.length (GD l)=false/\H'=[.c [.d (BX l)],.c [.wu false],.c [.d (BX l)],.lp (r.left .ret)])) ?_ ?_
 .intro r hr;refine zT AF Tryz.func235 ?_;refine wd M2 [] A4 A4 ?_;have hk:=hr.ok (k:=3) rfl;refine DD (fun k=>k<=l.length/\HM k (GD l)=true) (fun k:Nat=>[(7,.wo k)]) (fun k=>l.length-k) 0 ⟨xQ _,rfl⟩ (fun _=>rfl) ?_ ?_
  .exact A6.ck rfl
  rintro k ⟨hkk,hpre⟩
  by_cases hkl:k<l.length
  .obtain⟨x,hx⟩:=BB hkl;have gx:l.getD k AY=x:=getD_at hx;have c1:=Wi.LO x;have hK:GD l k=(BE x&&decide (k=0\/(l.getD (k-1) AY).AH<x.AH)):=by unfold GD;rw[gx]
   unfold AK.d AK.A0 at c1
   have hY:YT Tryz.prog 3 [.wo k,.d (.agg [.s x.AH,.i .i64 x.B2,.i .i64 x.AZ,.b x.gone])] [.c [.d (BX l)],.c [.wu false],.c [.d (BX l)],.lp r,.c [.xE x.AH,.wo x.B2,.wo x.AZ,.wu x.gone]] fun v K=>v= .wu (GD l k)/\K=if GD l k then[.c [.d (BX l)],.c [.wu false],.c [.d (BX l)],.lp r,.c [.xE x.AH,.wo x.B2,.wo x.AZ,.wu x.gone]]else[.c [.d (BX l)],.c [.wu false],.c [.d (BX l)],.lp (r.left .ret),.c [.xE x.AH,.wo x.B2,.wo x.AZ,.wu x.gone]]:=by
    refine BD hr rfl rfl rfl ?_
    by_cases h0:k=0
    .have f6:decide ((k:Int)>0)=false:=xO om;have hK':GD l k=BE x:=by rw[hK];simp[h0]
     rw[hK'];refine wd Fo [] A4 A4 ?_;refine zR ?_;refine wd Fo [] (AM f6) (AM @c1) ?_;with_reducible repeat' first|constructor|intro hc
     .simp only[hc];exact⟨⟨[],[.c [.d (BX l)],.c [.wu false],.c [.d (BX l)],.lp r.busy,.c [.xE x.AH,.wo x.B2,.wo x.AZ,.wu x.gone]],_⟩,(A6.ck rfl),xH _,rfl,rfl,rfl⟩
     .simp only[hc];exact⟨⟨[],[.c [.d (BX l)],.c [.wu false],.c [.d (BX l)],.lp r.busy,.c [.xE x.AH,.wo x.B2,.wo x.AZ,.wu x.gone]],_⟩,(A6.ck rfl),xH _,rfl,rfl,rfl⟩
    .have f6:decide ((k:Int)>0)=true:=xM om;have e1:(k:Int)-1=((k-1:Nat):Int):=om
     obtain⟨y,hy⟩:=BB (xs:=l) (k:=k-1) om;have gy:l.getD (k-1) AY=y:=getD_at hy;rw[gy]at hK;obtain⟨q,hq⟩:∃q,Op.bytesLess y.AH x.AH=q:=⟨_,rfl⟩;have hK':GD l k=(BE x&&q):=by rw[hK,<-hq,bytesLess_eq];simp[h0]
     rw[hK'];refine wd Fo [] A4 A4 ?_;refine zR ?_;have ix1:=hy;refine wd Fo [] (Ci f6 e1 hq) (AM @c1) ?_;clear ix1;with_reducible repeat' first|constructor|intro hc
     all_goals first
      |(rw[show(BE x&&q)=true by grind];exact⟨⟨[],[.c [.d (BX l)],.c [.d (.b false)],.c [.d (BX l)],.lp r.busy,.c [.d (.s x.AH),.d (.i .i64 x.B2),.d (.i .i64 x.AZ),.d (.b x.gone)]],_⟩,(A6.ck rfl),xH _,rfl,rfl,rfl⟩)
      |(rw[show(BE x&&q)=false by grind];exact⟨⟨[],[.c [.d (BX l)],.c [.d (.b false)],.c [.d (BX l)],.lp r.busy,.c [.d (.s x.AH),.d (.i .i64 x.B2),.d (.i .i64 x.AZ),.d (.b x.gone)]],_⟩,(A6.ck rfl),xH _,rfl,rfl,rfl⟩)
   cases hb:GD l k with
   |true=>
    rw[hb]at hY;have ix1:=hx;have q1:=@hY;refine wd M2 [] A4 A4 ?_;clear q1 ix1;with_reducible repeat' first|constructor|intro hc
    refine⟨k+1,⟨hkl,Ff hpre hb⟩,om,xH _,?_⟩;exact A6.ck rfl
   |false=>
    rw[hb]at hY;have ix1:=hx;have q1:=@hY;refine wd M2 [] A4 A4 ?_;clear q1 ix1;with_reducible repeat' first|constructor|intro hc
    exact⟨⟨[],[.c [.d (BX l)],.c [.wu false],.c [.d (BX l)],.lp (r.left .ret)],_⟩,(A6.ck rfl),xH _,_,_,rfl,rfl,.inr ⟨I1 hkl hb,rfl⟩⟩
  .have e:k=l.length:=om
   subst e;refine wd M2 [] A4 A4 ?_;with_reducible repeat' first|constructor|intro hc
   exact⟨_,A6.refl _,xH _,_,_,rfl,rfl,.inl ⟨hpre,rfl⟩⟩
 .rintro r hr y H' (⟨h,rfl⟩|⟨h,rfl⟩)
  .refine .inl ⟨rfl,?_⟩;rw[h]at hT;refine wd Fo [] A4 A4 ?_;exact BL hT
  .refine .inr ⟨.ret,rfl,?_⟩;rw[h]at hT;refine wd Fo [] A4 A4 ?_;exact BL hT
end Nd
end Go.Proofs.YtkljbfejbakooaaGreatDoor
namespace Go.Proofs.YtkljbfejbakooaaGreatDoor
namespace Nd
open Go.Gar
open Wi (AC Bp BE)
abbrev M3:Aw:=[0,1,2,6,7,8,12,30]
abbrev Pt:Past:=⟨0,0,Wi.AN⟩
def La(s c:Int)(p:Past):Bool:=decide (p.As=s)&&decide (p.Aa=c)
def Mq(p:Past):Bool:=p.AE.right&&(!p.AE.BN&&(decide (p.AE.dst=p.As)&&decide (p.AE.Aa=p.Aa)))
def FP(l:List Past)(k:Nat):Bool:=Mq (l.getD k Pt)&& !((l.take k).any (La (l.getD k Pt).As (l.getD k Pt).Aa))
def GI(l:List Past):Bool:=decide (l.length<=40)&&HM l.length (FP l)
theorem Y9(m:AC)(h:Am m):xB 146 [m.d] m.d:=by
 obtain⟨k,c,s,d,ky,sl,dn,pl,pr,l,⟨ik,iv,ir,ig⟩,co⟩:=m;replace h:l.length<=1048576:=h;refine zF AF Tryz.func146 ?_;unfold AC.d AC.A0;refine wd [0,1,2] [] A4 A4 ?_;exact zE
theorem tn(m:AC)(h:Am m):xB 78 [m.d] (.tup [(if m.right&& !m.BN then Past.d ⟨m.dst,m.Aa,m⟩else Pt.d),.i .i64 (if m.right&& !m.BN then 0 else 2)]):=by
 have c1:=Wi.JU m (lm h);have c2:=Wi.SU m;have c3:=Y9 m h;unfold Past.d Past.A0;unfold AC.d AC.A0 at *;generalize m.right=rr at *;generalize m.BN=aa at *;obtain⟨k,c,s,d,ky,sl,dn,pl,pr,l,⟨ik,iv,ir,ig⟩,co⟩:=m;refine zF AF Tryz.func78 ?_;simp only at *;cases rr<;>cases aa
 all_goals
  refine wd [0,1,2,3,10] [] A4 (Ci @c1 @c2 @c3) ?_;refine⟨_,_,rfl,rfl,?_⟩;simp[IT,BK,Bd,B0,Wi.AN,AY]
variable {α:Type}{p:α->Bool}{l:List α}{k:Nat}{x:α}
theorem Gw(hx:l[k]? =some x):(l.take (k+1)).any p=((l.take k).any p||p x):=by
 rw[Au hx,List.any_append];simp
theorem bL(hx:l[k]? =some x)(h:p x=true):l.any p=true:=q0R.2 ⟨x,yH hx,h⟩
def Tf(l:List Past)(s c:Int):AC:=match l.find? (La s c)with
 |some p=>p.AE
 |none=>Wi.AN
variable {s c:Int}
theorem k9{l:List Past}{x:Past}(hx:l[k]? =some x)(h:La s c x=true)(hn:(l.take k).any (La s c)=false):Tf l s c=x.AE:=by
 have e:l=l.take k++x::l.drop (k+1):=by
  have hk:=(xW.1 hx).1;have hv:=(xW.1 hx).2;rw[<-hv,<-zS hk,yg]
 unfold Tf;rw[e,List.find?_append]
 have:(l.take k).find? (La s c)=none:=by
  rw[List.find?_eq_none];intro y hy;rw[zM]at hn;simpa using hn y hy
 rw[this];simp[List.find?_cons,h]
theorem fu(l:List Past)(s c:Int)(hl:∀x∈l,Am x.AE)(hn:l.length<=9223372036854775807):xB 79 [B5 l,.i .i64 s,.i .i64 c] (.tup [(Tf l s c).d,.b (l.any (La s c))]):=by
 refine zF AF Tryz.func79 ?_;refine wd M3 [] A4 A4 ?_;refine DD (fun k=>k<=l.length/\(l.take k).any (La s c)=false) (fun k:Nat=>[(8,.wo k)]) (fun k=>l.length-k) 0 ⟨xQ _,rfl⟩ (fun _=>rfl) ?_ ?_
 .exact A6.ck rfl
 rintro k ⟨hk,hpre⟩
 by_cases hkl:k<l.length
 .obtain⟨x,hx⟩:=BB hkl;have c1:=Y9 x.AE (hl x (yH hx));have hA:=Gw (p:=La s c) hx;rw[hpre,zJ]at hA;unfold AC.d AC.A0 at c1
  cases hi:La s c x with
  |true=>
   have h1:x.As=s/\x.Aa=c:=by simpa[La]using hi
   have f1:(x.As==s)=true:=by simp[h1.1]
   have f2:(x.Aa==c)=true:=by simp[h1.2]
   have hF:=k9 hx hi hpre;have hT:=bL hx hi;have ix1:=hx;refine wd M3 [] (Ax f1 f2) (AM @c1) ?_;clear ix1;with_reducible repeat' first|constructor|intro hc
   all_goals(clear c1;refine⟨_,_,rfl,rfl,?_⟩;rw[hT,hF];simp[HY,DL,Dz,Cy,OS,AC.d,AC.A0])
  |false=>
   have h1:¬(x.As=s/\x.Aa=c):=by simpa[La]using hi
   have ix1:=hx;refine wd M3 [] A4 (AM @c1) ?_;clear ix1;with_reducible repeat' first|constructor|intro hc
   all_goals first
    |(exfalso;exact h1 ⟨by assumption,by assumption⟩)
    |(refine⟨k+1,⟨hkl,by rw[hA,hi]⟩,om,xH _,?_⟩
      exact A6.ck rfl)
 .have e:k=l.length:=om
  subst e;rw[yD]at hpre
  have hF:Tf l s c=Wi.AN:=by
   unfold Tf
   have:l.find? (La s c)=none:=by
    rw[List.find?_eq_none];intro y hy;rw[zM]at hpre;simpa using hpre y hy
   rw[this]
  refine wd M3 [] A4 A4 ?_;with_reducible repeat' first|constructor|intro hc
  all_goals(refine⟨_,_,rfl,rfl,?_⟩;rw[hpre,hF];simp[HY,DL,Dz,Cy,OS,OT,Bd,BK,B0,AC.d,AC.A0,Wi.AN,AY])
abbrev Ge:Aw:=[0,1,3,4,5,6,8,9,10,13]
abbrev M4:Aw:=[0,1,3,4,5,6,7,8,16]
theorem Sk(l:List Past):xC 156 [.d (B5 l)] [] (.fn (.func 234) [] [.ptr 0 0 1]) [.c [.d (B5 l)]]:=by
 refine zD AF Tryz.func156 ?_;refine wd [0,1,2] [] A4 A4 ?_;exact⟨_,(A6.ck rfl),xQ _,_,_,rfl,rfl,rfl,rfl⟩
theorem nW(s c:Int):xC 165 [.wo s,.wo c] [] (.fn (.func 241) [] [.ptr 0 0 1,.ptr 1 0 1]) [.c [.wo s],.c [.wo c]]:=by
 refine zD AF Tryz.func165 ?_;refine wd [0,1,2,3,4] [] A4 A4 ?_;exact⟨_,(A6.ck rfl),xQ _,_,_,rfl,rfl,rfl,rfl⟩
theorem u7(p:Past)(s c:Int):xC 241 [.d p.d,.ptr 0 0 1,.ptr 1 0 1] [.c [.wo s],.c [.wo c]] (.wu (La s c p)) [.c [.wo s],.c [.wo c]]:=by
 refine zD AF Tryz.func241 ?_;unfold Past.d Past.A0;have hI:La s c p=(decide (p.As=s)&&decide (p.Aa=c)):=rfl;generalize La s c p=q at*
 by_cases h1:p.As=s
 .have f1:(p.As==s)=true:=by simp[h1]
  by_cases h2:p.Aa=c
  .have f2:(p.Aa==c)=true:=by simp[h2]
   have e:q=true:=by rw[hI];simp[h1,h2]
   subst e;refine wd [0,1,2,3,4] [] (Ax f1 f2) A4 ?_;exact⟨⟨[(4,.wu true)],[.c [.wo s],.c [.wo c]],_⟩,(A6.ck rfl),xH _,_,_,rfl,rfl,rfl,rfl⟩
  .have f2:(p.Aa==c)=false:=by simp[h2]
   have e:q=false:=by rw[hI];simp[h2]
   subst e;refine wd [0,1,2,3,4] [] (Ax f1 f2) A4 ?_;exact⟨⟨[(4,.wu false)],[.c [.wo s],.c [.wo c]],_⟩,(A6.ck rfl),xH _,_,_,rfl,rfl,rfl,rfl⟩
 .have f1:(p.As==s)=false:=by simp[h1]
  have e:q=false:=by rw[hI];simp[h1]
  subst e;refine wd [0,1,2,3,4] [] (AM f1) A4 ?_;exact⟨⟨[(4,.wu false)],[.c [.wo s],.c [.wo c]],_⟩,(A6.ck rfl),xH _,_,_,rfl,rfl,rfl,rfl⟩
def ML(l:List Past)(s c:Int):Int:=match l.findIdx? (La s c)with
 |some n=>(n:Int)
 |none=> -1
theorem Pe(hx:l[k]? =some x)(h:p x=true)(hn:(l.take k).any p=false):l.findIdx? p=some k:=by
 rw[List.findIdx?_eq_some_iff_getElem];obtain⟨hk,hv⟩:=xW.1 hx;refine⟨hk,by rw[hv];exact h,fun j hj=> ?_⟩;rw[zM]at hn;exact hn _ (List.mem_iff_getElem?.2 ⟨j,by rw[zL,if_pos hj];exact xP _⟩)
theorem og{l:List Past}{x:Past}(hx:l[k]? =some x)(h:La s c x=true)(hn:(l.take k).any (La s c)=false):ML l s c=k:=by
 unfold ML;rw[Pe hx h hn]
theorem bi{l:List Past}(hn:l.any (La s c)=false):ML l s c= -1:=by
 unfold ML
 have:l.findIdx? (La s c)=none:=by
  rw[List.findIdx?_eq_none_iff];rw[zM]at hn;intro x hx;simpa using hn x hx
 rw[this]
theorem oh(l:List Past)(s c:Int):decide (ML l s c>=0)=l.any (La s c):=by
 cases h:l.any (La s c)with
 |false=>rw[bi h];rfl
 |true=>
  obtain⟨x,hx,hp⟩:=q0R.1 h
  have:l.findIdx? (La s c)≠none:=by
   rw[Ne,List.findIdx?_eq_none_iff];intro hh;have:=hh x hx;rw[hp]at this;cases this
  unfold ML;split
  .exact xM om
  .contradiction
theorem RX(l:List Past)(s c:Int)(hn:l.length<=9223372036854775807):xC 164 [.d (B5 l),.fn (.func 241) [] [.ptr 0 0 1,.ptr 1 0 1]] [.c [.wo s],.c [.wo c]] (.wo (ML l s c)) [.c [.wo s],.c [.wo c]]:=by
 refine BJ.drop (K:=[.c [.wo s],.c [.wo c],.gone,.c [.wo (ML l s c)]]) _ ?_ ⟨.inr rfl,.inr rfl,trivial⟩ rfl rfl rfl;refine zD AF Tryz.func164 ?_;have d1:=Ds.mk [] (Sk l);refine wd Ge [] A4 A4 ?_;clear d1
 refine zG (K:=fun r _ H'=>(l.any (La s c)=false/\H'=[.c [.wo s],.c [.wo c],.c [.fn (.func 241) [] [.ptr 0 0 1,.ptr 1 0 1]],.c [.wo 0],.c [.d (B5 l)],.lp r])\/
  (∃k:Nat,ML l s c=k/\H'=[.c [.wo s],.c [.wo c],.c [.fn (.func 241) [] [.ptr 0 0 1,.ptr 1 0 1]],.c [.wo k],.c [.d (B5 l)],.lp (r.left .ret)])) ?_ ?_
 .intro r hr;refine zT AF Tryz.func234 ?_;refine wd M4 [] A4 A4 ?_;have hk:=hr.ok (k:=5) rfl;refine DD (fun k=>k<=l.length/\(l.take k).any (La s c)=false) (fun k:Nat=>[(7,.wo k)]) (fun k=>l.length-k) 0 ⟨xQ _,rfl⟩ (fun _=>rfl) ?_ ?_
  .exact A6.ck rfl
  rintro k ⟨hkk,hpre⟩
  by_cases hkl:k<l.length
  .obtain⟨x,hx⟩:=BB hkl;have c1:=u7 x s c;have hA:=Gw (p:=La s c) hx;rw[hpre,zJ]at hA;unfold Past.d Past.A0 at c1
   cases hb:La s c x with
   |true=>
    rw[hb]at c1
    have hY:YT Tryz.prog 5 [.wo k,.d (.agg [.i .i64 x.As,.i .i64 x.Aa,.i .u8 x.AE.AR,.i .i64 x.AE.Aa,.i .i64 x.AE.As,.i .i64 x.AE.dst,.i .i64 x.AE.AH,.b x.AE.B4,.b x.AE.done,.i .i64 x.AE.AT,.i .i64 x.AE.AG,.is x.AE.A8,.s x.AE.A9.AH,.i .i64 x.AE.A9.B2,.i .i64 x.AE.A9.AZ,.b x.AE.A9.gone,.i .i64 x.AE.AQ])] [.c [.wo s],.c [.wo c],.c [.fn (.func 241) [] [.ptr 0 0 1,.ptr 1 0 1]],.c [.wo 0],.c [.d (B5 l)],.lp r,.c [.wo x.As,.wo x.Aa,.wz x.AE.AR,.wo x.AE.Aa,.wo x.AE.As,.wo x.AE.dst,.wo x.AE.AH,.wu x.AE.B4,.wu x.AE.done,.wo x.AE.AT,.wo x.AE.AG,.xG x.AE.A8,.xE x.AE.A9.AH,.wo x.AE.A9.B2,.wo x.AE.A9.AZ,.wu x.AE.A9.gone,.wo x.AE.AQ]] fun v K=>v= .wu false/\K=[.c [.wo s],.c [.wo c],.c [.fn (.func 241) [] [.ptr 0 0 1,.ptr 1 0 1]],.c [.wo k],.c [.d (B5 l)],.lp (r.left .ret),.c [.wo x.As,.wo x.Aa,.wz x.AE.AR,.wo x.AE.Aa,.wo x.AE.As,.wo x.AE.dst,.wo x.AE.AH,.wu x.AE.B4,.wu x.AE.done,.wo x.AE.AT,.wo x.AE.AG,.xG x.AE.A8,.xE x.AE.A9.AH,.wo x.AE.A9.B2,.wo x.AE.A9.AZ,.wu x.AE.A9.gone,.wo x.AE.AQ]]:=by
     refine BD hr rfl rfl rfl ?_;refine wd Ge [] A4 A4 ?_;refine zR ?_;have d1:=Ds.mk [0,1] (c1);refine wd Ge [] A4 A4 ?_;clear d1;exact⟨⟨[],[.c [.wo s],.c [.wo c],.c [.fn (.func 241) [] [.ptr 0 0 1,.ptr 1 0 1]],.c [.wo k],.c [.d (B5 l)],.lp r.busy,.c [.wo x.As,.wo x.Aa,.wz x.AE.AR,.wo x.AE.Aa,.wo x.AE.As,.wo x.AE.dst,.wo x.AE.AH,.wu x.AE.B4,.wu x.AE.done,.wo x.AE.AT,.wo x.AE.AG,.xG x.AE.A8,.xE x.AE.A9.AH,.wo x.AE.A9.B2,.wo x.AE.A9.AZ,.wu x.AE.A9.gone,.wo x.AE.AQ]],_⟩,(A6.ck rfl),xH _,rfl,rfl,rfl⟩
    have ix1:=hx;have q1:=@hY;refine wd M4 [] A4 A4 ?_;clear q1 ix1;with_reducible repeat' first|constructor|intro hc
    exact⟨⟨[],[.c [.wo s],.c [.wo c],.c [.fn (.func 241) [] [.ptr 0 0 1,.ptr 1 0 1]],.c [.wo k],.c [.d (B5 l)],.lp (r.left .ret)],_⟩,(A6.ck rfl),xH _,_,_,rfl,rfl,.inr ⟨k,og hx hb hpre,rfl⟩⟩
   |false=>
    rw[hb]at c1
    have hY:YT Tryz.prog 5 [.wo k,.d (.agg [.i .i64 x.As,.i .i64 x.Aa,.i .u8 x.AE.AR,.i .i64 x.AE.Aa,.i .i64 x.AE.As,.i .i64 x.AE.dst,.i .i64 x.AE.AH,.b x.AE.B4,.b x.AE.done,.i .i64 x.AE.AT,.i .i64 x.AE.AG,.is x.AE.A8,.s x.AE.A9.AH,.i .i64 x.AE.A9.B2,.i .i64 x.AE.A9.AZ,.b x.AE.A9.gone,.i .i64 x.AE.AQ])] [.c [.wo s],.c [.wo c],.c [.fn (.func 241) [] [.ptr 0 0 1,.ptr 1 0 1]],.c [.wo 0],.c [.d (B5 l)],.lp r,.c [.wo x.As,.wo x.Aa,.wz x.AE.AR,.wo x.AE.Aa,.wo x.AE.As,.wo x.AE.dst,.wo x.AE.AH,.wu x.AE.B4,.wu x.AE.done,.wo x.AE.AT,.wo x.AE.AG,.xG x.AE.A8,.xE x.AE.A9.AH,.wo x.AE.A9.B2,.wo x.AE.A9.AZ,.wu x.AE.A9.gone,.wo x.AE.AQ]] fun v K=>v= .wu true/\K=[.c [.wo s],.c [.wo c],.c [.fn (.func 241) [] [.ptr 0 0 1,.ptr 1 0 1]],.c [.wo 0],.c [.d (B5 l)],.lp r,.c [.wo x.As,.wo x.Aa,.wz x.AE.AR,.wo x.AE.Aa,.wo x.AE.As,.wo x.AE.dst,.wo x.AE.AH,.wu x.AE.B4,.wu x.AE.done,.wo x.AE.AT,.wo x.AE.AG,.xG x.AE.A8,.xE x.AE.A9.AH,.wo x.AE.A9.B2,.wo x.AE.A9.AZ,.wu x.AE.A9.gone,.wo x.AE.AQ]]:=by
     refine BD hr rfl rfl rfl ?_;refine wd Ge [] A4 A4 ?_;refine zR ?_;have d1:=Ds.mk [0,1] (c1);refine wd Ge [] A4 A4 ?_;clear d1;exact⟨⟨[],[.c [.wo s],.c [.wo c],.c [.fn (.func 241) [] [.ptr 0 0 1,.ptr 1 0 1]],.c [.wo 0],.c [.d (B5 l)],.lp r.busy,.c [.wo x.As,.wo x.Aa,.wz x.AE.AR,.wo x.AE.Aa,.wo x.AE.As,.wo x.AE.dst,.wo x.AE.AH,.wu x.AE.B4,.wu x.AE.done,.wo x.AE.AT,.wo x.AE.AG,.xG x.AE.A8,.xE x.AE.A9.AH,.wo x.AE.A9.B2,.wo x.AE.A9.AZ,.wu x.AE.A9.gone,.wo x.AE.AQ]],_⟩,(A6.ck rfl),xH _,rfl,rfl,rfl⟩
    have ix1:=hx;have q1:=@hY;refine wd M4 [] A4 A4 ?_;clear q1 ix1;with_reducible repeat' first|constructor|intro hc
    refine⟨k+1,⟨hkl,by rw[hA,hb]⟩,om,xH _,?_⟩;exact A6.ck rfl
  .have e:k=l.length:=om
   subst e;rw[yD]at hpre;refine wd M4 [] A4 A4 ?_;with_reducible repeat' first|constructor|intro hc
   exact⟨_,A6.refl _,xH _,_,_,rfl,rfl,.inl ⟨hpre,rfl⟩⟩
 .rintro r hr y H' (⟨h,rfl⟩|⟨k,h,rfl⟩)
  .refine .inl ⟨rfl,?_⟩;rw[bi h];refine wd Ge [] A4 A4 ?_;exact⟨⟨[(4,.ptr 3 0 1)],[.c [.wo s],.c [.wo c],.gone,.c [.wo (-1)]],_⟩,(A6.ck rfl),xA,_,_,rfl,rfl,rfl,rfl⟩
  .refine .inr ⟨.ret,rfl,?_⟩;rw[h];refine wd Ge [] A4 A4 ?_;exact⟨⟨[(4,.ptr 3 0 1)],[.c [.wo s],.c [.wo c],.gone,.c [.wo k]],_⟩,(A6.ck rfl),xA,_,_,rfl,rfl,rfl,rfl⟩
abbrev Ch:Aw:=[0,1,2,3,4,7,9,10,11,20,34,44]
abbrev M6:Aw:=[0,1,3,4,5,6,7,8,16]
theorem py(l:List Past)(hl:∀x∈l,Am x.AE)(hn:l.length<=9223372036854775807):xB 101 [B5 l] (.b (GI l)):=by
 refine zF AF Tryz.func101 ?_
 by_cases h40:l.length>40
 .have f1:decide ((l.length:Int)>40)=true:=xM om;have hT:GI l=false:=by unfold GI;rw[xO om];rfl
  refine wd Ch [] (AM f1) A4 ?_;exact BL hT
 have f1:decide ((l.length:Int)>40)=false:=xO om;have hT:GI l=HM l.length (FP l):=by unfold GI;rw[xM om];rfl
 have d1:=Ds.mk [] (Sk l);refine wd Ch [] (AM f1) A4 ?_;clear d1
 refine zG (K:=fun r _ H'=>(HM l.length (FP l)=true/\H'=[.c [.d (B5 l)],.c [.wu false],.c [.d (B5 l)],.lp r])\/
  (HM l.length (FP l)=false/\H'=[.c [.d (B5 l)],.c [.wu false],.c [.d (B5 l)],.lp (r.left .ret)])) ?_ ?_
 .intro r hr;refine zT AF Tryz.func234 ?_;refine wd M6 [] A4 A4 ?_;have hk:=hr.ok (k:=3) rfl;refine DD (fun k=>k<=l.length/\HM k (FP l)=true) (fun k:Nat=>[(7,.wo k)]) (fun k=>l.length-k) 0 ⟨xQ _,rfl⟩ (fun _=>rfl) ?_ ?_
  .exact A6.ck rfl
  rintro k ⟨hkk,hpre⟩
  by_cases hkl:k<l.length
  .obtain⟨x,hx⟩:=BB hkl;have gx:l.getD k Pt=x:=getD_at hx;have hlx:=hl x (yH hx);have hK:FP l k=((x.AE.right&&(!x.AE.BN&&(decide (x.AE.dst=x.As)&&decide (x.AE.Aa=x.Aa))))&& !(decide (ML (l.take k) x.As x.Aa>=0))):=by unfold FP Mq;rw[gx,oh]
   have c1:=Wi.CX x.AE (lm hlx);have c2:=Wi.H9 x.AE;have d1:=nW x.As x.Aa;have d2:=RX (l.take k) x.As x.Aa (by rw[yM];omega);have e1:List.take k (List.map Past.A0 l)=List.map Past.A0 (List.take k l):=(List.map_take ..).symm;unfold AC.d AC.A0 at c1 c2;generalize ML (l.take k) x.As x.Aa=fi at*
   have hY:YT Tryz.prog 3 [.wo k,.d (.agg [.i .i64 x.As,.i .i64 x.Aa,.i .u8 x.AE.AR,.i .i64 x.AE.Aa,.i .i64 x.AE.As,.i .i64 x.AE.dst,.i .i64 x.AE.AH,.b x.AE.B4,.b x.AE.done,.i .i64 x.AE.AT,.i .i64 x.AE.AG,.is x.AE.A8,.s x.AE.A9.AH,.i .i64 x.AE.A9.B2,.i .i64 x.AE.A9.AZ,.b x.AE.A9.gone,.i .i64 x.AE.AQ])] [.c [.d (B5 l)],.c [.wu false],.c [.d (B5 l)],.lp r,.c [.wo x.As,.wo x.Aa,.wz x.AE.AR,.wo x.AE.Aa,.wo x.AE.As,.wo x.AE.dst,.wo x.AE.AH,.wu x.AE.B4,.wu x.AE.done,.wo x.AE.AT,.wo x.AE.AG,.xG x.AE.A8,.xE x.AE.A9.AH,.wo x.AE.A9.B2,.wo x.AE.A9.AZ,.wu x.AE.A9.gone,.wo x.AE.AQ]] fun v K=>v= .wu (FP l k)/\K=if FP l k then[.c [.d (B5 l)],.c [.wu false],.c [.d (B5 l)],.lp r,.c [.wo x.As,.wo x.Aa,.wz x.AE.AR,.wo x.AE.Aa,.wo x.AE.As,.wo x.AE.dst,.wo x.AE.AH,.wu x.AE.B4,.wu x.AE.done,.wo x.AE.AT,.wo x.AE.AG,.xG x.AE.A8,.xE x.AE.A9.AH,.wo x.AE.A9.B2,.wo x.AE.A9.AZ,.wu x.AE.A9.gone,.wo x.AE.AQ]]else[.c [.d (B5 l)],.c [.wu false],.c [.d (B5 l)],.lp (r.left .ret),.c [.wo x.As,.wo x.Aa,.wz x.AE.AR,.wo x.AE.Aa,.wo x.AE.As,.wo x.AE.dst,.wo x.AE.AH,.wu x.AE.B4,.wu x.AE.done,.wo x.AE.AT,.wo x.AE.AG,.xG x.AE.A8,.xE x.AE.A9.AH,.wo x.AE.A9.B2,.wo x.AE.A9.AZ,.wu x.AE.A9.gone,.wo x.AE.AQ]]:=by
    refine BD hr rfl rfl rfl ?_;rw[hK];generalize x.AE.right=rr at *;generalize x.AE.BN=aa at *;clear hK;cases rr
    .refine wd Ch [] A4 A4 ?_;refine zR ?_;refine wd Ch [] A4 (AM @c1) ?_;exact⟨⟨[],[.c [.d (B5 l)],.c [.wu false],.c [.d (B5 l)],.lp r.busy,.c [.wo x.As,.wo x.Aa,.wz x.AE.AR,.wo x.AE.Aa,.wo x.AE.As,.wo x.AE.dst,.wo x.AE.AH,.wu x.AE.B4,.wu x.AE.done,.wo x.AE.AT,.wo x.AE.AG,.xG x.AE.A8,.xE x.AE.A9.AH,.wo x.AE.A9.B2,.wo x.AE.A9.AZ,.wu x.AE.A9.gone,.wo x.AE.AQ]],_⟩,(A6.ck rfl),xH _,rfl,rfl,rfl⟩
    cases aa
    .by_cases h1:x.AE.dst=x.As
     .have f2:(x.AE.dst !=x.As)=false:=C2 h1
      by_cases h2:x.AE.Aa=x.Aa
      .have f3:(x.AE.Aa !=x.Aa)=false:=C2 h2;rw[xM h1,xM h2]
       by_cases h3:fi>=0
       .have f4:decide (fi>=0)=true:=xM h3;rw[f4];refine wd Ch [] A4 A4 ?_;refine zR ?_;have d1:=Ds.mk [] (d1);have d2:=Ds.mk [6,7] (d2);refine wd Ch [] (KQ f2 f3 f4 e1) (Ax @c1 @c2) ?_ [(0,7)];clear d2 d1;exact⟨⟨[],[.c [.d (B5 l)],.c [.wu false],.c [.d (B5 l)],.lp r.busy,.c [.wo x.As,.wo x.Aa,.wz x.AE.AR,.wo x.AE.Aa,.wo x.AE.As,.wo x.AE.dst,.wo x.AE.AH,.wu x.AE.B4,.wu x.AE.done,.wo x.AE.AT,.wo x.AE.AG,.xG x.AE.A8,.xE x.AE.A9.AH,.wo x.AE.A9.B2,.wo x.AE.A9.AZ,.wu x.AE.A9.gone,.wo x.AE.AQ]],_⟩,(A6.ck rfl),xH _,rfl,rfl,rfl⟩
       .have f4:decide (fi>=0)=false:=xO h3;rw[f4];refine wd Ch [] A4 A4 ?_;refine zR ?_;have d1:=Ds.mk [] (d1);have d2:=Ds.mk [6,7] (d2);refine wd Ch [] (KQ f2 f3 f4 e1) (Ax @c1 @c2) ?_ [(0,7)];clear d2 d1;exact⟨⟨[],[.c [.d (B5 l)],.c [.wu false],.c [.d (B5 l)],.lp r.busy,.c [.wo x.As,.wo x.Aa,.wz x.AE.AR,.wo x.AE.Aa,.wo x.AE.As,.wo x.AE.dst,.wo x.AE.AH,.wu x.AE.B4,.wu x.AE.done,.wo x.AE.AT,.wo x.AE.AG,.xG x.AE.A8,.xE x.AE.A9.AH,.wo x.AE.A9.B2,.wo x.AE.A9.AZ,.wu x.AE.A9.gone,.wo x.AE.AQ]],_⟩,(A6.ck rfl),xH _,rfl,rfl,rfl⟩
      .have f3:(x.AE.Aa !=x.Aa)=true:=C4 h2;rw[xM h1,xO h2];refine wd Ch [] A4 A4 ?_;refine zR ?_;refine wd Ch [] (Ax f2 f3) (Ax @c1 @c2) ?_;exact⟨⟨[],[.c [.d (B5 l)],.c [.wu false],.c [.d (B5 l)],.lp r.busy,.c [.wo x.As,.wo x.Aa,.wz x.AE.AR,.wo x.AE.Aa,.wo x.AE.As,.wo x.AE.dst,.wo x.AE.AH,.wu x.AE.B4,.wu x.AE.done,.wo x.AE.AT,.wo x.AE.AG,.xG x.AE.A8,.xE x.AE.A9.AH,.wo x.AE.A9.B2,.wo x.AE.A9.AZ,.wu x.AE.A9.gone,.wo x.AE.AQ]],_⟩,(A6.ck rfl),xH _,rfl,rfl,rfl⟩
     .have f2:(x.AE.dst !=x.As)=true:=C4 h1;rw[xO h1];refine wd Ch [] A4 A4 ?_;refine zR ?_;refine wd Ch [] (AM f2) (Ax @c1 @c2) ?_;exact⟨⟨[],[.c [.d (B5 l)],.c [.wu false],.c [.d (B5 l)],.lp r.busy,.c [.wo x.As,.wo x.Aa,.wz x.AE.AR,.wo x.AE.Aa,.wo x.AE.As,.wo x.AE.dst,.wo x.AE.AH,.wu x.AE.B4,.wu x.AE.done,.wo x.AE.AT,.wo x.AE.AG,.xG x.AE.A8,.xE x.AE.A9.AH,.wo x.AE.A9.B2,.wo x.AE.A9.AZ,.wu x.AE.A9.gone,.wo x.AE.AQ]],_⟩,(A6.ck rfl),xH _,rfl,rfl,rfl⟩
    .refine wd Ch [] A4 A4 ?_;refine zR ?_;refine wd Ch [] A4 (Ax @c1 @c2) ?_;exact⟨⟨[],[.c [.d (B5 l)],.c [.wu false],.c [.d (B5 l)],.lp r.busy,.c [.wo x.As,.wo x.Aa,.wz x.AE.AR,.wo x.AE.Aa,.wo x.AE.As,.wo x.AE.dst,.wo x.AE.AH,.wu x.AE.B4,.wu x.AE.done,.wo x.AE.AT,.wo x.AE.AG,.xG x.AE.A8,.xE x.AE.A9.AH,.wo x.AE.A9.B2,.wo x.AE.A9.AZ,.wu x.AE.A9.gone,.wo x.AE.AQ]],_⟩,(A6.ck rfl),xH _,rfl,rfl,rfl⟩
   cases hb:FP l k with
   |true=>
    rw[hb]at hY;have ix1:=hx;have q1:=@hY;refine wd M6 [] A4 A4 ?_;clear q1 ix1;with_reducible repeat' first|constructor|intro hc
    refine⟨k+1,⟨hkl,Ff hpre hb⟩,om,xH _,?_⟩;exact A6.ck rfl
   |false=>
    rw[hb]at hY;have ix1:=hx;have q1:=@hY;refine wd M6 [] A4 A4 ?_;clear q1 ix1;with_reducible repeat' first|constructor|intro hc
    exact⟨⟨[],[.c [.d (B5 l)],.c [.wu false],.c [.d (B5 l)],.lp (r.left .ret)],_⟩,(A6.ck rfl),xH _,_,_,rfl,rfl,.inr ⟨I1 hkl hb,rfl⟩⟩
  .have e:k=l.length:=om
   subst e;refine wd M6 [] A4 A4 ?_;with_reducible repeat' first|constructor|intro hc
   exact⟨_,A6.refl _,xH _,_,_,rfl,rfl,.inl ⟨hpre,rfl⟩⟩
 .rintro r hr y H' (⟨h,rfl⟩|⟨h,rfl⟩)
  .refine .inl ⟨rfl,?_⟩;rw[h]at hT;refine wd Ch [] A4 A4 ?_;exact BL hT
  .refine .inr ⟨.ret,rfl,?_⟩;rw[h]at hT;refine wd Ch [] A4 A4 ?_;exact BL hT
abbrev M7:Aw:=[0,1,4,5,7,8,9,16]
structure Fe (n:AA):Prop where
 id:i64 n.A7.id
 li:∀y∈n.A7.A8,i64 y
 vb:n.A7.AB.length<=1000
 vl:n.A7.A8.length<=1000
 cl:∀x∈n.AX.op,Am x.Ao
 cn:n.AX.op.length<=1048576
 sl:∀x∈n.BO,Am x.AE
 sn:n.BO.length<=1048576
 kn:n.keep.length<=1048576
 fl:n.AP.left.length<=1048576
 ml:n.Ai.left.length<=1048576
 tl:n.Ah.left.length<=1048576
def P7(n:AA):Bool:=!(n.BO.any fun p=>decide (p.AE.As≠n.A7.id))
def Av(n:AA):Bool:=(decide (0<=n.Aj)&&decide (n.Aj<=1099511627776))&&(decide (0<=n.bad)&&((decide (0<=n.next)&&decide (n.next<16))&&(Al n.A7&&((decide (n.AX.id=n.A7.id)&&Bs n.AX)&&(CZ n.A5 n.B8&&(Ck n.keep&&(GI n.BO&&P7 n)))))))
def XE(q:α->Bool)(l:List α):Int:=match l.findIdx? q with
 |some n=>(n:Int)
 |none=> -1
variable {q:α->Bool}
theorem pB(hx:l[k]? =some x)(h:q x=true)(hn:(l.take k).any q=false):XE q l=k:=by
 unfold XE;rw[Pe hx h hn]
theorem bv(hn:l.any q=false):XE q l= -1:=by
 unfold XE
 have:l.findIdx? q=none:=by
  rw[List.findIdx?_eq_none_iff];rw[zM]at hn;intro x hx;simpa using hn x hx
 rw[this]
theorem pC(q:α->Bool)(l:List α):decide (XE q l>=0)=l.any q:=by
 cases h:l.any q with
 |false=>rw[bv h];rfl
 |true=>
  obtain⟨x,hx,hp⟩:=q0R.1 h
  have:l.findIdx? q≠none:=by
   rw[Ne,List.findIdx?_eq_none_iff];intro hh;have:=hh x hx;rw[hp]at this;cases this
  unfold XE;split
  .exact xM om
  .contradiction
theorem uq(n:AA):xC 89 [.ptr 0 0 76] [.c (B9 n)] (.wu (decide (0<=n.Aj)&&decide (n.Aj<=1099511627776))) [.c (B9 n)]:=by
 refine zD AF Tryz.func89 ?_;unfold B9
 by_cases h1:0<=n.Aj
 .have f1:decide (n.Aj>=0)=true:=xM h1;rw[xM h1,yF];refine wd [0,1] [] (AM f1) A4 ?_;exact⟨⟨[(1,.wu (decide (n.Aj<=1099511627776)))],[.c (B9 n)],_⟩,(A6.ck rfl),xH _,_,_,rfl,rfl,rfl,rfl⟩
 .have f1:decide (n.Aj>=0)=false:=xO h1;rw[xO h1,zN];refine wd [0,1] [] (AM f1) A4 ?_;exact⟨⟨[(1,.wu false)],[.c (B9 n)],_⟩,(A6.ck rfl),xH _,_,_,rfl,rfl,rfl,rfl⟩
theorem ut(n:AA):xC 90 [.ptr 0 0 76] [.c (B9 n)] (.wu (decide (0<=n.bad))) [.c (B9 n)]:=by
 refine zD AF Tryz.func90 ?_;unfold B9;refine wd [0,1] [] A4 A4 ?_;exact⟨⟨[(1,.wu (decide (0<=n.bad)))],[.c (B9 n)],_⟩,(A6.ck rfl),xH _,_,_,rfl,rfl,rfl,rfl⟩
theorem uu(n:AA):xC 91 [.ptr 0 0 76] [.c (B9 n)] (.wu (decide (0<=n.next)&&decide (n.next<16))) [.c (B9 n)]:=by
 refine zD AF Tryz.func91 ?_;unfold B9
 by_cases h1:0<=n.next
 .have f1:decide (n.next>=0)=true:=xM h1;rw[xM h1,yF];refine wd [0,1] [] (AM f1) A4 ?_;exact⟨⟨[(1,.wu (decide (n.next<16)))],[.c (B9 n)],_⟩,(A6.ck rfl),xH _,_,_,rfl,rfl,rfl,rfl⟩
 .have f1:decide (n.next>=0)=false:=xO h1;rw[xO h1,zN];refine wd [0,1] [] (AM f1) A4 ?_;exact⟨⟨[(1,.wu false)],[.c (B9 n)],_⟩,(A6.ck rfl),xH _,_,_,rfl,rfl,rfl,rfl⟩
theorem uv(n:AA)(h:Fe n):xC 92 [.ptr 0 0 76] [.c (B9 n)] (.wu (Al n.A7)) [.c (B9 n)]:=by
 have c1:=Sx n.A7 (by have:=h.vb;omega) (by have:=h.vl;omega);refine zD AF Tryz.func92 ?_;generalize Al n.A7=b at *;unfold AD.d AD.A0 at c1;unfold B9;refine wd [0,1] [] A4 (AM @c1) ?_;exact⟨⟨[(1,.wu b)],[.c (B9 n)],_⟩,(A6.ck rfl),xH _,_,_,rfl,rfl,rfl,rfl⟩
theorem uw(n:AA)(h:Fe n):xC 94 [.ptr 0 0 76] [.c (B9 n)] (.wu (decide (n.AX.id=n.A7.id)&&Bs n.AX)) [.c (B9 n)]:=by
 have c1:=Kk n.AX h.cl;refine zD AF Tryz.func94 ?_;generalize Bs n.AX=b at *;unfold Calls.d Calls.A0 at c1;unfold B9
 by_cases h1:n.AX.id=n.A7.id
 .have f1:=AS h1;rw[xM h1,yF];refine wd [0,1] [] (AM f1) (AM @c1) ?_;exact⟨⟨[(1,.wu b)],[.c (B9 n)],_⟩,(A6.ck rfl),xH _,_,_,rfl,rfl,rfl,rfl⟩
 .have f1:=eq_false' h1;rw[xO h1,zN];refine wd [0,1] [] (AM f1) (AM @c1) ?_;exact⟨⟨[(1,.wu false)],[.c (B9 n)],_⟩,(A6.ck rfl),xH _,_,_,rfl,rfl,rfl,rfl⟩
theorem ux(n:AA):xC 96 [.ptr 0 0 76] [.c (B9 n)] (.wu (CZ n.A5 n.B8)) [.c (B9 n)]:=by
 have c1:=Qa n.A5 n.B8;refine zD AF Tryz.func96 ?_;generalize CZ n.A5 n.B8=b at *;unfold B9;refine wd [0,1] [] A4 (AM @c1) ?_;exact⟨⟨[(1,.wu b)],[.c (B9 n)],_⟩,(A6.ck rfl),xH _,_,_,rfl,rfl,rfl,rfl⟩
theorem uy(n:AA)(h:Fe n):xC 98 [.ptr 0 0 76] [.c (B9 n)] (.wu (Ck n.keep)) [.c (B9 n)]:=by
 have c1:=QQ n.keep (by have:=h.kn;omega);refine zD AF Tryz.func98 ?_;generalize Ck n.keep=b at *;unfold B9;refine wd [0,1] [] A4 (AM @c1) ?_;exact⟨⟨[(1,.wu b)],[.c (B9 n)],_⟩,(A6.ck rfl),xH _,_,_,rfl,rfl,rfl,rfl⟩
theorem uz(n:AA)(h:Fe n):xC 100 [.ptr 0 0 76] [.c (B9 n)] (.wu (GI n.BO)) [.c (B9 n)]:=by
 have c1:=py n.BO h.sl (by have:=h.sn;omega);refine zD AF Tryz.func100 ?_;generalize GI n.BO=b at *;unfold B9;refine wd [0,1] [] A4 (AM @c1) ?_;exact⟨⟨[(1,.wu b)],[.c (B9 n)],_⟩,(A6.ck rfl),xH _,_,_,rfl,rfl,rfl,rfl⟩
theorem rM(n:AA)(x:Past):xC 104 [.d x.d,.ptr 0 0 76] [.c (B9 n)] (.wu (decide (x.AE.As≠n.A7.id))) [.c (B9 n)]:=by
 refine zD AF Tryz.func104 ?_;unfold B9 Past.d Past.A0
 by_cases h1:x.AE.As=n.A7.id
 .have f1:=C2 h1;rw[xO (fun hh=>hh h1)];refine wd [0,1,2,3] [] (AM f1) A4 ?_;exact⟨⟨[(3,.wu false)],[.c (B9 n)],_⟩,(A6.ck rfl),xH _,_,_,rfl,rfl,rfl,rfl⟩
 .have f1:=C4 h1;rw[xM h1];refine wd [0,1,2,3] [] (AM f1) A4 ?_;exact⟨⟨[(3,.wu true)],[.c (B9 n)],_⟩,(A6.ck rfl),xH _,_,_,rfl,rfl,rfl,rfl⟩
theorem kV(n:AA)(l:List Past)(hn:l.length<=9223372036854775807):xC 166 [.d (B5 l),.fn (.func 104) [] [.ptr 0 0 76]] [.c (B9 n)] (.wo (XE (fun p=>decide (p.AE.As≠n.A7.id)) l)) [.c (B9 n)]:=by
 refine zD AF Tryz.func166 ?_;have hC:=rM n;generalize hq:(fun p:Past=>decide (p.AE.As≠n.A7.id))=q at *;have hC':∀x,xC 104 [.d x.d,.ptr 0 0 76] [.c (B9 n)] (.wu (q x)) [.c (B9 n)]:=fun x=>by have:=hC x;rw[<-hq];exact this
 clear hC;refine wd M7 [] A4 A4 ?_;refine DD (fun k=>k<=l.length/\(l.take k).any q=false) (fun k:Nat=>[(8,.wo k)]) (fun k=>l.length-k) 0 ⟨xQ _,rfl⟩ (fun _=>rfl) ?_ ?_
 .exact A6.ck rfl
 rintro k ⟨hk,hpre⟩
 by_cases hkl:k<l.length
 .obtain⟨x,hx⟩:=BB hkl;have hA:=Gw (p:=q) hx;rw[hpre,zJ]at hA;have c1:=hC' x;unfold Past.d Past.A0 at c1
  cases hb:q x with
  |true=>
   rw[hb]at c1;have ix1:=hx;have d1:=Ds.mk [0] (c1);refine wd M7 [] A4 A4 ?_;clear d1 ix1;with_reducible repeat' first|constructor|intro hc
   rw[pB hx hb hpre];exact⟨⟨[(4,.wo k)],[.c (B9 n)],_⟩,(A6.ck rfl),xH _,_,_,rfl,rfl,rfl,rfl⟩
  |false=>
   rw[hb]at c1;have ix1:=hx;have d1:=Ds.mk [0] (c1);refine wd M7 [] A4 A4 ?_;clear d1 ix1;with_reducible repeat' first|constructor|intro hc
   refine⟨k+1,⟨hkl,by rw[hA,hb]⟩,om,xH _,?_⟩;exact A6.ck rfl
 .have e:k=l.length:=om
  subst e;rw[yD]at hpre;refine wd M7 [] A4 A4 ?_;with_reducible repeat' first|constructor|intro hc
  rw[bv hpre];exact⟨⟨[(4,.wo (-1))],[.c (B9 n)],_⟩,(A6.ck rfl),xH _,_,_,rfl,rfl,rfl,rfl⟩
theorem kN(n:AA)(l:List Past)(hn:l.length<=9223372036854775807):xC 103 [.d (B5 l),.fn (.func 104) [] [.ptr 0 0 76]] [.c (B9 n)] (.wu (l.any fun p=>decide (p.AE.As≠n.A7.id))) [.c (B9 n)]:=by
 refine zD AF Tryz.func103 ?_;have c1:=kV n l hn;rw[<-pC];generalize XE (fun p:Past=>decide (p.AE.As≠n.A7.id)) l=z at *;have d1:=Ds.mk [0] (c1);refine wd [0,1,4] [] A4 A4 ?_;clear d1;exact⟨⟨[(4,.wu (decide (z>=0)))],[.c (B9 n)],_⟩,(A6.ck rfl),xH _,_,_,rfl,rfl,rfl,rfl⟩
theorem v5(n:AA)(h:Fe n):xC 102 [.ptr 0 0 76] [.c (B9 n)] (.wu (P7 n)) [.c (B9 n)]:=by
 have c1:=kN n n.BO (by have:=h.sn;omega);refine zD AF Tryz.func102 ?_;unfold P7;generalize(n.BO.any fun p=>decide (p.AE.As≠n.A7.id))=b at *;unfold B9;have d1:=Ds.mk [0] (c1);refine wd [0,1] [] A4 A4 ?_;clear d1;exact⟨⟨[(1,.wu !b)],[.c (B9 n)],_⟩,(A6.ck rfl),xH _,_,_,rfl,rfl,rfl,rfl⟩
theorem Ar(n:AA)(h:Fe n):xB 41 [n.d] (.b (Av n)):=by
 refine zF AF Tryz.func41 ?_;have c1:=rj n _ _ _ _ _ _ _ _ _ (uq n) (ut n) (uu n) (uv n h) (uw n h) (ux n) (uy n h) (uz n h) (v5 n h);unfold Av;generalize((decide (0<=n.Aj)&&decide (n.Aj<=1099511627776))&&_)=B at *;have d1:=Ds.mk [0,1] (c1);refine wd [0,1,2] [] A4 A4 ?_;clear d1;exact zE
end Nd
end Go.Proofs.YtkljbfejbakooaaGreatDoor
