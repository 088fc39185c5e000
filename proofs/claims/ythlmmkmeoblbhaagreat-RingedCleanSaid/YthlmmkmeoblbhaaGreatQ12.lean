/- Part 12 of a proof. Conditions: those that its theorems state. -/
import Derived.Test.YthlmmkmeoblbhaaGreatQ11
set_option linter.unusedSimpArgs false
set_option linter.unusedVariables false
set_option linter.unnecessarySimpa false
set_option maxHeartbeats 40000000
set_option maxRecDepth 4000
namespace Go.Proofs.YthlmmkmeoblbhaaGreat
namespace Nd
open Go.Gar
open Wi (AE BE)
abbrev MH:BK:=[0,1,2,3,5,29,31,32,33,34,46]
abbrev Kp:B4:=⟨0,Wi.AU,0,0,0,0⟩
def Gi(id Ah:Int)(x:B4):Bool:=x.Cl.right&&(x.Cl.BW&&(decide (x.Cl.Ax=id)&&(decide (x.id=x.Cl.AW)&&(decide (x.id<=id*1048576+Ah)&&(decide (1<=x.D3)&&(decide (x.D3<=3)&&EV x.GD))))))
def JS(c:Calls)(k:Nat):Bool:=Gi c.id c.Ah (c.op.getD k Kp)&&decide (k=0\/(c.op.getD (k-1) Kp).id<(c.op.getD k Kp).id)
def QI(c:Calls):Bool:=BE c.id&&(decide (0<=c.Ah)&&(decide (c.Ah<=1048576)&&decide (c.op.length<=16)))
def Bc(c:Calls):Bool:=QI c&&DR c.op.length (JS c)
def Co(m:AE):Prop:=m.A8.length<=1048576
theorem lm{m:AE}(h:Co m):m.A8.length<9223372036854775807:=by unfold Co at h;omega
theorem Te{m:AE}(h:m.right=true)(ha:m.BW=true):m.Ax*1048576+1<=m.AW/\m.AW<m.Ax*1048576+1+1048576/\BE m.Ax=true:=by
 unfold AE.right AE.JK at h;simp only[yU,yc]at h;obtain⟨⟨⟨⟨⟨⟨⟨_,_⟩,h1⟩,_⟩,_⟩,h2⟩,h3⟩,_⟩:=h;unfold AE.asker at h2 h3;rw[zN ha]at h2 h3;exact⟨h2,h3,h1⟩
theorem getD_at{α:Type}{l:List α}{k:Nat}{x d:α}(hx:l[k]? =some x):l.getD k d=x:=by rw[zJ,hx];rfl
theorem PX(id Ah:Int)(op:List B4)(x:B4)(hi:BE id=true)(hm:0<=Ah/\Ah<=1048576)(hl:Co x.Cl):yA 151 [Calls.d ⟨id,Ah,op⟩,x.d] (.b (Gi id Ah x)):=by
 have hb:=Wi.Fv hi;have c1:=pM id 1;rw[show E0 id 1=(id*1048576+1,0)from zN ⟨hi,om,om⟩]at c1;have c2:=Wi.T0 x.Cl;have c3:=Wi.Nk x.Cl (lm hl);have c4:=fz x.GD;have hR:=@Te x.Cl;have hT:Gi id Ah x=(x.Cl.right&&(x.Cl.BW&&(decide (x.Cl.Ax=id)&&(decide (x.id=x.Cl.AW)&&(decide (x.id<=id*1048576+Ah)&&(decide (1<=x.D3)&&(decide (x.D3<=3)&&EV x.GD))))))):=rfl;generalize Gi id Ah x=R at *;unfold B4.d B4.A1 Calls.d Calls.A1;unfold AE.d AE.A1 at c2 c3;generalize x.Cl.right=rr at *;generalize x.Cl.BW=aa at *;generalize EV x.GD=tt at *;obtain⟨xid,⟨k,c,s,d,ky,sl,dn,pl,pr,l,⟨ik,iv,ir,ig⟩,co⟩,wh,rf,se,tr⟩:=x;simp only at *;refine zF AK Tryz.func151 ?_;refine AP [0,1,2,3,4,5,6,29] ?_ (Hc @c1 @c2 @c3 @c4);repeat'(apply zB<;>intro hc)
 all_goals(clear c1 c2 c3 c4;refine⟨_,_,rfl,rfl,?_⟩;simp only[C4];refine congrArg D.b ?_;rw[hT];clear hT;grind)
theorem kP(c:Calls)(hl:∀x∈c.op,Co x.Cl):yA 101 [c.d] (.b (Bc c)):=by
 obtain⟨id,Ah,op⟩:=c;replace hl:∀x∈op,Co x.Cl:=hl;refine zF AK Tryz.func101 ?_;unfold Calls.d Calls.A1
 cases hh:QI ⟨id,Ah,op⟩with
 |false=>
  have hT:Bc ⟨id,Ah,op⟩=false:=by unfold Bc;rw[hh];rfl
  refine A9 MH ?_;repeat'(apply zB<;>intro hc)
  all_goals first
   |(refine⟨_,_,rfl,rfl,?_⟩;simp only[C4];rw[hT];done)
   |(exfalso;simp[QI,BE]at hh;omega)
 |true=>
 have hT:Bc ⟨id,Ah,op⟩=DR op.length (JS ⟨id,Ah,op⟩):=by unfold Bc;rw[hh];rfl
 simp only[QI,BE,yU,yc]at hh;obtain⟨⟨h1,h2⟩,h3,h4,h5⟩:=hh;have hp:BE id=true:=Wi.OS.2 ⟨h1,h2⟩;have f1:decide (id<0)=false:=yY om;have f2:decide (id>=65536)=false:=yY om;have f3:decide (Ah<0)=false:=yY om;have f4:decide (Ah>1048576)=false:=yY om;have f5:decide ((op.length:Int)>16)=false:=yY om;refine Ae MH ?_ (Ll f1 f2 f3 f4 f5);refine BA (fun k=>k<=op.length/\DR k (JS ⟨id,Ah,op⟩)=true) (fun k:Nat=>[(33,.y5 k),(3,.y5 (if k=0 then 0 else(op.getD (k-1) Kp).id))]) (fun k=>op.length-k) 0 ⟨yx _,rfl⟩ (fun _=>rfl) ?_ ?_
 .exact A5.ck rfl
 rintro k ⟨hk,hpre⟩
 by_cases hkl:k<op.length
 .obtain⟨x,hx⟩:=AS hkl;have gx:op.getD k Kp=x:=getD_at hx;have c1:=PX id Ah op x hp ⟨h3,h4⟩ (hl x (zM hx));have hK:JS ⟨id,Ah,op⟩ k=(Gi id Ah x&&decide (k=0\/(op.getD (k-1) Kp).id<x.id)):=by unfold JS;rw[gx]
  have hpos:Gi id Ah x=true->1<=x.id:=by
   intro h;simp only[Gi,yU,yc]at h;have:=Te h.1 h.2.1;have:=Wi.Fv this.2.2;omega
  generalize hlast:(op.getD (k-1) Kp).id=la at *;generalize Gi id Ah x=ok at *;unfold Calls.d Calls.A1 B4.d B4.A1 at c1;have hix:=Hj (f:=B4.A1) hx;unfold B4.A1 at hix;have ix1:=hx;refine AP MH ?_ (AQ @c1);clear ix1;with_reducible repeat' first|constructor|intro hc
  all_goals first
   |(refine⟨k+1,⟨hkl,Cm hpre (by rw[hK];grind)⟩,om,yV _,?_⟩
     exact(have nC:=gx;A5.co rfl))
   |(refine⟨_,_,rfl,rfl,?_⟩;simp only[C4];rw[hT,EY hkl (by rw[hK];grind)])
 .have e:k=op.length:=om
  subst e;rw[hpre]at hT;refine A9 MH ?_;with_reducible repeat' first|constructor|intro hc
  exact BO hT
end Nd
end Go.Proofs.YthlmmkmeoblbhaaGreat
namespace Go.Proofs.YthlmmkmeoblbhaaGreat
namespace Nd
open Go.Gar Go.Sort
open Wi (AE BE Ay)
abbrev Fz:BK:=[0,1,2,3,4,7,9,10,11,29]
abbrev MI:BK:=[0,1,3,4,5,6,7,8,16]
def GN(l:List AL)(k:Nat):Bool:=Ay (l.getD k AN)&&decide (k=0\/(l.getD (k-1) AN).AH<(l.getD k AN).AH)
def CK(l:List AL):Bool:=decide (l.length<=24)&&DR l.length (GN l)
theorem uW(a b:AT):(!(Op.bytesLess a b))=(Op.bytesLess b a||b==a):=by
 rw[bytesLess_eq,bytesLess_eq,HA,Bool.eq_iff_iff];simp only[q0H,zn,q0G,yc];constructor
 .intro h
  by_cases e:b=a
  .exact .inr e
  .left
   by_cases h2:b<a
   .exact h2
   .exact absurd (List.le_antisymm (List.not_lt.1 h) (List.not_lt.1 h2)) e
 .rintro(h|rfl)
  .exact List.lt_asymm h
  .exact q1d _
theorem LY(l:List AL)(hn:l.length<=9223372036854775807):yA 82 [Bf l] (.b (CK l)):=by
 refine zF AK Tryz.func82 ?_;have hT:CK l=(decide (l.length<=24)&&DR l.length (GN l)):=rfl;refine A9 [0,2,3,7,33] ?_;refine BA (fun k=>k<=l.length/\DR k (GN l)=true) (fun k:Nat=>[(3,.y5 k)]) (fun k=>l.length-k) 0 ⟨yx _,rfl⟩ (fun _=>rfl) ?_ ?_
 .exact A5.ck rfl
 rintro k ⟨hk,hpre⟩
 by_cases hkl:k<l.length
 .obtain⟨x,hx⟩:=AS hkl;have gx:l.getD k AN=x:=getD_at hx;have c1:=Wi.Jg x;have hK:GN l k=(Ay x&&decide (k=0\/(l.getD (k-1) AN).AH<x.AH)):=by unfold GN;rw[gx]
  unfold AL.d AL.A1 at c1;generalize Ay x=ok at*
  by_cases h0:k=0
  .have f6:decide ((k:Int)>0)=false:=yY om;have ix1:=hx;refine AD [0,2,3,7,33] ?_ (AQ f6) (AQ @c1);clear ix1;with_reducible repeat' first|constructor|intro hc
   all_goals clear c1
   all_goals first
    |(refine⟨k+1,⟨hkl,Cm hpre (by rw[hK];grind)⟩,om,yV _,?_⟩
      exact A5.ck rfl)
    |(refine⟨_,_,rfl,rfl,?_⟩;simp only[C4];rw[hT,EY hkl (by rw[hK];grind),q0W])
  .have f6:decide ((k:Int)>0)=true:=yX om;have e1:(k:Int)-1=((k-1:Nat):Int):=om
   obtain⟨y,hy⟩:=AS (xs:=l) (k:=k-1) om;have gy:l.getD (k-1) AN=y:=getD_at hy;rw[gy]at hK
   have hs:decide (k=0\/y.AH<x.AH)= !(Op.bytesLess x.AH y.AH||x.AH==y.AH):=by
    rw[<-uW,bytesLess_eq,Bool.not_not];simp[h0]
   rw[hs]at hK;obtain⟨q,hq⟩:∃q,(Op.bytesLess x.AH y.AH||x.AH==y.AH)=q:=⟨_,rfl⟩;rw[hq]at hK;have ix1:=hx;have ix2:=hy;refine AD [0,2,3,7,33] ?_ (DO f6 e1 hq) (AQ @c1);clear ix2 ix1;with_reducible repeat' first|constructor|intro hc
   all_goals clear c1
   all_goals first
    |(refine⟨k+1,⟨hkl,Cm hpre (by rw[hK];grind)⟩,om,yV _,?_⟩
      exact A5.ck rfl)
    |(refine⟨_,_,rfl,rfl,?_⟩;simp only[C4];rw[hT,EY hkl (by rw[hK];grind),q0W])
 .have e:k=l.length:=om
  subst e;rw[hpre]at hT;refine A9 [0,2,3,7,33] ?_;with_reducible repeat' first|constructor|intro hc
  all_goals(refine⟨_,_,rfl,rfl,?_⟩;simp only[C4];rw[hT];simp;try omega)
theorem mM(l:List AL):yB 152 [.d (Bf l)] [] (.fn (.func 220) [] [.ptr 0 0 1]) [.c [.d (Bf l)]]:=by
 refine zD AK Tryz.func152 ?_;refine A9 [0,1,2] ?_;exact wE
theorem r7(l:List AL)(hn:l.length<=9223372036854775807):yA 105 [Bf l] (.b (CK l)):=by
 refine zF AK Tryz.func105 ?_
 by_cases h24:l.length>24
 .have f1:decide ((l.length:Int)>24)=true:=yX om;have hT:CK l=false:=by unfold CK;rw[yY om];rfl
  refine Ae Fz ?_ (AQ f1);exact BO hT
 have f1:decide ((l.length:Int)>24)=false:=yY om;have hT:CK l=DR l.length (GN l):=by unfold CK;rw[yX om];rfl
 refine GW Fz ?_ (AQ f1) (E8 [] (mM l))
 refine zG (K:=fun r _ H'=>(DR l.length (GN l)=true/\H'=[.c [.d (Bf l)],.c [.y7 false],.c [.d (Bf l)],.lp r])\/
  (DR l.length (GN l)=false/\H'=[.c [.d (Bf l)],.c [.y7 false],.c [.d (Bf l)],.lp (r.left .ret)])) ?_ ?_
 .intro r hr;refine zT AK Tryz.func220 ?_;refine A9 MI ?_;have hk:=hr.ok (k:=3) rfl;refine BA (fun k=>k<=l.length/\DR k (GN l)=true) (fun k:Nat=>[(7,.y5 k)]) (fun k=>l.length-k) 0 ⟨yx _,rfl⟩ (fun _=>rfl) ?_ ?_
  .exact A5.ck rfl
  rintro k ⟨hkk,hpre⟩
  by_cases hkl:k<l.length
  .obtain⟨x,hx⟩:=AS hkl;have gx:l.getD k AN=x:=getD_at hx;have c1:=Wi.Vf x;have hK:GN l k=(Ay x&&decide (k=0\/(l.getD (k-1) AN).AH<x.AH)):=by unfold GN;rw[gx]
   unfold AL.d AL.A1 at c1
   have hY:YT Tryz.prog 3 [.y5 k,.d (.agg [.s x.AH,.yE x.BD,.yE x.Aa,.b x.gone])] [.c [.d (Bf l)],.c [.y7 false],.c [.d (Bf l)],.lp r,.c [.yC x.AH,.y5 x.BD,.y5 x.Aa,.y7 x.gone]] fun v K=>v= .y7 (GN l k)/\K=if GN l k then[.c [.d (Bf l)],.c [.y7 false],.c [.d (Bf l)],.lp r,.c [.yC x.AH,.y5 x.BD,.y5 x.Aa,.y7 x.gone]]else[.c [.d (Bf l)],.c [.y7 false],.c [.d (Bf l)],.lp (r.left .ret),.c [.yC x.AH,.y5 x.BD,.y5 x.Aa,.y7 x.gone]]:=by
    refine CE hr rfl rfl rfl ?_
    by_cases h0:k=0
    .have f6:decide ((k:Int)>0)=false:=yY om;have hK':GN l k=Ay x:=by rw[hK];simp[h0]
     rw[hK'];refine A9 Fz ?_;refine zR ?_;refine AD Fz ?_ (AQ f6) (AQ @c1);repeat'(apply zB<;>intro hc)
     .simp only[hc];exact⟨⟨[],[.c [.d (Bf l)],.c [.y7 false],.c [.d (Bf l)],.lp r.busy,.c [.yC x.AH,.y5 x.BD,.y5 x.Aa,.y7 x.gone]],_⟩,(A5.ck rfl),yV _,rfl,rfl,rfl⟩
     .simp only[hc];exact⟨⟨[],[.c [.d (Bf l)],.c [.y7 false],.c [.d (Bf l)],.lp r.busy,.c [.yC x.AH,.y5 x.BD,.y5 x.Aa,.y7 x.gone]],_⟩,(A5.ck rfl),yV _,rfl,rfl,rfl⟩
    .have f6:decide ((k:Int)>0)=true:=yX om;have e1:(k:Int)-1=((k-1:Nat):Int):=om
     obtain⟨y,hy⟩:=AS (xs:=l) (k:=k-1) om;have gy:l.getD (k-1) AN=y:=getD_at hy;rw[gy]at hK;obtain⟨q,hq⟩:∃q,Op.bytesLess y.AH x.AH=q:=⟨_,rfl⟩;have hK':GN l k=(Ay x&&q):=by rw[hK,<-hq,bytesLess_eq];simp[h0]
     rw[hK'];refine A9 Fz ?_;refine zR ?_;have ix1:=hy;refine AD Fz ?_ (DO f6 e1 hq) (AQ @c1);clear ix1;repeat'(apply zB<;>intro hc)
     all_goals first
      |(rw[show(Ay x&&q)=true by grind];exact⟨⟨[],[.c [.d (Bf l)],.c [.d (.b false)],.c [.d (Bf l)],.lp r.busy,.c [.d (.s x.AH),.d (.i .i64 x.BD),.d (.i .i64 x.Aa),.d (.b x.gone)]],_⟩,(A5.ck rfl),yV _,rfl,rfl,rfl⟩)
      |(rw[show(Ay x&&q)=false by grind];exact⟨⟨[],[.c [.d (Bf l)],.c [.d (.b false)],.c [.d (Bf l)],.lp r.busy,.c [.d (.s x.AH),.d (.i .i64 x.BD),.d (.i .i64 x.Aa),.d (.b x.gone)]],_⟩,(A5.ck rfl),yV _,rfl,rfl,rfl⟩)
   cases hb:GN l k with
   |true=>
    rw[hb]at hY;have ix1:=hx;have q1:=@hY;refine A9 MI ?_;clear q1 ix1;with_reducible repeat' first|constructor|intro hc
    refine⟨k+1,⟨hkl,Cm hpre hb⟩,om,yV _,?_⟩;exact A5.ck rfl
   |false=>
    rw[hb]at hY;have ix1:=hx;have q1:=@hY;refine A9 MI ?_;clear q1 ix1;with_reducible repeat' first|constructor|intro hc
    exact⟨⟨[],[.c [.d (Bf l)],.c [.y7 false],.c [.d (Bf l)],.lp (r.left .ret)],_⟩,(A5.ck rfl),yV _,_,_,rfl,rfl,.inr ⟨EY hkl hb,rfl⟩⟩
  .have e:k=l.length:=om
   subst e;refine A9 MI ?_;with_reducible repeat' first|constructor|intro hc
   exact⟨_,A5.refl _,yV _,_,_,rfl,rfl,.inl ⟨hpre,rfl⟩⟩
 .rintro r hr y H' (⟨h,rfl⟩|⟨h,rfl⟩)
  .refine .inl ⟨rfl,?_⟩;rw[h]at hT;refine A9 Fz ?_;exact BO hT
  .refine .inr ⟨.ret,rfl,?_⟩;rw[h]at hT;refine A9 Fz ?_;exact BO hT
end Nd
end Go.Proofs.YthlmmkmeoblbhaaGreat
namespace Go.Proofs.YthlmmkmeoblbhaaGreat
namespace Nd
open Go.Gar
open Wi (AE BE Ay)
abbrev MJ:BK:=[0,1,2,6,7,8,12,30]
abbrev Vd:Past:=⟨0,0,Wi.AU⟩
def JZ(s c:Int)(p:Past):Bool:=decide (p.Ax=s)&&decide (p.AW=c)
def NP(p:Past):Bool:=p.AA.right&&(!p.AA.BW&&(decide (p.AA.dst=p.Ax)&&decide (p.AA.AW=p.AW)))
def FZ(l:List Past)(k:Nat):Bool:=NP (l.getD k Vd)&& !((l.take k).any (JZ (l.getD k Vd).Ax (l.getD k Vd).AW))
def Fw(l:List Past):Bool:=decide (l.length<=40)&&DR l.length (FZ l)
theorem F9(m:AE)(h:Co m):yA 123 [m.d] m.d:=by
 obtain⟨k,c,s,d,ky,sl,dn,pl,pr,l,⟨ik,iv,ir,ig⟩,co⟩:=m;replace h:l.length<=1048576:=h;refine zF AK Tryz.func123 ?_;unfold AE.d AE.A1;refine A9 [0,1,2] ?_;exact zE
theorem nk(m:AE)(h:Co m):yA 130 [m.d] (.tup [(if m.right&& !m.BW then Past.d ⟨m.dst,m.AW,m⟩else Vd.d),.yE (if m.right&& !m.BW then 0 else 2)]):=by
 have c1:=Wi.EH m (lm h);have c2:=Wi.IZ m;have c3:=F9 m h;unfold Past.d Past.A1;unfold AE.d AE.A1 at *;generalize m.right=rr at *;generalize m.BW=aa at *;obtain⟨k,c,s,d,ky,sl,dn,pl,pr,l,⟨ik,iv,ir,ig⟩,co⟩:=m;refine zF AK Tryz.func130 ?_;simp only at *;cases rr<;>cases aa
 all_goals
  refine AP [0,1,2,3,10] ?_ (DO @c1 @c2 @c3);refine⟨_,_,rfl,rfl,?_⟩;simp[E5,B3,B8,Aq,Wi.AU,AN]
variable {α:Type}{p:α->Bool}{l:List α}{k:Nat}
theorem EB{x:α}(hx:l[k]? =some x):(l.take (k+1)).any p=((l.take k).any p||p x):=by
 rw[AM hx,List.any_append];simp
theorem dC{x:α}(hx:l[k]? =some x)(h:p x=true):l.any p=true:=q1E.2 ⟨x,zM hx,h⟩
def Iw(l:List Past)(s c:Int):AE:=match l.find? (JZ s c)with
 |some p=>p.AA
 |none=>Wi.AU
variable {s c:Int}
theorem lM{l:List Past}{x:Past}(hx:l[k]? =some x)(h:JZ s c x=true)(hn:(l.take k).any (JZ s c)=false):Iw l s c=x.AA:=by
 have e:l=l.take k++x::l.drop (k+1):=by
  have hk:=(yZ.1 hx).1;have hv:=(yZ.1 hx).2;rw[<-hv,<-q0V hk,q0J]
 unfold Iw;rw[e,List.find?_append]
 have:(l.take k).find? (JZ s c)=none:=by
  rw[q0r];intro y hy;rw[q0O]at hn;simpa using hn y hy
 rw[this];simp[List.find?_cons,h]
theorem VL(l:List Past)(s c:Int)(hl:∀x∈l,Co x.AA)(hn:l.length<=9223372036854775807):yA 131 [Aw l,.yE s,.yE c] (.tup [(Iw l s c).d,.b (l.any (JZ s c))]):=by
 refine zF AK Tryz.func131 ?_;refine A9 MJ ?_;refine BA (fun k=>k<=l.length/\(l.take k).any (JZ s c)=false) (fun k:Nat=>[(8,.y5 k)]) (fun k=>l.length-k) 0 ⟨yx _,rfl⟩ (fun _=>rfl) ?_ ?_
 .exact A5.ck rfl
 rintro k ⟨hk,hpre⟩
 by_cases hkl:k<l.length
 .obtain⟨x,hx⟩:=AS hkl;have c1:=F9 x.AA (hl x (zM hx));have hA:=EB (p:=JZ s c) hx;rw[hpre,q0N]at hA;unfold AE.d AE.A1 at c1
  cases hi:JZ s c x with
  |true=>
   have h1:x.Ax=s/\x.AW=c:=by simpa[JZ]using hi
   have f1:(x.Ax==s)=true:=by simp[h1.1]
   have f2:(x.AW==c)=true:=by simp[h1.2]
   have hF:=lM hx hi hpre;have hT:=dC hx hi;have ix1:=hx;refine AD MJ ?_ (B1 f1 f2) (AQ @c1);clear ix1;with_reducible repeat' first|constructor|intro hc
   all_goals(clear c1;refine⟨_,_,rfl,rfl,?_⟩;rw[hT,hF];simp[Jz,EA,Ev,C4,N4,AE.d,AE.A1])
  |false=>
   have h1:¬(x.Ax=s/\x.AW=c):=by simpa[JZ]using hi
   have ix1:=hx;refine AP MJ ?_ (AQ @c1);clear ix1;with_reducible repeat' first|constructor|intro hc
   all_goals first
    |(exfalso;exact h1 ⟨by assumption,by assumption⟩)
    |(refine⟨k+1,⟨hkl,by rw[hA,hi]⟩,om,yV _,?_⟩
      exact A5.ck rfl)
 .have e:k=l.length:=om
  subst e;rw[zU]at hpre
  have hF:Iw l s c=Wi.AU:=by
   unfold Iw
   have:l.find? (JZ s c)=none:=by
    rw[q0r];intro y hy;rw[q0O]at hpre;simpa using hpre y hy
   rw[this]
  refine A9 MJ ?_;with_reducible repeat' first|constructor|intro hc
  all_goals(refine⟨_,_,rfl,rfl,?_⟩;rw[hpre,hF];simp[Jz,EA,Ev,C4,N4,RZ,B8,B3,Aq,AE.d,AE.A1,Wi.AU,AN])
abbrev Gx:BK:=[0,1,3,4,5,6,8,9,10,13]
abbrev MK:BK:=[0,1,3,4,5,6,7,8,16]
theorem ZK(l:List Past):yB 154 [.d (Aw l)] [] (.fn (.func 223) [] [.ptr 0 0 1]) [.c [.d (Aw l)]]:=by
 refine zD AK Tryz.func154 ?_;refine A9 [0,1,2] ?_;exact wE
theorem xj(s c:Int):yB 157 [.y5 s,.y5 c] [] (.fn (.func 224) [] [.ptr 0 0 1,.ptr 1 0 1]) [.c [.y5 s],.c [.y5 c]]:=by
 refine zD AK Tryz.func157 ?_;refine A9 [0,1,2,3,4] ?_;exact wE
theorem vM(p:Past)(s c:Int):yB 224 [.d p.d,.ptr 0 0 1,.ptr 1 0 1] [.c [.y5 s],.c [.y5 c]] (.y7 (JZ s c p)) [.c [.y5 s],.c [.y5 c]]:=by
 refine zD AK Tryz.func224 ?_;unfold Past.d Past.A1;have hI:JZ s c p=(decide (p.Ax=s)&&decide (p.AW=c)):=rfl;generalize JZ s c p=q at*
 by_cases h1:p.Ax=s
 .have f1:(p.Ax==s)=true:=by simp[h1]
  by_cases h2:p.AW=c
  .have f2:(p.AW==c)=true:=by simp[h2]
   have e:q=true:=by rw[hI];simp[h1,h2]
   subst e;refine Ae [0,1,2,3,4] ?_ (B1 f1 f2);exact wE
  .have f2:(p.AW==c)=false:=by simp[h2]
   have e:q=false:=by rw[hI];simp[h2]
   subst e;refine Ae [0,1,2,3,4] ?_ (B1 f1 f2);exact wE
 .have f1:(p.Ax==s)=false:=by simp[h1]
  have e:q=false:=by rw[hI];simp[h1]
  subst e;refine Ae [0,1,2,3,4] ?_ (AQ f1);exact wE
def SY(l:List Past)(s c:Int):Int:=match l.findIdx? (JZ s c)with
 |some n=>(n:Int)
 |none=> -1
theorem QF{x:α}(hx:l[k]? =some x)(h:p x=true)(hn:(l.take k).any p=false):l.findIdx? p=some k:=by
 rw[List.findIdx?_eq_some_iff_getElem];obtain⟨hk,hv⟩:=yZ.1 hx;refine⟨hk,by rw[hv];exact h,fun j hj=> ?_⟩;rw[q0O]at hn;exact hn _ (q0e.2 ⟨j,by rw[q0T,zN hj];exact yj _⟩)
theorem qP{l:List Past}{x:Past}(hx:l[k]? =some x)(h:JZ s c x=true)(hn:(l.take k).any (JZ s c)=false):SY l s c=k:=by
 unfold SY;rw[QF hx h hn]
theorem dU{l:List Past}(hn:l.any (JZ s c)=false):SY l s c= -1:=by
 unfold SY
 have:l.findIdx? (JZ s c)=none:=by
  rw[List.findIdx?_eq_none_iff];rw[q0O]at hn;intro x hx;simpa using hn x hx
 rw[this]
theorem qQ(l:List Past)(s c:Int):decide (SY l s c>=0)=l.any (JZ s c):=by
 cases h:l.any (JZ s c)with
 |false=>rw[dU h];rfl
 |true=>
  obtain⟨x,hx,hp⟩:=q1E.1 h
  have:l.findIdx? (JZ s c)≠none:=by
   rw[Ne,List.findIdx?_eq_none_iff];intro hh;have:=hh x hx;rw[hp]at this;cases this
  unfold SY;split
  .exact yX om
  .contradiction
theorem lO(l:List Past)(s c:Int)(hn:l.length<=9223372036854775807):yB 156 [.d (Aw l),.fn (.func 224) [] [.ptr 0 0 1,.ptr 1 0 1]] [.c [.y5 s],.c [.y5 c]] (.y5 (SY l s c)) [.c [.y5 s],.c [.y5 c]]:=by
 refine Bw.drop (K:=[.c [.y5 s],.c [.y5 c],.gone,.c [.y5 (SY l s c)]]) _ ?_ ⟨.inr rfl,.inr rfl,trivial⟩ rfl rfl rfl;refine zD AK Tryz.func156 ?_;refine Cd Gx ?_ (E8 [] (ZK l))
 refine zG (K:=fun r _ H'=>(l.any (JZ s c)=false/\H'=[.c [.y5 s],.c [.y5 c],.c [.fn (.func 224) [] [.ptr 0 0 1,.ptr 1 0 1]],.c [.y5 0],.c [.d (Aw l)],.lp r])\/
  (∃k:Nat,SY l s c=k/\H'=[.c [.y5 s],.c [.y5 c],.c [.fn (.func 224) [] [.ptr 0 0 1,.ptr 1 0 1]],.c [.y5 k],.c [.d (Aw l)],.lp (r.left .ret)])) ?_ ?_
 .intro r hr;refine zT AK Tryz.func223 ?_;refine A9 MK ?_;have hk:=hr.ok (k:=5) rfl;refine BA (fun k=>k<=l.length/\(l.take k).any (JZ s c)=false) (fun k:Nat=>[(7,.y5 k)]) (fun k=>l.length-k) 0 ⟨yx _,rfl⟩ (fun _=>rfl) ?_ ?_
  .exact A5.ck rfl
  rintro k ⟨hkk,hpre⟩
  by_cases hkl:k<l.length
  .obtain⟨x,hx⟩:=AS hkl;have c1:=vM x s c;have hA:=EB (p:=JZ s c) hx;rw[hpre,q0N]at hA;unfold Past.d Past.A1 at c1
   cases hb:JZ s c x with
   |true=>
    rw[hb]at c1
    have hY:YT Tryz.prog 5 [.y5 k,.d (.agg [.yE x.Ax,.yE x.AW,.i .u8 x.AA.AG,.yE x.AA.AW,.yE x.AA.Ax,.yE x.AA.dst,.yE x.AA.AH,.b x.AA.BX,.b x.AA.done,.yE x.AA.AY,.yE x.AA.AO,.is x.AA.A8,.s x.AA.AC.AH,.yE x.AA.AC.BD,.yE x.AA.AC.Aa,.b x.AA.AC.gone,.yE x.AA.Ab])] [.c [.y5 s],.c [.y5 c],.c [.fn (.func 224) [] [.ptr 0 0 1,.ptr 1 0 1]],.c [.y5 0],.c [.d (Aw l)],.lp r,.c [.y5 x.Ax,.y5 x.AW,.y8 x.AA.AG,.y5 x.AA.AW,.y5 x.AA.Ax,.y5 x.AA.dst,.y5 x.AA.AH,.y7 x.AA.BX,.y7 x.AA.done,.y5 x.AA.AY,.y5 x.AA.AO,.yD x.AA.A8,.yC x.AA.AC.AH,.y5 x.AA.AC.BD,.y5 x.AA.AC.Aa,.y7 x.AA.AC.gone,.y5 x.AA.Ab]] fun v K=>v= .y7 false/\K=[.c [.y5 s],.c [.y5 c],.c [.fn (.func 224) [] [.ptr 0 0 1,.ptr 1 0 1]],.c [.y5 k],.c [.d (Aw l)],.lp (r.left .ret),.c [.y5 x.Ax,.y5 x.AW,.y8 x.AA.AG,.y5 x.AA.AW,.y5 x.AA.Ax,.y5 x.AA.dst,.y5 x.AA.AH,.y7 x.AA.BX,.y7 x.AA.done,.y5 x.AA.AY,.y5 x.AA.AO,.yD x.AA.A8,.yC x.AA.AC.AH,.y5 x.AA.AC.BD,.y5 x.AA.AC.Aa,.y7 x.AA.AC.gone,.y5 x.AA.Ab]]:=by
     refine CE hr rfl rfl rfl ?_;refine A9 Gx ?_;refine zR ?_;refine Cd Gx ?_ (E8 [0,1] c1);exact⟨⟨[],[.c [.y5 s],.c [.y5 c],.c [.fn (.func 224) [] [.ptr 0 0 1,.ptr 1 0 1]],.c [.y5 k],.c [.d (Aw l)],.lp r.busy,.c [.y5 x.Ax,.y5 x.AW,.y8 x.AA.AG,.y5 x.AA.AW,.y5 x.AA.Ax,.y5 x.AA.dst,.y5 x.AA.AH,.y7 x.AA.BX,.y7 x.AA.done,.y5 x.AA.AY,.y5 x.AA.AO,.yD x.AA.A8,.yC x.AA.AC.AH,.y5 x.AA.AC.BD,.y5 x.AA.AC.Aa,.y7 x.AA.AC.gone,.y5 x.AA.Ab]],_⟩,(A5.ck rfl),yV _,rfl,rfl,rfl⟩
    have ix1:=hx;have q1:=@hY;refine A9 MK ?_;clear q1 ix1;with_reducible repeat' first|constructor|intro hc
    exact⟨⟨[],[.c [.y5 s],.c [.y5 c],.c [.fn (.func 224) [] [.ptr 0 0 1,.ptr 1 0 1]],.c [.y5 k],.c [.d (Aw l)],.lp (r.left .ret)],_⟩,(A5.ck rfl),yV _,_,_,rfl,rfl,.inr ⟨k,qP hx hb hpre,rfl⟩⟩
   |false=>
    rw[hb]at c1
    have hY:YT Tryz.prog 5 [.y5 k,.d (.agg [.yE x.Ax,.yE x.AW,.i .u8 x.AA.AG,.yE x.AA.AW,.yE x.AA.Ax,.yE x.AA.dst,.yE x.AA.AH,.b x.AA.BX,.b x.AA.done,.yE x.AA.AY,.yE x.AA.AO,.is x.AA.A8,.s x.AA.AC.AH,.yE x.AA.AC.BD,.yE x.AA.AC.Aa,.b x.AA.AC.gone,.yE x.AA.Ab])] [.c [.y5 s],.c [.y5 c],.c [.fn (.func 224) [] [.ptr 0 0 1,.ptr 1 0 1]],.c [.y5 0],.c [.d (Aw l)],.lp r,.c [.y5 x.Ax,.y5 x.AW,.y8 x.AA.AG,.y5 x.AA.AW,.y5 x.AA.Ax,.y5 x.AA.dst,.y5 x.AA.AH,.y7 x.AA.BX,.y7 x.AA.done,.y5 x.AA.AY,.y5 x.AA.AO,.yD x.AA.A8,.yC x.AA.AC.AH,.y5 x.AA.AC.BD,.y5 x.AA.AC.Aa,.y7 x.AA.AC.gone,.y5 x.AA.Ab]] fun v K=>v= .y7 true/\K=[.c [.y5 s],.c [.y5 c],.c [.fn (.func 224) [] [.ptr 0 0 1,.ptr 1 0 1]],.c [.y5 0],.c [.d (Aw l)],.lp r,.c [.y5 x.Ax,.y5 x.AW,.y8 x.AA.AG,.y5 x.AA.AW,.y5 x.AA.Ax,.y5 x.AA.dst,.y5 x.AA.AH,.y7 x.AA.BX,.y7 x.AA.done,.y5 x.AA.AY,.y5 x.AA.AO,.yD x.AA.A8,.yC x.AA.AC.AH,.y5 x.AA.AC.BD,.y5 x.AA.AC.Aa,.y7 x.AA.AC.gone,.y5 x.AA.Ab]]:=by
     refine CE hr rfl rfl rfl ?_;refine A9 Gx ?_;refine zR ?_;refine Cd Gx ?_ (E8 [0,1] c1);exact⟨⟨[],[.c [.y5 s],.c [.y5 c],.c [.fn (.func 224) [] [.ptr 0 0 1,.ptr 1 0 1]],.c [.y5 0],.c [.d (Aw l)],.lp r.busy,.c [.y5 x.Ax,.y5 x.AW,.y8 x.AA.AG,.y5 x.AA.AW,.y5 x.AA.Ax,.y5 x.AA.dst,.y5 x.AA.AH,.y7 x.AA.BX,.y7 x.AA.done,.y5 x.AA.AY,.y5 x.AA.AO,.yD x.AA.A8,.yC x.AA.AC.AH,.y5 x.AA.AC.BD,.y5 x.AA.AC.Aa,.y7 x.AA.AC.gone,.y5 x.AA.Ab]],_⟩,(A5.ck rfl),yV _,rfl,rfl,rfl⟩
    have ix1:=hx;have q1:=@hY;refine A9 MK ?_;clear q1 ix1;with_reducible repeat' first|constructor|intro hc
    refine⟨k+1,⟨hkl,by rw[hA,hb]⟩,om,yV _,?_⟩;exact A5.ck rfl
  .have e:k=l.length:=om
   subst e;rw[zU]at hpre;refine A9 MK ?_;with_reducible repeat' first|constructor|intro hc
   exact⟨_,A5.refl _,yV _,_,_,rfl,rfl,.inl ⟨hpre,rfl⟩⟩
 .rintro r hr y H' (⟨h,rfl⟩|⟨k,h,rfl⟩)
  .refine .inl ⟨rfl,?_⟩;rw[dU h];refine A9 Gx ?_;exact wE
  .refine .inr ⟨.ret,rfl,?_⟩;rw[h];refine A9 Gx ?_;exact wE
abbrev Cn:BK:=[0,1,2,3,4,7,9,10,11,20,34,44]
abbrev ML:BK:=[0,1,3,4,5,6,7,8,16]
theorem sI(l:List Past)(hl:∀x∈l,Co x.AA)(hn:l.length<=9223372036854775807):yA 107 [Aw l] (.b (Fw l)):=by
 refine zF AK Tryz.func107 ?_
 by_cases h40:l.length>40
 .have f1:decide ((l.length:Int)>40)=true:=yX om;have hT:Fw l=false:=by unfold Fw;rw[yY om];rfl
  refine Ae Cn ?_ (AQ f1);exact BO hT
 have f1:decide ((l.length:Int)>40)=false:=yY om;have hT:Fw l=DR l.length (FZ l):=by unfold Fw;rw[yX om];rfl
 refine GW Cn ?_ (AQ f1) (E8 [] (ZK l))
 refine zG (K:=fun r _ H'=>(DR l.length (FZ l)=true/\H'=[.c [.d (Aw l)],.c [.y7 false],.c [.d (Aw l)],.lp r])\/
  (DR l.length (FZ l)=false/\H'=[.c [.d (Aw l)],.c [.y7 false],.c [.d (Aw l)],.lp (r.left .ret)])) ?_ ?_
 .intro r hr;refine zT AK Tryz.func223 ?_;refine A9 ML ?_;have hk:=hr.ok (k:=3) rfl;refine BA (fun k=>k<=l.length/\DR k (FZ l)=true) (fun k:Nat=>[(7,.y5 k)]) (fun k=>l.length-k) 0 ⟨yx _,rfl⟩ (fun _=>rfl) ?_ ?_
  .exact A5.ck rfl
  rintro k ⟨hkk,hpre⟩
  by_cases hkl:k<l.length
  .obtain⟨x,hx⟩:=AS hkl;have gx:l.getD k Vd=x:=getD_at hx;have hlx:=hl x (zM hx);have hK:FZ l k=((x.AA.right&&(!x.AA.BW&&(decide (x.AA.dst=x.Ax)&&decide (x.AA.AW=x.AW))))&& !(decide (SY (l.take k) x.Ax x.AW>=0))):=by unfold FZ NP;rw[gx,qQ]
   have c1:=Wi.Nk x.AA (lm hlx);have c2:=Wi.T0 x.AA;have d1:=xj x.Ax x.AW;have d2:=lO (l.take k) x.Ax x.AW (by rw[q09];omega);have e1:List.take k (List.map Past.A1 l)=List.map Past.A1 (List.take k l):=(List.map_take ..).symm;unfold AE.d AE.A1 at c1 c2;generalize SY (l.take k) x.Ax x.AW=fi at*
   have hY:YT Tryz.prog 3 [.y5 k,.d (.agg [.yE x.Ax,.yE x.AW,.i .u8 x.AA.AG,.yE x.AA.AW,.yE x.AA.Ax,.yE x.AA.dst,.yE x.AA.AH,.b x.AA.BX,.b x.AA.done,.yE x.AA.AY,.yE x.AA.AO,.is x.AA.A8,.s x.AA.AC.AH,.yE x.AA.AC.BD,.yE x.AA.AC.Aa,.b x.AA.AC.gone,.yE x.AA.Ab])] [.c [.d (Aw l)],.c [.y7 false],.c [.d (Aw l)],.lp r,.c [.y5 x.Ax,.y5 x.AW,.y8 x.AA.AG,.y5 x.AA.AW,.y5 x.AA.Ax,.y5 x.AA.dst,.y5 x.AA.AH,.y7 x.AA.BX,.y7 x.AA.done,.y5 x.AA.AY,.y5 x.AA.AO,.yD x.AA.A8,.yC x.AA.AC.AH,.y5 x.AA.AC.BD,.y5 x.AA.AC.Aa,.y7 x.AA.AC.gone,.y5 x.AA.Ab]] fun v K=>v= .y7 (FZ l k)/\K=if FZ l k then[.c [.d (Aw l)],.c [.y7 false],.c [.d (Aw l)],.lp r,.c [.y5 x.Ax,.y5 x.AW,.y8 x.AA.AG,.y5 x.AA.AW,.y5 x.AA.Ax,.y5 x.AA.dst,.y5 x.AA.AH,.y7 x.AA.BX,.y7 x.AA.done,.y5 x.AA.AY,.y5 x.AA.AO,.yD x.AA.A8,.yC x.AA.AC.AH,.y5 x.AA.AC.BD,.y5 x.AA.AC.Aa,.y7 x.AA.AC.gone,.y5 x.AA.Ab]]else[.c [.d (Aw l)],.c [.y7 false],.c [.d (Aw l)],.lp (r.left .ret),.c [.y5 x.Ax,.y5 x.AW,.y8 x.AA.AG,.y5 x.AA.AW,.y5 x.AA.Ax,.y5 x.AA.dst,.y5 x.AA.AH,.y7 x.AA.BX,.y7 x.AA.done,.y5 x.AA.AY,.y5 x.AA.AO,.yD x.AA.A8,.yC x.AA.AC.AH,.y5 x.AA.AC.BD,.y5 x.AA.AC.Aa,.y7 x.AA.AC.gone,.y5 x.AA.Ab]]:=by
    refine CE hr rfl rfl rfl ?_;rw[hK];generalize x.AA.right=rr at *;generalize x.AA.BW=aa at *;clear hK;cases rr
    .refine A9 Cn ?_;refine zR ?_;refine AP Cn ?_ (AQ @c1);exact⟨⟨[],[.c [.d (Aw l)],.c [.y7 false],.c [.d (Aw l)],.lp r.busy,.c [.y5 x.Ax,.y5 x.AW,.y8 x.AA.AG,.y5 x.AA.AW,.y5 x.AA.Ax,.y5 x.AA.dst,.y5 x.AA.AH,.y7 x.AA.BX,.y7 x.AA.done,.y5 x.AA.AY,.y5 x.AA.AO,.yD x.AA.A8,.yC x.AA.AC.AH,.y5 x.AA.AC.BD,.y5 x.AA.AC.Aa,.y7 x.AA.AC.gone,.y5 x.AA.Ab]],_⟩,(A5.ck rfl),yV _,rfl,rfl,rfl⟩
    cases aa
    .by_cases h1:x.AA.dst=x.Ax
     .have f2:(x.AA.dst !=x.Ax)=false:=BJ h1
      by_cases h2:x.AA.AW=x.AW
      .have f3:(x.AA.AW !=x.AW)=false:=BJ h2;rw[yX h1,yX h2]
       by_cases h3:fi>=0
       .have f4:decide (fi>=0)=true:=yX h3;rw[f4];refine A9 Cn ?_;refine zR ?_;refine EL Cn ?_ (Hc f2 f3 f4 e1) (B1 @c1 @c2) (QZ [] d1 [6,7] d2) [(0,7)];exact⟨⟨[],[.c [.d (Aw l)],.c [.y7 false],.c [.d (Aw l)],.lp r.busy,.c [.y5 x.Ax,.y5 x.AW,.y8 x.AA.AG,.y5 x.AA.AW,.y5 x.AA.Ax,.y5 x.AA.dst,.y5 x.AA.AH,.y7 x.AA.BX,.y7 x.AA.done,.y5 x.AA.AY,.y5 x.AA.AO,.yD x.AA.A8,.yC x.AA.AC.AH,.y5 x.AA.AC.BD,.y5 x.AA.AC.Aa,.y7 x.AA.AC.gone,.y5 x.AA.Ab]],_⟩,(A5.ck rfl),yV _,rfl,rfl,rfl⟩
       .have f4:decide (fi>=0)=false:=yY h3;rw[f4];refine A9 Cn ?_;refine zR ?_;refine EL Cn ?_ (Hc f2 f3 f4 e1) (B1 @c1 @c2) (QZ [] d1 [6,7] d2) [(0,7)];exact⟨⟨[],[.c [.d (Aw l)],.c [.y7 false],.c [.d (Aw l)],.lp r.busy,.c [.y5 x.Ax,.y5 x.AW,.y8 x.AA.AG,.y5 x.AA.AW,.y5 x.AA.Ax,.y5 x.AA.dst,.y5 x.AA.AH,.y7 x.AA.BX,.y7 x.AA.done,.y5 x.AA.AY,.y5 x.AA.AO,.yD x.AA.A8,.yC x.AA.AC.AH,.y5 x.AA.AC.BD,.y5 x.AA.AC.Aa,.y7 x.AA.AC.gone,.y5 x.AA.Ab]],_⟩,(A5.ck rfl),yV _,rfl,rfl,rfl⟩
      .have f3:(x.AA.AW !=x.AW)=true:=Bp h2;rw[yX h1,yY h2];refine A9 Cn ?_;refine zR ?_;refine AD Cn ?_ (B1 f2 f3) (B1 @c1 @c2);exact⟨⟨[],[.c [.d (Aw l)],.c [.y7 false],.c [.d (Aw l)],.lp r.busy,.c [.y5 x.Ax,.y5 x.AW,.y8 x.AA.AG,.y5 x.AA.AW,.y5 x.AA.Ax,.y5 x.AA.dst,.y5 x.AA.AH,.y7 x.AA.BX,.y7 x.AA.done,.y5 x.AA.AY,.y5 x.AA.AO,.yD x.AA.A8,.yC x.AA.AC.AH,.y5 x.AA.AC.BD,.y5 x.AA.AC.Aa,.y7 x.AA.AC.gone,.y5 x.AA.Ab]],_⟩,(A5.ck rfl),yV _,rfl,rfl,rfl⟩
     .have f2:(x.AA.dst !=x.Ax)=true:=Bp h1;rw[yY h1];refine A9 Cn ?_;refine zR ?_;refine AD Cn ?_ (AQ f2) (B1 @c1 @c2);exact⟨⟨[],[.c [.d (Aw l)],.c [.y7 false],.c [.d (Aw l)],.lp r.busy,.c [.y5 x.Ax,.y5 x.AW,.y8 x.AA.AG,.y5 x.AA.AW,.y5 x.AA.Ax,.y5 x.AA.dst,.y5 x.AA.AH,.y7 x.AA.BX,.y7 x.AA.done,.y5 x.AA.AY,.y5 x.AA.AO,.yD x.AA.A8,.yC x.AA.AC.AH,.y5 x.AA.AC.BD,.y5 x.AA.AC.Aa,.y7 x.AA.AC.gone,.y5 x.AA.Ab]],_⟩,(A5.ck rfl),yV _,rfl,rfl,rfl⟩
    .refine A9 Cn ?_;refine zR ?_;refine AP Cn ?_ (B1 @c1 @c2);exact⟨⟨[],[.c [.d (Aw l)],.c [.y7 false],.c [.d (Aw l)],.lp r.busy,.c [.y5 x.Ax,.y5 x.AW,.y8 x.AA.AG,.y5 x.AA.AW,.y5 x.AA.Ax,.y5 x.AA.dst,.y5 x.AA.AH,.y7 x.AA.BX,.y7 x.AA.done,.y5 x.AA.AY,.y5 x.AA.AO,.yD x.AA.A8,.yC x.AA.AC.AH,.y5 x.AA.AC.BD,.y5 x.AA.AC.Aa,.y7 x.AA.AC.gone,.y5 x.AA.Ab]],_⟩,(A5.ck rfl),yV _,rfl,rfl,rfl⟩
   cases hb:FZ l k with
   |true=>
    rw[hb]at hY;have ix1:=hx;have q1:=@hY;refine A9 ML ?_;clear q1 ix1;with_reducible repeat' first|constructor|intro hc
    refine⟨k+1,⟨hkl,Cm hpre hb⟩,om,yV _,?_⟩;exact A5.ck rfl
   |false=>
    rw[hb]at hY;have ix1:=hx;have q1:=@hY;refine A9 ML ?_;clear q1 ix1;with_reducible repeat' first|constructor|intro hc
    exact⟨⟨[],[.c [.d (Aw l)],.c [.y7 false],.c [.d (Aw l)],.lp (r.left .ret)],_⟩,(A5.ck rfl),yV _,_,_,rfl,rfl,.inr ⟨EY hkl hb,rfl⟩⟩
  .have e:k=l.length:=om
   subst e;refine A9 ML ?_;with_reducible repeat' first|constructor|intro hc
   exact⟨_,A5.refl _,yV _,_,_,rfl,rfl,.inl ⟨hpre,rfl⟩⟩
 .rintro r hr y H' (⟨h,rfl⟩|⟨h,rfl⟩)
  .refine .inl ⟨rfl,?_⟩;rw[h]at hT;refine A9 Cn ?_;exact BO hT
  .refine .inr ⟨.ret,rfl,?_⟩;rw[h]at hT;refine A9 Cn ?_;exact BO hT
abbrev Js:BK:=[0,1,2,3,4,28,33,109]
theorem I8(c:Calls)(hl:∀x∈c.op,Co x.Cl)(hn:c.op.length<=9223372036854775807):yA 78 [c.d] (.b (Bc c)):=by
 obtain⟨id,Ah,op⟩:=c;replace hl:∀x∈op,Co x.Cl:=hl;replace hn:op.length<=9223372036854775807:=hn;refine zF AK Tryz.func78 ?_;unfold Calls.d Calls.A1
 cases hh:QI ⟨id,Ah,op⟩with
 |false=>
  have hT:Bc ⟨id,Ah,op⟩=false:=by unfold Bc;rw[hh];rfl
  refine A9 Js ?_;repeat'(apply zB<;>intro hc)
  all_goals first
   |(refine⟨_,_,rfl,rfl,?_⟩;simp only[C4];rw[hT];done)
   |(exfalso;simp[QI,BE]at hh;omega)
 |true=>
 have hT:Bc ⟨id,Ah,op⟩=DR op.length (JS ⟨id,Ah,op⟩):=by unfold Bc;rw[hh];rfl
 simp only[QI,BE,yU,yc]at hh;obtain⟨⟨h1,h2⟩,h3,h4,h5⟩:=hh;have f1:decide (id<0)=false:=yY om;have f2:decide (id>=65536)=false:=yY om;have f3:decide (Ah<0)=false:=yY om;have f4:decide (Ah>1048576)=false:=yY om;have f5:decide ((op.length:Int)>16)=false:=yY om;refine Ae Js ?_ (Ll f1 f2 f3 f4 f5);refine BA (fun k=>k<=op.length/\DR k (JS ⟨id,Ah,op⟩)=true) (fun k:Nat=>[(3,.y5 k)]) (fun k=>op.length-k) 0 ⟨yx _,rfl⟩ (fun _=>rfl) ?_ ?_
 .exact A5.ck rfl
 rintro k ⟨hk,hpre⟩
 by_cases hkl:k<op.length
 .obtain⟨x,hx⟩:=AS hkl;have gx:op.getD k Kp=x:=getD_at hx;have c1:=Wi.IZ x.Cl;have c2:=Wi.EH x.Cl (lm (hl x (zM hx)));have c3:=Tl x.GD;have hK:JS ⟨id,Ah,op⟩ k=((x.Cl.right&&(x.Cl.BW&&(decide (x.Cl.Ax=id)&&(decide (x.id=x.Cl.AW)&&(decide (x.id<=id*1048576+Ah)&&(decide (1<=x.D3)&&(decide (x.D3<=3)&&EV x.GD)))))))&&decide (k=0\/(op.getD (k-1) Kp).id<x.id)):=by unfold JS Gi;rw[gx]
  unfold AE.d AE.A1 at c1 c2;generalize x.Cl.right=rr at *;generalize x.Cl.BW=aa at *;generalize EV x.GD=tt at *;generalize JS ⟨id,Ah,op⟩=K at*
  by_cases h0:k=0
  .have f6:decide ((k:Int)>0)=false:=yY om;have ix1:=hx;refine AD Js ?_ (AQ f6) (DO @c1 @c2 @c3);clear ix1;with_reducible repeat' first|constructor|intro hc
   all_goals clear c1 c2 c3
   all_goals first
    |(refine⟨k+1,⟨hkl,Cm hpre (by rw[hK];grind)⟩,om,yV _,?_⟩
      exact A5.ck rfl)
    |(refine⟨_,_,rfl,rfl,?_⟩;simp only[C4];rw[hT,EY hkl (by rw[hK];grind)])
  .have f6:decide ((k:Int)>0)=true:=yX om;have e1:(k:Int)-1=((k-1:Nat):Int):=om
   obtain⟨y,hy⟩:=AS (xs:=op) (k:=k-1) om;have gy:op.getD (k-1) Kp=y:=getD_at hy;rw[gy]at hK;have ix1:=hx;have ix2:=hy;refine AD Js ?_ (B1 f6 e1) (DO @c1 @c2 @c3);clear ix2 ix1;with_reducible repeat' first|constructor|intro hc
   all_goals clear c1 c2 c3
   all_goals first
    |(refine⟨k+1,⟨hkl,Cm hpre (by rw[hK];grind)⟩,om,yV _,?_⟩
      exact A5.ck rfl)
    |(refine⟨_,_,rfl,rfl,?_⟩;simp only[C4];rw[hT,EY hkl (by rw[hK];grind)])
 .have e:k=op.length:=om
  subst e;rw[hpre]at hT;refine A9 Js ?_;with_reducible repeat' first|constructor|intro hc
  exact BO hT
abbrev IB:BK:=[0,2,3,4,5,7,11,44,56]
theorem oW(l:List Past)(hl:∀x∈l,Co x.AA)(hn:l.length<=9223372036854775807):yA 80 [Aw l] (.b (Fw l)):=by
 refine zF AK Tryz.func80 ?_;have hT:Fw l=(decide (l.length<=40)&&DR l.length (FZ l)):=rfl;refine A9 IB ?_;refine BA (fun k=>k<=l.length/\DR k (FZ l)=true) (fun k:Nat=>[(3,.y5 k)]) (fun k=>l.length-k) 0 ⟨yx _,rfl⟩ (fun _=>rfl) ?_ ?_
 .exact A5.ck rfl
 rintro k ⟨hk,hpre⟩
 by_cases hkl:k<l.length
 .obtain⟨x,hx⟩:=AS hkl;have gx:l.getD k Vd=x:=getD_at hx;have hlx:=hl x (zM hx);have hK:FZ l k=(NP x&& !((l.take k).any (JZ x.Ax x.AW))):=by unfold FZ;rw[gx]
  have c1:=nk x.AA hlx;have hO:NP x=(x.AA.right&&(!x.AA.BW&&(decide (x.AA.dst=x.Ax)&&decide (x.AA.AW=x.AW)))):=rfl;have c2:=VL (l.take k) x.AA.dst x.AA.AW (fun y hy=>hl y (List.mem_of_mem_take hy)) (by rw[q09];omega);unfold Past.d Past.A1 at c1;unfold AE.d AE.A1 at c1 c2;have e1:List.take k (List.map Past.A1 l)=List.map Past.A1 (List.take k l):=(List.map_take ..).symm;generalize Iw (l.take k) x.AA.dst x.AA.AW=fm at*
  cases hb:x.AA.right&& !x.AA.BW with
  |false=>
   rw[hb]at c1;simp only[q0F,zo]at c1;have hN:FZ l k=false:=by rw[hK,hO];revert hb;cases x.AA.right<;>cases x.AA.BW<;>simp
   have ix1:=hx;refine AP IB ?_ (AQ @c1);clear ix1;with_reducible repeat' first|constructor|intro hc
   all_goals(clear c1 c2;refine⟨_,_,rfl,rfl,?_⟩;simp only[C4];rw[hT,EY hkl hN,q0W])
  |true=>
   rw[hb]at c1;simp only[zx]at c1;rw[yU]at hb;rw[hb.1,hb.2,zy,zy]at hO
   by_cases h1:x.AA.dst=x.Ax
   .by_cases h2:x.AA.AW=x.AW
    .have f1:(x.AA.dst !=x.Ax)=false:=BJ h1;have f2:(x.AA.AW !=x.AW)=false:=BJ h2;have hN:FZ l k= !((l.take k).any (JZ x.AA.dst x.AA.AW)):=by rw[hK,hO,h1,h2];simp
     generalize(l.take k).any (JZ x.AA.dst x.AA.AW)=tw at *;have ix1:=hx;refine AD IB ?_ (DO f1 f2 e1) (B1 @c1 @c2) [(3,11),(4,11),(5,11),(6,11)];clear ix1;with_reducible repeat' first|constructor|intro hc
     all_goals clear c1 c2
     all_goals first
      |(refine⟨k+1,⟨hkl,Cm hpre (by rw[hN];grind)⟩,om,yV _,?_⟩
        exact A5.ck rfl)
      |(refine⟨_,_,rfl,rfl,?_⟩;simp only[C4];rw[hT,EY hkl (by rw[hN];grind),q0W])
    .have f1:(x.AA.dst !=x.Ax)=false:=BJ h1;have f2:(x.AA.AW !=x.AW)=true:=Bp h2;have hN:FZ l k=false:=by rw[hK,hO];simp[h2]
     have ix1:=hx;refine AD IB ?_ (B1 f1 f2) (AQ @c1);clear ix1;with_reducible repeat' first|constructor|intro hc
     all_goals(clear c1 c2;refine⟨_,_,rfl,rfl,?_⟩;simp only[C4];rw[hT,EY hkl hN,q0W])
   .have f1:(x.AA.dst !=x.Ax)=true:=Bp h1;have hN:FZ l k=false:=by rw[hK,hO];simp[h1]
    have ix1:=hx;refine AD IB ?_ (AQ f1) (AQ @c1);clear ix1;with_reducible repeat' first|constructor|intro hc
    all_goals(clear c1 c2;refine⟨_,_,rfl,rfl,?_⟩;simp only[C4];rw[hT,EY hkl hN,q0W])
 .have e:k=l.length:=om
  subst e;rw[hpre]at hT;refine A9 IB ?_;with_reducible repeat' first|constructor|intro hc
  all_goals(refine⟨_,_,rfl,rfl,?_⟩;simp only[C4];rw[hT];simp;try omega)
end Nd
end Go.Proofs.YthlmmkmeoblbhaaGreat
