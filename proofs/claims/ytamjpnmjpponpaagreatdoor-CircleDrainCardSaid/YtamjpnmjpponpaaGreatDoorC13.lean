/- Part 13 of a proof. Conditions: those that its theorems state. -/
import Derived.Test.YtamjpnmjpponpaaGreatDoorC12
import Derived.Shelf.Slices.In.SortNone
set_option linter.unusedSimpArgs false
set_option linter.unusedVariables false
set_option linter.unnecessarySimpa false
set_option maxHeartbeats 40000000
set_option maxRecDepth 4000
namespace Go.Proofs.YtamjpnmjpponpaaGreatDoor
namespace Nd
open Go.Gar
open Wi (AF BV)
structure Al where
 id:Int
 BD:AF
 Bd:Int
 ref:Int
 CZ:Int
 BQ:Int
def Al.A4(x:Al):yp:=[.yX x.id,.i .u8 x.BD.AN,.yX x.BD.Ae,.yX x.BD.B8,.yX x.BD.dst,.yX x.BD.AI,.b x.BD.BA,.b x.BD.done,.yX x.BD.AP,.yX x.BD.AH,.is x.BD.AB,.s x.BD.AC.AI,.yX x.BD.AC.B4,.yX x.BD.AC.AZ,.b x.BD.AC.gone,.yX x.BD.Aa,.i .u8 x.Bd,.yX x.ref,.yX x.CZ,.yX x.BQ]
def Al.d(x:Al):D:=.agg x.A4
structure Calls where
 id:Int
 Ad:Int
 op:List Al
abbrev Ag(l:List Al):D:=.sl 20 (l.map Al.A4)
def Calls.A4(c:Calls):yp:=[.yX c.id,.yX c.Ad,Ag c.op]
def Calls.d(c:Calls):D:=.agg c.A4
structure Past where
 B8:Int
 Ae:Int
 AD:AF
def Past.A4(p:Past):yp:=[.yX p.B8,.yX p.Ae,.i .u8 p.AD.AN,.yX p.AD.Ae,.yX p.AD.B8,.yX p.AD.dst,.yX p.AD.AI,.b p.AD.BA,.b p.AD.done,.yX p.AD.AP,.yX p.AD.AH,.is p.AD.AB,.s p.AD.AC.AI,.yX p.AD.AC.B4,.yX p.AD.AC.AZ,.b p.AD.AC.gone,.yX p.AD.Aa]
def Past.d(p:Past):D:=.agg p.A4
abbrev Az(l:List Past):D:=.sl 17 (l.map Past.A4)
structure C6 where
 AI:Int
 CF:Int
 C3:Int
 BA:Bool
 CK:Bool
 Aa:Int
structure B9 where
 AR:Int
 A5:Int
 Ap:C6
 AC:AS
 Ao:Int
 left:Ai
 Aa:Int
def B9.A4(j:B9):yp:=[.i .u8 j.AR,.i .u8 j.A5,.yX j.Ap.AI,.yX j.Ap.CF,.yX j.Ap.C3,.b j.Ap.BA,.b j.Ap.CK,.yX j.Ap.Aa,.s j.AC.AI,.yX j.AC.B4,.yX j.AC.AZ,.b j.AC.gone,.yX j.Ao,.is j.left,.yX j.Aa]
def B9.d(j:B9):D:=.agg j.A4
structure AA where
 A7:AG
 Am:Int
 Ac:Calls
 BZ:List Past
 A5:Int
 BH:Int
 AQ:B9
 AX:B9
 AW:B9
 next:Int
 last:AL
 keep:List AS
 bad:Int
def AA.A4(n:AA):yp:=n.A7.A4++(.yX n.Am::(n.Ac.A4++(Az n.BZ:: .i .u8 n.A5:: .yX n.BH::(n.AQ.A4++(n.AX.A4++(n.AW.A4++[.yX n.next,.s n.last,BU n.keep,.yX n.bad]))))))
def AA.d(n:AA):D:=.agg n.A4
structure D3 where
 nodes:List AA
 gone:Ai
 A6:Ai
 grams:List (yp)
 lost:Int
abbrev Ak(l:List AA):D:=.sl 76 (l.map AA.A4)
def D3.A4(c:D3):yp:=[Ak c.nodes,.is c.gone,.is c.A6,.sl 3 c.grams,.yX c.lost]
def D3.d(c:D3):D:=.agg c.A4
def DG(n:Int):Bool:=decide (0<=n)&&decide (n<=1099511627776)
theorem oE(n:Int):yS 136 [.yX n] (.b (DG n)):=by
 refine zF AE Tryz.func136 ?_;refine A9 [0,2] ?_;repeat'(apply zB<;>intro hc)
 all_goals(refine⟨_,_,rfl,rfl,?_⟩;simp[Cw,DG, *];try omega)
theorem PC(n:Int):yS 200 [.yX n] (.b (DG n)):=by
 refine zF AE Tryz.func200 ?_;refine A9 [0,2] ?_;repeat'(apply zB<;>intro hc)
 all_goals(refine⟨_,_,rfl,rfl,?_⟩;simp[Cw,DG, *];try omega)
def Cl(A5 BH:Int):Bool:=if A5=0 then decide (BH=0)else decide (A5<=3)&&BV BH
theorem oD(A5 BH:Int):yS 56 [.agg [.i .u8 A5,.yX BH]] (.b (Cl A5 BH)):=by
 refine zF AE Tryz.func56 ?_;refine A9 [0,1,2,5] ?_;repeat'(apply zB<;>intro hc)
 all_goals(refine⟨_,_,rfl,rfl,?_⟩;simp[Cw,Cl,BV,Dp, *];try omega)
theorem Qp(A5 BH:Int):yS 73 [.agg [.i .u8 A5,.yX BH]] (.b (Cl A5 BH)):=by
 refine zF AE Tryz.func73 ?_;refine A9 [0,1,2,5] ?_;repeat'(apply zB<;>intro hc)
 all_goals(refine⟨_,_,rfl,rfl,?_⟩;simp[Cw,Cl,BV,Dp, *];try omega)
def Gl(id n:Int):Int×Int:=if BV id=true/\1<=n/\n<=1048576 then(id*1048576+n,0)else(0,2)
theorem Ue(id n:Int):yS 179 [.yX id,.yX n] (.tup [.yX (Gl id n).1,.yX (Gl id n).2]):=by
 have h1:=Wi.PK id;have hb:BV id=true->0<=id/\id<65536:=Wi.GC;refine zF AE Tryz.func179 ?_
 cases h:BV id with
 |false=>
  rw[h]at h1;refine AO [0,1,4,5,16] ?_ (AK @h1)
  all_goals(refine⟨_,_,rfl,rfl,?_⟩;simp[HM,CG,Ca,C7,Gl,h])
 |true=>
  rw[h]at h1;have hb':=hb h;refine AO [0,1,4,5,16] ?_ (AK @h1);repeat'(apply zB<;>intro hc)
  all_goals(refine⟨_,_,rfl,rfl,?_⟩;simp only[HM,CG,Ca,C7,Gl,h,true_and,and_true];split<;>simp<;>omega)
abbrev Lr:BF:=[0,1,2,3,5,29,31,32,33,34,46]
abbrev KY:Al:=⟨0,Wi.AU,0,0,0,0⟩
def Ef(id Ad:Int)(x:Al):Bool:=x.BD.right&&(x.BD.BY&&(decide (x.BD.B8=id)&&(decide (x.id=x.BD.Ae)&&(decide (x.id<=id*1048576+Ad)&&(decide (1<=x.BQ)&&(decide (x.BQ<=3)&&DG x.CZ))))))
def J8(c:Calls)(k:Nat):Bool:=Ef c.id c.Ad (c.op.getD k KY)&&decide (k=0\/(c.op.getD (k-1) KY).id<(c.op.getD k KY).id)
def Px(c:Calls):Bool:=BV c.id&&(decide (0<=c.Ad)&&(decide (c.Ad<=1048576)&&decide (c.op.length<=16)))
def Bw(c:Calls):Bool:=Px c&&FK c.op.length (J8 c)
def Ay(m:AF):Prop:=m.AB.length<=1048576
theorem lm{m:AF}(h:Ay m):m.AB.length<9223372036854775807:=by unfold Ay at h;omega
theorem T8{m:AF}(h:m.right=true)(ha:m.BY=true):m.B8*1048576+1<=m.Ae/\m.Ae<m.B8*1048576+1+1048576/\BV m.B8=true:=by
 unfold AF.right AF.Iy at h;simp only[zO,zW]at h;obtain⟨⟨⟨⟨⟨⟨⟨_,_⟩,h1⟩,_⟩,_⟩,h2⟩,h3⟩,_⟩:=h;unfold AF.asker at h2 h3;rw[zn ha]at h2 h3;exact⟨h2,h3,h1⟩
theorem getD_at{α:Type}{l:List α}{k:Nat}{x d:α}(hx:l[k]? =some x):l.getD k d=x:=by rw[zo,hx];rfl
theorem P8(id Ad:Int)(op:List Al)(x:Al)(hi:BV id=true)(hm:0<=Ad/\Ad<=1048576)(hl:Ay x.BD):yS 150 [Calls.d ⟨id,Ad,op⟩,x.d] (.b (Ef id Ad x)):=by
 have hb:=Wi.GC hi;have c1:=Ue id 1;rw[show Gl id 1=(id*1048576+1,0)from zn ⟨hi,om,om⟩]at c1;have c2:=Wi.Gs x.BD;have c3:=Wi.Ct x.BD (lm hl);have c4:=PC x.CZ;have hR:=@T8 x.BD;have hT:Ef id Ad x=(x.BD.right&&(x.BD.BY&&(decide (x.BD.B8=id)&&(decide (x.id=x.BD.Ae)&&(decide (x.id<=id*1048576+Ad)&&(decide (1<=x.BQ)&&(decide (x.BQ<=3)&&DG x.CZ))))))):=rfl;generalize Ef id Ad x=R at *;unfold Al.d Al.A4 Calls.d Calls.A4;unfold AF.d AF.A4 at c2 c3;generalize x.BD.right=rr at *;generalize x.BD.BY=aa at *;generalize DG x.CZ=tt at *;obtain⟨xid,⟨k,c,s,d,ky,sl,dn,pl,pr,l,⟨ik,iv,ir,ig⟩,co⟩,wh,rf,se,tr⟩:=x;simp only at *;refine zF AE Tryz.func150 ?_;refine AO [0,1,2,3,4,5,6,29] ?_ (ME @c1 @c2 @c3 @c4);repeat'(apply zB<;>intro hc)
 all_goals(clear c1 c2 c3 c4;refine⟨_,_,rfl,rfl,?_⟩;simp only[C7];refine congrArg D.b ?_;rw[hT];clear hT;grind)
theorem Kl(c:Calls)(hl:∀x∈c.op,Ay x.BD):yS 71 [c.d] (.b (Bw c)):=by
 obtain⟨id,Ad,op⟩:=c;replace hl:∀x∈op,Ay x.BD:=hl;refine zF AE Tryz.func71 ?_;unfold Calls.d Calls.A4
 cases hh:Px ⟨id,Ad,op⟩with
 |false=>
  have hT:Bw ⟨id,Ad,op⟩=false:=by unfold Bw;rw[hh];rfl
  refine A9 Lr ?_;repeat'(apply zB<;>intro hc)
  all_goals first
   |(refine⟨_,_,rfl,rfl,?_⟩;simp only[C7];rw[hT];done)
   |(exfalso;simp[Px,BV]at hh;omega)
 |true=>
 have hT:Bw ⟨id,Ad,op⟩=FK op.length (J8 ⟨id,Ad,op⟩):=by unfold Bw;rw[hh];rfl
 simp only[Px,BV,zO,zW]at hh;obtain⟨⟨h1,h2⟩,h3,h4,h5⟩:=hh;have hp:BV id=true:=Wi.dt.2 ⟨h1,h2⟩;have f1:decide (id<0)=false:=zQ om;have f2:decide (id>=65536)=false:=zQ om;have f3:decide (Ad<0)=false:=zQ om;have f4:decide (Ad>1048576)=false:=zQ om;have f5:decide ((op.length:Int)>16)=false:=zQ om;refine Aj Lr ?_ (TT f1 f2 f3 f4 f5);refine C4 (fun k=>k<=op.length/\FK k (J8 ⟨id,Ad,op⟩)=true) (fun k:Nat=>[(33,.yO k),(3,.yO (if k=0 then 0 else(op.getD (k-1) KY).id))]) (fun k=>op.length-k) 0 ⟨zi _,rfl⟩ (fun _=>rfl) ?_ ?_
 .exact A8.ck rfl
 rintro k ⟨hk,hpre⟩
 by_cases hkl:k<op.length
 .obtain⟨x,hx⟩:=Ah hkl;have gx:op.getD k KY=x:=getD_at hx;have c1:=P8 id Ad op x hp ⟨h3,h4⟩ (hl x (q00 hx));have hK:J8 ⟨id,Ad,op⟩ k=(Ef id Ad x&&decide (k=0\/(op.getD (k-1) KY).id<x.id)):=by unfold J8;rw[gx]
  have hpos:Ef id Ad x=true->1<=x.id:=by
   intro h;simp only[Ef,zO,zW]at h;have:=T8 h.1 h.2.1;have:=Wi.GC this.2.2;omega
  generalize hlast:(op.getD (k-1) KY).id=la at *;generalize Ef id Ad x=ok at *;unfold Calls.d Calls.A4 Al.d Al.A4 at c1;have hix:=EF (f:=Al.A4) hx;unfold Al.A4 at hix;have ix1:=hx;refine AO Lr ?_ (AK @c1);clear ix1;with_reducible repeat' first|constructor|intro hc
  all_goals first
   |(refine⟨k+1,⟨hkl,DZ hpre (by rw[hK];grind)⟩,om,zN _,?_⟩
     exact(have nC:=gx;A8.co rfl))
   |(refine⟨_,_,rfl,rfl,?_⟩;simp only[C7];rw[hT,FL hkl (by rw[hK];grind)])
 .have e:k=op.length:=om
  subst e;rw[hpre]at hT;refine A9 Lr ?_;with_reducible repeat' first|constructor|intro hc
  exact BW hT
end Nd
end Go.Proofs.YtamjpnmjpponpaaGreatDoor
namespace Go.Proofs.YtamjpnmjpponpaaGreatDoor
namespace Nd
open Go.Gar Go.Sort
open Wi (AF BV B7)
abbrev FZ:BF:=[0,1,2,3,4,7,9,10,11,29]
abbrev Ls:BF:=[0,1,3,4,5,6,7,8,16]
def Fu(l:List AS)(k:Nat):Bool:=B7 (l.getD k An)&&decide (k=0\/(l.getD (k-1) An).AI<(l.getD k An).AI)
def Cg(l:List AS):Bool:=decide (l.length<=24)&&FK l.length (Fu l)
theorem ui(a b:AL):(!(Op.bytesLess a b))=(Op.bytesLess b a||b==a):=by
 rw[bytesLess_eq,bytesLess_eq,Dp,Bool.eq_iff_iff];simp only[q0h,q0c,q0j,zW];constructor
 .intro h
  by_cases e:b=a
  .exact .inr e
  .left
   by_cases h2:b<a
   .exact h2
   .exact absurd (List.le_antisymm (List.not_lt.1 h) (List.not_lt.1 h2)) e
 .rintro(h|rfl)
  .exact List.lt_asymm h
  .exact List.lt_irrefl _
theorem oA(l:List AS)(hn:l.length<=9223372036854775807):yS 57 [BU l] (.b (Cg l)):=by
 refine zF AE Tryz.func57 ?_;have hT:Cg l=(decide (l.length<=24)&&FK l.length (Fu l)):=rfl;refine A9 [0,2,3,7,33] ?_;refine C4 (fun k=>k<=l.length/\FK k (Fu l)=true) (fun k:Nat=>[(3,.yO k)]) (fun k=>l.length-k) 0 ⟨zi _,rfl⟩ (fun _=>rfl) ?_ ?_
 .exact A8.ck rfl
 rintro k ⟨hk,hpre⟩
 by_cases hkl:k<l.length
 .obtain⟨x,hx⟩:=Ah hkl;have gx:l.getD k An=x:=getD_at hx;have c1:=Wi.T4 x;have hK:Fu l k=(B7 x&&decide (k=0\/(l.getD (k-1) An).AI<x.AI)):=by unfold Fu;rw[gx]
  unfold AS.d AS.A4 at c1;generalize B7 x=ok at*
  by_cases h0:k=0
  .have f6:decide ((k:Int)>0)=false:=zQ om;have ix1:=hx;refine AJ [0,2,3,7,33] ?_ (AK f6) (AK @c1);clear ix1;with_reducible repeat' first|constructor|intro hc
   all_goals clear c1
   all_goals first
    |(refine⟨k+1,⟨hkl,DZ hpre (by rw[hK];grind)⟩,om,zN _,?_⟩
      exact A8.ck rfl)
    |(refine⟨_,_,rfl,rfl,?_⟩;simp only[C7];rw[hT,FL hkl (by rw[hK];grind),q0v])
  .have f6:decide ((k:Int)>0)=true:=zU om;have e1:(k:Int)-1=((k-1:Nat):Int):=om
   obtain⟨y,hy⟩:=Ah (xs:=l) (k:=k-1) om;have gy:l.getD (k-1) An=y:=getD_at hy;rw[gy]at hK
   have hs:decide (k=0\/y.AI<x.AI)= !(Op.bytesLess x.AI y.AI||x.AI==y.AI):=by
    rw[<-ui,bytesLess_eq,Bool.not_not];simp[h0]
   rw[hs]at hK;obtain⟨q,hq⟩:∃q,(Op.bytesLess x.AI y.AI||x.AI==y.AI)=q:=⟨_,rfl⟩;rw[hq]at hK;have ix1:=hx;have ix2:=hy;refine AJ [0,2,3,7,33] ?_ (CP f6 e1 hq) (AK @c1);clear ix2 ix1;with_reducible repeat' first|constructor|intro hc
   all_goals clear c1
   all_goals first
    |(refine⟨k+1,⟨hkl,DZ hpre (by rw[hK];grind)⟩,om,zN _,?_⟩
      exact A8.ck rfl)
    |(refine⟨_,_,rfl,rfl,?_⟩;simp only[C7];rw[hT,FL hkl (by rw[hK];grind),q0v])
 .have e:k=l.length:=om
  subst e;rw[hpre]at hT;refine A9 [0,2,3,7,33] ?_;with_reducible repeat' first|constructor|intro hc
  all_goals(refine⟨_,_,rfl,rfl,?_⟩;simp only[C7];rw[hT];simp;try omega)
theorem Xe(l:List AS):yT 144 [.d (BU l)] [] (.fn (.func 193) [] [.ptr 0 0 1]) [.c [.d (BU l)]]:=by
 refine zD AE Tryz.func144 ?_;refine A9 [0,1,2] ?_;exact wE
theorem Qh(l:List AS)(hn:l.length<=9223372036854775807):yS 75 [BU l] (.b (Cg l)):=by
 refine zF AE Tryz.func75 ?_
 by_cases h24:l.length>24
 .have f1:decide ((l.length:Int)>24)=true:=zU om;have hT:Cg l=false:=by unfold Cg;rw[zQ om];rfl
  refine Aj FZ ?_ (AK f1);exact BW hT
 have f1:decide ((l.length:Int)>24)=false:=zQ om;have hT:Cg l=FK l.length (Fu l):=by unfold Cg;rw[zU om];rfl
 refine Cd FZ ?_ (AK f1) (BJ [] (Xe l))
 refine zG (K:=fun r _ H'=>(FK l.length (Fu l)=true/\H'=[.c [.d (BU l)],.c [.yP false],.c [.d (BU l)],.lp r])\/
  (FK l.length (Fu l)=false/\H'=[.c [.d (BU l)],.c [.yP false],.c [.d (BU l)],.lp (r.left .ret)])) ?_ ?_
 .intro r hr;refine zT AE Tryz.func193 ?_;refine A9 Ls ?_;have hk:=hr.ok (k:=3) rfl;refine C4 (fun k=>k<=l.length/\FK k (Fu l)=true) (fun k:Nat=>[(7,.yO k)]) (fun k=>l.length-k) 0 ⟨zi _,rfl⟩ (fun _=>rfl) ?_ ?_
  .exact A8.ck rfl
  rintro k ⟨hkk,hpre⟩
  by_cases hkl:k<l.length
  .obtain⟨x,hx⟩:=Ah hkl;have gx:l.getD k An=x:=getD_at hx;have c1:=Wi.LO x;have hK:Fu l k=(B7 x&&decide (k=0\/(l.getD (k-1) An).AI<x.AI)):=by unfold Fu;rw[gx]
   unfold AS.d AS.A4 at c1
   have hY:YT Tryz.prog 3 [.yO k,.d (.agg [.s x.AI,.yX x.B4,.yX x.AZ,.b x.gone])] [.c [.d (BU l)],.c [.yP false],.c [.d (BU l)],.lp r,.c [.yU x.AI,.yO x.B4,.yO x.AZ,.yP x.gone]] fun v K=>v= .yP (Fu l k)/\K=if Fu l k then[.c [.d (BU l)],.c [.yP false],.c [.d (BU l)],.lp r,.c [.yU x.AI,.yO x.B4,.yO x.AZ,.yP x.gone]]else[.c [.d (BU l)],.c [.yP false],.c [.d (BU l)],.lp (r.left .ret),.c [.yU x.AI,.yO x.B4,.yO x.AZ,.yP x.gone]]:=by
    refine Ar hr rfl rfl rfl ?_
    by_cases h0:k=0
    .have f6:decide ((k:Int)>0)=false:=zQ om;have hK':Fu l k=B7 x:=by rw[hK];simp[h0]
     rw[hK'];refine A9 FZ ?_;refine zR ?_;refine AJ FZ ?_ (AK f6) (AK @c1);repeat'(apply zB<;>intro hc)
     .simp only[hc];exact⟨⟨[],[.c [.d (BU l)],.c [.yP false],.c [.d (BU l)],.lp r.busy,.c [.yU x.AI,.yO x.B4,.yO x.AZ,.yP x.gone]],_⟩,(A8.ck rfl),zN _,rfl,rfl,rfl⟩
     .simp only[hc];exact⟨⟨[],[.c [.d (BU l)],.c [.yP false],.c [.d (BU l)],.lp r.busy,.c [.yU x.AI,.yO x.B4,.yO x.AZ,.yP x.gone]],_⟩,(A8.ck rfl),zN _,rfl,rfl,rfl⟩
    .have f6:decide ((k:Int)>0)=true:=zU om;have e1:(k:Int)-1=((k-1:Nat):Int):=om
     obtain⟨y,hy⟩:=Ah (xs:=l) (k:=k-1) om;have gy:l.getD (k-1) An=y:=getD_at hy;rw[gy]at hK;obtain⟨q,hq⟩:∃q,Op.bytesLess y.AI x.AI=q:=⟨_,rfl⟩;have hK':Fu l k=(B7 x&&q):=by rw[hK,<-hq,bytesLess_eq];simp[h0]
     rw[hK'];refine A9 FZ ?_;refine zR ?_;have ix1:=hy;refine AJ FZ ?_ (CP f6 e1 hq) (AK @c1);clear ix1;repeat'(apply zB<;>intro hc)
     all_goals first
      |(rw[show(B7 x&&q)=true by grind];exact⟨⟨[],[.c [.d (BU l)],.c [.d (.b false)],.c [.d (BU l)],.lp r.busy,.c [.d (.s x.AI),.d (.i .i64 x.B4),.d (.i .i64 x.AZ),.d (.b x.gone)]],_⟩,(A8.ck rfl),zN _,rfl,rfl,rfl⟩)
      |(rw[show(B7 x&&q)=false by grind];exact⟨⟨[],[.c [.d (BU l)],.c [.d (.b false)],.c [.d (BU l)],.lp r.busy,.c [.d (.s x.AI),.d (.i .i64 x.B4),.d (.i .i64 x.AZ),.d (.b x.gone)]],_⟩,(A8.ck rfl),zN _,rfl,rfl,rfl⟩)
   cases hb:Fu l k with
   |true=>
    rw[hb]at hY;have ix1:=hx;have q1:=@hY;refine A9 Ls ?_;clear q1 ix1;with_reducible repeat' first|constructor|intro hc
    refine⟨k+1,⟨hkl,DZ hpre hb⟩,om,zN _,?_⟩;exact A8.ck rfl
   |false=>
    rw[hb]at hY;have ix1:=hx;have q1:=@hY;refine A9 Ls ?_;clear q1 ix1;with_reducible repeat' first|constructor|intro hc
    exact⟨⟨[],[.c [.d (BU l)],.c [.yP false],.c [.d (BU l)],.lp (r.left .ret)],_⟩,(A8.ck rfl),zN _,_,_,rfl,rfl,.inr ⟨FL hkl hb,rfl⟩⟩
  .have e:k=l.length:=om
   subst e;refine A9 Ls ?_;with_reducible repeat' first|constructor|intro hc
   exact⟨_,A8.refl _,zN _,_,_,rfl,rfl,.inl ⟨hpre,rfl⟩⟩
 .rintro r hr y H' (⟨h,rfl⟩|⟨h,rfl⟩)
  .refine .inl ⟨rfl,?_⟩;rw[h]at hT;refine A9 FZ ?_;exact BW hT
  .refine .inr ⟨.ret,rfl,?_⟩;rw[h]at hT;refine A9 FZ ?_;exact BW hT
end Nd
end Go.Proofs.YtamjpnmjpponpaaGreatDoor
namespace Go.Proofs.YtamjpnmjpponpaaGreatDoor
namespace Nd
open Go.Gar
open Wi (AF BV B7)
abbrev GU:BF:=[0,2,3,5,6,8]
def As(n:AA):yr:=.yO n.A7.id:: .yV n.A7.A6:: .yV n.A7.AB:: .yO n.A7.AH:: .yO (n.A7.f 0):: .yO (n.A7.f 1):: .yO (n.A7.f 2):: .yO (n.A7.f 3):: .yO (n.A7.f 4):: .yO (n.A7.f 5):: .yO (n.A7.f 6):: .yO (n.A7.f 7):: .yO (n.A7.f 8):: .yO (n.A7.f 9):: .yO (n.A7.f 10):: .yO (n.A7.f 11):: .yO (n.A7.f 12):: .yO (n.A7.f 13):: .yO (n.A7.f 14):: .yO (n.A7.f 15):: .yO n.Am:: .yO n.Ac.id:: .yO n.Ac.Ad:: .d (Ag n.Ac.op):: .d (Az n.BZ):: .yQ n.A5:: .yO n.BH:: .yQ n.AQ.AR:: .yQ n.AQ.A5:: .yO n.AQ.Ap.AI:: .yO n.AQ.Ap.CF:: .yO n.AQ.Ap.C3:: .yP n.AQ.Ap.BA:: .yP n.AQ.Ap.CK:: .yO n.AQ.Ap.Aa:: .yU n.AQ.AC.AI:: .yO n.AQ.AC.B4:: .yO n.AQ.AC.AZ:: .yP n.AQ.AC.gone:: .yO n.AQ.Ao:: .yV n.AQ.left:: .yO n.AQ.Aa:: .yQ n.AX.AR:: .yQ n.AX.A5:: .yO n.AX.Ap.AI:: .yO n.AX.Ap.CF:: .yO n.AX.Ap.C3:: .yP n.AX.Ap.BA:: .yP n.AX.Ap.CK:: .yO n.AX.Ap.Aa:: .yU n.AX.AC.AI:: .yO n.AX.AC.B4:: .yO n.AX.AC.AZ:: .yP n.AX.AC.gone:: .yO n.AX.Ao:: .yV n.AX.left:: .yO n.AX.Aa:: .yQ n.AW.AR:: .yQ n.AW.A5:: .yO n.AW.Ap.AI:: .yO n.AW.Ap.CF:: .yO n.AW.Ap.C3:: .yP n.AW.Ap.BA:: .yP n.AW.Ap.CK:: .yO n.AW.Ap.Aa:: .yU n.AW.AC.AI:: .yO n.AW.AC.B4:: .yO n.AW.AC.AZ:: .yP n.AW.AC.gone:: .yO n.AW.Ao:: .yV n.AW.left:: .yO n.AW.Aa:: .yO n.next:: .yU n.last:: .d (BU n.keep):: .yO n.bad::[]
theorem L4(n:AA)(k:Nat):AV.oks k (As n)=true:=rfl
abbrev pR(f:Nat):AV:=.fn (.func f) [] [.ptr 0 0 76]
abbrev F4:yr:=[pR 65,pR 66,pR 67,pR 68,pR 70,pR 72,pR 74,pR 76,pR 78]
theorem pC(n:AA):yT 145 [.bs 1 0 9 1 9] [.c (As n),.c F4] (.fn (.func 194) [] [.ptr 2 0 1]) [.c (As n),.c F4,.c [.bs 1 0 9 1 9]]:=by
 refine zD AE Tryz.func145 ?_;unfold F4 pR;refine A9 [0,1,2] ?_;exact wE
theorem uH(n:AA)(b1 b2 b3 b4 b5 b6 b7 b8 b9:Bool)(h1:yT 65 [.ptr 0 0 76] [.c (As n)] (.yP b1) [.c (As n)])(h2:yT 66 [.ptr 0 0 76] [.c (As n)] (.yP b2) [.c (As n)])(h3:yT 67 [.ptr 0 0 76] [.c (As n)] (.yP b3) [.c (As n)])(h4:yT 68 [.ptr 0 0 76] [.c (As n)] (.yP b4) [.c (As n)])(h5:yT 70 [.ptr 0 0 76] [.c (As n)] (.yP b5) [.c (As n)])(h6:yT 72 [.ptr 0 0 76] [.c (As n)] (.yP b6) [.c (As n)])(h7:yT 74 [.ptr 0 0 76] [.c (As n)] (.yP b7) [.c (As n)])(h8:yT 76 [.ptr 0 0 76] [.c (As n)] (.yP b8) [.c (As n)])(h9:yT 78 [.ptr 0 0 76] [.c (As n)] (.yP b9) [.c (As n)]):
  yT 64 [.bs 1 0 9 1 9] [.c (As n),.c F4] (.yP (b1&&(b2&&(b3&&(b4&&(b5&&(b6&&(b7&&(b8&&(b9)))))))))) [.c (As n),.c F4]:=by
 obtain⟨B,hB⟩:∃B,(b1&&(b2&&(b3&&(b4&&(b5&&(b6&&(b7&&(b8&&(b9)))))))))=B:=⟨_,rfl⟩;rw[hB];refine Aw.drop (K:=[.c (As n),.c F4,.c [.yP B]]) _ ?_ ⟨.inr rfl,.inr rfl,trivial⟩ rfl rfl rfl;refine zD AE Tryz.func64 ?_;refine Ax GU ?_ (BJ [0,1] (pC n));refine zG (K:=fun r _ H'=>(B=true/\H'=[.c (As n),.c F4,.c [.yP false],.c [.bs 1 0 9 1 9],.lp r])\/(B=false/\H'=[.c (As n),.c F4,.c [.yP false],.c [.bs 1 0 9 1 9],.lp (r.left .ret)])) ?_ ?_
 .intro r hr
  have hT:∀v:Bool,v=true->YT Tryz.prog 4 [.yP v] [.c (As n),.c F4,.c [.yP false],.c [.bs 1 0 9 1 9],.lp r] fun x K=>x= .yP true/\K=[.c (As n),.c F4,.c [.yP false],.c [.bs 1 0 9 1 9],.lp r]:=by
   rintro _ rfl;refine Ar hr rfl rfl rfl ?_;refine A9 GU ?_;refine zR ?_;refine A9 GU ?_;exact⟨_,A8.refl _,zN _,rfl,rfl,rfl⟩
  have hF:∀v:Bool,v=false->YT Tryz.prog 4 [.yP v] [.c (As n),.c F4,.c [.yP false],.c [.bs 1 0 9 1 9],.lp r] fun x K=>x= .yP false/\K=[.c (As n),.c F4,.c [.yP false],.c [.bs 1 0 9 1 9],.lp (r.left .ret)]:=by
   rintro _ rfl;refine Ar hr rfl rfl rfl ?_;refine A9 GU ?_;refine zR ?_;refine A9 GU ?_;exact⟨_,A8.refl _,zN _,rfl,rfl,rfl⟩
  refine zT AE Tryz.func194 ?_;have hk:=zh (L4 n) (hr.ok (k:=4) rfl);have un:No 10:=trivial;have g1T:=@hT;have g1F:=@hF;refine Ax [0,1,4,5,6,7,8,15] ?_ (zd9 [0] h1 [0] h2 [0] h3 [0] h4 [0] h5 [0] h6 [0] h7 [0] h8 [0] h9);clear g1F g1T un;repeat'(apply zB<;>intro hc)
  all_goals clear h1 h2 h3 h4 h5 h6 h7 h8 h9 hT hF
  all_goals first
   |(guard_hyp hc:b9=true;exact⟨⟨[],[.c (As n),.c F4,.c [.d (.b false)],.c [.bs 1 0 9 1 9],.lp r],_⟩,(A8.ck rfl),zN _,_,_,rfl,rfl,.inl ⟨by rw[<-hB];simp only[*,q1c],rfl⟩⟩)
   |exact⟨⟨[],[.c (As n),.c F4,.c [.d (.b false)],.c [.bs 1 0 9 1 9],.lp (r.left .ret)],_⟩,(A8.ck rfl),zN _,_,_,rfl,rfl,.inr ⟨by rw[<-hB];simp only[*,q0v,q0m,q1c],rfl⟩⟩
 .rintro r hr y H' (⟨h,rfl⟩|⟨h,rfl⟩)
  .refine .inl ⟨rfl,?_⟩;refine A9 GU ?_;exact⟨⟨[(2,.ptr 2 0 1)],[.c (As n),.c F4,.c [.yP true]],_⟩,(A8.ck rfl),yR,_,_,rfl,rfl,by rw[h],by rw[h]⟩
  .refine .inr ⟨.ret,rfl,?_⟩;refine A9 GU ?_;exact⟨⟨[(2,.ptr 2 0 1)],[.c (As n),.c F4,.c [.yP false]],_⟩,(A8.ck rfl),yR,_,_,rfl,rfl,by rw[h],by rw[h]⟩
end Nd
end Go.Proofs.YtamjpnmjpponpaaGreatDoor
namespace Go.Proofs.YtamjpnmjpponpaaGreatDoor
namespace Nd
open Go.Gar Go.Shelf Go.Sort Go.RowKit Go.Lib
open Wi (AF BV B7)
def Uc(zs:Ai):Ai:=zs.mergeSort fun x y=>decide (x<=y)
theorem W2(zs:Ai):(Uc zs).Pairwise (·<=·):=by
 have h:=List.pairwise_mergeSort (le:=fun x y:Int=>decide (x<=y)) (fun a b c h1 h2=>by simp only[zW]at *;omega) (fun a b=>by simp only[q0j,zW];omega) zs;exact h.imp fun h=>by simpa using h
theorem xf:WY (Value.int .i64) (fun l:Ai=>D.is l) (D.i .i64) where
 sl _:=rfl
 ok l:=by simp[D.is,BM]
 c l:=by
  induction l with
  |nil=>rfl
  |cons a r ih=>simp only[D.is,slc,List.map_cons,q0M]at ih|-
 n l:=by simp[D.is,BP]
 z _:=rfl
 r m a v:=by simp only[RD]
 one _:=rfl
theorem iX(zs:Ai)(h:zs.length<=100000):yT 81 [.sl 0 zs.length 1] [.a (.is zs)] (.d (.tup [])) [.a (.is (Uc zs))]:=
 pV xf ⟨_,Tryz.func81,rfl,rfl⟩ (List.length_mergeSort ..)
  (fun b cap w hH hb hc hm=>calls_of_every_depth fun D=>AnyS.slices_Sort_int_alone Tryz.UE D b 0 cap zs w hH hb om)
  (fun _ a w=>calls_of_every_depth fun D=>AnyS.slices_Sort_int_none_alone Tryz.UE D a 0 w)
theorem R6(l:Ai)(hl:l.length<=1048576):yT 19 [.yV l] [] (.sl 0 l.length 1) [.a (.is l)]:=by
 refine zD AE Tryz.func19 ?_;have nS:=q0r
 repeat'(first|((with_reducible refine sg ?_);first|with_reducible rfl|((with_reducible refine Na ?_);first|kernel_rfl|rfl|(simp[Fp,IL,nS];done))|with_reducible refine Mb ?_ ?_|with_reducible exact q1K _|with_reducible exact DL _|((with_reducible refine zU ?_);first|omega|(simp only[IK,nS];omega))|decide|(simp[IK,slc,Cs,D.one,ER,AV.one,nS];done)|(simp[IK,nS];omega))|((with_reducible refine g0 ?_);first|(refine Er rfl ?_;refine el AE rfl rfl rfl rfl ?_)|refine pz [7] AE rfl rfl rfl rfl rfl rfl ?_ ?_|refine q8 AE rfl rfl rfl rfl rfl rfl (fun hnil=> ?_) ?_|refine q9 AE rfl rfl rfl rfl rfl rfl (fun hnil=> ?_) ?_|refine Xq AE rfl rfl rfl rfl ?_ ?_|refine Xn [0,2,4] rfl ?_|refine Xw AE rfl rfl rfl rfl ?_ ?_)|refine IR ?_|refine Fh ?_|refine Fi ?_|refine IQ ?_|refine EU ?_|refine Fg ?_|refine Df rfl ?_|refine De rfl ?_|(refine FJ rfl (fun hc=> ?_) (fun hc=> ?_)<;>(try simp only[Ma]at hc)<;>(try(exfalso;omega))))
 .have e:=is_nil hnil;subst e;refine A9 [0,2,4] ?_;exact⟨_,A8.bv 2 (.is []) rfl rfl rfl trivial,zi _,_,_,rfl,rfl,rfl,rfl⟩
 .exact wE
variable {l:Ai}
theorem Ft{k:Nat}(h:k<l.length):l.getD k 0=l[k]:=by simp[h]
theorem So:l.Nodup↔∀k,k<l.length->l.getD k 0∉l.take k:=by
 unfold List.Nodup;rw[q0a];constructor
 .intro h k hk hm;obtain⟨j,hj,e⟩:=q1A.1 hm;rw[q0D]at hj;rw[List.getElem_take,Ft hk]at e;exact h j k om hk om e
 .intro h i j hi hj hij e;refine h j hj ?_;rw[Ft hj,q1A];exact⟨i,by rw[q0D];omega,by rw[List.getElem_take];exact e⟩
theorem Vi(hs:l.Pairwise (·<=·)):l.Nodup↔∀k,k<l.length->k=0\/l.getD (k-1) 0≠l.getD k 0:=by
 unfold List.Nodup;rw[q0a]at hs|-;constructor
 .intro h k hk
  by_cases h0:k=0
  .exact .inl h0
  .rw[Ft hk,Ft (show k-1<l.length by omega)];exact .inr (h (k-1) k om hk om)
 .intro h i j hi hj hij;rcases h j hj with h0|h0
  .omega
  .rw[Ft hj,Ft (show j-1<l.length by omega)]at h0;have h2:=hs (j-1) j om hj om
   by_cases h3:i=j-1
   .subst h3;exact h0
   .have h1:=hs i (j-1) hi om om;omega
end Nd
end Go.Proofs.YtamjpnmjpponpaaGreatDoor
namespace Go.Proofs.YtamjpnmjpponpaaGreatDoor
open Go.Gar
abbrev Hi:BF:=[0,1,3,4,5,6,8,9,12]
abbrev E7:BF:=[0,1,4,5,6,7,8,14]
abbrev Jf:BF:=[0,2,3,4,6,7]
def CO(l:Ai)(d:Int):Ai:=l.filter fun x=>x !=d
theorem U0(l:Ai)(d:Int):(CO l d).length<=l.length:=q0b ..
variable {l:Ai}
theorem l9{d:Int}{k:Nat}{x:Int}(hx:l[k]? =some x)(h:(x !=d)=true):CO (l.take (k+1)) d=CO (l.take k) d++[x]:=by
 unfold CO;rw[AY hx,List.filter_append];simp[h]
theorem fg{d:Int}{k:Nat}{x:Int}(hx:l[k]? =some x)(h:(x !=d)=false):CO (l.take (k+1)) d=CO (l.take k) d:=by
 unfold CO;rw[AY hx,List.filter_append];simp[h]
theorem SR(l:Ai):yT 314 [.yV l] [] (.fn (.func 369) [] [.ptr 0 0 1]) [.c [.yV l]]:=by
 refine zD AE Tryz.func314 ?_;refine A9 [0,1,2] ?_;exact wE
theorem jB(l:Ai)(d:Int)(hl:l.length<=1000):
  yT 378 [.yV l,.yO d] [] (.sl 3 (CO l d).length 1) [.gone,.gone,.gone,.a (.is (CO l d))]:=by
 refine zD AE Tryz.func378 ?_;refine Ax Hi ?_ (BJ [] (SR l));refine BG (A8.ES 1 0 (.is []) rfl rfl rfl rfl trivial) sm ?_;refine zG (K:=fun r _ H'=>H'=[.c [.yO d],.c [.sl 3 (CO l d).length 1],.c [.yV l],.a (.is (CO l d)),.lp r]) ?_ ?_
 .intro r hr;refine zT AE Tryz.func369 ?_;refine A9 E7 ?_;have hk:=hr.ok (k:=4) rfl;refine BX (fun k=>k<=l.length) (fun k:Nat=>⟨[(0,.yl 4),(1,.ptr 2 0 1),(5,.yV l),(6,.yO l.length),(7,.yO k)],[.c [.yO d],.c [.sl 3 (CO (l.take k) d).length 1],.c [.yV l],.a (.is (CO (l.take k) d)),.lp r],16⟩) (fun k=>l.length-k) 0 (zi _) ?_ (zN _) ?_
  .exact(have nC:=@CO.eq_1;A8.co rfl)
  intro k hkk;have hle:=U0 (l.take k) d;have htl:(l.take k).length<=k:=q1T _ _
  by_cases hkl:k<l.length
  .obtain⟨x,hx⟩:=Ah hkl;have gx:=C5 hx
   cases hT:(x !=d)with
   |true=>
    have hn:=l9 hx hT;refine Aj E7 ?_ (AK gx);with_reducible repeat' first|constructor|intro hc
    refine Xy (x:=.yP true) (H':=[.c [.yO d],.c [.sl 3 (CO (l.take (k+1)) d).length 1],.c [.yV l],.a (.is (CO (l.take (k+1)) d)),.lp r]) (Ar hr rfl rfl rfl ?_) rfl rfl rfl rfl rfl ?_
    .refine A9 Hi ?_;refine zR ?_;refine Aj Hi ?_ (AK hT);refine⟨_,A8.refl _,zN _,rfl,rfl,?_⟩;simp only[hn,q04,q02,q0B,q0u,q0t]
    .refine A9 E7 ?_;refine⟨k+1,hkl,om,zN _,?_⟩;exact(have nC:=hn;A8.cn rfl)
   |false=>
    have hn:=fg hx hT;refine Aj E7 ?_ (AK gx);with_reducible repeat' first|constructor|intro hc
    refine Xy (x:=.yP true) (H':=[.c [.yO d],.c [.sl 3 (CO (l.take (k+1)) d).length 1],.c [.yV l],.a (.is (CO (l.take (k+1)) d)),.lp r]) (Ar hr rfl rfl rfl ?_) rfl rfl rfl rfl rfl ?_
    .refine A9 Hi ?_;refine zR ?_;refine Aj Hi ?_ (AK hT);refine⟨_,A8.refl _,zN _,rfl,rfl,?_⟩;simp only[hn,q0u,q0t]
    .refine A9 E7 ?_;refine⟨k+1,hkl,om,zN _,?_⟩;exact(have nC:=hn;A8.cn rfl)
  .have e:k=l.length:=om
   subst e;refine A9 E7 ?_;with_reducible repeat' first|constructor|intro hc
   refine⟨_,A8.refl _,zN _,_,_,rfl,rfl,?_⟩;simp only[q06]
 .rintro r hr x H' rfl;refine .inl ⟨rfl,?_⟩;refine A9 Hi ?_;exact wE
theorem pU(l:Ai)(d:Int)(hl:l.length<=1000):yS 378 [.is l,.yX d] (.is (CO l d)):=by
 refine Ff (ds:=[.is l,.yX d]) (jB l d hl) ?_;simp[Dv,BP]
def firstT:Ai->Int×Bool
 |[]=>(0,false)
 |a::_=>(a,true)
theorem jF(l:Ai)(hl:l.length<=100000):yS 253 [.is l] (.tup [.yX (firstT l).1,.b (firstT l).2]):=by
 refine zF AE Tryz.func253 ?_;refine Ax Jf ?_ (BJ [] (SR l))
 cases l with
 |nil=>
  refine zG (K:=fun r _ H'=>H'=[.c [.yO 0],.c [.yP false],.c [.yV ([])],.lp r]) ?_ ?_
  .intro r hr;refine zT AE Tryz.func369 ?_;refine A9 E7 ?_;have hk:=hr.ok (k:=3) rfl;refine BX (fun k=>k=0) (fun k:Nat=>⟨[(0,.yl 3),(1,.ptr 2 0 1),(5,.yV ([])),(6,.yO 0),(7,.yO k)],[.c [.yO 0],.c [.yP false],.c [.yV ([])],.lp r],16⟩) (fun k=>0) 0 rfl ?_ (zN _) ?_
   .exact A8.ck rfl
   rintro k rfl;refine A9 E7 ?_;exact⟨_,A8.refl _,zN _,_,_,rfl,rfl,rfl⟩
  .rintro r hr x H' rfl;refine .inl ⟨rfl,?_⟩;refine A9 Jf ?_;exact BW @firstT.eq_1
 |cons a t=>
  refine zG (K:=fun r _ H'=>H'=[.c [.yO a],.c [.yP true],.c [.yV (a::t)],.lp (r.left .ret)]) ?_ ?_
  .intro r hr;refine zT AE Tryz.func369 ?_;refine A9 E7 ?_;have hk:=hr.ok (k:=3) rfl;refine BX (fun k=>k=0) (fun k:Nat=>⟨[(0,.yl 3),(1,.ptr 2 0 1),(5,.yV (a::t)),(6,.yO ((a::t).length)),(7,.yO k)],[.c [.yO 0],.c [.yP false],.c [.yV (a::t)],.lp r],16⟩) (fun k=>0) 0 rfl ?_ (zN _) ?_
   .exact A8.ck rfl
   rintro k rfl;have ga:(a::t).getD 0 0=a:=rfl;refine Aj E7 ?_ (AK ga);with_reducible repeat' first|constructor|intro hc
   refine Xy (x:=.yP false) (H':=[.c [.yO a],.c [.yP true],.c [.yV (a::t)],.lp (r.left .ret)]) (Ar hr rfl rfl rfl ?_) rfl rfl rfl rfl rfl ?_
   .refine A9 Jf ?_;refine zR ?_;refine A9 Jf ?_;exact⟨_,A8.refl _,zN _,rfl,rfl,rfl⟩
   .refine A9 E7 ?_;exact⟨_,A8.refl _,zN _,_,_,rfl,rfl,rfl⟩
  .rintro r hr x H' rfl;refine .inr ⟨.ret,rfl,?_⟩;refine A9 Jf ?_;refine⟨_,_,rfl,rfl,?_⟩;simp[LL,BP,Bl,BM,firstT]
end Go.Proofs.YtamjpnmjpponpaaGreatDoor
