/- Part 22 of a proof. Conditions: those that its theorems state. -/
import Derived.Test.YthlmmkmeoblbhaaGreatQ20
import Derived.Test.YthlmmkmeoblbhaaGreatQ21
set_option linter.unusedSimpArgs false
set_option linter.unusedVariables false
set_option maxHeartbeats 40000000
set_option maxRecDepth 4000
namespace Go.Proofs.YthlmmkmeoblbhaaGreat
namespace Wi
open Go.Gar
abbrev CR:BK:=[0,1,2,3,4,5,7,11,29,30,42,49,61,77,89,96,105]
theorem oU(m:Nat)(hm:m<=1099511627776):yB 310 [.y5 m] [] (.tup [.sl 0 (GY m).length 1,.y5 0]) [.a (.by (GY m))]:=by
 have hs:=size_le m om;refine zD AK Tryz.func310 ?_;refine A9 [0,2,3,4,10,12] ?_;with_reducible repeat' first|constructor|intro hc
 refine Av (A5.e0 4 (.by []) rfl rfl rfl trivial) sm ?_;refine BY (fun k=>k<=size m) (fun k:Nat=>⟨[(0,.y5 (m/256^k:Nat)),(2,.e0),(3,.y5 0),(4,.d (.by (HR m k)))],[],27⟩) (fun k=>size m-k) 0 (yx _) ?_ sm ?_
 .exact A5.ck rfl
 intro k hk;have hsp:=size_pos (n:=m) (k:=k);have hle:m/256^k<=m:=Nat.div_le_self _ _;have hll:(HR m k).length=k:=by simp[HR]
 by_cases hkm:k<size m
 .have hp:=hsp.2 hkm
  have e1:((m/256^k:Nat):Int).tmod 256=((m/256^k%256:Nat):Int):=by
   rw[q1Z om];rfl
  have e2:((m/256^k%256:Nat):Int)%256=((m/256^k%256:Nat):Int):=om
  have e3:((m/256^k:Nat):Int).tdiv 256=((m/256^(k+1):Nat):Int):=by
   rw[Int.tdiv_eq_ediv_of_nonneg om,Nat.pow_succ,<-Nat.div_div_eq_div_mul];rfl
  have e4:(UInt8.ofNat (m/256^k%256)::HR m k)=HR m (k+1):=(Jc m k).symm;have hle':m/256^(k+1)<=m:=Nat.div_le_self _ _;have ow:Lv [16]:=trivial;refine Ae [0,2,3,4,10,12] ?_ (Hc e1 e2 e3 e4);clear ow;with_reducible repeat' first|constructor|intro hc
  rotate_left
  .rw[e3];exact PD rfl (PT _ om)
  refine⟨k+1,hkm,om,yx _,?_⟩;refine A5.trans' (A5.lP 4 0 (x:=.by (HR m (k+1))) (congrArg (fun z=>some (AF.a (D.by z))) e4) rfl rfl) ?_ (yx _);exact A5.ck rfl
 .have e:k=size m:=om
  subst e;have h0:m/256^size m=0:=Nat.eq_zero_of_not_pos (fun h=>absurd (hsp.1 h) (Nat.lt_irrefl _));have e5:((size m:Nat):Int)%256=size m:=om
  have e6:HR m (size m)=L8 m:=rfl;have e7:(L8 m).length=size m:=by simp[L8]
  have ow:Lv [24]:=trivial;refine Ae [0,2,3,4,10,12] ?_ (Hc h0 e5 e6 e7);clear ow;with_reducible repeat' first|constructor|intro hc
  refine⟨⟨[(2,.sl 0 (GY m).length 1),(3,.y5 0)],[.a (.by (GY m))],Tryz.f310.ntmps⟩,?_,yx _,_,_,rfl,rfl,rfl,rfl⟩;exact(have nC:=yg @GY.eq_1 (yg e6 e7);A5.cn rfl)
theorem io(s:AT)(h:s.length<=255):yB 300 [.yC s] [] (.tup [.sl 0 (Da s).length 1,.y5 0]) [.a (.by (Da s))]:=by
 have h1:decide ((s.length:Int)>255)=false:=by simp;omega
 have h2:(s.length:Int)%256=s.length:=om
 refine zD AK Tryz.func300 ?_;have ow:Lv [10]:=trivial;refine Ae [0,2,3,6] ?_ (B1 h1 h2);clear ow;with_reducible repeat' first|constructor|intro hc
 refine wE ?_;exact(have nC:=@Da.eq_1;A5.cn rfl)
theorem TD(n:Int)(hf:fits n=true):yB 297 [.y5 n] [] (.sl 0 (GY n.toNat).length 1) [.a (.by (GY n.toNat))]:=by
 obtain⟨e,hm⟩:=Bh hf;have hp:=oU n.toNat hm;rw[e]at hp;refine zD AK Tryz.func297 ?_;refine Cd [0,2,3] ?_ (E8 [] hp);with_reducible repeat' first|constructor|intro hc
 exact wE
theorem D7(n:Int)(hf:fits n=true):yA 297 [.yE n] (.by (GY n.toNat)):=by
 refine GE (ds:=[.yE n]) (TD n hf) ?_;simp[JH,B3]
theorem Wr(b:Bool):yA 298 [.b b] (.yE (Ez b)):=by
 refine zF AK Tryz.func298 ?_;cases b
 .refine A9 [0,2,3] ?_;with_reducible repeat' first|constructor|intro hc
  exact BO @Ez.eq_1
 .refine A9 [0,2,3] ?_;with_reducible repeat' first|constructor|intro hc
  exact BO @Ez.eq_1
theorem gu(x:AL)(hk:x.AH.length<=255)(hv:fits x.BD=true)(hn:fits x.Aa=true):yB 299 [.d x.d] [] (.sl 1 (Cg x).length 1) [.gone,.a (.by (Cg x))]:=by
 obtain⟨k,v,n,g⟩:=x;have ht:=io k hk;have h1:=D7 v hv;have h2:=D7 n hn;have h3:=Wr g;have h4:=D7 (Ez g) (GJ g);have l1:=Cy v.toNat (Bh hv).2;have l2:=Cy n.toNat (Bh hn).2;have l3:=Cy (Ez g).toNat (Bh (GJ g)).2;have l0:(Da k).length=k.length+1:=rfl;refine zD AK Tryz.func299 ?_;simp only at hk;unfold AL.d AL.A1;refine Fc [0,1,2,3] ?_ (Hc @h1 @h2 @h3 @h4) (E8 [] ht) [(5,4),(6,4)];with_reducible repeat' first|constructor|intro hc
 refine⟨⟨[(2,.sl 1 (Cg ⟨k,v,n,g⟩).length 1)],[.gone,.a (.by (Cg ⟨k,v,n,g⟩))],Tryz.f299.ntmps⟩,?_,yx _,_,_,rfl,rfl,rfl,rfl⟩;exact A5.cut rfl (by repeat'(first|exact zi|refine yg (by(first|rfl|((with_reducible_and_instances refine congrArg (fun z=>some (AV.d (D.i _ z))) ?_);omega)|(refine congrArg (fun z=>some (AV.d (D.i _ z))) (?_:(_:Int)=_);omega)|(refine congrArg some ?_;simp only[Cg,Ad,zu,q07];done)|(refine congrArg some ?_;simp[Cg,Ad,zu,q07];done))) ?_)) (by repeat'(first|exact zi|refine yg (q0D rfl) ?_|refine yg (q0w ⟨rfl,rfl⟩) ?_|refine yg (q0D (by simp only[Cg,Ad,zu,q07])) ?_|refine yg (q0D (by simp[Cg,Ad,zu,q07])) ?_)) (by first|rfl|(simp(decide:=true) [Ai,AF.ok,AV.oks,AV.ok,hk];done)) rfl
theorem Yk(x:AL)(hk:x.AH.length<=255)(hv:fits x.BD=true)(hn:fits x.Aa=true):yA 299 [x.d] (.by (Cg x)):=by
 refine GE (ds:=[x.d]) (gu x hk hv hn) ?_;simp[JH,B3]
theorem QS(m:AE)(hl:m.A8.length<9223372036854775807):yA 262 [m.d] (.tup [.by (TN m).1,.yE (TN m).2]):=by
 have hR:=EH m hl
 cases h:m.right with
 |false=>
  rw[h]at hR;have e:TN m=([],2):=by unfold TN;rw[h];rfl
  unfold AE.d AE.A1 at *;refine zF AK Tryz.func262 ?_;refine AP CR ?_ (AQ @hR);with_reducible repeat' first|constructor|intro hc
  exact BO e
 |true=>
 rw[h]at hR;have e:TN m=(Ei m,0):=by unfold TN;rw[zN h]
 have hlen:=LS h;obtain⟨⟨k1,k2⟩,⟨p1,p2⟩,_,⟨c1,c2⟩,hb,hh⟩:=J6 h;have ha:=Qk h;have fk:fits m.AG=true:=GK om;have fc:fits m.AW=true:=GK om;have n0:=TD m.AG fk;have n1:=D7 m.AW fc;have n2:=D7 m.Ax (DG p1);have n3:=D7 m.dst (DG p2);have l0:=Cy m.AG.toNat (Bh fk).2;have l1:=Cy m.AW.toNat (Bh fc).2;have l2:=Cy m.Ax.toNat (Bh (DG p1)).2;have l3:=Cy m.dst.toNat (Bh (DG p2)).2;rw[e];clear e ha c1 c2 h hb;obtain⟨k,c,s,d,ky,sl,dn,pl,pr,l,⟨ik,iv,ir,ig⟩,co⟩:=m;unfold AE.d AE.A1 at *;simp only at *;refine zF AK Tryz.func262 ?_;refine Fc CR ?_ (Hc @hR @n1 @n2 @n3) (E8 [] n0) [(4,3),(5,3),(8,3),(9,3),(8,7),(9,7),(12,3),(13,3),(12,7),(13,7),(12,11),(13,11)] [4];with_reducible repeat' first|constructor|intro hc
 have hkind:k=1\/k=2\/k=3\/k=4\/k=5\/k=6\/k=7\/k=8\/k=9\/k=10\/k=11\/k=12:=om
 clear hR n0 n1 n2 n3 k1 k2 hl;unfold AE.has at hh;rcases hkind with rfl|rfl|rfl|rfl|rfl|rfl|rfl|rfl|rfl|rfl|rfl|rfl
 .refine A9 CR ?_ [(5,4),(6,4)];with_reducible repeat' first|constructor|intro hc
  refine⟨_,_,rfl,rfl,?_⟩;simp[E5,B3,B8,Aq,Ei,DI,Ad,Cg,Da,zu,q07,zA,zK,Int.reduceEq,zx,zo]
 .refine A9 CR ?_ [(5,4),(6,4)];with_reducible repeat' first|constructor|intro hc
  refine⟨_,_,rfl,rfl,?_⟩;simp[E5,B3,B8,Aq,Ei,DI,Ad,Cg,Da,zu,q07,zA,zK,Int.reduceEq,zx,zo]
 .refine A9 CR ?_ [(5,4),(6,4)];with_reducible repeat' first|constructor|intro hc
  refine⟨_,_,rfl,rfl,?_⟩;simp[E5,B3,B8,Aq,Ei,DI,Ad,Cg,Da,zu,q07,zA,zK,Int.reduceEq,zx,zo]
 .simp only[Int.reduceEq,zx,zo,yU,q0G,yc]at hh;have hb:=Wr sl;have n4:=D7 ky (DG hh);have l4:=Cy (ky).toNat (Bh (DG hh)).2;have n5:=D7 (Ez sl) (GJ sl);have l5:=Cy ((Ez sl)).toNat (Bh (GJ sl)).2;refine AP CR ?_ (DO @hb @n4 @n5) [(5,4),(6,4)];with_reducible repeat' first|constructor|intro hc
  refine⟨_,_,rfl,rfl,?_⟩;simp[E5,B3,B8,Aq,Ei,DI,Ad,Cg,Da,zu,q07,zA,zK,Int.reduceEq,zx,zo]
 .simp only[Int.reduceEq,zx,zo,yU,q0G,yc]at hh;obtain⟨a1,a2,a3⟩:=KB hh;have hq:=Yk ⟨ik,iv,ir,ig⟩ a1 a2 a3;have lq:=MA hh;unfold AL.d AL.A1 at hq;refine AP CR ?_ (AQ @hq) [(5,4),(6,4)];with_reducible repeat' first|constructor|intro hc
  refine⟨_,_,rfl,rfl,?_⟩;simp[E5,B3,B8,Aq,Ei,DI,Ad,Cg,Da,zu,q07,zA,zK,Int.reduceEq,zx,zo]
 .simp only[Int.reduceEq,zx,zo,yU,q0G,yc]at hh;obtain⟨a1,a2,a3⟩:=KB hh.1;have a1:ik.length<=255:=a1;have hq:=oX ik;have et:textS ik=(Da ik,0):=by unfold textS Da;rw[zO om]
  rw[et]at hq;have lq:(Da ik).length=ik.length+1:=rfl;refine AP CR ?_ (AQ @hq) [(5,4),(6,4)];with_reducible repeat' first|constructor|intro hc
  refine⟨_,_,rfl,rfl,?_⟩;simp[E5,B3,B8,Aq,Ei,DI,Ad,Cg,Da,zu,q07,zA,zK,Int.reduceEq,zx,zo]
 .simp only[Int.reduceEq,zx,zo,yU,q0G,yc]at hh;have hL:=OO hh.2
  have hf:fits (pr+1)=true:=by
   rcases hh.1 with h|h
   .subst h;rfl
   .exact GK (by have:=Fv h;omega)
  have hpr: -1<=pr/\pr<=1099511627776:=by simp[fits]at hf;omega
  have n4:=D7 (pr+1) hf;have l4:=Cy ((pr+1)).toNat (Bh hf).2;have hq:=Go.Proofs.YthlmmkmeoblbhaaGreat.oN l;have et:Sx l=(UInt8.ofNat l.length::Ad l,0):=by unfold Sx;rw[zO om,zN hL.2]
  rw[et]at hq;simp only at hq;have lq:=V8 l hL.2;have lq2:(UInt8.ofNat l.length::Ad l).length=(Ad l).length+1:=rfl;generalize hLL:UInt8.ofNat l.length::Ad l=LL at hq lq2;refine AP CR ?_ (B1 @n4 @hq) [(5,4),(6,4)];with_reducible repeat' first|constructor|intro hc
  refine⟨_,_,rfl,rfl,?_⟩;simp[E5,B3,B8,Aq,Ei,DI,Ad,Cg,Da,zu,q07,zA,zK,Int.reduceEq,zx,zo,hLL]
 .refine A9 CR ?_ [(5,4),(6,4)];with_reducible repeat' first|constructor|intro hc
  refine⟨_,_,rfl,rfl,?_⟩;simp[E5,B3,B8,Aq,Ei,DI,Ad,Cg,Da,zu,q07,zA,zK,Int.reduceEq,zx,zo]
 .refine A9 CR ?_ [(5,4),(6,4)];with_reducible repeat' first|constructor|intro hc
  refine⟨_,_,rfl,rfl,?_⟩;simp[E5,B3,B8,Aq,Ei,DI,Ad,Cg,Da,zu,q07,zA,zK,Int.reduceEq,zx,zo]
 .simp only[Int.reduceEq,zx,zo,yU,q0G,yc]at hh;have hb:=Wr dn;have n4:=D7 pl (DG hh);have l4:=Cy (pl).toNat (Bh (DG hh)).2;have n5:=D7 (Ez dn) (GJ dn);have l5:=Cy ((Ez dn)).toNat (Bh (GJ dn)).2;refine AP CR ?_ (DO @hb @n4 @n5) [(5,4),(6,4)];with_reducible repeat' first|constructor|intro hc
  refine⟨_,_,rfl,rfl,?_⟩;simp[E5,B3,B8,Aq,Ei,DI,Ad,Cg,Da,zu,q07,zA,zK,Int.reduceEq,zx,zo]
 .simp only[Int.reduceEq,zx,zo,yU,q0G,yc]at hh;have hf:fits co=true:=by rcases hh with h|h<;>rw[h]<;>rfl
  have n4:=D7 co hf;have l4:=Cy (co).toNat (Bh hf).2;refine AP CR ?_ (AQ @n4) [(5,4),(6,4)];with_reducible repeat' first|constructor|intro hc
  refine⟨_,_,rfl,rfl,?_⟩;simp[E5,B3,B8,Aq,Ei,DI,Ad,Cg,Da,zu,q07,zA,zK,Int.reduceEq,zx,zo]
 .simp only[Int.reduceEq,zx,zo,yU,q0G,yc]at hh;rcases hh with⟨h0,h1⟩|⟨h0,h1⟩
  .subst h0;have n4:=D7 (0:Int) rfl;have l4:=Cy ((0:Int)).toNat (Bh rfl).2;obtain⟨a1,a2,a3⟩:=KB h1;have hq:=Yk ⟨ik,iv,ir,ig⟩ a1 a2 a3;have lq:=MA h1;unfold AL.d AL.A1 at hq;have l4:(GY 0).length<=7:=l4;refine AP CR ?_ (B1 @n4 @hq) [(5,4),(6,4)];with_reducible repeat' first|constructor|intro hc
   refine⟨_,_,rfl,rfl,?_⟩;simp[E5,B3,B8,Aq,Ei,DI,Ad,Cg,Da,zu,q07,zA,zK,Int.reduceEq,zx,zo,show Int.toNat 0=0 from rfl]
  .subst h0;have n4:=D7 (201:Int) rfl;have l4:=Cy ((201:Int)).toNat (Bh rfl).2;have l4:(GY 201).length<=7:=l4;refine AP CR ?_ (AQ @n4) [(5,4),(6,4)];with_reducible repeat' first|constructor|intro hc
   refine⟨_,_,rfl,rfl,?_⟩;simp[E5,B3,B8,Aq,Ei,DI,Ad,Cg,Da,zu,q07,zA,zK,Int.reduceEq,zx,zo]
abbrev Ip:BK:=[0,2,3,4,5,6,9,30]
abbrev H0:BK:=[0,2,3,4,5,6,7,8,9,10,24,46,61]
theorem nu(b:AT)(hb:b.length<70368744177664):yA 200 [.by b] (.tup [.by (Bl b).1,.yE (Bl b).2]):=by
 rw[<-my];refine zF AK Tryz.func200 ?_
 by_cases h8:b.length<8
 .have e:TG b=([],11):=zN h8;refine A9 Ip ?_;with_reducible repeat' first|constructor|intro hc
  exact BO e
 have e1:((b.length:Int)-4).toNat=b.length-4:=om
 have hc:=VK ((b.take (b.length-4)).drop 4);have e0:TG b=if(CY ((b.take (b.length-4)).drop 4)).2=0/\(CY ((b.take (b.length-4)).drop 4)).1=b then((b.take (b.length-4)).drop 4,0)else([],12):=zO h8
 refine Ae Ip ?_ (AQ e1);with_reducible repeat' first|constructor|intro hc
 generalize hp:(b.take (b.length-4)).drop 4=p at*
 by_cases hz:(CY p).2=0
 .have f:=BJ hz
  by_cases hq:(CY p).1=b
  .have e:TG b=(p,0):=by rw[e0,zN ⟨hz,hq⟩]
   have f2:((CY p).1==b)=true:=by simp[hq]
   refine AD Ip ?_ (B1 f f2) (AQ @hc);exact BO e
  .have e:TG b=([],12):=by rw[e0,zO (fun h=>hq h.2)]
   have f2:((CY p).1==b)=false:=by simp[hq]
   refine AD Ip ?_ (B1 f f2) (AQ @hc);exact BO e
 .have e:TG b=([],12):=by rw[e0,zO (fun h=>hz h.1)]
  have f:=Bp hz;refine AD Ip ?_ (AQ f) (AQ @hc);exact BO e
theorem nz(b:AT)(hb:b.length<70368744177664):yA 201 [.by b] (.tup [(Ed b).1.d,.yE (Ed b).2]):=by
 rw[<-oG];have hn:=DJ b 4 hb (by decide);have hg:=@HU 4 b;have hln:=@Ee 4 b;refine zF AK Tryz.func201 ?_
 cases hp:C8 4 b with
 |none=>
  have e:Ht b=(AU,12):=by unfold Ht;rw[hp]
  rw[hp]at hn;unfold En at hn;unfold AE.d AE.A1;refine AP H0 ?_ (AQ @hn);exact BO (yg e (yg @AU.eq_1 @AN.eq_1))
 |some p=>
  obtain⟨l,r⟩:=p;obtain⟨hl1,hl2⟩:=hln hp;have hg:=hg hp
  obtain⟨k,c,s,d,rfl⟩:∃k c s d,l=[k,c,s,d]:=by
   rcases l with _|⟨k,_|⟨c,_|⟨s,_|⟨d,_|⟨x,t⟩⟩⟩⟩⟩<;>first|exact⟨_,_,_,_,rfl⟩|(simp at hl1)
  have hk:=hg k sm;rw[hp]at hn;unfold En at hn
  by_cases h13:k>=13
  .have e:Ht b=(AU,12):=by unfold Ht;rw[hp];exact zN h13
   unfold AE.d AE.A1;refine AP H0 ?_ (AQ @hn);with_reducible repeat' first|constructor|intro hc
   exact BO (yg e (yg @AU.eq_1 @AN.eq_1))
  have ek:k%256=k:=om
  have hm:=mb ⟨k,c,s,d,0,false,false,0,0,[],AN,0⟩ r om;have hl:=aj ⟨k,c,s,d,0,false,false,0,0,[],AN,0⟩ r (yx _)
  have e0:Ht b=if(C7 ⟨k,c,s,d,0,false,false,0,0,[],AN,0⟩ r).2=true/\(C7 ⟨k,c,s,d,0,false,false,0,0,[],AN,0⟩ r).1.right=true/\Ei (C7 ⟨k,c,s,d,0,false,false,0,0,[],AN,0⟩ r).1=b then((C7 ⟨k,c,s,d,0,false,false,0,0,[],AN,0⟩ r).1,0)else(AU,12):=by
   unfold Ht;rw[hp];exact zO h13
  rcases hM:C7 ⟨k,c,s,d,0,false,false,0,0,[],AN,0⟩ r with⟨m,is⟩;rw[hM]at hm hl e0;simp only at hl e0;have hP:=QS m om;unfold TN at hP
  cases is with
  |false=>
   have e:Ht b=(AU,12):=by rw[e0,zO (fun h=>Bool.noConfusion h.1)]
   unfold AE.d AE.A1 at *;simp only[AN]at hm;have z1:=@hm;refine AD H0 ?_ (AQ ek) (AQ @hn);clear z1;with_reducible repeat' first|constructor|intro hc
   exact BO (yg e (yg @AU.eq_1 @AN.eq_1))
  |true=>
   cases hr:m.right with
   |false=>
    have e:Ht b=(AU,12):=by rw[e0,zO (fun h=>by rw[hr]at h;exact Bool.noConfusion h.2.1)]
    rw[hr,zO (by decide)]at hP;unfold AE.d AE.A1 at *;simp only[AN]at hm;have z1:=@hm;refine AD H0 ?_ (AQ ek) (B1 @hn @hP);clear z1;with_reducible repeat' first|constructor|intro hc
    exact BO (yg e (yg @AU.eq_1 @AN.eq_1))
   |true=>
    rw[hr,zN rfl]at hP
    by_cases hq:Ei m=b
    .have e:Ht b=(m,0):=by rw[e0,zN ⟨rfl,hr,hq⟩]
     have f2:(Ei m==b)=true:=by simp[hq]
     unfold AE.d AE.A1 at *;simp only[AN]at hm;have z1:=@hm;refine AD H0 ?_ (B1 ek f2) (B1 @hn @hP);clear z1;with_reducible repeat' first|constructor|intro hc
     exact BO e
    .have e:Ht b=(AU,12):=by rw[e0,zO (fun h=>hq h.2.2)]
     have f2:(Ei m==b)=false:=by simp[hq]
     unfold AE.d AE.A1 at *;simp only[AN]at hm;have z1:=@hm;refine AD H0 ?_ (B1 ek f2) (B1 @hn @hP);clear z1;with_reducible repeat' first|constructor|intro hc
     exact BO (yg e (yg @AU.eq_1 @AN.eq_1))
theorem ny(m:AE)(hl:m.A8.length<9223372036854775807):yA 209 [m.d] (.tup [.by (CG m).1,.yE (CG m).2]):=by
 have hP:=QS m hl
 cases h:m.right with
 |false=>
  have e:CG m=([],2):=by unfold CG;rw[h];rfl
  have e2:TN m=([],2):=by unfold TN;rw[h];rfl
  rw[e2]at hP;unfold AE.d AE.A1 at *;refine zF AK Tryz.func209 ?_;refine AP [0,1,2,3,4,5,12] ?_ (AQ @hP);exact BO e
 |true=>
  have e:CG m=CY (Ei m):=by unfold CG;rw[h];rfl
  have e2:TN m=(Ei m,0):=by unfold TN;rw[h];rfl
  have hC:=VK (Ei m);rw[e2]at hP;unfold AE.d AE.A1 at *;refine zF AK Tryz.func209 ?_;refine AP [0,1,2,3,4,5,12] ?_ (B1 @hP @hC);exact BO e
theorem gg(b:AT):(Bl b).1.length<=112:=by
 obtain⟨p,e,h⟩:∃p e,Bl b=(p,e):=⟨_,_,rfl⟩;rw[h];rcases TI h with⟨_,h2,_⟩|⟨_,_,h3⟩|⟨_,_,h3⟩
 .exact h2
 .rw[h3];exact yx _
 .rw[h3];exact yx _
theorem iR(b:AT)(hb:b.length<70368744177664):yA 139 [.by b] (.tup [(Ac b).1.d,.yE (Ac b).2]):=by
 have hO:=nu b hb;have hol:=gg b;refine zF AK Tryz.func139 ?_
 by_cases h:(Bl b).2=0
 .have e:Ac b=Ed (Bl b).1:=zN h;have hR:=nz (Bl b).1 om;have f:=BJ h;unfold AE.d AE.A1 at *;refine AD [0,2,3,4,5,12] ?_ (AQ f) (B1 @hO @hR);exact BO e
 .have e:Ac b=(AU,(Bl b).2):=zO h;have f:=Bp h;unfold AE.d AE.A1;refine AD [0,2,3,4,5,12] ?_ (AQ f) (AQ @hO);exact BO (yg e (yg @AU.eq_1 @AN.eq_1))
end Wi
end Go.Proofs.YthlmmkmeoblbhaaGreat
