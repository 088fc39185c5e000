/- Part 42 of a proof. Conditions: those that its theorems state. -/
import Derived.Test.YtkljbfejbakooaaGreatDoorT38
set_option linter.unusedSimpArgs false
set_option linter.unusedVariables false
set_option maxHeartbeats 40000000
set_option maxRecDepth 4000
namespace Go.Proofs.YtkljbfejbakooaaGreatDoor
namespace Wi
open Go.Gar
abbrev CW:Aw:=[0,1,2,3,4,5,7,11,29,30,42,49,61,77,89,96,105]
theorem mc(m:Nat)(hm:m<=1099511627776):xC 298 [.wo m] [] (.tup [.sl 0 (CR m).length 1,.wo 0]) [.a (.by (CR m))]:=by
 have hs:=size_le m om;refine zD AF Tryz.func298 ?_;refine wd [0,2,3,4,10,12] [] A4 A4 ?_;with_reducible repeat' first|constructor|intro hc
 refine BC (A6.e0 4 (.by []) rfl rfl rfl trivial) sm ?_;refine BS (fun k=>k<=size m) (fun k:Nat=>⟨[(0,.wo (m/256^k:Nat)),(2,.e0),(3,.wo 0),(4,.d (.by (H8 m k)))],[],27⟩) (fun k=>size m-k) 0 (xQ _) ?_ sm ?_
 .exact A6.ck rfl
 intro k hk;have hsp:=size_pos (n:=m) (k:=k);have hle:m/256^k<=m:=Nat.div_le_self _ _;have hll:(H8 m k).length=k:=by simp[H8]
 by_cases hkm:k<size m
 .have hp:=hsp.2 hkm
  have e1:((m/256^k:Nat):Int).tmod 256=((m/256^k%256:Nat):Int):=by
   rw[Int.tmod_eq_emod_of_nonneg om];rfl
  have e2:((m/256^k%256:Nat):Int)%256=((m/256^k%256:Nat):Int):=om
  have e3:((m/256^k:Nat):Int).tdiv 256=((m/256^(k+1):Nat):Int):=by
   rw[Int.tdiv_eq_ediv_of_nonneg om,Nat.pow_succ,<-Nat.div_div_eq_div_mul];rfl
  have e4:(UInt8.ofNat (m/256^k%256)::H8 m k)=H8 m (k+1):=(JQ m k).symm;have hle':m/256^(k+1)<=m:=Nat.div_le_self _ _;have ow:Lv [16]:=trivial;refine wd [0,2,3,4,10,12] [] (KQ e1 e2 e3 e4) A4 ?_;clear ow;with_reducible repeat' first|constructor|intro hc
  rotate_left
  .rw[e3];exact Ki rfl (Og _ om)
  refine⟨k+1,hkm,om,xQ _,?_⟩;refine A6.trans' (A6.kE 4 0 (x:=.by (H8 m (k+1))) (congrArg (fun z=>some (AI.a (D.by z))) e4) rfl rfl) ?_ (xQ _);exact A6.ck rfl
 .have e:k=size m:=om
  subst e;have h0:m/256^size m=0:=Nat.eq_zero_of_not_pos (fun h=>absurd (hsp.1 h) (Nat.lt_irrefl _));have e5:((size m:Nat):Int)%256=size m:=om
  have e6:H8 m (size m)=IU m:=rfl;have e7:(IU m).length=size m:=by simp[IU]
  have ow:Lv [24]:=trivial;refine wd [0,2,3,4,10,12] [] (KQ h0 e5 e6 e7) A4 ?_;clear ow;with_reducible repeat' first|constructor|intro hc
  refine⟨⟨[(2,.sl 0 (CR m).length 1),(3,.wo 0)],[.a (.by (CR m))],Tryz.f298.ntmps⟩,?_,xQ _,_,_,rfl,rfl,rfl,rfl⟩;exact(have nC:=xU @CR.eq_1 (xU e6 e7);A6.cn rfl)
theorem gC(s:AJ)(h:s.length<=255):xC 228 [.xE s] [] (.tup [.sl 0 (Cf s).length 1,.wo 0]) [.a (.by (Cf s))]:=by
 have h1:decide ((s.length:Int)>255)=false:=by simp;omega
 have h2:(s.length:Int)%256=s.length:=om
 refine zD AF Tryz.func228 ?_;have ow:Lv [10]:=trivial;refine wd [0,2,3,6] [] (Ax h1 h2) A4 ?_;clear ow;with_reducible repeat' first|constructor|intro hc
 refine⟨⟨[(2,.sl 0 (Cf s).length 1),(3,.wo 0)],[.a (.by (Cf s))],Tryz.f228.ntmps⟩,?_,xQ _,_,_,rfl,rfl,rfl,rfl⟩;exact(have nC:=@Cf.eq_1;A6.cn rfl)
theorem SI(n:Int)(hf:fits n=true):xC 225 [.wo n] [] (.sl 0 (CR n.toNat).length 1) [.a (.by (CR n.toNat))]:=by
 obtain⟨e,hm⟩:=Bq hf;have hp:=mc n.toNat hm;rw[e]at hp;refine zD AF Tryz.func225 ?_;have d1:=Ds.mk [] (hp);refine wd [0,2,3] [] A4 A4 ?_;clear d1;with_reducible repeat' first|constructor|intro hc
 exact⟨⟨[(2,.sl 0 (CR n.toNat).length 1)],[.a (.by (CR n.toNat))],Tryz.f225.ntmps⟩,(A6.ck rfl),xQ _,_,_,rfl,rfl,rfl,rfl⟩
theorem D2(n:Int)(hf:fits n=true):xB 225 [.i .i64 n] (.by (CR n.toNat)):=by
 refine FT (ds:=[.i .i64 n]) (SI n hf) ?_;simp[Kb,BK]
theorem Vh(b:Bool):xB 226 [.b b] (.i .i64 (Dl b)):=by
 refine zF AF Tryz.func226 ?_;cases b
 .refine wd [0,2,3] [] A4 A4 ?_;with_reducible repeat' first|constructor|intro hc
  exact BL @Dl.eq_1
 .refine wd [0,2,3] [] A4 A4 ?_;with_reducible repeat' first|constructor|intro hc
  exact BL @Dl.eq_1
theorem fg(x:AK)(hk:x.AH.length<=255)(hv:fits x.B2=true)(hn:fits x.AZ=true):xC 227 [.d x.d] [] (.sl 1 (CN x).length 1) [.gone,.a (.by (CN x))]:=by
 obtain⟨k,v,n,g⟩:=x;have ht:=gC k hk;have h1:=D2 v hv;have h2:=D2 n hn;have h3:=Vh g;have h4:=D2 (Dl g) (EY g);have l1:=Cm v.toNat (Bq hv).2;have l2:=Cm n.toNat (Bq hn).2;have l3:=Cm (Dl g).toNat (Bq (EY g)).2;have l0:(Cf k).length=k.length+1:=rfl;refine zD AF Tryz.func227 ?_;simp only at hk;unfold AK.d AK.A0;have d1:=Ds.mk [] (ht);refine wd [0,1,2,3] [] A4 (KQ @h1 @h2 @h3 @h4) ?_ [(5,4),(6,4)];clear d1;with_reducible repeat' first|constructor|intro hc
 refine⟨⟨[(2,.sl 1 (CN ⟨k,v,n,g⟩).length 1)],[.gone,.a (.by (CN ⟨k,v,n,g⟩))],Tryz.f227.ntmps⟩,?_,xQ _,_,_,rfl,rfl,rfl,rfl⟩;exact A6.cut rfl (by repeat'(first|exact zl|refine xU (by(first|rfl|((with_reducible_and_instances refine congrArg (fun z=>some (AV.d (D.i _ z))) ?_);omega)|(refine congrArg (fun z=>some (AV.d (D.i _ z))) (?_:(_:Int)=_);omega)|(refine congrArg some ?_;simp only[CN,Ac,yB,yK];done)|(refine congrArg some ?_;simp[CN,Ac,yB,yK];done))) ?_)) (by repeat'(first|exact zl|refine xU (Or.inr rfl) ?_|refine xU (Or.inl ⟨rfl,rfl⟩) ?_|refine xU (Or.inr (by simp only[CN,Ac,yB,yK])) ?_|refine xU (Or.inr (by simp[CN,Ac,yB,yK])) ?_)) (by first|rfl|(simp(decide:=true) [BY,AI.ok,AV.oks,AV.ok,hk];done)) rfl
theorem Xo(x:AK)(hk:x.AH.length<=255)(hv:fits x.B2=true)(hn:fits x.AZ=true):xB 227 [x.d] (.by (CN x)):=by
 refine FT (ds:=[x.d]) (fg x hk hv hn) ?_;simp[Kb,BK]
theorem Pm(m:AC)(hl:m.A8.length<9223372036854775807):xB 145 [m.d] (.tup [.by (K0 m).1,.i .i64 (K0 m).2]):=by
 have hR:=JU m hl
 cases h:m.right with
 |false=>
  rw[h]at hR;have e:K0 m=([],2):=by unfold K0;rw[h];rfl
  unfold AC.d AC.A0 at *;refine zF AF Tryz.func145 ?_;refine wd CW [] A4 (AM @hR) ?_;with_reducible repeat' first|constructor|intro hc
  exact BL e
 |true=>
 rw[h]at hR;have e:K0 m=(By m,0):=by unfold K0;rw[if_pos h]
 have hlen:=L9 h;obtain⟨⟨k1,k2⟩,⟨p1,p2⟩,_,⟨c1,c2⟩,hb,hh⟩:=Hj h;have ha:=NC h;have fk:fits m.AR=true:=Dv om;have fc:fits m.Aa=true:=Dv om;have n0:=SI m.AR fk;have n1:=D2 m.Aa fc;have n2:=D2 m.As (CQ p1);have n3:=D2 m.dst (CQ p2);have l0:=Cm m.AR.toNat (Bq fk).2;have l1:=Cm m.Aa.toNat (Bq fc).2;have l2:=Cm m.As.toNat (Bq (CQ p1)).2;have l3:=Cm m.dst.toNat (Bq (CQ p2)).2;rw[e];clear e ha c1 c2 h hb;obtain⟨k,c,s,d,ky,sl,dn,pl,pr,l,⟨ik,iv,ir,ig⟩,co⟩:=m;unfold AC.d AC.A0 at *;simp only at *;refine zF AF Tryz.func145 ?_;have d1:=Ds.mk [] (n0);refine wd CW [4] A4 (KQ @hR @n1 @n2 @n3) ?_ [(4,3),(5,3),(8,3),(9,3),(8,7),(9,7),(12,3),(13,3),(12,7),(13,7),(12,11),(13,11)];clear d1;with_reducible repeat' first|constructor|intro hc
 have hkind:k=1\/k=2\/k=3\/k=4\/k=5\/k=6\/k=7\/k=8\/k=9\/k=10\/k=11\/k=12:=om
 clear hR n0 n1 n2 n3 k1 k2 hl;unfold AC.has at hh;rcases hkind with rfl|rfl|rfl|rfl|rfl|rfl|rfl|rfl|rfl|rfl|rfl|rfl
 .refine wd CW [] A4 A4 ?_ [(5,4),(6,4)];with_reducible repeat' first|constructor|intro hc
  refine⟨_,_,rfl,rfl,?_⟩;simp[IT,BK,Bd,B0,By,CK,Ac,CN,Cf,yB,yK,xX,xY,Int.reduceEq,yG,yC]
 .refine wd CW [] A4 A4 ?_ [(5,4),(6,4)];with_reducible repeat' first|constructor|intro hc
  refine⟨_,_,rfl,rfl,?_⟩;simp[IT,BK,Bd,B0,By,CK,Ac,CN,Cf,yB,yK,xX,xY,Int.reduceEq,yG,yC]
 .refine wd CW [] A4 A4 ?_ [(5,4),(6,4)];with_reducible repeat' first|constructor|intro hc
  refine⟨_,_,rfl,rfl,?_⟩;simp[IT,BK,Bd,B0,By,CK,Ac,CN,Cf,yB,yK,xX,xY,Int.reduceEq,yG,yC]
 .simp only[Int.reduceEq,yG,yC,xI,yL,xK]at hh;have hb:=Vh sl;have n4:=D2 ky (CQ hh);have l4:=Cm (ky).toNat (Bq (CQ hh)).2;have n5:=D2 (Dl sl) (EY sl);have l5:=Cm ((Dl sl)).toNat (Bq (EY sl)).2;refine wd CW [] A4 (Ci @hb @n4 @n5) ?_ [(5,4),(6,4)];with_reducible repeat' first|constructor|intro hc
  refine⟨_,_,rfl,rfl,?_⟩;simp[IT,BK,Bd,B0,By,CK,Ac,CN,Cf,yB,yK,xX,xY,Int.reduceEq,yG,yC]
 .simp only[Int.reduceEq,yG,yC,xI,yL,xK]at hh;obtain⟨a1,a2,a3⟩:=HP hh;have hq:=Xo ⟨ik,iv,ir,ig⟩ a1 a2 a3;have lq:=Li hh;unfold AK.d AK.A0 at hq;refine wd CW [] A4 (AM @hq) ?_ [(5,4),(6,4)];with_reducible repeat' first|constructor|intro hc
  refine⟨_,_,rfl,rfl,?_⟩;simp[IT,BK,Bd,B0,By,CK,Ac,CN,Cf,yB,yK,xX,xY,Int.reduceEq,yG,yC]
 .simp only[Int.reduceEq,yG,yC,xI,yL,xK]at hh;obtain⟨a1,a2,a3⟩:=HP hh.1;have a1:ik.length<=255:=a1;have hq:=mg ik;have et:textS ik=(Cf ik,0):=by unfold textS Cf;rw[if_neg om]
  rw[et]at hq;have lq:(Cf ik).length=ik.length+1:=rfl;refine wd CW [] A4 (AM @hq) ?_ [(5,4),(6,4)];with_reducible repeat' first|constructor|intro hc
  refine⟨_,_,rfl,rfl,?_⟩;simp[IT,BK,Bd,B0,By,CK,Ac,CN,Cf,yB,yK,xX,xY,Int.reduceEq,yG,yC]
 .simp only[Int.reduceEq,yG,yC,xI,yL,xK]at hh;have hL:=L5 hh.2
  have hf:fits (pr+1)=true:=by
   rcases hh.1 with h|h
   .subst h;rfl
   .exact Dv (by have:=FD h;omega)
  have hpr: -1<=pr/\pr<=1099511627776:=by simp[fits]at hf;omega
  have n4:=D2 (pr+1) hf;have l4:=Cm ((pr+1)).toNat (Bq hf).2;have hq:=Go.Proofs.YtkljbfejbakooaaGreatDoor.ma l;have et:Ii l=(UInt8.ofNat l.length::Ac l,0):=by unfold Ii;rw[if_neg om,if_pos hL.2]
  rw[et]at hq;simp only at hq;have lq:=Fj l hL.2;have lq2:(UInt8.ofNat l.length::Ac l).length=(Ac l).length+1:=rfl;generalize hLL:UInt8.ofNat l.length::Ac l=LL at hq lq2;refine wd CW [] A4 (Ax @n4 @hq) ?_ [(5,4),(6,4)];with_reducible repeat' first|constructor|intro hc
  refine⟨_,_,rfl,rfl,?_⟩;simp[IT,BK,Bd,B0,By,CK,Ac,CN,Cf,yB,yK,xX,xY,Int.reduceEq,yG,yC,hLL]
 .refine wd CW [] A4 A4 ?_ [(5,4),(6,4)];with_reducible repeat' first|constructor|intro hc
  refine⟨_,_,rfl,rfl,?_⟩;simp[IT,BK,Bd,B0,By,CK,Ac,CN,Cf,yB,yK,xX,xY,Int.reduceEq,yG,yC]
 .refine wd CW [] A4 A4 ?_ [(5,4),(6,4)];with_reducible repeat' first|constructor|intro hc
  refine⟨_,_,rfl,rfl,?_⟩;simp[IT,BK,Bd,B0,By,CK,Ac,CN,Cf,yB,yK,xX,xY,Int.reduceEq,yG,yC]
 .simp only[Int.reduceEq,yG,yC,xI,yL,xK]at hh;have hb:=Vh dn;have n4:=D2 pl (CQ hh);have l4:=Cm (pl).toNat (Bq (CQ hh)).2;have n5:=D2 (Dl dn) (EY dn);have l5:=Cm ((Dl dn)).toNat (Bq (EY dn)).2;refine wd CW [] A4 (Ci @hb @n4 @n5) ?_ [(5,4),(6,4)];with_reducible repeat' first|constructor|intro hc
  refine⟨_,_,rfl,rfl,?_⟩;simp[IT,BK,Bd,B0,By,CK,Ac,CN,Cf,yB,yK,xX,xY,Int.reduceEq,yG,yC]
 .simp only[Int.reduceEq,yG,yC,xI,yL,xK]at hh;have hf:fits co=true:=by rcases hh with h|h<;>rw[h]<;>rfl
  have n4:=D2 co hf;have l4:=Cm (co).toNat (Bq hf).2;refine wd CW [] A4 (AM @n4) ?_ [(5,4),(6,4)];with_reducible repeat' first|constructor|intro hc
  refine⟨_,_,rfl,rfl,?_⟩;simp[IT,BK,Bd,B0,By,CK,Ac,CN,Cf,yB,yK,xX,xY,Int.reduceEq,yG,yC]
 .simp only[Int.reduceEq,yG,yC,xI,yL,xK]at hh;rcases hh with⟨h0,h1⟩|⟨h0,h1⟩
  .subst h0;have n4:=D2 (0:Int) rfl;have l4:=Cm ((0:Int)).toNat (Bq rfl).2;obtain⟨a1,a2,a3⟩:=HP h1;have hq:=Xo ⟨ik,iv,ir,ig⟩ a1 a2 a3;have lq:=Li h1;unfold AK.d AK.A0 at hq;have l4:(CR 0).length<=7:=l4;refine wd CW [] A4 (Ax @n4 @hq) ?_ [(5,4),(6,4)];with_reducible repeat' first|constructor|intro hc
   refine⟨_,_,rfl,rfl,?_⟩;simp[IT,BK,Bd,B0,By,CK,Ac,CN,Cf,yB,yK,xX,xY,Int.reduceEq,yG,yC,show Int.toNat 0=0 from rfl]
  .subst h0;have n4:=D2 (201:Int) rfl;have l4:=Cm ((201:Int)).toNat (Bq rfl).2;have l4:(CR 201).length<=7:=l4;refine wd CW [] A4 (AM @n4) ?_ [(5,4),(6,4)];with_reducible repeat' first|constructor|intro hc
   refine⟨_,_,rfl,rfl,?_⟩;simp[IT,BK,Bd,B0,By,CK,Ac,CN,Cf,yB,yK,xX,xY,Int.reduceEq,yG,yC]
abbrev IS:Aw:=[0,2,3,4,5,6,9,30]
abbrev Gg:Aw:=[0,2,3,4,5,6,7,8,9,10,24,46,61]
theorem mL(b:AJ)(hb:b.length<70368744177664):xB 59 [.by b] (.tup [.by (Bt b).1,.i .i64 (Bt b).2]):=by
 rw[<-lw];refine zF AF Tryz.func59 ?_
 by_cases h8:b.length<8
 .have e:SL b=([],11):=if_pos h8;refine wd IS [] A4 A4 ?_;with_reducible repeat' first|constructor|intro hc
  exact BL e
 have e1:((b.length:Int)-4).toNat=b.length-4:=om
 have hc:=U6 ((b.take (b.length-4)).drop 4);have e0:SL b=if(Cu ((b.take (b.length-4)).drop 4)).2=0/\(Cu ((b.take (b.length-4)).drop 4)).1=b then((b.take (b.length-4)).drop 4,0)else([],12):=if_neg h8
 refine wd IS [] (AM e1) A4 ?_;with_reducible repeat' first|constructor|intro hc
 generalize hp:(b.take (b.length-4)).drop 4=p at*
 by_cases hz:(Cu p).2=0
 .have f:=C2 hz
  by_cases hq:(Cu p).1=b
  .have e:SL b=(p,0):=by rw[e0,if_pos ⟨hz,hq⟩]
   have f2:((Cu p).1==b)=true:=by simp[hq]
   refine wd IS [] (Ax f f2) (AM @hc) ?_;exact BL e
  .have e:SL b=([],12):=by rw[e0,if_neg (fun h=>hq h.2)]
   have f2:((Cu p).1==b)=false:=by simp[hq]
   refine wd IS [] (Ax f f2) (AM @hc) ?_;exact BL e
 .have e:SL b=([],12):=by rw[e0,if_neg (fun h=>hz h.1)]
  have f:=C4 hz;refine wd IS [] (AM f) (AM @hc) ?_;exact BL e
theorem mM(b:AJ)(hb:b.length<70368744177664):xB 60 [.by b] (.tup [(Ev b).1.d,.i .i64 (Ev b).2]):=by
 rw[<-Y6];have hn:=DI b 4 hb (by decide);have hg:=@HD 4 b;have hln:=@EZ 4 b;refine zF AF Tryz.func60 ?_
 cases hp:CE 4 b with
 |none=>
  have e:HH b=(AN,12):=by unfold HH;rw[hp]
  rw[hp]at hn;unfold Eh at hn;unfold AC.d AC.A0;refine wd Gg [] A4 (AM @hn) ?_;exact BL (xU e (xU @AN.eq_1 @AY.eq_1))
 |some p=>
  obtain⟨l,r⟩:=p;obtain⟨hl1,hl2⟩:=hln hp;have hg:=hg hp
  obtain⟨k,c,s,d,rfl⟩:∃k c s d,l=[k,c,s,d]:=by
   rcases l with _|⟨k,_|⟨c,_|⟨s,_|⟨d,_|⟨x,t⟩⟩⟩⟩⟩<;>first|exact⟨_,_,_,_,rfl⟩|(simp at hl1)
  have hk:=hg k sm;rw[hp]at hn;unfold Eh at hn
  by_cases h13:k>=13
  .have e:HH b=(AN,12):=by unfold HH;rw[hp];exact if_pos h13
   unfold AC.d AC.A0;refine wd Gg [] A4 (AM @hn) ?_;with_reducible repeat' first|constructor|intro hc
   exact BL (xU e (xU @AN.eq_1 @AY.eq_1))
  have ek:k%256=k:=om
  have hm:=lV ⟨k,c,s,d,0,false,false,0,0,[],AY,0⟩ r om;have hl:=SA ⟨k,c,s,d,0,false,false,0,0,[],AY,0⟩ r (xQ _)
  have e0:HH b=if(CC ⟨k,c,s,d,0,false,false,0,0,[],AY,0⟩ r).2=true/\(CC ⟨k,c,s,d,0,false,false,0,0,[],AY,0⟩ r).1.right=true/\By (CC ⟨k,c,s,d,0,false,false,0,0,[],AY,0⟩ r).1=b then((CC ⟨k,c,s,d,0,false,false,0,0,[],AY,0⟩ r).1,0)else(AN,12):=by
   unfold HH;rw[hp];exact if_neg h13
  rcases hM:CC ⟨k,c,s,d,0,false,false,0,0,[],AY,0⟩ r with⟨m,is⟩;rw[hM]at hm hl e0;simp only at hl e0;have hP:=Pm m om;unfold K0 at hP
  cases is with
  |false=>
   have e:HH b=(AN,12):=by rw[e0,if_neg (fun h=>Bool.noConfusion h.1)]
   unfold AC.d AC.A0 at *;simp only[AY]at hm;have z1:=@hm;refine wd Gg [] (AM ek) (AM @hn) ?_;clear z1;with_reducible repeat' first|constructor|intro hc
   exact BL (xU e (xU @AN.eq_1 @AY.eq_1))
  |true=>
   cases hr:m.right with
   |false=>
    have e:HH b=(AN,12):=by rw[e0,if_neg (fun h=>by rw[hr]at h;exact Bool.noConfusion h.2.1)]
    rw[hr,if_neg (by decide)]at hP;unfold AC.d AC.A0 at *;simp only[AY]at hm;have z1:=@hm;refine wd Gg [] (AM ek) (Ax @hn @hP) ?_;clear z1;with_reducible repeat' first|constructor|intro hc
    exact BL (xU e (xU @AN.eq_1 @AY.eq_1))
   |true=>
    rw[hr,if_pos rfl]at hP
    by_cases hq:By m=b
    .have e:HH b=(m,0):=by rw[e0,if_pos ⟨rfl,hr,hq⟩]
     have f2:(By m==b)=true:=by simp[hq]
     unfold AC.d AC.A0 at *;simp only[AY]at hm;have z1:=@hm;refine wd Gg [] (Ax ek f2) (Ax @hn @hP) ?_;clear z1;with_reducible repeat' first|constructor|intro hc
     exact BL e
    .have e:HH b=(AN,12):=by rw[e0,if_neg (fun h=>hq h.2.2)]
     have f2:(By m==b)=false:=by simp[hq]
     unfold AC.d AC.A0 at *;simp only[AY]at hm;have z1:=@hm;refine wd Gg [] (Ax ek f2) (Ax @hn @hP) ?_;clear z1;with_reducible repeat' first|constructor|intro hc
     exact BL (xU e (xU @AN.eq_1 @AY.eq_1))
theorem Xz(m:AC)(hl:m.A8.length<9223372036854775807):xB 68 [m.d] (.tup [.by (C6 m).1,.i .i64 (C6 m).2]):=by
 have hP:=Pm m hl
 cases h:m.right with
 |false=>
  have e:C6 m=([],2):=by unfold C6;rw[h];rfl
  have e2:K0 m=([],2):=by unfold K0;rw[h];rfl
  rw[e2]at hP;unfold AC.d AC.A0 at *;refine zF AF Tryz.func68 ?_;refine wd [0,1,2,3,4,5,12] [] A4 (AM @hP) ?_;exact BL e
 |true=>
  have e:C6 m=Cu (By m):=by unfold C6;rw[h];rfl
  have e2:K0 m=(By m,0):=by unfold K0;rw[h];rfl
  have hC:=U6 (By m);rw[e2]at hP;unfold AC.d AC.A0 at *;refine zF AF Tryz.func68 ?_;refine wd [0,1,2,3,4,5,12] [] A4 (Ax @hP @hC) ?_;exact BL e
theorem fX(b:AJ):(Bt b).1.length<=112:=by
 obtain⟨p,e,h⟩:∃p e,Bt b=(p,e):=⟨_,_,rfl⟩;rw[h];rcases Xj h with⟨_,h2,_⟩|⟨_,_,h3⟩|⟨_,_,h3⟩
 .exact h2
 .rw[h3];exact xQ _
 .rw[h3];exact xQ _
theorem U9(b:AJ)(hb:b.length<70368744177664):xB 17 [.by b] (.tup [(BP b).1.d,.i .i64 (BP b).2]):=by
 have hO:=mL b hb;have hol:=fX b;refine zF AF Tryz.func17 ?_
 by_cases h:(Bt b).2=0
 .have e:BP b=Ev (Bt b).1:=if_pos h;have hR:=mM (Bt b).1 om;have f:=C2 h;unfold AC.d AC.A0 at *;refine wd [0,2,3,4,5,12] [] (AM f) (Ax @hO @hR) ?_;exact BL e
 .have e:BP b=(AN,(Bt b).2):=if_neg h;have f:=C4 h;unfold AC.d AC.A0;refine wd [0,2,3,4,5,12] [] (AM f) (AM @hO) ?_;exact BL (xU e (xU @AN.eq_1 @AY.eq_1))
end Wi
end Go.Proofs.YtkljbfejbakooaaGreatDoor
