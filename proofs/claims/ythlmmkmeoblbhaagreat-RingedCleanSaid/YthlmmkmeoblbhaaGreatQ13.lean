/- Part 13 of a proof. Conditions: those that its theorems state. -/
import Derived.Test.YthlmmkmeoblbhaaGreatQ12
set_option linter.unusedSimpArgs false
set_option linter.unusedVariables false
set_option linter.unnecessarySimpa false
set_option maxHeartbeats 40000000
set_option maxRecDepth 4000
namespace Go.Proofs.YthlmmkmeoblbhaaGreat
namespace Nd
open Go.Gar
open Wi (AE BE Ay)
abbrev MM:BK:=[0,1,4,5,7,8,9,16]
structure P1 (n:A6):Prop where
 id:i64 n.A4.id
 li:∀y∈n.A4.A8,i64 y
 vb:n.A4.A2.length<=1000
 vl:n.A4.A8.length<=1000
 cl:∀x∈n.AI.op,Co x.Cl
 cn:n.AI.op.length<=1048576
 sl:∀x∈n.BL,Co x.AA
 sn:n.BL.length<=1048576
 kn:n.keep.length<=1048576
 fl:n.Ag.left.length<=1048576
 ml:n.Ak.left.length<=1048576
 tl:n.Aj.left.length<=1048576
def Pg(n:A6):Bool:=!(n.BL.any fun p=>decide (p.AA.Ax≠n.A4.id))
def Ch(n:A6):Bool:=(decide (0<=n.AJ)&&decide (n.AJ<=1099511627776))&&(decide (0<=n.bad)&&((decide (0<=n.next)&&decide (n.next<16))&&(AZ n.A4&&((decide (n.AI.id=n.A4.id)&&Bc n.AI)&&(Ci n.A3 n.BN&&(CK n.keep&&(Fw n.BL&&Pg n)))))))
variable {α:Type}
def E3(q:α->Bool)(l:List α):Int:=match l.findIdx? q with
 |some n=>(n:Int)
 |none=> -1
variable {q:α->Bool}
theorem KA{l:List α}{k:Nat}{x:α}(hx:l[k]? =some x)(h:q x=true)(hn:(l.take k).any q=false):E3 q l=k:=by
 unfold E3;rw[QF hx h hn]
theorem I0{l:List α}(hn:l.any q=false):E3 q l= -1:=by
 unfold E3
 have:l.findIdx? q=none:=by
  rw[List.findIdx?_eq_none_iff];rw[q0O]at hn;intro x hx;simpa using hn x hx
 rw[this]
theorem GM(q:α->Bool)(l:List α):decide (E3 q l>=0)=l.any q:=by
 cases h:l.any q with
 |false=>rw[I0 h];rfl
 |true=>
  obtain⟨x,hx,hp⟩:=q1E.1 h
  have:l.findIdx? q≠none:=by
   rw[Ne,List.findIdx?_eq_none_iff];intro hh;have:=hh x hx;rw[hp]at this;cases this
  unfold E3;split
  .exact yX om
  .contradiction
theorem wB(n:A6):yB 95 [.ptr 0 0 76] [.c (BI n)] (.y7 (decide (0<=n.AJ)&&decide (n.AJ<=1099511627776))) [.c (BI n)]:=by
 refine zD AK Tryz.func95 ?_;unfold BI
 by_cases h1:0<=n.AJ
 .have f1:decide (n.AJ>=0)=true:=yX h1;rw[yX h1,zy];refine Ae [0,1] ?_ (AQ f1);exact wE
 .have f1:decide (n.AJ>=0)=false:=yY h1;rw[yY h1,q0Z];refine Ae [0,1] ?_ (AQ f1);exact wE
theorem wC(n:A6):yB 96 [.ptr 0 0 76] [.c (BI n)] (.y7 (decide (0<=n.bad))) [.c (BI n)]:=by
 refine zD AK Tryz.func96 ?_;unfold BI;refine A9 [0,1] ?_;exact wE
theorem wD(n:A6):yB 97 [.ptr 0 0 76] [.c (BI n)] (.y7 (decide (0<=n.next)&&decide (n.next<16))) [.c (BI n)]:=by
 refine zD AK Tryz.func97 ?_;unfold BI
 by_cases h1:0<=n.next
 .have f1:decide (n.next>=0)=true:=yX h1;rw[yX h1,zy];refine Ae [0,1] ?_ (AQ f1);exact wE
 .have f1:decide (n.next>=0)=false:=yY h1;rw[yY h1,q0Z];refine Ae [0,1] ?_ (AQ f1);exact wE
theorem wF(n:A6)(h:P1 n):yB 98 [.ptr 0 0 76] [.c (BI n)] (.y7 (AZ n.A4)) [.c (BI n)]:=by
 have c1:=U1 n.A4 (by have:=h.vb;omega) (by have:=h.vl;omega);refine zD AK Tryz.func98 ?_;generalize AZ n.A4=b at *;unfold AB.d AB.A1 at c1;unfold BI;refine AP [0,1] ?_ (AQ @c1);exact wE
theorem wG(n:A6)(h:P1 n):yB 100 [.ptr 0 0 76] [.c (BI n)] (.y7 (decide (n.AI.id=n.A4.id)&&Bc n.AI)) [.c (BI n)]:=by
 have c1:=kP n.AI h.cl;refine zD AK Tryz.func100 ?_;generalize Bc n.AI=b at *;unfold Calls.d Calls.A1 at c1;unfold BI
 by_cases h1:n.AI.id=n.A4.id
 .have f1:=B6 h1;rw[yX h1,zy];refine AD [0,1] ?_ (AQ f1) (AQ @c1);exact wE
 .have f1:=eq_false' h1;rw[yY h1,q0Z];refine AD [0,1] ?_ (AQ f1) (AQ @c1);exact wE
theorem wI(n:A6):yB 102 [.ptr 0 0 76] [.c (BI n)] (.y7 (Ci n.A3 n.BN)) [.c (BI n)]:=by
 have c1:=sO n.A3 n.BN;refine zD AK Tryz.func102 ?_;generalize Ci n.A3 n.BN=b at *;unfold BI;refine AP [0,1] ?_ (AQ @c1);exact wE
theorem wJ(n:A6)(h:P1 n):yB 104 [.ptr 0 0 76] [.c (BI n)] (.y7 (CK n.keep)) [.c (BI n)]:=by
 have c1:=r7 n.keep (by have:=h.kn;omega);refine zD AK Tryz.func104 ?_;generalize CK n.keep=b at *;unfold BI;refine AP [0,1] ?_ (AQ @c1);exact wE
theorem wK(n:A6)(h:P1 n):yB 106 [.ptr 0 0 76] [.c (BI n)] (.y7 (Fw n.BL)) [.c (BI n)]:=by
 have c1:=sI n.BL h.sl (by have:=h.sn;omega);refine zD AK Tryz.func106 ?_;generalize Fw n.BL=b at *;unfold BI;refine AP [0,1] ?_ (AQ @c1);exact wE
theorem tY(n:A6)(x:Past):yB 109 [.d x.d,.ptr 0 0 76] [.c (BI n)] (.y7 (decide (x.AA.Ax≠n.A4.id))) [.c (BI n)]:=by
 refine zD AK Tryz.func109 ?_;unfold BI Past.d Past.A1
 by_cases h1:x.AA.Ax=n.A4.id
 .have f1:=BJ h1;rw[yY (fun hh=>hh h1)];refine Ae [0,1,2,3] ?_ (AQ f1);exact wE
 .have f1:=Bp h1;rw[yX h1];refine Ae [0,1,2,3] ?_ (AQ f1);exact wE
theorem lr(n:A6)(l:List Past)(hn:l.length<=9223372036854775807):yB 61 [.d (Aw l),.fn (.func 109) [] [.ptr 0 0 76]] [.c (BI n)] (.y5 (E3 (fun p=>decide (p.AA.Ax≠n.A4.id)) l)) [.c (BI n)]:=by
 refine zD AK Tryz.func61 ?_;have hC:=tY n;generalize hq:(fun p:Past=>decide (p.AA.Ax≠n.A4.id))=q at *;have hC':∀x,yB 109 [.d x.d,.ptr 0 0 76] [.c (BI n)] (.y7 (q x)) [.c (BI n)]:=fun x=>by have:=hC x;rw[<-hq];exact this
 clear hC;refine A9 MM ?_;refine BA (fun k=>k<=l.length/\(l.take k).any q=false) (fun k:Nat=>[(8,.y5 k)]) (fun k=>l.length-k) 0 ⟨yx _,rfl⟩ (fun _=>rfl) ?_ ?_
 .exact A5.ck rfl
 rintro k ⟨hk,hpre⟩
 by_cases hkl:k<l.length
 .obtain⟨x,hx⟩:=AS hkl;have hA:=EB (p:=q) hx;rw[hpre,q0N]at hA;have c1:=hC' x;unfold Past.d Past.A1 at c1
  cases hb:q x with
  |true=>
   rw[hb]at c1;have ix1:=hx;refine Cd MM ?_ (E8 [0] c1);clear ix1;with_reducible repeat' first|constructor|intro hc
   rw[KA hx hb hpre];exact wE
  |false=>
   rw[hb]at c1;have ix1:=hx;refine Cd MM ?_ (E8 [0] c1);clear ix1;with_reducible repeat' first|constructor|intro hc
   refine⟨k+1,⟨hkl,by rw[hA,hb]⟩,om,yV _,?_⟩;exact A5.ck rfl
 .have e:k=l.length:=om
  subst e;rw[zU]at hpre;refine A9 MM ?_;with_reducible repeat' first|constructor|intro hc
  rw[I0 hpre];exact wE
theorem lV(n:A6)(l:List Past)(hn:l.length<=9223372036854775807):yB 27 [.d (Aw l),.fn (.func 109) [] [.ptr 0 0 76]] [.c (BI n)] (.y7 (l.any fun p=>decide (p.AA.Ax≠n.A4.id))) [.c (BI n)]:=by
 refine zD AK Tryz.func27 ?_;have c1:=lr n l hn;rw[<-GM];generalize E3 (fun p:Past=>decide (p.AA.Ax≠n.A4.id)) l=z at *;refine Cd [0,1,4] ?_ (E8 [0] c1);exact wE
theorem wM(n:A6)(h:P1 n):yB 108 [.ptr 0 0 76] [.c (BI n)] (.y7 (Pg n)) [.c (BI n)]:=by
 have c1:=lV n n.BL (by have:=h.sn;omega);refine zD AK Tryz.func108 ?_;unfold Pg;generalize(n.BL.any fun p=>decide (p.AA.Ax≠n.A4.id))=b at *;unfold BI;refine Cd [0,1] ?_ (E8 [0] c1);exact wE
theorem oL(n:A6)(h:P1 n):yA 55 [n.d] (.b (Ch n)):=by
 refine zF AK Tryz.func55 ?_;have c1:=uA n _ _ _ _ _ _ _ _ _ (wB n) (wC n) (wD n) (wF n h) (wG n h) (wI n) (wJ n h) (wK n h) (wM n h);unfold Ch;generalize((decide (0<=n.AJ)&&decide (n.AJ<=1099511627776))&&_)=B at *;refine Cd [0,1,2] ?_ (E8 [0,1] c1);exact zE
theorem HZ(j:B5)(h:j.left.length<=1048576):yA 74 [j.d] j.d:=by
 refine zF AK Tryz.func74 ?_;unfold B5.d B5.A1;refine A9 [0,1,2] ?_;with_reducible repeat' first|constructor|intro hc
 exact zE
theorem ZI(l:List AL)(h:l.length<=1048576):yA 75 [Bf l] (Bf l):=by
 refine zF AK Tryz.func75 ?_;refine A9 [0,2] ?_;with_reducible repeat' first|constructor|intro hc
 exact zE
theorem VR(v:AB)(h1:v.A2.length<=1048576)(h2:v.A8.length<=1048576):yA 71 [v.d] v.d:=by
 obtain⟨id,A2,A8,AO,f⟩:=v;replace h1:A2.length<=1048576:=h1;replace h2:A8.length<=1048576:=h2;refine zF AK Tryz.func71 ?_;refine A9 [0,1,2] ?_;with_reducible repeat' first|constructor|intro hc
 exact BO (yg @AB.d.eq_1 @AB.A1.eq_1)
theorem oV(l:List Past)(hl:∀x∈l,Co x.AA)(hn:l.length<=1048576):yA 73 [Aw l] (Aw l):=by
 refine zF AK Tryz.func73 ?_;refine A9 [0,2,3,4,5,9] ?_;with_reducible repeat' first|constructor|intro hc
 refine Av (A5.EQ 3 (.sl 17 []) rfl rfl rfl (by simp[Aq])) sm ?_;refine CO (fun k=>k<=l.length) (fun k:Nat=>[(3,.sl 0 (l.take k).length 17),(4,.y5 k)]) (fun k=>[(0,.a (Aw (l.take k)))]) (fun k=>l.length-k) 0 (yx _) (fun _=>rfl) (fun _=>rfl) ?_ ?_
 .exact A5.ck rfl
 intro k hk;have htl:(l.take k).length<=k:=q0Q _ _
 by_cases hkl:k<l.length
 .obtain⟨x,hx⟩:=AS hkl;have c1:=F9 x.AA (hl x (zM hx));have hn:=AM hx;unfold AE.d AE.A1 at c1;have ix1:=hx;refine AP [0,2,3,4,5,9] ?_ (AQ @c1);clear ix1;with_reducible repeat' first|constructor|intro hc
  refine⟨k+1,hkl,om,yV _,?_⟩;exact(have nC:=yg hn (yg @Aw.eq_1 @Past.A1.eq_1);A5.cn rfl)
 .have e:k=l.length:=om
  subst e;rw[zU];refine A9 [0,2,3,4,5,9] ?_;with_reducible repeat' first|constructor|intro hc
  exact zE
theorem Jh(c:Calls)(hl:∀x∈c.op,Co x.Cl)(hn:c.op.length<=1048576):yA 72 [c.d] c.d:=by
 obtain⟨id,Ah,l⟩:=c;replace hl:∀x∈l,Co x.Cl:=hl;replace hn:l.length<=1048576:=hn;refine zF AK Tryz.func72 ?_;unfold Calls.d Calls.A1;refine A9 [0,1,2,3,4,5,10] ?_;refine Av (A5.EQ 3 (.sl 20 []) rfl rfl rfl (by simp[Aq])) sm ?_;refine CO (fun k=>k<=l.length) (fun k:Nat=>[(3,.sl 2 (l.take k).length 20),(4,.y5 k)]) (fun k=>[(2,.a (C3 (l.take k)))]) (fun k=>l.length-k) 0 (yx _) (fun _=>rfl) (fun _=>rfl) ?_ ?_
 .exact A5.ck rfl
 intro k hk;have htl:(l.take k).length<=k:=q0Q _ _
 by_cases hkl:k<l.length
 .obtain⟨x,hx⟩:=AS hkl;have c1:=F9 x.Cl (hl x (zM hx));have hn:=AM hx;unfold AE.d AE.A1 at c1;have ix1:=hx;refine AP [0,1,2,3,4,5,10] ?_ (AQ @c1);clear ix1;with_reducible repeat' first|constructor|intro hc
  refine⟨k+1,hkl,om,yV _,?_⟩;exact(have nC:=yg hn (yg @C3.eq_1 @B4.A1.eq_1);A5.cn rfl)
 .have e:k=l.length:=om
  subst e;rw[zU];refine A9 [0,1,2,3,4,5,10] ?_;with_reducible repeat' first|constructor|intro hc
  exact zE
theorem EJ(n:A6)(h:P1 n):yA 37 [n.d] n.d:=by
 have c1:=VR n.A4 (by have:=h.vb;omega) (by have:=h.vl;omega);have c2:=Jh n.AI h.cl h.cn;have c3:=oV n.BL h.sl h.sn;have c4:=HZ n.Ag h.fl;have c5:=HZ n.Ak h.ml;have c6:=HZ n.Aj h.tl;have c7:=ZI n.keep h.kn;refine zF AK Tryz.func37 ?_;unfold AB.d AB.A1 at c1;unfold Calls.d Calls.A1 at c2;unfold B5.d B5.A1 at c4 c5 c6;refine AP [0,1,2] ?_ (jT @c1 @c2 @c3 @c4 @c5 @c6 @c7);with_reducible repeat' first|constructor|intro hc
 exact BO (yg @A6.d.eq_1 (yg @A6.A1.eq_1 (yg @AB.A1.eq_1 (yg @Calls.A1.eq_1 @B5.A1.eq_1))))
theorem KN(n:A6)(h:P1 n):yA 79 [n.d] (.b (Pg n)):=by
 refine zF AK Tryz.func79 ?_;have hn:n.BL.length<=1048576:=h.sn;have hT:Pg n= !(n.BL.any fun p=>decide (p.AA.Ax≠n.A4.id)):=rfl;generalize hq:(fun p:Past=>decide (p.AA.Ax≠n.A4.id))=q at *;have hq':∀x:Past,(x.AA.Ax !=n.A4.id)=q x:=fun x=>by rw[<-hq];by_cases e:x.AA.Ax=n.A4.id<;>simp[e]
 refine A9 [0,1,2,3,8,21] ?_;refine BA (fun k=>k<=n.BL.length/\(n.BL.take k).any q=false) (fun k:Nat=>[(3,.y5 k)]) (fun k=>n.BL.length-k) 0 ⟨yx _,rfl⟩ (fun _=>rfl) ?_ ?_
 .exact A5.ck rfl
 rintro k ⟨hk,hpre⟩
 by_cases hkl:k<n.BL.length
 .obtain⟨x,hx⟩:=AS hkl;have hA:=EB (p:=q) hx;rw[hpre,q0N]at hA;have f1:=hq' x
  cases hb:q x with
  |true=>
   rw[hb]at f1;have ix1:=hx;refine Ae [0,1,2,3,8,21] ?_ (AQ f1);clear ix1;with_reducible repeat' first|constructor|intro hc
   refine⟨_,_,rfl,rfl,?_⟩;simp only[C4];rw[hT,dC hx hb];rfl
  |false=>
   rw[hb]at f1;have ix1:=hx;refine Ae [0,1,2,3,8,21] ?_ (AQ f1);clear ix1;with_reducible repeat' first|constructor|intro hc
   refine⟨k+1,⟨hkl,by rw[hA,hb]⟩,om,yV _,?_⟩;exact A5.ck rfl
 .have e:k=n.BL.length:=om
  subst e;rw[zU]at hpre;refine A9 [0,1,2,3,8,21] ?_;with_reducible repeat' first|constructor|intro hc
  refine⟨_,_,rfl,rfl,?_⟩;simp only[C4];rw[hT,hpre];rfl
theorem VQ(n:A6)(h:P1 n):yA 43 [n.d] (.b (Ch n)):=by
 have c1:=KN n h;have c2:=QU n.A4 h.id h.li (by have:=h.vb;omega) (by have:=h.vl;omega);have c3:=I8 n.AI h.cl (by have:=h.cn;omega);have c4:=oW n.BL h.sl (by have:=h.sn;omega);have c5:=LZ n.A3 n.BN;have c6:=LY n.keep (by have:=h.kn;omega);have hT:Ch n=((decide (0<=n.AJ)&&decide (n.AJ<=1099511627776))&&(decide (0<=n.bad)&&((decide (0<=n.next)&&decide (n.next<16))&&(AZ n.A4&&((decide (n.AI.id=n.A4.id)&&Bc n.AI)&&(Ci n.A3 n.BN&&(CK n.keep&&(Fw n.BL&&Pg n)))))))):=rfl;unfold AB.d AB.A1 at c2;unfold Calls.d Calls.A1 at c3;refine zF AK Tryz.func43 ?_;generalize Ch n=R at *;generalize Pg n=g1 at *;generalize AZ n.A4=g2 at *;generalize Bc n.AI=g3 at *;generalize Fw n.BL=g4 at *;generalize Ci n.A3 n.BN=g5 at *;generalize CK n.keep=g6 at *;clear h;refine AP [0,1,2] ?_ (jS @c1 @c2 @c3 @c4 @c5 @c6);repeat'(apply zB<;>intro hc)
 all_goals(clear c1 c2 c3 c4 c5 c6;refine⟨_,_,rfl,rfl,?_⟩;simp only[C4];refine congrArg D.b ?_;rw[hT];clear hT;grind)
end Nd
end Go.Proofs.YthlmmkmeoblbhaaGreat
namespace Go.Proofs.YthlmmkmeoblbhaaGreat
namespace Nd
open Go.Gar
open Wi (AE BE Ay AU C2)
def Ko(a x b:Int):Bool:=Dt a x b||decide (C9 x=C9 b)
def WJ(id k p q:Int):Int:=if Dt id q k&&decide (An id q>An id p)then q else p
def vh(v:AB):Ao:=FJ v::(v.A8++(Hy v.f).filter fun p=>p != -1)
def F4(v:AB)(k:Int)(BX:Bool):Int×Bool:=
 if AZ v then(if Ko v.id k (FJ v)then(FJ v,true)else if BX then(FJ v,false)else((vh v).foldl (WJ v.id k) (FJ v),false))else(-1,false)
abbrev Va:CM:=⟨0,0,0,false,false,0⟩
def Ec(l:CM):Bool:=(BG l.AH&&BG l.Ck&&decide (0<=l.Cs)&&decide (l.Cs<=41))&&(if l.Cs>40 then decide (l.Ab=211)&& !l.Dz else decide (l.Ab=0))
def lookO(l:CM):Bool:=l.Dz||decide (l.Ab≠0)
def ZY(v:AB)(AH:Int):CM:=if AZ v then⟨C9 AH,(F4 v (C9 AH) false).1,0,false,(F4 v (C9 AH) false).2,0⟩else Va
def PU(l:CM):CM:=⟨l.AH,l.Ck,l.Cs+1,l.BX,l.Dz,if l.Cs+1>40 then 211 else l.Ab⟩
def Tz(v:AB)(l:CM)(m:AE):Bool:=decide (m.AG=10)&&(decide (m.Ax=l.Ck)&&(decide (m.dst=v.id)&&m.right))
def pJ(v:AB)(l:CM)(m:AE):Int×Bool:=if m.AY=v.id/\m.done=false then F4 v l.AH l.BX else(m.AY,m.done)
def P4(v:AB)(l:CM)(m:AE):CM:=
 if AZ v&&(Ec l&& !lookO l)then(if Tz v l m then(if l.Cs+1>40 then PU l else⟨l.AH,(pJ v l m).1,l.Cs+1,l.BX,(pJ v l m).2,l.Ab⟩)else l)else l
def ZZ(v:AB)(l:CM):CM:=
 if AZ v&&(Ec l&& !lookO l)then(if l.Cs+1>40 then PU l else⟨l.AH,(F4 v l.AH true).1,l.Cs+1,true,(F4 v l.AH true).2,l.Ab⟩)else l
def Vn(l:CM):AE:=⟨4,0,0,l.Ck,l.AH,l.BX,false,0,0,[],AN,0⟩
def xG(l:CM):AE×Bool:=if lookO l|| !Ec l then(AU,false)else(Vn l,true)
def WW(Ck:Int)(b:UInt8):Int:=C9 (40503*C9 Ck+(b.toNat:Int)+1)
def YY(s:AT):Int:=s.foldl WW 7
def Fh(s:AT):Int×Int:=if C2 s then(YY s,0)else(0,2)
def Cc(k:List AL)(AH:AT):Nat:=(k.takeWhile fun x=>decide (x.AH<AH)).length
def hasK(k:List AL)(AH:AT):Bool:=decide (Cc k AH<k.length)&&decide ((k.getD (Cc k AH) AN).AH=AH)
def LP(x y:AL):Bool:=decide (JU x y>0)
def Fj(k:List AL)(x:AL):List AL×Int:=
 if CK k&&Ay x then
  (if hasK k x.AH then(if LP x (k.getD (Cc k x.AH) AN)then k.set (Cc k x.AH) x else k,0)
   else if k.length>=24 then(k,200)else(k.take (Cc k x.AH)++x::k.drop (Cc k x.AH),0))
 else(k,2)
def Et(k:List AL)(AH:AT):AL×Int:=if CK k&&hasK k AH then(k.getD (Cc k AH) AN,0)else(AN,201)
structure JC where
 job:B5
 BW:List AE
 own:Bool
abbrev FU(j:B5):B5:=⟨j.AR,5,j.Am,j.AC,j.Ar,[],j.Ab⟩
abbrev F5(j:B5)(e:Int):B5:=⟨j.AR,j.A3,j.Am,j.AC,j.Ar,j.left,e⟩
def FY:Ao->Ao
 |[]=>[]
 |[a]=>[a]
 |[a,b]=>a::(if b=a then[]else[b])
 |a::b::c::_=>a::((if b=a then[]else[b])++(if c=a\/c=b then[]else[c]))
def N8(x:AL)(p:Int):AE:=⟨5,0,0,p,0,false,false,0,0,[],x,0⟩
def Ky(id:Int)(j:B5)(Ar:Int)(l:Ao):JC:=
 let ps:=FY (Ar::l);let left:=ps.filter fun p=>p !=id
 ⟨⟨j.AR,if left=[]then 5 else 3,j.Am,j.AC,j.Ar,left,j.Ab⟩,left.map (N8 j.AC),decide (id∈ps)⟩
def IL(p:Int):AE:=⟨1,0,0,p,0,false,false,0,0,[],AN,0⟩
def Vm(p:Int)(AH:AT):AE:=⟨6,0,0,p,0,false,false,0,0,[],⟨AH,0,0,false⟩,0⟩
def ER(v:AB)(j:B5):JC:=
 if j.Am.Ab≠0 then⟨FU (F5 j j.Am.Ab),[],false⟩
 else if j.Am.Dz=false then⟨⟨j.AR,1,j.Am,j.AC,j.Ar,j.left,j.Ab⟩,if(xG j.Am).2 then[(xG j.Am).1]else[],false⟩
 else if j.AR=1 then⟨FU (F5 ⟨j.AR,j.A3,j.Am,j.AC,j.Am.Ck,j.left,j.Ab⟩ 0),[],false⟩
 else if j.AR=2/\j.Am.Ck=v.id then Ky v.id ⟨j.AR,j.A3,j.Am,j.AC,j.Am.Ck,j.left,j.Ab⟩ j.Am.Ck v.A8
 else if j.AR=2 then⟨⟨j.AR,2,j.Am,j.AC,j.Am.Ck,j.left,j.Ab⟩,[IL j.Am.Ck],false⟩
 else if j.Am.Ck=v.id then⟨FU (F5 ⟨j.AR,j.A3,j.Am,j.AC,j.Am.Ck,j.left,j.Ab⟩ 0),[],true⟩
 else⟨⟨j.AR,4,j.Am,j.AC,j.Am.Ck,j.left,j.Ab⟩,[Vm j.Am.Ck j.AC.AH],false⟩
def Hp(j:B5)(p e:Int):B5:=
 if p∈j.left then
  ⟨j.AR,if E1 j.left p=[]then 5 else j.A3,j.Am,j.AC,j.Ar,E1 j.left p,if e≠0 then e else j.Ab⟩
 else j
abbrev Hb:B5:=⟨0,0,Va,AN,0,[],0⟩
def PH(AR AY:Int)(x:AL):Int×AL×Bool:=
 if AR=1 then(AY,AN,decide (0<=AY)&&decide (AY<65536))
 else if AR=2 then((Fh x.AH).1,x,decide ((Fh x.AH).2=0)&&Ay x)
 else if AR=3 then((Fh x.AH).1,⟨x.AH,0,0,false⟩,decide ((Fh x.AH).2=0))
 else(0,AN,false)
def JL(v:AB)(AR AY:Int)(x:AL):JC:=
 if(PH AR AY x).2.2&&AZ v then ER v ⟨AR,0,ZY v (PH AR AY x).1,(PH AR AY x).2.1,0,[],0⟩
 else⟨⟨AR,5,Va,AN,0,[],2⟩,[],false⟩
def FV(v:AB)(j:B5)(m:AE):JC:=
 if AZ v&&(m.right&&decide (m.dst=v.id))then
  (if j.A3=1 then(if m.AG=10/\m.Ax=j.Am.Ck then ER v ⟨j.AR,j.A3,P4 v j.Am m,j.AC,j.Ar,j.left,j.Ab⟩else⟨j,[],false⟩)
   else if j.A3=2 then(if m.AG=7/\m.Ax=j.Ar then Ky v.id j j.Ar m.A8 else⟨j,[],false⟩)
   else if j.A3=3 then(if m.AG=11 then⟨Hp j m.Ax m.Ab,[],false⟩else⟨j,[],false⟩)
   else if j.A3=4 then(if m.AG=12/\m.Ax=j.Ar then⟨FU (F5 ⟨j.AR,j.A3,j.Am,if m.Ab=0 then m.AC else j.AC,j.Ar,j.left,j.Ab⟩ m.Ab),[],false⟩else⟨j,[],false⟩)
   else⟨j,[],false⟩)
 else⟨j,[],false⟩
def FT(v:AB)(j:B5)(d:Int):JC:=
 if AZ v then
  (if j.A3=1 then(if j.Am.Ck=d then ER v ⟨j.AR,j.A3,ZZ v j.Am,j.AC,j.Ar,j.left,j.Ab⟩else⟨j,[],false⟩)
   else if j.A3=2\/j.A3=4 then(if j.Ar=d then⟨FU (F5 j 210),[],false⟩else⟨j,[],false⟩)
   else if j.A3=3 then⟨Hp j d 210,[],false⟩
   else⟨j,[],false⟩)
 else⟨j,[],false⟩
def FC(x s:Int)(l:Ao):Ao:=
 if BG s&&decide (s≠C9 x)then s::makR x s l 2 else[]
where makR (x Ck:Int):Ao->Nat->Ao
 |[],_=>[]
 |_::_,0=>[]
 |p::r,n+1=>if BG p&&decide (An x p>An x Ck)then p::makR x p r n else[]
structure SC where
 A4:AB
 A3:Int
 BN:Int
def Kc(A3 BN:Int):List (AE×Int):=
 if A3=1\/A3=2 then[(IL BN,A3)]else if A3=3 then[(⟨3,0,0,BN,0,false,false,0,0,[],AN,0⟩,3)]else[]
def U9(v:AB)(A3 BN:Int)(m:AE):Bool:=
 decide (A3≠0)&&(decide (m.AG=(if A3=3 then 9 else 7))&&(decide (m.Ax=BN)&&(decide (m.dst=v.id)&&m.right)))
def D1(v:AB)(A3 BN:Int)(m:AE):SC×List (AE×Int):=
 if AZ v&&(Ci A3 BN&&U9 v A3 BN m)then
  (if A3=3 then(⟨v,0,0⟩,[])
   else
    let w:=FB v (FC v.id m.Ax m.A8)
    if A3=1/\m.AO≠ -1/\Dt v.id m.AO m.Ax=true then(⟨w,2,m.AO⟩,Kc 2 m.AO)
    else(⟨w,3,FJ w⟩,Kc 3 (FJ w)))
 else(⟨v,A3,BN⟩,[])
def Dw(v:AB)(A3 BN d:Int):SC:=
 if AZ v&&Ci A3 BN then(if A3≠0/\BN=d then⟨Ca v d,0,0⟩else⟨Ca v d,A3,BN⟩)else⟨v,A3,BN⟩
def L0(f:Nat->Int)(i:Nat)(p:Int):Nat->Int:=fun k=>if k=i then p else f k
def UB(v:AB)(i Ar:Int):AB×Int:=
 if(decide (0<=i)&&(decide (i<16)&&AZ v))&&BG Ar then(⟨v.id,v.A2,v.A8,v.AO,L0 v.f i.toNat (if Ar=v.id then -1 else Ar)⟩,0)else(v,2)
def VW(n:A6)(BH:Int):Option B5:=if BH=5 then some n.Ag else if BH=6 then some n.Ak else if BH=7 then some n.Aj else none
def FL(n:A6)(BH:Int)(j:B5):A6:=
 if BH=5 then{n with Ag:=j}else if BH=6 then{n with Ak:=j}else{n with Aj:=j}
def Df(k:List AL)(j:B5):List AL×B5:=
 if j.AR=2 then((Fj k j.AC).1,if(Fj k j.AC).2≠0 then F5 j (Fj k j.AC).2 else j)
 else if j.AR=3 then(k,if(Et k j.AC.AH).2=0 then⟨j.AR,j.A3,j.Am,(Et k j.AC.AH).1,j.Ar,j.left,0⟩else F5 j (Et k j.AC.AH).2)
 else(k,j)
def K7(n:A6):A6:=
 {n with
  A4:=if n.Ag.Ab=0 then(UB n.A4 n.next n.Ag.Ar).1 else n.A4
  next:=(n.next+1).tmod 16}
def Cv(n:A6)(BH:Int)(ended:Bool)(c:JC):A6×List (AE×Int):=
 let s:=if c.own then Df n.keep c.job else(n.keep,c.job)
 let n1:=FL {n with keep:=s.1} BH s.2
 (if BH=5/\ended=false/\s.2.A3=5 then K7 n1 else n1,c.BW.map fun m=>(m,BH))
def CL(n:A6)(BH AR AY:Int)(x:AL):A6×List (AE×Int):=
 if(decide (5<=BH)&&decide (BH<=7))&&Ch n then Cv n BH false (JL n.A4 AR AY x)else(n,[])
def Bj(n:A6)(BH:Int):B5:=(VW n BH).getD Hb
def CQ(n:A6)(c:B4)(m:AE):A6×List (AE×Int):=
 if Ch n then
  (if 1<=c.BH/\c.BH<=3 then
   let r:=D1 n.A4 n.A3 n.BN m
   ({n with A4:=r.1.A4,A3:=r.1.A3,BN:=r.1.BN},r.2)
   else if 5<=c.BH/\c.BH<=7 then Cv n c.BH (decide ((Bj n c.BH).A3=5)) (FV n.A4 (Bj n c.BH) m)
   else(n,[]))
 else(n,[])
def Bu(n:A6)(c:B4):A6×List (AE×Int):=
 if Ch n then
  let n1:={n with A4:=Ca n.A4 c.Cl.dst}
  (if 1<=c.BH/\c.BH<=3 then
   let r:=Dw n1.A4 n.A3 n.BN c.Cl.dst
   ({n1 with A4:=r.A4,A3:=r.A3,BN:=r.BN},[])
   else if 5<=c.BH/\c.BH<=7 then Cv n1 c.BH (decide ((Bj n c.BH).A3=5)) (FT n1.A4 (Bj n c.BH) c.Cl.dst)
   else(n1,[]))
 else(n,[])
def ED(n:A6)(BH:Int):A6:=
 if Ch n then
  (if 1<=BH/\BH<=3 then{n with A3:=0,BN:=0}
   else if(5<=BH/\BH<=7)/\(Bj n BH).A3≠5 then(Cv n BH false ⟨FU (F5 (Bj n BH) 100),[],false⟩).1
   else n)
 else n
theorem So{a b c:AT}(h:a<b)(k:b<c):a<c:=List.lt_trans h k
theorem ug(a b:AT):a<b\/a=b\/b<a:=by
 by_cases h:a<b
 .exact .inl h
 by_cases h2:b<a
 .exact .inr (.inr h2)
 exact .inr (.inl (List.le_antisymm (List.not_lt.1 h2) (List.not_lt.1 h)))
abbrev kS(l:List AL):Prop:=l.Pairwise fun x y=>x.AH<y.AH
theorem mK:∀(l:List AL),(∀k,k<l.length->k=0\/(l.getD (k-1) AN).AH<(l.getD k AN).AH)->kS l
 |[],_=>List.Pairwise.nil
 |[a],_=>by simp[kS]
 |a::b::r,h=>by
  have ih:=mK (b::r) (fun k hk=>by
   rcases q0x k with e|e
   .exact .inl e
   .have:=h (k+1) (by simpa using hk);obtain⟨j,rfl⟩:∃j,k=j+1:=⟨k-1,om⟩
    simpa using this)
  have hab:a.AH<b.AH:=by
   have:=h 1 sm;simpa using this
  refine q1M.2 ⟨fun x hx=> ?_,ih⟩;rcases q0C.1 hx with rfl|hx
  .exact hab
  .exact So hab ((q1M.1 ih).1 x hx)
variable {l:List AL}
theorem CI:CK l=true↔l.length<=24/\(∀x∈l,Ay x=true)/\kS l:=by
 unfold CK;rw[yU,yc,Ex];constructor
 .rintro⟨h1,h2⟩;refine⟨h1,fun x hx=> ?_,mK l fun k hk=> ?_⟩
  .obtain⟨k,hk,rfl⟩:=List.getElem_of_mem hx;have:=h2 k hk;unfold GN at this;rw[yU,getD_at (yj hk)]at this;exact this.1
  .have:=h2 k hk;unfold GN at this;rw[yU,yc]at this;exact this.2
 .rintro⟨h1,h2,h3⟩;refine⟨h1,fun k hk=> ?_⟩;unfold GN;rw[yU,yc,getD_at (yj hk)];refine⟨h2 _ (q0a hk),?_⟩;rcases q0x k with e|e
  .exact .inl e
  .right;rw[getD_at (yj (show k-1<l.length by omega))];exact q0L.1 h3 (k-1) k om hk om
theorem Jf(AH:AT):∀(l:List AL),kS l->(∀x∈l.take (Cc l AH),x.AH<AH)/\(∀x∈l.drop (Cc l AH),¬x.AH<AH)
 |[],_=>by simp[Cc]
 |a::r,h=>by
  obtain⟨h1,h2⟩:=q1M.1 h
  by_cases e:a.AH<AH
  .have hp:Cc (a::r) AH=Cc r AH+1:=by unfold Cc;rw[List.takeWhile_cons_of_pos (by simpa using e)];rfl
   obtain⟨i1,i2⟩:=Jf AH r h2;rw[hp];refine⟨fun x hx=> ?_,fun x hx=>i2 x (by simpa using hx)⟩;rw[List.take_succ_cons]at hx;rcases q0C.1 hx with rfl|hx
   .exact e
   .exact i1 x hx
  .have hp:Cc (a::r) AH=0:=by unfold Cc;rw[List.takeWhile_cons_of_neg (by simpa using e)];rfl
   rw[hp];refine⟨fun x hx=>by simp at hx,fun x hx=> ?_⟩;rw[List.drop_zero]at hx;rcases q0C.1 hx with rfl|hx
   .exact e
   .exact fun hlt=>e (So (h1 x hx) hlt)
theorem bF(l:List AL)(AH:AT):Cc l AH<=l.length:=by
 unfold Cc;exact(List.takeWhile_sublist _).length_le
variable {AH:AT}
theorem OA(h:kS l):hasK l AH=true↔∃x∈l,x.AH=AH:=by
 unfold hasK;rw[yU,yc,yc];constructor
 .rintro⟨h1,h2⟩;rw[getD_at (yj h1)]at h2;exact⟨_,q0a h1,h2⟩
 .rintro⟨x,hx,rfl⟩;obtain⟨i1,i2⟩:=Jf x.AH l h
  have hx':x∈l.drop (Cc l x.AH):=by
   rw[<-q0J (Cc l x.AH) l,q04]at hx;rcases hx with hx|hx
   .exact absurd (i1 x hx) (q1d _)
   .exact hx
  have hlt:Cc l x.AH<l.length:=by
   rcases q0A (Cc l x.AH) l.length with h|h
   .exact h
   .rw[List.drop_eq_nil_of_le h]at hx';cases hx'
  refine⟨hlt,?_⟩;rw[getD_at (yj hlt)];rw[q0V hlt]at hx';have hd:=(h.sublist (List.drop_sublist (Cc l x.AH) l));rw[q0V hlt]at hd;rcases q0C.1 hx' with e|hm
  .rw[<-e]
  .have h1:=(q1M.1 hd).1 x hm;exact absurd h1 (i2 _ (by rw[q0V hlt];exact q02 ..))
theorem Ix(h:hasK l AH=true):∃x,l[Cc l AH]? =some x/\x.AH=AH/\l.getD (Cc l AH) AN=x:=by
 unfold hasK at h;rw[yU,yc,yc]at h;have e:=yj h.1;rw[getD_at e]at h;exact⟨_,e,h.2,getD_at e⟩
theorem mL:kS l↔(l.map AL.AH).Pairwise (·<·):=by rw[List.pairwise_map]
variable {x y:AL}
theorem og{i:Nat}(hy:l[i]? =some y)(h:x.AH=y.AH):(l.set i x).map AL.AH=l.map AL.AH:=by
 rw[List.map_set,h];apply List.ext_getElem?;intro j;rw[q18];split
 .rename_i e;subst e;rw[q03,hy,zY];have:=(yZ.1 hy).1;simp[this]
 .rfl
theorem OU(h:CK l=true):CK (Fj l x).1=true:=by
 unfold Fj;split
 .rename_i hc;rw[yU]at hc;obtain⟨h1,h2,h3⟩:=CI.1 h;split
  .rename_i hk;split
   .obtain⟨y,hy,hyk,_⟩:=Ix hk;refine CI.2 ⟨by simpa using h1,fun z hz=> ?_,?_⟩
    .rcases q0t hz with hz|rfl
     .exact h2 z hz
     .exact hc.2
    .rw[mL,og hy hyk.symm,<-mL];exact h3
   .exact h
  .rename_i hk;split
   .exact h
   .rename_i hl;obtain⟨i1,i2⟩:=Jf x.AH l h3;have hn:∀z∈l,z.AH≠x.AH:=fun z hz e=>hk ((OA h3).2 ⟨z,hz,e⟩)
    refine CI.2 ⟨?_,fun z hz=> ?_,?_⟩
    .have:=bF l x.AH;simp only[yw,yu,q09,q15];omega
    .rw[q04,q0C]at hz;rcases hz with hz|rfl|hz
     .exact h2 z (List.mem_of_mem_take hz)
     .exact hc.2
     .exact h2 z (List.mem_of_mem_drop hz)
    .have hd:∀z∈l.drop (Cc l x.AH),x.AH<z.AH:=fun z hz=>by
      rcases ug x.AH z.AH with e|e|e
      .exact e
      .exact absurd e.symm (hn z (List.mem_of_mem_drop hz))
      .exact absurd e (i2 z hz)
     refine List.pairwise_append.2 ⟨h3.sublist (List.take_sublist _ _),q1M.2 ⟨hd,h3.sublist (List.drop_sublist _ _)⟩,fun a ha b hb=> ?_⟩;rcases q0C.1 hb with rfl|hb
     .exact i1 a ha
     .exact So (i1 a ha) (hd b hb)
 .exact h
theorem T5(h:LP x y=true):LP y x=false:=by
 unfold LP at *;rw[yc]at h;rw[zn];obtain⟨k,v,n,g⟩:=x;obtain⟨k',v',n',g'⟩:=y;unfold JU at*
 revert h
 simp only;intro h
 repeat' split at h
 all_goals(try omega)
 all_goals(repeat' split)
 all_goals(try omega)
 all_goals simp_all
theorem HS(x:AL):LP x x=false:=by
 cases h:LP x x with
 |false=>rfl
 |true=>rw[T5 h]at h;cases h
theorem Yv(h:CK l=true)(hy:y∈l):(Et (Fj l x).1 y.AH).2=0/\LP y (Et (Fj l x).1 y.AH).1=false:=by
 have hr:=OU (x:=x) h;obtain⟨r1,r2,r3⟩:=CI.1 hr
 have AH:∃z∈(Fj l x).1,z.AH=y.AH/\LP y z=false:=by
  obtain⟨h1,h2,h3⟩:=CI.1 h;unfold Fj;split
  .split
   .rename_i hk;split
    .rename_i hnew;obtain⟨w,hw,hwk,hwg⟩:=Ix hk
     by_cases e:y.AH=x.AH
     .refine⟨x,q0e.2 ⟨Cc l x.AH,by rw[q08 (yZ.1 hw).1]⟩,e.symm,?_⟩
      have:y=w:=by
       obtain⟨i,hi,rfl⟩:=List.getElem_of_mem hy;obtain⟨hj,rfl⟩:=yZ.1 hw;rcases Nat.lt_trichotomy i (Cc l x.AH)with hlt|he|hlt
       .have:=q0L.1 h3 i _ hi hj hlt;rw[e,hwk]at this;exact absurd this (q1d _)
       .subst he;rfl
       .have:=q0L.1 h3 _ i hj hi hlt;rw[e,hwk]at this;exact absurd this (q1d _)
      rw[this];rw[hwg]at hnew;exact T5 hnew
     .refine⟨y,?_,rfl,HS y⟩;obtain⟨i,hi,rfl⟩:=List.getElem_of_mem hy;refine q0e.2 ⟨i,?_⟩;rw[q18]
      have hne:Cc l x.AH≠i:=by
       rintro rfl;rw[yj hi]at hw;cases hw;exact e hwk
      rw[zO hne];exact yj hi
    .exact⟨y,hy,rfl,HS y⟩
   .split
    .exact⟨y,hy,rfl,HS y⟩
    .refine⟨y,?_,rfl,HS y⟩;have:y∈l.take (Cc l x.AH)++l.drop (Cc l x.AH):=by rw[q0J];exact hy
     rw[q04]at this;rw[q04,q0C];rcases this with h|h
     .exact .inl h
     .exact .inr (.inr h)
  .exact⟨y,hy,rfl,HS y⟩
 obtain⟨z,hz,hzk,hnew⟩:=AH;have hk:hasK (Fj l x).1 y.AH=true:=(OA r3).2 ⟨z,hz,hzk⟩;obtain⟨w,hw,hwk,hwg⟩:=Ix hk
 have hzw:z=w:=by
  obtain⟨i,hi,rfl⟩:=List.getElem_of_mem hz;obtain⟨hj,rfl⟩:=yZ.1 hw;rcases Nat.lt_trichotomy i (Cc (Fj l x).1 y.AH)with hlt|he|hlt
  .have:=q0L.1 r3 i _ hi hj hlt;rw[hzk,hwk]at this;exact absurd this (q1d _)
  .subst he;rfl
  .have:=q0L.1 r3 _ i hj hi hlt;rw[hzk,hwk]at this;exact absurd this (q1d _)
 unfold Et;rw[hr,hk,hwg];exact⟨rfl,by rw[<-hzw];exact hnew⟩
theorem IR(h:CK l=true)(hy:y∈l):(Et l y.AH).2=0/\LP y (Et l y.AH).1=false:=by
 have:=Yv (x:=⟨[],0,0,false⟩) h hy
 have e:(Fj l ⟨[],0,0,false⟩).1=l:=by
  unfold Fj;rw[show Ay ⟨[],0,0,false⟩=false from rfl,q0W];rfl
 rwa [e]at this
variable {d:Int}
theorem Yg{id n:Int}(h:Eu id n=true):Eu id (if n=d then -1 else n)=true:=by
 split
 .simp[Eu]
 .exact h
structure N6 (v w:AB):Prop where
 id:w.id=v.id
 A2:w.A2=v.A2
 right:AZ v=true->AZ w=true
theorem N6.refl(v:AB):N6 v v:=⟨rfl,rfl,fun h=>h⟩
theorem N6.trans{a b c:AB}(h:N6 a b)(k:N6 b c):N6 a c:=⟨k.id.trans h.id,k.A2.trans h.A2,fun r=>k.right (h.right r)⟩
variable {v:AB}
theorem Jk(h1:BG v.id=true)(h2:CZ v.A2=true)(h3:CB v.id v.A8=true)(h4:Eu v.id v.AO=true)(h5:(Hy v.f).all (Eu v.id)=true):AZ v=true:=by
 unfold AZ;rw[h1,h2,h3,h4,h5];rfl
theorem Lq(v:AB)(d:Int):N6 v (Ca v d):=by
 unfold Ca;split
 .refine⟨rfl,rfl,fun hv=> ?_⟩;obtain⟨h1,h2,h3,h4,h5⟩:=Bz hv;refine Jk h1 h2 ?_ (Yg h4) ?_
  .simp only[CB,yU,yc]at h3|-;exact⟨q0E (Lr _ _) h3.1,Pn _ _ _ _ h3.2 (q0l _)⟩
  .show(Hy fun i=>if v.f i=d then -1 else v.f i).all (Eu v.id)=true;rw[q0I]at h5|-;intro x hx;simp only[Hy,q0C,q1e,or_false]at hx
   have h5':∀i,i<16->Eu v.id (v.f i)=true:=fun i hi=>h5 _ (by
    rcases YO hi with rfl|rfl|rfl|rfl|rfl|rfl|rfl|rfl|rfl|rfl|rfl|rfl|rfl|rfl|rfl|rfl<;>simp[Hy])
   rcases hx with rfl|rfl|rfl|rfl|rfl|rfl|rfl|rfl|rfl|rfl|rfl|rfl|rfl|rfl|rfl|rfl<;>exact Yg (h5' _ (by decide))
 .exact .refl v
theorem Ly(v:AB)(l:Ao):N6 v (FB v l):=by
 unfold FB;split
 .rename_i h;rw[yU]at h;refine⟨rfl,rfl,fun hv=> ?_⟩;obtain⟨h1,h2,-,h4,h5⟩:=Bz hv;exact Jk h1 h2 h.2 h4 h5
 .exact .refl v
theorem uU(v:AB)(i Ar:Int):N6 v (UB v i Ar).1:=by
 unfold UB;split
 .rename_i h;simp only[yU,yc]at h;refine⟨rfl,rfl,fun hv=> ?_⟩;obtain⟨h1,h2,h3,h4,h5⟩:=Bz hv;refine Jk h1 h2 h3 h4 ?_
  have hp:Eu v.id (if Ar=v.id then -1 else Ar)=true:=by
   split
   .simp[Eu]
   .rename_i hne;simp[Eu,h.2,hne]
  have h5':∀i,i<16->Eu v.id (v.f i)=true:=fun i hi=>(q0I.1 h5) _ (by
    rcases YO hi with rfl|rfl|rfl|rfl|rfl|rfl|rfl|rfl|rfl|rfl|rfl|rfl|rfl|rfl|rfl|rfl<;>simp[Hy])
  have hq:∀k,k<16->Eu v.id (L0 v.f i.toNat (if Ar=v.id then -1 else Ar) k)=true:=fun k hk=>by
   unfold L0;split
   .exact hp
   .exact h5' k hk
  rw[q0I];intro x hx;simp only[Hy,q0C,q1e,or_false]at hx;rcases hx with rfl|rfl|rfl|rfl|rfl|rfl|rfl|rfl|rfl|rfl|rfl|rfl|rfl|rfl|rfl|rfl<;>exact hq _ (by decide)
 .exact .refl v
theorem lG(v:AB)(i Ar:Int):(UB v i Ar).1.A8=v.A8:=by unfold UB;split<;>rfl
theorem ZO(d:Int)(hv:AZ v=true)(h:FI v.id v.A8 v.A2=false):FI (Ca v d).id (Ca v d).A8 (Ca v d).A2=false:=by
 by_cases hd:d∈v.A2
 .have e:Ca v d=v:=by unfold Ca;rw[hv,yX hd];rfl
  rw[e];exact h
 .have e:Ca v d=⟨v.id,v.A2,E1 v.A8 d,if v.AO=d then -1 else v.AO,fun i=>if v.f i=d then -1 else v.f i⟩:=by
   unfold Ca;rw[hv,yY hd];rfl
  have hr:=(Lq v d).right hv;rw[e]at hr|-;obtain⟨r1,r2,r3,-,-⟩:=Bz hv;obtain⟨-,-,q3,-,-⟩:=Bz hr;have hs:An v.id v.id=0:=by unfold An;omega
  have hb:=ME r2;simp only[CB,yU]at r3 q3
  cases hh:FI v.id (E1 v.A8 d) v.A2 with
  |false=>rfl
  |true=>
   obtain⟨b,h1,h2,⟨p,h3,h4⟩,h5⟩:=(bm hb (E1 v.A8 d) v.id (by rw[hs];exact q3.2)).1 hh;have hm:∀x:Int,x∈E1 v.A8 d↔x∈v.A8/\x≠d:=fun x=>by simp[E1,List.mem_filter]
   rw[(bm hb v.A8 v.id (by rw[hs];exact r3.2)).2 ⟨b,h1,h2,⟨p,((hm p).1 h3).1,h4⟩,fun hx=>h5 ((hm b).2 ⟨hx,fun e=>hd (e▸h1)⟩)⟩]at h;cases h
theorem mZ(x:Int)(A2:Ao):∀(l:Ao)(n:Nat)(a:Int),FI a l A2=false->FI a (FC.makR x a l n) A2=false
 |[],n,a,_=>by unfold FC.makR;rfl
 |p::r,0,a,_=>by unfold FC.makR;rfl
 |p::r,n+1,a,h=>by
  unfold FC.makR;simp only[FI,q14]at h;split
  .simp only[FI,q14];exact⟨h.1,mZ x A2 r n p h.2⟩
  .rfl
theorem xH{x s:Int}{l A2:Ao}(h1:FI x [s] A2=false)(h2:FI s l A2=false):FI x (FC x s l) A2=false:=by
 unfold FC;split
 .simp only[FI,q14]at h1|-;exact⟨h1.1,mZ x A2 l 2 s h2⟩
 .rfl
theorem gF{l:Ao}(h:FI v.id v.A8 v.A2=false)(hl:FI v.id l v.A2=false):FI (FB v l).id (FB v l).A8 (FB v l).A2=false:=by
 unfold FB;split
 .exact hl
 .exact h
theorem Nx(h:AZ v=true):BG (FJ v)=true/\FJ v≠v.id:=by
 obtain⟨r1,r2,r3,-,-⟩:=Bz h;unfold FJ;rw[zN h]
 cases hl:v.A8 with
 |nil=>exact⟨(L6 r1 r2).2.1,(L6 r1 r2).2.2⟩
 |cons p r=>
  rw[hl]at r3;simp only[CB,rT,yU,yc]at r3;refine⟨r3.2.1.1,?_⟩;show p≠v.id;rintro rfl;have:=r3.2.1.2;unfold An at this;omega
theorem CU(n:Int):BG n=BE n:=by
 unfold BG BE
 by_cases h1:0<=n<;>by_cases h2:n<65536<;>simp[h1,h2]
variable {A3 BN:Int}{m:AE}
theorem sk(hs:Ci A3 BN=true):N6 v (D1 v A3 BN m).1.A4/\Ci (D1 v A3 BN m).1.A3 (D1 v A3 BN m).1.BN=true:=by
 unfold D1;split
 .rename_i h;simp only[yU]at h;split
  .exact⟨.refl v,rfl⟩
  .have hw:=(Ly v (FC v.id m.Ax m.A8)).right h.1;simp only;split
   .rename_i hp;refine⟨Ly _ _,?_⟩;have hc:=h.2.2;unfold U9 at hc;simp only[yU,yc]at hc;have hk:m.AG=7:=by rw[hc.2.1,zO om]
    have hr:=hc.2.2.2.2;unfold AE.right AE.has at hr;simp only[yU]at hr;have hh:=hr.2.2;rw[hk]at hh
    have hpl:BE m.AO=true:=by
     revert hh
     simp only;intro hh;simp at hh
     grind
    show Ci 2 m.AO=true;unfold Ci;rw[zO (by decide),hpl];rfl
   .refine⟨Ly _ _,?_⟩;show Ci 3 (FJ _)=true;unfold Ci;rw[zO (by decide),<-CU,(Nx hw).1];rfl
 .exact⟨.refl v,hs⟩
theorem qO(hs:Ci A3 BN=true):N6 v (Dw v A3 BN d).A4/\Ci (Dw v A3 BN d).A3 (Dw v A3 BN d).BN=true:=by
 unfold Dw;split
 .split
  .exact⟨Lq v d,rfl⟩
  .exact⟨Lq v d,hs⟩
 .exact⟨.refl v,hs⟩
theorem sj(h0:0<=A3)(h:FI v.id v.A8 v.A2=false)(hm:FI m.Ax m.A8 v.A2=false)(ho:A3=1\/A3=2->FI v.id [BN] v.A2=false):
  FI (D1 v A3 BN m).1.A4.id (D1 v A3 BN m).1.A4.A8 (D1 v A3 BN m).1.A4.A2=false:=by
 unfold D1;split
 .rename_i hc;simp only[yU]at hc;split
  .exact h
  .rename_i h3;have hcn:=hc.2.2;unfold U9 at hcn;simp only[yU,yc]at hcn;have hst:=hc.2.1
   have hph:A3=1\/A3=2:=by
    unfold Ci at hst;rw[zO hcn.1]at hst;simp only[yU,yc]at hst;have h1:=hcn.1;have hle:=hst.1;omega
   have ho':=ho hph;rw[<-hcn.2.2.1]at ho';have hl:=gF h (xH ho' hm);simp only;split<;>exact hl
 .exact h
theorem qN(hv:AZ v=true)(h:FI v.id v.A8 v.A2=false):FI (Dw v A3 BN d).A4.id (Dw v A3 BN d).A4.A8 (Dw v A3 BN d).A4.A2=false:=by
 unfold Dw;split
 .split<;>exact ZO d hv h
 .exact h
variable {n:A6}
theorem Al:Ch n=true↔(0<=n.AJ/\n.AJ<=1099511627776)/\0<=n.bad/\(0<=n.next/\n.next<16)/\AZ n.A4=true/\(n.AI.id=n.A4.id/\Bc n.AI=true)/\Ci n.A3 n.BN=true/\CK n.keep=true/\Fw n.BL=true/\Pg n=true:=by
 unfold Ch;simp only[yU,yc]
structure jU (n w:A6):Prop where
 A4:N6 n.A4 w.A4
 AJ:w.AJ=n.AJ
 AI:w.AI=n.AI
 BL:w.BL=n.BL
 last:w.last=n.last
 bad:w.bad=n.bad
 right:Ch n=true->Ch w=true
 keep:CK n.keep=true->∀y∈n.keep,(Et w.keep y.AH).2=0/\LP y (Et w.keep y.AH).1=false
theorem jU.refl(n:A6):jU n n:=⟨.refl _,rfl,rfl,rfl,rfl,rfl,fun h=>h,fun h _ hy=>IR h hy⟩
theorem ix(k:List AL)(j:B5)(h:CK k=true):CK (Df k j).1=true/\∀y∈k,(Et (Df k j).1 y.AH).2=0/\LP y (Et (Df k j).1 y.AH).1=false:=by
 unfold Df;split
 .exact⟨OU h,fun y hy=>Yv h hy⟩
 .split<;>exact⟨h,fun y hy=>IR h hy⟩
variable {w:A6}
theorem nD(h:w.BL=n.BL)(k:w.A4.id=n.A4.id):Pg w=Pg n:=by unfold Pg;rw[h,k]
theorem jU.mk'(hv:N6 n.A4 w.A4)(h1:w.AJ=n.AJ)(h2:w.AI=n.AI)(h3:w.BL=n.BL)(h4:w.last=n.last)(h5:w.bad=n.bad)(h6:0<=n.next/\n.next<16->0<=w.next/\w.next<16)(h7:Ci n.A3 n.BN=true->Ci w.A3 w.BN=true)(h8:CK n.keep=true->CK w.keep=true/\∀y∈n.keep,(Et w.keep y.AH).2=0/\LP y (Et w.keep y.AH).1=false):jU n w:=by
 refine⟨hv,h1,h2,h3,h4,h5,fun h=> ?_,fun h=>(h8 h).2⟩;rw[Al]at h|-;obtain⟨a1,a2,a3,a4,a5,a6,a7,a8,a9⟩:=h;exact⟨by rw[h1];exact a1,by rw[h5];exact a2,h6 a3,hv.right a4,by rw[h2,hv.id];exact a5,h7 a6,(h8 a7).1,by rw[h3];exact a8,by rw[nD h3 hv.id];exact a9⟩
theorem rP{k:Int}(h:0<=k/\k<16):0<=(k+1).tmod 16/\(k+1).tmod 16<16:=by
 rw[q1Z om];omega
structure GOK (n:A6) (BH:Int) (c:JC) (w:A6):Prop where
 st:jU n w
 A8:w.A4.A8=n.A4.A8
 A3:w.A3=n.A3
 BN:w.BN=n.BN
 Ag:BH≠5->w.Ag=n.Ag/\w.next=n.next
 Ak:BH≠6->w.Ak=n.Ak
 Aj:BH=5\/BH=6->w.Aj=n.Aj
theorem qX(n:A6):N6 n.A4 (K7 n).A4/\(K7 n).A4.A8=n.A4.A8:=by
 unfold K7
 by_cases h:n.Ag.Ab=0
 .simp only[zN h];exact⟨uU ..,lG ..⟩
 .refine⟨?_,by simp only[zO h]⟩;simp only[zO h];exact .refl _
theorem xN(n:A6)(j:B5):FL n 5 j={n with Ag:=j}:=zN rfl
theorem xO(n:A6)(j:B5):FL n 6 j={n with Ak:=j}:=by unfold FL;rw[zO (by decide),zN rfl]
theorem xP(n:A6){BH:Int}(j:B5)(h5:BH≠5)(h6:BH≠6):FL n BH j={n with Aj:=j}:=by unfold FL;rw[zO h5,zO h6]
theorem D6(n:A6)(BH:Int)(ended:Bool)(c:JC):GOK n BH c (Cv n BH ended c).1:=by
 unfold Cv
 have hs:CK n.keep=true->CK (if c.own then Df n.keep c.job else(n.keep,c.job)).1=true/\∀y∈n.keep,(Et (if c.own then Df n.keep c.job else(n.keep,c.job)).1 y.AH).2=0/\LP y (Et (if c.own then Df n.keep c.job else(n.keep,c.job)).1 y.AH).1=false:=by
  intro h;split
  .exact ix _ _ h
  .exact⟨h,fun y hy=>IR h hy⟩
 generalize(if c.own then Df n.keep c.job else(n.keep,c.job))=s at *;obtain⟨k,j⟩:=s;dsimp only at hs|-
 by_cases h5:BH=5
 .subst h5;rw[xN];have hg:=qX {n with keep:=k,Ag:=j}
  by_cases hc:(5:Int)=5/\ended=false/\j.A3=5
  .rw[zN hc];exact⟨.mk' hg.1 rfl rfl rfl rfl rfl rP id hs,hg.2,rfl,rfl,fun h=>absurd rfl h,fun _=>rfl,fun _=>rfl⟩
  .rw[zO hc];exact⟨.mk' (.refl _) rfl rfl rfl rfl rfl id id hs,rfl,rfl,rfl,fun h=>absurd rfl h,fun _=>rfl,fun _=>rfl⟩
 .rw[zO (fun h=>h5 h.1)]
  by_cases h6:BH=6
  .subst h6;rw[xO];exact⟨.mk' (.refl _) rfl rfl rfl rfl rfl id id hs,rfl,rfl,rfl,fun _=>⟨rfl,rfl⟩,fun h=>absurd rfl h,fun _=>rfl⟩
  .rw[xP _ _ h5 h6];exact⟨.mk' (.refl _) rfl rfl rfl rfl rfl id id hs,rfl,rfl,rfl,fun _=>⟨rfl,rfl⟩,fun _=>rfl,fun h=>om⟩
theorem Ih(n:A6)(BH AR AY:Int)(x:AL):jU n (CL n BH AR AY x).1/\(CL n BH AR AY x).1.A4.A8=n.A4.A8:=by
 unfold CL;split
 .exact⟨(D6 ..).st,(D6 ..).A8⟩
 .exact⟨.refl _,rfl⟩
theorem OC(n:A6)(c:B4)(m:AE):jU n (CQ n c m).1:=by
 unfold CQ;split
 .rename_i hr;split
  .have h:=Al.1 hr;have ht:=sk (v:=n.A4) (m:=m) h.2.2.2.2.2.1;exact .mk' ht.1 rfl rfl rfl rfl rfl id (fun _=>ht.2) (fun hk=>⟨hk,fun y hy=>IR hk hy⟩)
  .split
   .exact(D6 ..).st
   .exact .refl _
 .exact .refl _
theorem Qu(n:A6)(c:B4):jU n (Bu n c).1:=by
 unfold Bu;have hd:=Lq n.A4 c.Cl.dst;split
 .rename_i hr;have h:=Al.1 hr;dsimp only;split
  .have ht:=qO (v:=Ca n.A4 c.Cl.dst) (d:=c.Cl.dst) h.2.2.2.2.2.1;exact .mk' (hd.trans ht.1) rfl rfl rfl rfl rfl id (fun _=>ht.2) (fun hk=>⟨hk,fun y hy=>IR hk hy⟩)
  .have n1:jU n {n with A4:=Ca n.A4 c.Cl.dst}:=.mk' hd rfl rfl rfl rfl rfl id id (fun hk=>⟨hk,fun y hy=>IR hk hy⟩);split
   .have g:=(D6 {n with A4:=Ca n.A4 c.Cl.dst} c.BH (decide ((Bj n c.BH).A3=5)) (FT (Ca n.A4 c.Cl.dst) (Bj n c.BH) c.Cl.dst)).st;exact⟨n1.A4.trans g.A4,g.AJ,g.AI,g.BL,g.last,g.bad,fun h=>g.right (n1.right h),g.keep⟩
   .exact n1
 .exact .refl _
theorem dE(n:A6)(BH:Int):jU n (ED n BH):=by
 unfold ED;split
 .split
  .exact .mk' (.refl _) rfl rfl rfl rfl rfl id (fun _=>rfl) (fun hk=>⟨hk,fun y hy=>IR hk hy⟩)
  .split
   .exact(D6 ..).st
   .exact .refl _
 .exact .refl _
abbrev tJ(n:A6):Bool:=FI n.A4.id n.A4.A8 n.A4.A2
theorem an(h:N6 n.A4 w.A4)(hl:w.A4.A8=n.A4.A8):tJ w=tJ n:=by unfold tJ;rw[h.id,h.A2,hl]
theorem lb{c:B4}(h0:0<=n.A3)(h:tJ n=false)(hm:FI m.Ax m.A8 n.A4.A2=false)(ho:n.A3=1\/n.A3=2->FI n.A4.id [n.BN] n.A4.A2=false):tJ (CQ n c m).1=false:=by
 unfold CQ;split
 .split
  .exact sj h0 h hm ho
  .split
   .rw[an (D6 ..).st.A4 (D6 ..).A8];exact h
   .exact h
 .exact h
theorem rF{c:B4}(h:tJ n=false):tJ (Bu n c).1=false:=by
 unfold Bu;split
 .rename_i hr;have hv:=(Al.1 hr).2.2.2.1;have h1:=ZO c.Cl.dst hv h;have hv1:=(Lq n.A4 c.Cl.dst).right hv;dsimp only;split
  .exact qN hv1 h1
  .split
   .rw[an (D6 ..).st.A4 (D6 ..).A8];exact h1
   .exact h1
 .exact h
end Nd
end Go.Proofs.YthlmmkmeoblbhaaGreat
namespace Go.Proofs.YthlmmkmeoblbhaaGreat
namespace Nd
open Go.Gar
open Wi (AE BE Ay AU C2 mC)
theorem rV:∀l:Ao,(FY l).length<=3
 |[]=>by simp[FY]
 |[a]=>by simp[FY]
 |[a,b]=>by simp only[FY];split<;>simp
 |a::b::c::_=>by simp only[FY,yu,yw];split<;>split<;>simp
theorem WP(id:Int)(j:B5)(Ar:Int)(l:Ao):(Ky id j Ar l).BW.length<=3/\(Ky id j Ar l).job.AC=j.AC/\(Ky id j Ar l).job.left.length<=3:=by
 unfold Ky;dsimp only;have h:=rV (Ar::l);have h2:=q0b (fun p=>p !=id) (FY (Ar::l));rw[zY];exact⟨om,rfl,om⟩
theorem WN(v:AB)(j:B5):(ER v j).BW.length<=3/\(ER v j).job.AC=j.AC/\(ER v j).job.left.length<=j.left.length+3:=by
 unfold ER;split
 .exact⟨yx _,rfl,yx _⟩
 split
 .refine⟨?_,rfl,by dsimp only;omega⟩;dsimp only;split<;>simp
 split
 .exact⟨yx _,rfl,yx _⟩
 split
 .have:=WP v.id ⟨j.AR,j.A3,j.Am,j.AC,j.Am.Ck,j.left,j.Ab⟩ j.Am.Ck v.A8;exact⟨this.1,this.2.1,om⟩
 split
 .exact⟨sm,rfl,by dsimp only;omega⟩
 split
 .exact⟨yx _,rfl,yx _⟩
 .exact⟨sm,rfl,by dsimp only;omega⟩
theorem Qt(j:B5)(p e:Int):(Hp j p e).AC=j.AC/\(Hp j p e).left.length<=j.left.length:=by
 unfold Hp;split
 .refine⟨rfl,?_⟩;dsimp only;unfold E1;exact q0b _ _
 .exact⟨rfl,yV _⟩
theorem q7(AR AY:Int)(x:AL):(PH AR AY x).2.1.AH.length<=x.AH.length:=by
 unfold PH;split
 .exact yx _
 split
 .exact yV _
 split
 .exact yV _
 .exact yx _
theorem mB(v:AB)(AR AY:Int)(x:AL):(JL v AR AY x).BW.length<=3/\(JL v AR AY x).job.AC.AH.length<=x.AH.length/\(JL v AR AY x).job.left.length<=3:=by
 unfold JL;split
 .have:=WN v ⟨AR,0,ZY v (PH AR AY x).1,(PH AR AY x).2.1,0,[],0⟩;exact⟨this.1,by rw[this.2.1];exact q7 AR AY x,this.2.2⟩
 .exact⟨yx _,yx _,yx _⟩
theorem dl(v:AB)(j:B5)(m:AE)(K:Nat)(hj:j.AC.AH.length<=K)(hm:m.AC.AH.length<=K):(FV v j m).BW.length<=3/\(FV v j m).job.AC.AH.length<=K/\(FV v j m).job.left.length<=j.left.length+3:=by
 have h0:(JC.mk j [] false).BW.length<=3/\(JC.mk j [] false).job.AC.AH.length<=K/\(JC.mk j [] false).job.left.length<=j.left.length+3:=⟨yx _,hj,by dsimp only;omega⟩;unfold FV;split
 .split
  .split
   .have:=WN v ⟨j.AR,j.A3,P4 v j.Am m,j.AC,j.Ar,j.left,j.Ab⟩;exact⟨this.1,by rw[this.2.1];exact hj,this.2.2⟩
   .exact h0
  split
  .split
   .have:=WP v.id j j.Ar m.A8;exact⟨this.1,by rw[this.2.1];exact hj,om⟩
   .exact h0
  split
  .split
   .have:=Qt j m.Ax m.Ab;exact⟨yx _,by dsimp only;rw[this.1];exact hj,by dsimp only;omega⟩
   .exact h0
  split
  .split
   .refine⟨yx _,?_,yx _⟩;dsimp only;split
    .exact hm
    .exact hj
   .exact h0
  .exact h0
 .exact h0
theorem de(v:AB)(j:B5)(d:Int):(FT v j d).BW.length<=3/\(FT v j d).job.AC=j.AC/\(FT v j d).job.left.length<=j.left.length+3:=by
 have h0:(JC.mk j [] false).BW.length<=3/\(JC.mk j [] false).job.AC=j.AC/\(JC.mk j [] false).job.left.length<=j.left.length+3:=⟨yx _,rfl,by dsimp only;omega⟩;unfold FT;split
 .split
  .split
   .exact WN v ⟨j.AR,j.A3,ZZ v j.Am,j.AC,j.Ar,j.left,j.Ab⟩
   .exact h0
  split
  .split
   .exact⟨yx _,rfl,yx _⟩
   .exact h0
  split
  .have:=Qt j d 210;exact⟨yx _,this.1,by dsimp only;omega⟩
  .exact h0
 .exact h0
structure HOk (n:A6):Prop where
 ok:P1 n
 h0:0<=n.A3
 l5:n.Ag.left.length<=1000
 l6:n.Ak.left.length<=1000
 l7:n.Aj.left.length<=1000
 k5:0<=n.Ag.AC.AH.length
 k6:0<=n.Ak.AC.AH.length
 k7:0<=n.Aj.AC.AH.length
theorem rq(l:List AL)(AH:AT)(hn:l.length<=1048576)(h:CK l=true)(hh:hasK l AH=true):yA 207 [Bf l,.s AH] (.tup [(Et l AH).1.d,.yE (Et l AH).2]):=by
 have c1:=LY l om;rw[h]at c1;have hT:Et l AH=if CK l&&hasK l AH then(l.getD (Cc l AH) AN,0)else(AN,201):=rfl
 rw[h,hh]at hT;obtain⟨x,hx,hxk,hxg⟩:=Ix hh;rw[hxg]at hT;rw[hT];have hs:=(Jf AH l (CI.1 h).2.2).1;generalize Cc l AH=m at *;have hml:m<l.length:=(yZ.1 hx).1;refine zF AK Tryz.func207 ?_;refine A9 [0,1,4,5,6,14,23] ?_;with_reducible repeat' first|constructor|intro hc
 refine BA (fun k=>k<=m) (fun k:Nat=>[(6,.y5 k)]) (fun k=>l.length-k) 0 (yx _) (fun _=>rfl) ?_ ?_
 .exact A5.ck rfl
 rintro k hk;have hkl:k<l.length:=om
 by_cases hkm:k<m
 .obtain⟨y,hy⟩:=AS hkl;have hyk:y.AH<AH:=hs y (zM (l:=l.take m) (i:=k) (by rw[q0T,zN hkm];exact hy))
  have f1:(y.AH==AH)=false:=by
   rw[q1Q];rintro rfl;exact q1d _ hyk
  have ix1:=hy;refine AD [0,1,4,5,6,14,23] ?_ (AQ f1) (AQ @c1);clear ix1;with_reducible repeat' first|constructor|intro hc
  refine⟨k+1,hkm,om,yV _,?_⟩;exact A5.ck rfl
 .have e:k=m:=om
  subst e;have f1:(x.AH==AH)=true:=by rw[hxk];exact tC _
  have ix1:=hx;refine AD [0,1,4,5,6,14,23] ?_ (AQ f1) (AQ @c1);clear ix1;with_reducible repeat' first|constructor|intro hc
  exact BO (yg @AL.d.eq_1 @AL.A1.eq_1)
structure jd (L K:Nat) (j:B5):Prop where
 l:j.left.length<=L
 k:j.AC.AH.length<=K
structure JB (L K:Nat) (n:A6):Prop where
 f:jd L K n.Ag
 m:jd L K n.Ak
 c:jd L K n.Aj
variable {L K:Nat}
theorem jd.mono{M:Nat}{j:B5}(h:jd L K j)(hm:L<=M):jd M K j:=⟨q0E h.l hm,h.k⟩
theorem JB.mono{M:Nat}{n:A6}(h:JB L K n)(hm:L<=M):JB M K n:=⟨h.f.mono hm,h.m.mono hm,h.c.mono hm⟩
theorem sJ(k:List AL)(j:B5)(h:jd L K j):jd L K (Df k j).2:=by
 unfold Df;split
 .dsimp only;split
  .exact⟨h.l,h.k⟩
  .exact h
 split
 .dsimp only;split
  .rename_i hg;refine⟨h.l,?_⟩;dsimp only
   have hk:(Et k j.AC.AH).1.AH=j.AC.AH:=by
    unfold Et at hg|-;split
    .rename_i hc;rw[yU]at hc;obtain⟨x,-,hx,hg2⟩:=Ix hc.2;dsimp only;rw[hg2,hx]
    .rename_i hc;rw[zO hc]at hg;cases hg
   rw[hk];exact h.k
  .exact⟨h.l,h.k⟩
 .exact h
theorem WG(n:A6)(w:Int)(e:Bool)(c:JC)(h:JB L K n)(hc:jd L K c.job):JB L K (Cv n w e c).1:=by
 unfold Cv
 have hs:jd L K (if c.own then Df n.keep c.job else(n.keep,c.job)).2:=by
  split
  .exact sJ _ _ hc
  .exact hc
 generalize(if c.own then Df n.keep c.job else(n.keep,c.job))=s at *;dsimp only
 have h1:JB L K (FL {n with keep:=s.1} w s.2):=by
  unfold FL;split
  .exact⟨hs,h.m,h.c⟩
  split
  .exact⟨h.f,hs,h.c⟩
  .exact⟨h.f,h.m,hs⟩
 split
 .exact⟨h1.f,h1.m,h1.c⟩
 .exact h1
theorem sQ(n:A6)(w AR AY:Int)(x:AL)(h:JB L K n)(hL:3<=L)(hx:x.AH.length<=K):JB L K (CL n w AR AY x).1:=by
 have:=mB n.A4 AR AY x;unfold CL;split
 .exact WG _ _ _ _ h ⟨om,om⟩
 .exact h
theorem WO{n:A6}(w:Int)(h:JB L K n):jd L K (Bj n w):=by
 unfold Bj VW;split
 .exact h.f
 split
 .exact h.m
 split
 .exact h.c
 .exact⟨yx _,yx _⟩
theorem uM(n:A6)(w:Int)(h:JB L K n):JB L K (ED n w):=by
 have hj:=WO w h;unfold ED;split
 .split
  .exact⟨h.f,h.m,h.c⟩
  split
  .exact WG _ _ _ _ h ⟨yx _,hj.k⟩
  .exact h
 .exact h
theorem o6(x:Int):∀(l:Ao)(f:Int),rT x f l=true->∀y∈l,BG y=true
 |[],_,_,y,hy=>by cases hy
 |p::r,f,h,y,hy=>by
  unfold rT at h;simp only[yU]at h;rcases q0C.1 hy with rfl|hy
  .exact h.1.1
  .exact o6 x r _ h.2 y hy
theorem DW{y:Int}(h:BG y=true):i64 y:=by have:=Cq h;unfold i64;omega
end Nd
end Go.Proofs.YthlmmkmeoblbhaaGreat
namespace Go.Proofs.YthlmmkmeoblbhaaGreat
namespace Nd
open Go.Gar
open Wi (AE BE Ay AU C2 mC CG Ac)
def De(id:Int)(A2:Ao):A6×Int:=
 if(newT id A2).2=0 then(if BE id then(⟨(newT id A2).1,0,⟨id,0,[]⟩,[],0,0,Hb,Hb,Hb,0,[],[],0⟩,0)else(⟨zeroV,0,⟨0,0,[]⟩,[],0,0,Hb,Hb,Hb,0,[],[],0⟩,2))else(⟨zeroV,0,⟨0,0,[]⟩,[],0,0,Hb,Hb,Hb,0,[],[],0⟩,2)
end Nd
end Go.Proofs.YthlmmkmeoblbhaaGreat
