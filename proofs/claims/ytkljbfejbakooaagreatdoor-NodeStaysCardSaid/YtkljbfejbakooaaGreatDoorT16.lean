/- Part 16 of a proof. Conditions: those that its theorems state. -/
import Derived.Test.YtkljbfejbakooaaGreatDoorT15
set_option linter.unusedSimpArgs false
set_option linter.unusedVariables false
set_option linter.unnecessarySimpa false
set_option maxHeartbeats 40000000
set_option maxRecDepth 4000
namespace Go.Proofs.YtkljbfejbakooaaGreatDoor
namespace Nd
open Go.Gar
open Wi (AC Bp BE AN Bc mC)
abbrev O7:Aw:=[0,1,2,3,10]
def Bw.A0(l:Bw):ww:=[.i .i64 l.AH,.i .i64 l.Cj,.i .i64 l.Bn,.b l.B4,.b l.CB,.i .i64 l.AQ]
def Bw.d(l:Bw):D:=.agg l.A0
def Ov(l:Bw):xD:=[.wo l.AH,.wo l.Cj,.wo l.Bn,.wu l.B4,.wu l.CB,.wo l.AQ]
theorem cQ(n:Int):xB 358 [.i .i64 n] (.b (BW n)):=by
 refine zF AF Tryz.func358 ?_;refine wd [0,2] [] A4 A4 ?_;with_reducible repeat' first|constructor|intro hc
 all_goals(refine⟨_,_,rfl,rfl,?_⟩;simp only[Cy];refine congrArg D.b ?_;unfold BW;grind)
theorem Ry(l:Bw):xB 331 [l.d] (.b (JP l)):=by
 have c1:=cQ l.AH;have c2:=cQ l.Cj;have hT:JP l=((BW l.AH&&BW l.Cj&&decide (0<=l.Bn)&&decide (l.Bn<=41))&&(if l.Bn>40 then decide (l.AQ=211)&& !l.CB else decide (l.AQ=0))):=rfl;refine zF AF Tryz.func331 ?_;unfold Bw.d Bw.A0;generalize BW l.AH=p1 at *;generalize BW l.Cj=p2 at *;generalize JP l=R at *;refine wd [0,1,2,22,25] [] A4 (Ax @c1 @c2) ?_;with_reducible repeat' first|constructor|intro hc
 all_goals(clear c1 c2;refine⟨_,_,rfl,rfl,?_⟩;simp only[Cy];refine congrArg D.b ?_;rw[hT];clear hT;grind)
theorem Rx(l:Bw):xB 332 [l.d] (.b (lookO l)):=by
 refine zF AF Tryz.func332 ?_;unfold Bw.d Bw.A0 lookO;refine wd [0,1,2] [] A4 A4 ?_;with_reducible repeat' first|constructor|intro hc
 all_goals(refine⟨_,_,rfl,rfl,?_⟩;simp only[Cy];refine congrArg D.b ?_;grind)
theorem tA(l:Bw):xB 294 [l.d] (.tup [(cP l).1.d,.b (cP l).2]):=by
 have c1:=Rx l;have c2:=Ry l;refine zF AF Tryz.func294 ?_;unfold Bw.d Bw.A0 at*
 cases h:lookO l with
 |true=>
  have hT:cP l=(AN,false):=by unfold cP;rw[h];rfl
  rw[h]at c1;rw[hT];refine wd O7 [] A4 (AM @c1) ?_;exact BL (xU @Wi.AC.d.eq_1 (xU @Wi.AC.A0.eq_1 (xU @AN.eq_1 @AY.eq_1)))
 |false=>
 rw[h]at c1
 cases h2:JP l with
 |false=>
  have hT:cP l=(AN,false):=by unfold cP;rw[h,h2];rfl
  rw[h2]at c2;rw[hT];refine wd O7 [] A4 (Ax @c1 @c2) ?_;exact BL (xU @Wi.AC.d.eq_1 (xU @Wi.AC.A0.eq_1 (xU @AN.eq_1 @AY.eq_1)))
 |true=>
  have hT:cP l=(Yo l,true):=by unfold cP;rw[h,h2];rfl
  rw[h2]at c2;rw[hT];refine wd O7 [] A4 (Ax @c1 @c2) ?_;exact BL (xU @Wi.AC.d.eq_1 (xU @Wi.AC.A0.eq_1 (xU @Yo.eq_1 @AY.eq_1)))
theorem VK(id:Int)(AB A8:Ad)(AG:Int)(f:Nat->Int)(l:Bw):xC 293 [.d (AD.d ⟨id,AB,A8,AG,f⟩),.d l.d] [] (.fn (.func 339) [] [.ptr 0 0 20,.ptr 1 0 6]) [.c (vC id AB A8 AG f),.c (Ov l)]:=by
 refine zD AF Tryz.func293 ?_;unfold vC Ov Bw.d Bw.A0;refine wd [0,1,2,3,4] [] A4 A4 ?_;exact⟨_,(A6.ck rfl),xQ _,_,_,rfl,rfl,rfl,rfl⟩
theorem S7(id:Int)(AB A8:Ad)(AG:Int)(f:Nat->Int)(l:Bw)(hb:AB.length<=1000)(hl:A8.length<=1000):xC 339 [.ptr 0 0 20,.ptr 1 0 6] [.c (vC id AB A8 AG f),.c (Ov l)] (.tup [.wo ((Eo ⟨id,AB,A8,AG,f⟩ l.AH l.B4).1),.wu ((Eo ⟨id,AB,A8,AG,f⟩ l.AH l.B4).2)]) [.c (vC id AB A8 AG f),.c (Ov l)]:=by
 have c1:=an ⟨id,AB,A8,AG,f⟩ l.AH l.B4 hb hl;refine zD AF Tryz.func339 ?_;generalize Eo ⟨id,AB,A8,AG,f⟩ l.AH l.B4=q at *;obtain⟨q1,q2⟩:=q;unfold vC Ov;refine wd [0,1,2,3] [] A4 (AM @c1) ?_;exact⟨⟨[(2,.wo q1),(3,.wu q2)],_,_⟩,(A6.ck rfl),xH _,_,_,rfl,rfl,rfl,rfl⟩
theorem bq(l:Bw)(h:0<=l.Bn/\l.Bn<=41):xB 334 [l.d] (.tup [(NY l).d,.b (decide (l.Bn+1<=40))]):=by
 refine zF AF Tryz.func334 ?_;unfold Bw.d Bw.A0
 by_cases hh:l.Bn+1>40
 .have f1:decide (l.Bn+1>40)=true:=xM hh;have hc:(NY l).AQ=211:=if_pos hh;have hd:decide (l.Bn+1<=40)=false:=xO om;rw[hd];refine wd O7 [] (AM f1) A4 ?_;exact BL (xU @NY.eq_1 hh)
 .have f1:decide (l.Bn+1>40)=false:=xO hh;have hd:decide (l.Bn+1<=40)=true:=xM om;rw[hd];refine wd O7 [] (AM f1) A4 ?_;exact BL (xU @NY.eq_1 hh)
theorem tB(v:AD)(AH:Int)(hb:v.AB.length<=1000)(hl:v.A8.length<=1000):xB 214 [v.d,.i .i64 AH] (vn v AH).d:=by
 have c1:=BV v hb hl;have c2:=FL AH;have hT:vn v AH=if Al v then⟨Cp AH,(Eo v (Cp AH) false).1,0,false,(Eo v (Cp AH) false).2,0⟩else Ps:=rfl
 generalize Cp AH=k at *;obtain⟨id,AB,A8,AG,f⟩:=v;have c3:=VK id AB A8 AG f ⟨k,0,0,false,false,0⟩;have c4:=S7 id AB A8 AG f ⟨k,0,0,false,false,0⟩ hb hl;refine zF AF Tryz.func214 ?_;rw[hT];clear hT;dsimp only at c4;generalize Eo ⟨id,AB,A8,AG,f⟩ k false=q at *;obtain⟨q1,q2⟩:=q
 cases h:Al ⟨id,AB,A8,AG,f⟩with
 |false=>
  rw[h]at c1;refine wd [0,1,2,4,5,8] [] A4 (AM @c1) ?_;exact BL (xU @Bw.d.eq_1 @Bw.A0.eq_1)
 |true=>
  rw[h]at c1;unfold Bw.d Bw.A0 at c3;unfold Ov at c3 c4;have d1:=Ds.mk [] (c3);have d2:=Ds.mk [3,4] (c4);refine wd [0,1,2,4,5,8] [] A4 (Ax @c1 @c2) ?_;clear d2 d1;exact BL (xU @Bw.d.eq_1 @Bw.A0.eq_1)
abbrev Vz:Aw:=[0,1,4,5,6,11,12,13,16,19]
abbrev Ip:Aw:=[0,1,3,4,5,6,7,8,9,15,28]
def Py(a b:AJ):Int:=if a<b then -1 else if b<a then 1 else 0
theorem Tk(s:AJ):xB 306 [.s s] (.b false):=by
 have e:(s !=s)=false:=by simp
 refine zF AF Tryz.func306 ?_;refine wd [0,2] [] (AM e) A4 ?_;exact zE
theorem WA(a b:AJ):xB 257 [.s a,.s b] (.i .i64 (Py a b)):=by
 have c1:=Tk a;have c2:=Tk b;have hT:Py a b=if a<b then -1 else if b<a then 1 else 0:=rfl
 refine zF AF Tryz.func257 ?_
 by_cases h1:a<b
 .have f1:Op.bytesLess a b=true:=by rw[bytesLess_eq];exact xM h1
  rw[hT,if_pos h1];refine wd Vz [] (AM f1) (Ax @c1 @c2) ?_;exact zE
 .have f1:Op.bytesLess a b=false:=by rw[bytesLess_eq];exact xO h1
  by_cases h2:b<a
  .have f2:(a==b)=false:=by
    rw[beq_eq_false_iff_ne];rintro rfl;exact List.lt_irrefl _ h2
   rw[hT,if_neg h1,if_pos h2];refine wd Vz [] (Ax f1 f2) (Ax @c1 @c2) ?_;exact zE
  .have f2:(a==b)=true:=by
    rw[beq_iff_eq];rcases ZY a b with h|h|h
    .exact absurd h h1
    .exact h
    .exact absurd h h2
   rw[hT,if_neg h1,if_neg h2];refine wd Vz [] (Ax f1 f2) (Ax @c1 @c2) ?_;exact zE
theorem Va(x:AK)(AH:AJ):xC 256 [.d x.d,.ptr 0 0 1] [.c [.xE AH]] (.wo (Py x.AH AH)) [.c [.xE AH]]:=by
 have c1:=WA x.AH AH;refine zD AF Tryz.func256 ?_;generalize Py x.AH AH=q at *;unfold AK.d AK.A0;refine wd [0,1,2,3] [] A4 (AM @c1) ?_;exact⟨⟨[(3,.wo q)],[.c [.xE AH]],_⟩,(A6.ck rfl),xA,_,_,rfl,rfl,rfl,rfl⟩
theorem Zy{l:List AK}{AH:AJ}(h:kS l){k:Nat}{x:AK}(hx:l[k]? =some x):x.AH<AH↔k<CY l AH:=by
 obtain⟨h1,h2⟩:=Lj AH l h;constructor
 .intro hlt;rcases yO k (CY l AH)with h|h
  .exact h
  .refine absurd hlt (h2 x (List.mem_iff_getElem?.2 ⟨k-CY l AH,?_⟩));rw[zW,show CY l AH+(k-CY l AH)=k by omega];exact hx
 .intro hlt;refine h1 x (List.mem_iff_getElem?.2 ⟨k,?_⟩);rw[zL,if_pos hlt];exact hx
def cr(l:List AK)(AH:AJ)(x:Nat×Nat):St:=⟨[(0,.d (BX l)),(6,.fn (.func 256) [] [.ptr 0 0 1]),(7,.wo x.1),(8,.wo x.2)],[.c [.xE AH]],46⟩
theorem Zx(l:List AK)(AH:AJ)(h:kS l)(hn:l.length<=1048576):xB 176 [BX l,.s AH] (.tup [.i .i64 (CY l AH),.b (hasK l AH)]):=by
 have hle:=SR l AH;refine zF AF Tryz.func176 ?_;refine wd Ip [] A4 A4 ?_;refine WJ 0 _ (fun x:Nat×Nat=>x.1<=CY l AH/\CY l AH<=x.2/\x.2<=l.length) (cr l AH) (fun x=>x.2-x.1) (l.length+1) 0 0 rfl ?_ ?_
 .by_cases h0:0<l.length
  .have f1:decide ((0:Int)<(l.length:Int))=true:=xM om;have e1:((l.length:Int)-0).tdiv 2=((l.length/2:Nat):Int):=by rw[Int.tdiv_eq_ediv_of_nonneg om];omega
   have e2:(0:Int)+((l.length/2:Nat):Int)=((l.length/2:Nat):Int):=om
   generalize hmm:l.length/2=m at *;obtain⟨x,hx⟩:=BB (xs:=l) (k:=m) om;have hlt:=Zy (AH:=AH) h hx;have c1:=Va x AH;unfold AK.d AK.A0 at c1
   by_cases hk:x.AH<AH
   .have hc:Py x.AH AH= -1:=if_pos hk;rw[hc]at c1;have hk':=hlt.1 hk;have ix1:=hx;have d1:=Ds.mk [0] (c1);refine wd Ip [] (Ci f1 e1 e2) A4 ?_;clear d1 ix1;refine⟨(m+1,l.length),⟨hk',hle,xH _⟩,(show l.length-(m+1)<l.length+1 by omega),xH _,?_⟩;unfold cr;exact A6.ck rfl
   .have hc:decide (Py x.AH AH<0)=false:=xO (by unfold Py;rw[if_neg hk];split<;>omega);have hk':¬m<CY l AH:=fun hh=>hk (hlt.2 hh)
    have ix1:=hx;have d1:=Ds.mk [0] (c1);refine wd Ip [] (KQ f1 e1 e2 hc) A4 ?_;clear d1 ix1;refine⟨(0,m),⟨xQ _,Nat.le_of_not_lt hk',(show m<=l.length by omega)⟩,(show m-0<l.length+1 by omega),xH _,?_⟩;unfold cr;exact A6.ck rfl
  .have e:l=[]:=q09.1 om;subst e;refine wd Ip [] A4 A4 ?_;exact BL (xU @CY.eq_1 @hasK.eq_1)
 rintro⟨a,b⟩ ⟨h1,h2,h3⟩;dsimp only at h1 h2 h3;unfold cr
 by_cases hab:a<b
 .have f1:decide ((a:Int)<(b:Int))=true:=xM om;have e1:((b:Int)-(a:Int)).tdiv 2=(((b-a)/2:Nat):Int):=by rw[Int.tdiv_eq_ediv_of_nonneg om];omega
  have e2:(a:Int)+(((b-a)/2:Nat):Int)=((a+(b-a)/2:Nat):Int):=om
  have hm:a+(b-a)/2<b:=om
  have hm2:a<=a+(b-a)/2:=om
  generalize hmm:a+(b-a)/2=m at *;obtain⟨x,hx⟩:=BB (xs:=l) (k:=m) om;have hlt:=Zy (AH:=AH) h hx;have c1:=Va x AH;unfold AK.d AK.A0 at c1
  by_cases hk:x.AH<AH
  .have hc:Py x.AH AH= -1:=if_pos hk;rw[hc]at c1;have hk':=hlt.1 hk;have ix1:=hx;have d1:=Ds.mk [0] (c1);refine wd Ip [] (Ci f1 e1 e2) A4 ?_;clear d1 ix1;refine⟨(m+1,b),⟨hk',h2,h3⟩,(show b-(m+1)<b-a by omega),xH _,?_⟩;exact A6.ck rfl
  .have hc:decide (Py x.AH AH<0)=false:=xO (by unfold Py;rw[if_neg hk];split<;>omega);have hk':¬m<CY l AH:=fun hh=>hk (hlt.2 hh)
   have ix1:=hx;have d1:=Ds.mk [0] (c1);refine wd Ip [] (KQ f1 e1 e2 hc) A4 ?_;clear d1 ix1;refine⟨(a,m),⟨h1,Nat.le_of_not_lt hk',om⟩,(show m-a<b-a by omega),xH _,?_⟩;exact A6.ck rfl
 .have f1:decide ((a:Int)<(b:Int))=false:=xO om;have ha:a=CY l AH:=om
  by_cases hl:a<l.length
  .have f2:decide ((a:Int)<(l.length:Int))=true:=xM om;obtain⟨x,hx⟩:=BB (xs:=l) (k:=a) hl;have c1:=Va x AH;unfold AK.d AK.A0 at c1;have gx:l.getD a AY=x:=getD_at hx;have hlt:¬x.AH<AH:=fun hh=>by have:=(Zy (AH:=AH) h hx).1 hh;omega
   have hT:hasK l AH=(Py x.AH AH==0):=by
    unfold hasK;rw[<-ha,gx,xM hl,yF,F2];unfold Py;rw[if_neg hlt]
    by_cases e:x.AH=AH
    .rw[if_neg (by rw[e];exact List.lt_irrefl _)];simp[e]
    .rcases ZY x.AH AH with h|h|h
     .exact absurd h hlt
     .exact absurd h e
     .rw[if_pos h];simp[e]
   rw[hT,<-ha];have ix1:=hx;have d1:=Ds.mk [0] (c1);refine wd Ip [] (Ax f1 f2) A4 ?_;clear d1 ix1;exact zE
  .have f2:decide ((a:Int)<(l.length:Int))=false:=xO om
   have hT:hasK l AH=false:=by
    unfold hasK;rw[<-ha,xO hl];rfl
   rw[hT,<-ha];refine wd Ip [] (Ax f1 f2) A4 ?_;exact zE
theorem cH(l:List AK)(AH:AJ)(hn:l.length<=1048576):xB 193 [BX l,.s AH] (.tup [(E6 l AH).1.d,.i .i64 (E6 l AH).2]):=by
 have c1:=QQ l om;refine zF AF Tryz.func193 ?_;have hT:E6 l AH=if Ck l&&hasK l AH then(l.getD (CY l AH) AY,0)else(AY,201):=rfl
 cases h:Ck l with
 |false=>
  rw[h]at c1 hT;rw[hT];refine wd [0,1,4,5,6,7,10,19] [] A4 (AM @c1) ?_;exact BL (xU @AK.d.eq_1 (xU @AK.A0.eq_1 @AY.eq_1))
 |true=>
  have c2:=Zx l AH (Dg.1 h).2.2 hn;rw[h]at c1 hT
  cases hh:hasK l AH with
  |false=>
   rw[hh]at c2 hT;rw[hT];refine wd [0,1,4,5,6,7,10,19] [] A4 (Ax @c1 @c2) ?_;exact BL (xU @AK.d.eq_1 (xU @AK.A0.eq_1 @AY.eq_1))
  |true=>
   obtain⟨x,hx,hxk,hxg⟩:=Jq hh;rw[hh]at c2 hT;rw[hxg]at hT;rw[hT];generalize CY l AH=m at *;have ix1:=hx;refine wd [0,1,4,5,6,7,10,19] [] A4 (Ax @c1 @c2) ?_;clear ix1;exact BL (xU @AK.d.eq_1 @AK.A0.eq_1)
abbrev OB:Aw:=[0,2,3,5,8,13,14,15]
abbrev W1:Aw:=[0,1,3,4,5,6,7,8,16]
abbrev Lw:Aw:=[0,1,3,4,5,6,7,8,9,17,27,35,43]
theorem XN(l:List AK)(h0:0<l.length)(hn:l.length<=1048576):xC 87 [.d (BX l)] [] (.sl 0 l.length 4) [.a (BX l)]:=by
 have c1:=XO l;have f1:=eq_false' (show(l.length:Int)≠0 by omega);refine zD AF Tryz.func87 ?_;have k1:No 11:=trivial;have k2:Dd ((BX [])):=trivial;have d1:=Ds.mk [] (c1);refine wd OB [] (AM f1) A4 ?_;clear d1 k2 k1;refine zG (K:=fun r _ H'=>H'=[.a (BX l),.c [.sl 0 l.length 4],.c [.d (BX l)],.lp r]) ?_ ?_
 .intro r hr;have hk:=hr.ok (k:=3) rfl
  have hY:∀(k:Nat)(x:AK)(o:List AK),o.length<=1048576->YT Tryz.prog 3 [.wo k,.d (.agg [.s x.AH,.i .i64 x.B2,.i .i64 x.AZ,.b x.gone])] [.a (BX o),.c [.sl 0 o.length 4],.c [.d (BX l)],.lp r,.c [.xE x.AH,.wo x.B2,.wo x.AZ,.wu x.gone]] fun v K=>v= .wu true/\K=[.a (BX (o++[x])),.c [.sl 0 (o++[x]).length 4],.c [.d (BX l)],.lp r,.c [.xE x.AH,.wo x.B2,.wo x.AZ,.wu x.gone]]:=by
   intro k x o ho;refine BD hr rfl rfl rfl ?_;refine wd OB [] A4 A4 ?_;refine zR ?_;refine wd OB [] A4 A4 ?_;refine⟨⟨[],[.a (BX (o++[x])),.c [.sl 0 (o++[x]).length 4],.c [.d (BX l)],.lp r.busy,.c [.xE x.AH,.wo x.B2,.wo x.AZ,.wu x.gone]],_⟩,(have nC:=xU @BX.eq_1 @AK.A0.eq_1;A6.cn rfl),xH _,rfl,rfl,rfl⟩
  refine zT AF Tryz.func235 ?_;refine wd W1 [] A4 A4 ?_;refine Ct (fun j:Nat=>j<=l.length) (fun j:Nat=>[(7,.wo j)]) (fun j=>[(0,.a (BX (l.take j))),(1,.c [.sl 0 (l.take j).length 4])]) (fun j=>l.length-j) 0 (xQ _) (fun _=>rfl) (fun _=>rfl) ?_ ?_
  .exact A6.ck rfl
  intro j hj
  by_cases hjl:j<l.length
  .obtain⟨x,hx⟩:=BB hjl;have hy:=hY j x (l.take j) (by rw[yM];omega);have hn:=Au hx;rw[<-hn]at hy;have ix1:=hx;have q1:=@hy;refine wd W1 [] A4 A4 ?_;clear q1 ix1;with_reducible repeat' first|constructor|intro hc
   refine⟨j+1,hjl,om,xH _,?_⟩;exact A6.ck rfl
  .have e:j=l.length:=om
   subst e;rw[yD];refine wd W1 [] A4 A4 ?_;with_reducible repeat' first|constructor|intro hc
   exact⟨_,A6.refl _,xH _,_,_,rfl,rfl,rfl⟩
 .rintro r hr x H' rfl;refine .inl ⟨rfl,?_⟩;refine wd OB [] A4 A4 ?_;exact⟨⟨[(2,.sl 0 l.length 4)],[.a (BX l)],_⟩,(A6.ck rfl),xQ _,_,_,rfl,rfl,rfl,rfl⟩
theorem cI(l:List AK)(hn:l.length<=1048576):xB 87 [BX l] (BX l):=by
 by_cases h0:0<l.length
 .refine FT (ds:=[BX l]) (XN l h0 hn) ?_;simp[Kb,BK]
 .have e:l=[]:=q09.1 om;subst e;refine zF AF Tryz.func87 ?_;refine wd OB [] A4 A4 ?_;exact zE
theorem qh:∀(l:List AK)(m:Nat),((l.map AK.A0).flatten).drop (m*4)=((l.drop m).map AK.A0).flatten
 |[],m=>by simp
 |a::l,0=>rfl
 |a::l,m+1=>by
  rw[zA,zo,q03,Nat.one_mul,Nat.add_comm,<-List.drop_drop];show List.drop (m*4) (List.drop 4 ([_,_,_,_]++_))=_;exact qh l m
theorem mw{l:List AK}{m:Nat}{y:AK}(hy:l[m]? =some y):((slc (BX l)).drop (m*4+0)).take 4=y.A0:=by
 show(((l.map AK.A0).flatten).drop (m*4+0)).take 4=_;have h:=(xW.1 hy).1;rw[q0O,qh,zS h,zA,zo];have:l[m]=y:=(xW.1 hy).2;rw[this];rfl
theorem Sm(x:AK):∀(m:Nat)(l:List AK),m<l.length->setRows 0 x.A0 m (l.map AK.A0)=(l.set m x).map AK.A0
 |_,[],h=>by simp at h
 |0,a::l,_=>rfl
 |m+1,a::l,h=>by
  show a.A0::setRows 0 x.A0 m (l.map AK.A0)=_;rw[Sm x m l (by simpa using h)];rfl
theorem cK(l:List AK)(x:AK)(hn:l.length<=1048576):xB 191 [BX l,x.d] (.tup [BX (FI l x).1,.i .i64 (FI l x).2]):=by
 have c1:=QQ l om;have c2:=Wi.LO x;have c3:=cI l hn
 have hT:FI l x=if Ck l&&BE x then
  (if hasK l x.AH then(if Mm x (l.getD (CY l x.AH) AY)then l.set (CY l x.AH) x else l,0)
   else if l.length>=24 then(l,200)else(l.take (CY l x.AH)++x::l.drop (CY l x.AH),0))else(l,2):=rfl
 refine zF AF Tryz.func191 ?_;generalize BE x=b2 at*
 cases h:Ck l with
 |false=>
  rw[h]at c1 hT;rw[hT];refine wd Lw [] A4 (Ax @c1 @c3) ?_;exact zE
 |true=>
 have c4:=Zx l x.AH (Dg.1 h).2.2 hn;rw[h]at c1 hT
 cases b2 with
 |false=>
  rw[hT];refine wd Lw [] A4 (Ci @c1 @c2 @c3) ?_;exact zE
 |true=>
 rw[yF,if_pos rfl]at hT;have hle:=SR l x.AH
 cases hh:hasK l x.AH with
 |true=>
  obtain⟨y,hy,hyk,hyg⟩:=Jq hh;rw[hh,if_pos rfl,hyg]at hT;rw[hh]at c4;have hlt:=(xW.1 hy).1;have c5:=XN l om hn;have c6:=iI x y;have hsl:=mw hy;have hst:setRows 0 [.s x.AH,.i .i64 x.B2,.i .i64 x.AZ,.b x.gone] (CY l x.AH) (l.map AK.A0)=(l.set (CY l x.AH) x).map AK.A0:=Sm x _ l hlt;rw[hT];unfold Mm;generalize CY l x.AH=m at *;unfold AK.d at c6;rw[<-hsl]at c6;unfold AK.A0 at c6
  cases hnw:decide (Jh x y>0)with
  |false=>
   rw[hnw]at c6;have d1:=Ds.mk [] (c5);refine wd Lw [] A4 (KQ @c1 @c2 @c4 @c6) ?_;clear d1;exact zE
  |true=>
   rw[hnw]at c6;have d1:=Ds.mk [] (c5);refine wd Lw [7] A4 (KQ @c1 @c2 @c4 @c6) ?_;clear d1;have nS:=hst
   repeat'(first|((with_reducible refine sg ?_);first|with_reducible rfl|((with_reducible refine Pz ?_);first|kernel_rfl|rfl|(simp[GX,JI,nS];done))|with_reducible refine Ki ?_ ?_|with_reducible exact zn _|with_reducible exact E4 _|((with_reducible refine xM ?_);first|omega|(simp only[KZ,nS];omega))|decide|(simp[KZ,slc,DF,D.one,FE,AV.one,nS];done)|(simp[KZ,nS];omega))|((with_reducible refine kI ?_);first|(refine Fy rfl ?_;refine ic AF rfl rfl rfl rfl ?_)|refine Xq AF rfl rfl rfl rfl ?_ ?_|refine Xn [0,1,3,4,5,6,7,8,9,17,27,35,43] rfl ?_|refine Xa AF rfl rfl rfl rfl rfl ?_ ?_|refine Xw AF rfl rfl rfl rfl ?_ ?_|refine Xs rfl rfl rfl ?_|(refine Yk rfl rfl (fun hc=> ?_) (fun hc=> ?_)<;>(fail_if_success (with_reducible first|exact tF hc|exact fT hc))<;>(try simp only[Pu]at hc)<;>(try(exfalso;omega))))|((with_reducible refine gWd ?_);first|(refine bB rfl ?_;refine Ymv AF rfl rfl (fun _=>rfl) rfl rfl ?_)|refine Yp AF rfl rfl (fun _=>rfl) rfl rfl ?_ ?_|refine Yq rfl rfl rfl rfl rfl ?_ ?_|refine Ys rfl rfl rfl rfl ?_|refine Ya AF rfl rfl rfl rfl rfl rfl ?_ ?_|refine Yw AF rfl rfl rfl rfl rfl ?_ ?_|refine Yn [0,1,3,4,5,6,7,8,9,17,27,35,43] [] mixed AF (by kernel_rfl) zl rfl ?_|(refine ii rfl rfl (fun hc=> ?_) (fun hc=> ?_)<;>(fail_if_success (with_reducible first|exact tF hc|exact fT hc))<;>(try simp only[Pu]at hc)<;>(try(exfalso;omega))))|refine J6 ?_|refine EW ?_|refine qS T.get ?_|(refine Xsc AF rfl rfl rfl rfl ?_ ?_)|refine GV ?_|refine J5 ?_|refine F0 ?_|refine GU ?_|refine E1 rfl ?_|refine E0 rfl ?_|(refine GT rfl (fun hc=> ?_) (fun hc=> ?_)<;>(try simp only[Pu]at hc)<;>(try(exfalso;omega))))
   exact BL hst
 |false=>
 rw[hh,if_neg (by decide)]at hT;rw[hh]at c4
 by_cases h24:l.length>=24
 .have f1:decide ((l.length:Int)>=24)=true:=xM om;rw[if_pos h24]at hT;rw[hT];refine wd Lw [] (AM f1) (KQ @c1 @c2 @c3 @c4) ?_;exact zE
 .have f1:decide ((l.length:Int)>=24)=false:=xO om;rw[if_neg h24]at hT;rw[hT];generalize CY l x.AH=m at *;have k1:No 49:=trivial;have k2:Dd ((BX [])):=trivial;refine wd Lw [] (AM f1) (KQ @c1 @c2 @c3 @c4) ?_;clear k2 k1;refine⟨_,_,rfl,rfl,?_⟩;simp[IT,BK,Bd,B0,List.map_take,List.map_drop,AK.A0]
abbrev Qf:Aw:=[0,2,3,5,7,8,9]
abbrev W2:Aw:=[0,1,3,4,5,6,7,8,16]
abbrev KA:Aw:=[0,1,2,3,4,5,6,17,18,20]
theorem ER(m:AC)(h:Am m):xB 122 [m.d] m.d:=by
 unfold Am at h;refine zF AF Tryz.func122 ?_;unfold Wi.AC.d Wi.AC.A0;refine wd [0,1,2] [] A4 A4 ?_;exact zE
theorem Jy(x:AW)(h:Am x.Ao):xB 252 [x.d] x.d:=by
 have c1:=ER x.Ao h;refine zF AF Tryz.func252 ?_;unfold AW.d AW.A0;unfold Wi.AC.d Wi.AC.A0 at c1;refine wd [0,1,2] [] A4 (AM @c1) ?_;exact zE
theorem LS(l:Ad)(hl:l.length<=1048576):xB 151 [.is l] (.is l):=by
 refine zF AF Tryz.func151 ?_;have nS:=zl
 repeat'(first|((with_reducible refine sg ?_);first|with_reducible rfl|((with_reducible refine Pz ?_);first|kernel_rfl|rfl|(simp[GX,JI,nS];done))|with_reducible refine Ki ?_ ?_|with_reducible exact zn _|with_reducible exact E4 _|((with_reducible refine xM ?_);first|omega|(simp only[KZ,nS];omega))|decide|(simp[KZ,slc,DF,D.one,FE,AV.one,nS];done)|(simp[KZ,nS];omega))|((with_reducible refine kI ?_);first|(refine Fy rfl ?_;refine ic AF rfl rfl rfl rfl ?_)|refine rb AF rfl rfl rfl rfl rfl rfl (fun hnil=> ?_) ?_|refine re AF rfl rfl rfl rfl rfl rfl (fun hnil=> ?_) ?_|refine Xq AF rfl rfl rfl rfl ?_ ?_|refine Xn [0,2,4] rfl ?_|refine Xw AF rfl rfl rfl rfl ?_ ?_)|refine J6 ?_|refine EW ?_|refine GV ?_|refine J5 ?_|refine F0 ?_|refine GU ?_|refine E1 rfl ?_|refine E0 rfl ?_|(refine GT rfl (fun hc=> ?_) (fun hc=> ?_)<;>(try simp only[Pu]at hc)<;>(try(exfalso;omega))))
 .have e:=is_nil hnil;subst e;exact zE
 .exact zE
theorem EQ(j:An)(h:j.left.length<=1048576):xB 86 [j.d] j.d:=by
 have c1:=LS j.left h;refine zF AF Tryz.func86 ?_;unfold An.d An.A0
 by_cases h0:(j.left.length:Int)=0
 .have f1:=AS h0;have e:j.left=[]:=q09.1 om;refine wd [0,1,2,6] [] (AM f1) A4 ?_;exact BL e
 .have f1:=eq_false' h0;refine wd [0,1,2,6] [] (AM f1) (AM @c1) ?_;exact zE
abbrev cp(x:Past):xD:=[.wo x.As,.wo x.Aa,.wz x.AE.AR,.wo x.AE.Aa,.wo x.AE.As,.wo x.AE.dst,.wo x.AE.AH,.wu x.AE.B4,.wu x.AE.done,.wo x.AE.AT,.wo x.AE.AG,.xG x.AE.A8,.xE x.AE.A9.AH,.wo x.AE.A9.B2,.wo x.AE.A9.AZ,.wu x.AE.A9.gone,.wo x.AE.AQ]
abbrev Bi(x:AW):xD:=[.wo x.id,.wz x.Ao.AR,.wo x.Ao.Aa,.wo x.Ao.As,.wo x.Ao.dst,.wo x.Ao.AH,.wu x.Ao.B4,.wu x.Ao.done,.wo x.Ao.AT,.wo x.Ao.AG,.xG x.Ao.A8,.xE x.Ao.A9.AH,.wo x.Ao.A9.B2,.wo x.Ao.A9.AZ,.wu x.Ao.A9.gone,.wo x.Ao.AQ,.wz x.BQ,.wo x.ref,.wo x.C0,.wo x.BA]
theorem Po(l:List Past)(hl:∀x∈l,Am x.AE)(hn:l.length<=1048576):xC 85 [.d (B5 l)] [] (.sl 2 l.length 17) [.gone,.gone,.a (B5 l)]:=by
 have c1:=Sk l;refine zD AF Tryz.func85 ?_;have d1:=Ds.mk [] (c1);refine wd Qf [] A4 A4 ?_;clear d1;refine BC (A6.EO 0 0 (.sl 17 []) rfl rfl rfl rfl (by simp[B0])) sm ?_;refine zG (K:=fun r _ H'=>H'=[.c [.sl 2 l.length 17],.c [.d (B5 l)],.a (B5 l),.lp r]) ?_ ?_
 .intro r hr;have hk:=hr.ok (k:=3) rfl
  have hY:∀(k:Nat)(x:Past)(o:List Past),Am x.AE->o.length<=1048576->YT Tryz.prog 3 [.wo k,.d (.agg [.i .i64 x.As,.i .i64 x.Aa,.i .u8 x.AE.AR,.i .i64 x.AE.Aa,.i .i64 x.AE.As,.i .i64 x.AE.dst,.i .i64 x.AE.AH,.b x.AE.B4,.b x.AE.done,.i .i64 x.AE.AT,.i .i64 x.AE.AG,.is x.AE.A8,.s x.AE.A9.AH,.i .i64 x.AE.A9.B2,.i .i64 x.AE.A9.AZ,.b x.AE.A9.gone,.i .i64 x.AE.AQ])] [.c [.sl 2 o.length 17],.c [.d (B5 l)],.a (B5 o),.lp r,.c (cp x)] fun v K=>v= .wu true/\K=[.c [.sl 2 (o++[x]).length 17],.c [.d (B5 l)],.a (B5 (o++[x])),.lp r,.c (cp x)]:=by
   intro k x o hx ho;have c2:=ER x.AE hx;unfold Wi.AC.d Wi.AC.A0 at c2;refine BD hr rfl rfl rfl ?_;unfold cp;refine wd Qf [] A4 A4 ?_;refine zR ?_;refine wd Qf [] A4 (AM @c2) ?_;refine⟨⟨[],[.c [.sl 2 (o++[x]).length 17],.c [.d (B5 l)],.a (B5 (o++[x])),.lp r.busy,.c (cp x)],_⟩,(have nC:=xU @B5.eq_1 @Past.A0.eq_1;A6.cn rfl),xH _,rfl,rfl,rfl⟩
  refine zT AF Tryz.func234 ?_;refine wd W2 [] A4 A4 ?_;refine Ct (fun j:Nat=>j<=l.length) (fun j:Nat=>[(7,.wo j)]) (fun j=>[(0,.c [.sl 2 (l.take j).length 17]),(2,.a (B5 (l.take j)))]) (fun j=>l.length-j) 0 (xQ _) (fun _=>rfl) (fun _=>rfl) ?_ ?_
  .exact A6.ck rfl
  intro j hj
  by_cases hjl:j<l.length
  .obtain⟨x,hx⟩:=BB hjl;have hy:=hY j x (l.take j) (hl x (yH hx)) (by rw[yM];omega);have hn:=Au hx;rw[<-hn]at hy;have ix1:=hx;have q1:=@hy;refine wd W2 [] A4 A4 ?_;clear q1 ix1;with_reducible repeat' first|constructor|intro hc
   refine⟨j+1,hjl,om,xH _,?_⟩;exact A6.ck rfl
  .have e:j=l.length:=om
   subst e;rw[yD];refine wd W2 [] A4 A4 ?_;with_reducible repeat' first|constructor|intro hc
   exact⟨_,A6.refl _,xH _,_,_,rfl,rfl,rfl⟩
 .rintro r hr x H' rfl;refine .inl ⟨rfl,?_⟩;refine wd Qf [] A4 A4 ?_;exact⟨⟨[(2,.sl 2 l.length 17)],[.gone,.gone,.a (B5 l)],_⟩,(A6.ck rfl),xQ _,_,_,rfl,rfl,rfl,rfl⟩
theorem aM(l:List Past)(hl:∀x∈l,Am x.AE)(hn:l.length<=1048576):xB 85 [B5 l] (B5 l):=by
 refine FT (ds:=[B5 l]) (Po l hl hn) ?_;simp[Cq,BK,C7,Bd,B0,B5]
theorem NG(c:Calls):xC 170 [.d c.d] [] (.fn (.func 251) [] [.ptr 0 0 3]) [.c [.wo c.id,.wo c.AU,.d (Ag c.op)]]:=by
 refine zD AF Tryz.func170 ?_;unfold Calls.d Calls.A0;refine wd [0,1,2] [] A4 A4 ?_;exact⟨_,(A6.ck rfl),xQ _,_,_,rfl,rfl,rfl,rfl⟩
theorem jQ(cs:xD):xC 155 [.ptr 0 0 20] [.c cs] (.wu true) [.c cs]:=by
 refine zD AF Tryz.func155 ?_;refine wd [2] [] A4 A4 ?_;exact⟨_,A6.refl _,xH _,_,_,rfl,rfl,rfl,rfl⟩
theorem WW(id AU:Int)(l:List AW)(hl:∀x∈l,Am x.Ao)(hn:l.length<=1048576):xC 125 [.d (Calls.d ⟨id,AU,l⟩),.fn (.func 155) [] []] [] (.ag [.wo id,.wo AU,.sl 3 l.length 20]) [.gone,.gone,.c [.wo id,.wo AU,.sl 3 l.length 20],.a (Ag l)]:=by
 have c1:=NG ⟨id,AU,l⟩;refine zD AF Tryz.func125 ?_;unfold Calls.d Calls.A0 at *;refine wd KA [1] A4 A4 ?_;refine Mb T.get 7 9 3 4 ⟨[(0,.d (.agg [.i .i64 id,.i .i64 AU,Ag l])),(1,.fn (.func 155) [] []),(2,.ptr 0 0 3),(3,.ptr 1 0 1),(4,.ptr 2 0 3),(5,.ptr 4 0 3)],[.c [.wo id,.wo AU,.d (Ag l)],.c [.fn (.func 155) [] []],.c [.wo 0,.wo 0,.e0],.a (Ag []),.c [.wo id,.wo AU,.sl 3 0 20]],28⟩ mixed rfl rfl rfl ?_ ?_ ?_
 .refine wd KA [] A4 A4 ?_ [(0,7),(1,7),(2,7),(3,7),(0,9),(1,9),(2,9),(3,9)];exact⟨rfl,.inl rfl⟩
 .refine wd KA [] A4 A4 ?_ [(0,7),(1,7),(2,7),(3,7),(4,7),(5,7),(0,8),(1,8),(2,8),(3,8)];exact⟨rfl,.inr rfl⟩
 have d1:=Ds.mk [] (c1);refine wd KA [] A4 A4 ?_;clear d1;refine zG (K:=fun r _ H'=>H'=[.c [.wo id,.wo AU,.d (Ag l)],.c [.fn (.func 155) [] []],.c [.wo 0,.wo 0,.e0],.a (Ag l),.c [.wo id,.wo AU,.sl 3 l.length 20],.c [.wo id,.wo AU,.d (Ag l)],.lp r]) ?_ ?_
 .intro r hr;have hk:=hr.ok (k:=6) rfl
  have hY:∀(x:AW)(o:List AW)(B:AI),o.length<=1048576->AI.ok 7 B=true->YT Tryz.prog 6 [.d (.agg [.i .i64 x.id,.i .u8 x.Ao.AR,.i .i64 x.Ao.Aa,.i .i64 x.Ao.As,.i .i64 x.Ao.dst,.i .i64 x.Ao.AH,.b x.Ao.B4,.b x.Ao.done,.i .i64 x.Ao.AT,.i .i64 x.Ao.AG,.is x.Ao.A8,.s x.Ao.A9.AH,.i .i64 x.Ao.A9.B2,.i .i64 x.Ao.A9.AZ,.b x.Ao.A9.gone,.i .i64 x.Ao.AQ,.i .u8 x.BQ,.i .i64 x.ref,.i .i64 x.C0,.i .i64 x.BA])] [.c [.wo id,.wo AU,.d (Ag l)],.c [.fn (.func 155) [] []],.c [.wo 0,.wo 0,.e0],.a (Ag o),.c [.wo id,.wo AU,.sl 3 o.length 20],.c [.wo id,.wo AU,.d (Ag l)],.lp r,.c (Bi x)] fun v K=>v= .wu true/\K=[.c [.wo id,.wo AU,.d (Ag l)],.c [.fn (.func 155) [] []],.c [.wo 0,.wo 0,.e0],.a (Ag (o++[x])),.c [.wo id,.wo AU,.sl 3 (o++[x]).length 20],.c [.wo id,.wo AU,.d (Ag l)],.lp r,.c (Bi x)]:=by
   intro x o B ho hB;have c2:=jQ (Bi x);refine BD hr rfl rfl rfl ?_;unfold Bi at *;refine wd KA [] A4 A4 ?_;refine zR ?_;have d1:=Ds.mk [8] (c2);refine wd KA [] A4 A4 ?_;clear d1;refine⟨⟨[],[.c [.wo id,.wo AU,.d (Ag l)],.c [.fn (.func 155) [] []],.c [.wo 0,.wo 0,.e0],.a (Ag (o++[x])),.c [.wo id,.wo AU,.sl 3 (o++[x]).length 20],.c [.wo id,.wo AU,.d (Ag l)],.lp r.busy,.c (Bi x)],_⟩,(have nC:=xU @Ag.eq_1 @AW.A0.eq_1;A6.cn rfl),xH _,rfl,rfl,rfl⟩
  refine zT AF Tryz.func251 ?_;refine wd [0,1,4,6,7,8,9,16] [] A4 A4 ?_;refine Ct (fun j:Nat=>j<=l.length) (fun j:Nat=>[(8,.wo j)]) (fun j=>[(3,.a (Ag (l.take j))),(4,.c [.wo id,.wo AU,.sl 3 (l.take j).length 20])]) (fun j=>l.length-j) 0 (xQ _) (fun _=>rfl) (fun _=>rfl) ?_ ?_
  .exact A6.ck rfl
  intro j hj
  by_cases hjl:j<l.length
  .obtain⟨x,hx⟩:=BB hjl;have c3:=Jy x (hl x (yH hx));unfold AW.d AW.A0 at c3;have hy:=hY x (l.take j) .gone (by rw[yM];omega) rfl;have hn:=Au hx;rw[<-hn]at hy;have ix1:=hx;have q1:=@hy;refine wd [0,1,4,6,7,8,9,16] [] A4 (AM @c3) ?_;clear q1 ix1;with_reducible repeat' first|constructor|intro hc
   refine⟨j+1,hjl,om,xH _,?_⟩;exact A6.ck rfl
  .have e:j=l.length:=om
   subst e;rw[yD];refine wd [0,1,4,6,7,8,9,16] [] A4 A4 ?_;with_reducible repeat' first|constructor|intro hc
   exact⟨_,A6.refl _,xH _,_,_,rfl,rfl,rfl⟩
 .rintro r hr x H' rfl;refine .inl ⟨rfl,?_⟩;refine wd KA [] A4 A4 ?_;exact⟨⟨[(4,.ptr 2 0 3)],[.gone,.gone,.c [.wo id,.wo AU,.sl 3 l.length 20],.a (Ag l)],_⟩,(A6.ck rfl),xQ _,_,_,rfl,rfl,rfl,rfl⟩
theorem QF(c:Calls)(hl:∀x∈c.op,Am x.Ao)(hn:c.op.length<=1048576):xB 84 [c.d] c.d:=by
 obtain⟨id,AU,l⟩:=c;have c1:=WW id AU l hl hn;refine zF AF Tryz.func84 ?_;unfold Calls.d Calls.A0 at *;have d1:=Ds.mk [] (c1);refine wd [0,1,2] [] A4 A4 ?_;clear d1;exact zE
theorem jR(id AU:Int)(l:List AW)(hl:∀x∈l,Am x.Ao)(hn:l.length<=1048576):xC 84 [.d (Calls.d ⟨id,AU,l⟩)] [] (.ag [.wo id,.wo AU,.sl 5 l.length 20]) [.gone,.c [.wo id,.wo AU,.sl 5 l.length 20],.gone,.gone,.gone,.a (Ag l)]:=by
 have c1:=WW id AU l hl hn;refine zD AF Tryz.func84 ?_;unfold Calls.d Calls.A0 at *;have d1:=Ds.mk [] (c1);refine wd [0,1,2] [] A4 A4 ?_;clear d1;exact⟨⟨[(2,.ptr 1 0 3)],[.gone,.c [.wo id,.wo AU,.sl 5 l.length 20],.gone,.gone,.gone,.a (Ag l)],_⟩,(A6.ck rfl),xQ _,_,_,rfl,rfl,rfl,rfl⟩
theorem Ay(n:AA)(h:Fe n):xB 40 [n.d] n.d:=by
 have c1:=Hk n.A7 (by have:=h.vb;omega) (by have:=h.vl;omega);have c2:=QF n.AX h.cl h.cn;have c3:=aM n.BO h.sl h.sn;have c4:=EQ n.AP h.fl;have c5:=EQ n.Ai h.ml;have c6:=EQ n.Ah h.tl;have c7:=cI n.keep h.kn;refine zF AF Tryz.func40 ?_;unfold AD.d AD.A0 at c1;unfold Calls.d Calls.A0 at c2;unfold An.d An.A0 at c4 c5 c6;refine wd [0,1,2] [] A4 (zq7 @c1 @c2 @c3 @c4 @c5 @c6 @c7) ?_;exact BL (xU @AA.d.eq_1 (xU @AA.A0.eq_1 (xU @AD.A0.eq_1 (xU @Calls.A0.eq_1 @An.A0.eq_1))))
abbrev Ap(l:List AC):D:=.sl 15 (l.map Wi.AC.A0)
abbrev jC(v:AD)(j:An)(lf aq:AV)(own:Bool):xD:=[.wo v.id,.xG v.AB,.xG v.A8,.wo v.AG,.wo (v.f 0),.wo (v.f 1),.wo (v.f 2),.wo (v.f 3),.wo (v.f 4),.wo (v.f 5),.wo (v.f 6),.wo (v.f 7),.wo (v.f 8),.wo (v.f 9),.wo (v.f 10),.wo (v.f 11),.wo (v.f 12),.wo (v.f 13),.wo (v.f 14),.wo (v.f 15),.wz j.AL,.wz j.A5,.wo j.Ak.AH,.wo j.Ak.Cj,.wo j.Ak.Bn,.wu j.Ak.B4,.wu j.Ak.CB,.wo j.Ak.AQ,.xE j.A9.AH,.wo j.A9.B2,.wo j.A9.AZ,.wu j.A9.gone,.wo j.AO,lf,.wo j.AQ,aq,.wu own]
theorem Ik(v:AD)(j:An)(aq:AV)(own:Bool)(ha:AV.ok 1 aq=true):xC 289 [.ptr 0 0 37] [.c (jC v j (.xG j.left) aq own)] (.tup []) [.c (jC v (CU j) (.xG ([])) aq own)]:=by
 have hk:=ha;refine zD AF Tryz.func289 ?_;unfold jC;refine wd [0] [] A4 A4 ?_;exact⟨⟨[],[.c (jC v (CU j) (.xG ([])) aq own)],_⟩,(A6.trans' (A6.JF 0 33 (.is []) rfl rfl rfl rfl trivial) (A6.ck rfl) (xH _)),xH _,_,_,rfl,rfl,rfl,rfl⟩
theorem UV(v:AD)(j:An)(own:Bool)(m:AC):xC 295 [.ptr 0 0 37,.d m.d] [.c (jC v j (.xG j.left) .e0 own)] (.tup []) [.c (jC v j (.xG j.left) (.d (Ap [m])) own)]:=by
 refine zD AF Tryz.func295 ?_;unfold jC Wi.AC.d Wi.AC.A0;refine wd [0,1,3] [] A4 A4 ?_ [(2,6),(3,6),(4,6)];exact⟨⟨[],[.c (jC v j (.xG j.left) (.d (Ap [m])) own)],_⟩,(A6.ck rfl),xA,_,_,rfl,rfl,rfl,rfl⟩
theorem oL(v:AD)(j:An)(lf:Ad)(l:List AC)(own:Bool)(m:AC)(hn:l.length<=1048576):xC 295 [.ptr 0 0 37,.d m.d] [.c (jC v j (.sl 1 lf.length 1) (.sl 2 l.length 15) own),.a (.is lf),.a (Ap l)] (.tup []) [.c (jC v j (.sl 1 lf.length 1) (.sl 2 (l++[m]).length 15) own),.a (.is lf),.a (Ap (l++[m]))]:=by
 refine zD AF Tryz.func295 ?_;unfold jC Wi.AC.d Wi.AC.A0;refine wd [0,1,3] [] A4 A4 ?_ [(2,6),(3,6),(4,6)];refine⟨⟨[],[.c (jC v j (.sl 1 lf.length 1) (.sl 2 (l++[m]).length 15) own),.a (.is lf),.a (Ap (l++[m]))],_⟩,(have nC:=xU @Ap.eq_1 @Wi.AC.A0.eq_1;A6.cn rfl),xA,_,_,rfl,rfl,rfl,rfl⟩
theorem BJ.arg{P:Program}{f:FuncId}{a x:AV}{d:D}{H:xS}{r:AV}{H':xS}(h:BJ P f [a,.d d] H r H')(hx:MO [x] [d]):BJ P f [a,x] H r H':=
 ⟨h.1,fun G w vs h1 h2 h3=>h.2 G w vs h1 h2 (by
  simp only[Ba]at h3|-;obtain⟨v,q,e,hv,u,q2,e2,hu,e3⟩:=h3;subst e3;have h4:Ba G [x] [u]:=by simp only[Ba];exact⟨u,[],rfl,hu,rfl⟩
  have h5:=Ke.2 (OU hx h4);simp only[zA,q0F,Ba]at h5;obtain⟨u2,q3,e4,hu2,e5⟩:=h5;cases e4
  exact⟨v,q,e,hv,u,[],e2,hu2,rfl⟩)⟩
abbrev mAV(k dst AH:Int)(B4:Bool)(x:AK):AV:=.ag [.wz k,.wo 0,.wo 0,.wo dst,.wo AH,.wu B4,.wu false,.wo 0,.wo 0,.e0,.xE x.AH,.wo x.B2,.wo x.AZ,.wu x.gone,.wo 0]
theorem lJ(k dst AH:Int)(B4:Bool)(x:AK):MO [mAV k dst AH B4 x] [Wi.AC.d ⟨k,0,0,dst,AH,B4,false,0,0,[],x,0⟩]:=by
 unfold Wi.AC.d Wi.AC.A0
 repeat'(first|rfl|trivial|refine⟨rfl,rfl,by simp[B0]⟩|refine⟨_,_,rfl,?_,?_⟩|refine⟨_,rfl,?_⟩)
abbrev Hm:Aw:=[0,1,2,3,6,7,8,20,21,28,58]
abbrev OC:Aw:=[0,1,2,4,5,12,13,14,15,30]
theorem em(n:Int)(l:Ad):xC 335 [.wo n,.xG l] [] (.fn (.func 360) [] [.ptr 1 0 1,.ptr 0 0 1]) [.c [.wo n],.c [.xG l]]:=by
 refine zD AF Tryz.func335 ?_;refine wd [0,1,2,3,4] [] A4 A4 ?_;exact⟨_,(A6.ck rfl),xQ _,_,_,rfl,rfl,rfl,rfl⟩
def J3(l:Ad):Nat->Ad
 |0=>[]
 |k+1=>if l.getD k 0∈l.take k then J3 l k else J3 l k++[l.getD k 0]
theorem cZ(l:Ad):∀k,(J3 l k).length<=k
 |0=>xH _
 |k+1=>by
  have:=cZ l k;unfold J3;split
  .omega
  .rw[y9,List.length_singleton];omega
theorem onc3(a:Int)(l:Ad):J3 ((a::l).take 3) ((a::l).take 3).length=KI (a::l):=by
 match l with
 |[]=>simp[J3,KI]
 |[b]=>by_cases h:b=a<;>simp[J3,KI,h]
 |b::c::r=>
  by_cases h:b=a<;>by_cases h2:c=a<;>by_cases h3:c=b<;>simp[J3,KI,h,h2,h3]<;>simp_all
abbrev T8(id:Int)(l:Ad):Ad:=l.filter fun p=>p !=id
abbrev qw(v:AD)(j:An)(lf:Ad)(l:List AC)(own:Bool)(P:Ad)(r:Lp):xS:=[.c (jC v j (.sl 6 lf.length 1) (.sl 7 l.length 15) own),.c [.ptr 0 0 37],.c [.ptr 0 20 37],.gone,.c [.wo 3],.c [.xG P],.a (.is lf),.a (Ap l),.lp r]
theorem cF(v:AD)(j:An)(AO:Int)(A8:Ad)(hn:A8.length<=1048576):xC 285 [.ptr 0 0 37,.wo AO,.xG A8] [.c (jC v j (.xG j.left) .e0 false)] (.tup []) [.c (jC v (JM v.id j AO A8).job (.xG ((JM v.id j AO A8).job.left)) (.d (Ap (JM v.id j AO A8).BN)) (JM v.id j AO A8).own)]:=by
 have c1:=em 3 (AO::A8);have hO:J3 ((AO::A8).take 3) ((AO::A8).take 3).length=KI (AO::A8):=onc3 AO A8;refine zD AF Tryz.func285 ?_;unfold jC;have ow:Lv [16]:=trivial;refine wd Hm [4] A4 A4 ?_;clear ow;refine BC (A6.freeze 3 (x:=.is (AO::A8)) rfl) (by rw[E5];exact xH _) ?_;simp only[KS,EP,AI.Fu,AV.Fu,AV.Hd,KU,Nat.reduceEqDiff,Nat.reduceAdd,decide_true,q0M,BK,xw,yI,yG,yC,reduceCtorEq];have d1:=Ds.mk [] (c1);refine wd Hm [] A4 A4 ?_;clear d1;refine BC (A6.EO 0 33 (.is []) rfl rfl rfl rfl trivial) sm ?_;refine BC (A6.EO 0 35 (.sl 15 []) rfl rfl rfl rfl (by simp[B0])) sm ?_;generalize hP:AO::A8=P at *;have hPl:P.length<=1048577:=by rw[<-hP,xw];omega
 have hJ:JM v.id j AO A8=⟨⟨j.AL,if T8 v.id (J3 (P.take 3) (P.take 3).length)=[]then 5 else 3,j.Ak,j.A9,j.AO,T8 v.id (J3 (P.take 3) (P.take 3).length),j.AQ⟩,(T8 v.id (J3 (P.take 3) (P.take 3).length)).map (El j.A9),decide (v.id∈J3 (P.take 3) (P.take 3).length)⟩:=by
  rw[hO];unfold JM;rw[hP]
 rw[hJ];clear hJ hO;generalize hQ:P.take 3=P3 at *;have hP3:P3.length<=3:=by rw[<-hQ];exact List.length_take_le _ _
 refine zG (K:=fun r _ H'=>H'=qw v j (T8 v.id (J3 P3 P3.length)) ((T8 v.id (J3 P3 P3.length)).map (El j.A9)) (decide (v.id∈J3 P3 P3.length)) P3 r) ?_ ?_
 .intro r hr;have hk:=hr.ok (k:=8) rfl
  have hY1:∀(p:Int)(lf:Ad)(l:List AC)(own:Bool),p=v.id->YT Tryz.prog 8 [.wo p] (qw v j lf l own P3 r) fun x K=>x= .wu true/\K=qw v j lf l true P3 r:=by
   intro p lf l own hp;have f1:=AS hp;refine BD hr rfl rfl rfl ?_;unfold qw jC;refine wd Hm [] A4 A4 ?_;refine zR ?_;refine wd Hm [] (AM f1) A4 ?_;exact⟨_,A6.refl _,xH _,rfl,rfl,rfl⟩
  have hY2:∀(p:Int)(lf:Ad)(l:List AC)(own:Bool),p≠v.id->lf.length<=1000->l.length<=1000->YT Tryz.prog 8 [.wo p] (qw v j lf l own P3 r) fun x K=>x= .wu true/\K=qw v j (lf++[p]) (l++[El j.A9 p]) own P3 r:=by
   intro p lf l own hp h1 h2;have f1:=eq_false' hp;have c2:=BJ.arg (oL v j (lf++[p]) l own (El j.A9 p) om) (lJ 5 p 0 false j.A9);refine BD hr rfl rfl rfl ?_;unfold qw;unfold jC at *;refine wd Hm [] A4 A4 ?_;refine zR ?_;have d1:=Ds.mk [0,6,7] (c2);refine wd Hm [] (AM f1) A4 ?_ [(0,6),(1,6),(2,6),(3,6),(4,6),(0,7)];clear d1;refine⟨⟨[],[.c (jC v j (.sl 6 (lf++[p]).length 1) (.sl 7 (l++[El j.A9 p]).length 15) own),.c [.ptr 0 0 37],.c [.ptr 0 20 37],.gone,.c [.wo 3],.c [.xG P3],.a (.is (lf++[p])),.a (Ap (l++[El j.A9 p])),.lp r.busy],_⟩,(have nC:=xU @Ap.eq_1 @Wi.AC.A0.eq_1;A6.cn rfl),xH _,rfl,rfl,rfl⟩
  refine zT AF Tryz.func360 ?_;have e3:(if(P.length:Int)<3 then(P.length:Int)else 3)=((min 3 P.length:Nat):Int):=by split<;>omega
  have hQ':P.take (min 3 P.length)=P3:=by
   rw[<-hQ];rcases Nat.le_total 3 P.length with h|h
   .rw[Nat.min_eq_left h]
   .rw[Nat.min_eq_right h,zI (xH _),zI h]
  have hmin:min 3 P.length<=P.length:=Nat.min_le_right _ _;refine wd OC [] (Ax e3 hQ') A4 ?_;refine Ct (fun k:Nat=>k<=P3.length) (fun k:Nat=>[(14,.wo k)]) (fun k=>[(0,.c (jC v j (.sl 6 (T8 v.id (J3 P3 k)).length 1) (.sl 7 ((T8 v.id (J3 P3 k)).map (El j.A9)).length 15) (decide (v.id∈J3 P3 k)))),(6,.a (.is (T8 v.id (J3 P3 k)))),(7,.a (Ap ((T8 v.id (J3 P3 k)).map (El j.A9))))]) (fun k=>P3.length-k) 0 (xQ _) (fun _=>rfl) (fun _=>rfl) ?_ ?_
  .exact A6.ck rfl
  intro k hkl0
  by_cases hkl:k<P3.length
  .obtain⟨p,hp⟩:=BB hkl;have gp:=DX hp;have hlen:=cZ P3 k;have hfl:(T8 v.id (J3 P3 k)).length<=1000:=by have:=yu (fun p=>p !=v.id) (J3 P3 k);show(List.filter _ _).length<=_;omega
   have c3:=IW (P3.take k) p (by rw[yM];omega)
   have hon:J3 P3 (k+1)=if p∈P3.take k then J3 P3 k else J3 P3 k++[p]:=by
    show(if P3.getD k 0∈P3.take k then _ else _)=_;rw[gp]
   by_cases hin:p∈P3.take k
   .rw[if_pos hin]at hon;rw[xM hin]at c3;refine wd OC [] (AM gp) (AM @c3) ?_;with_reducible repeat' first|constructor|intro hc
    refine⟨k+1,hkl,om,xH _,?_⟩;dsimp only;rw[hon];exact A6.ck rfl
   .rw[if_neg hin]at hon;rw[xO hin]at c3
    by_cases hpv:p=v.id
    .have h1:T8 v.id (J3 P3 (k+1))=T8 v.id (J3 P3 k):=by rw[hon];show List.filter _ _=_;rw[List.filter_append];simp[hpv]
     have h2:decide (v.id∈J3 P3 (k+1))=true:=by rw[hon];simp[hpv]
     have hy:=hY1 p (T8 v.id (J3 P3 k)) ((T8 v.id (J3 P3 k)).map (El j.A9)) (decide (v.id∈J3 P3 k)) hpv;have q1:=@hy;refine wd OC [] (AM gp) (AM @c3) ?_;clear q1;with_reducible repeat' first|constructor|intro hc
     refine⟨k+1,hkl,om,xH _,?_⟩;dsimp only;rw[h1,h2];exact A6.ck rfl
    .have h1:T8 v.id (J3 P3 (k+1))=T8 v.id (J3 P3 k)++[p]:=by rw[hon];show List.filter _ _=_;rw[List.filter_append];simp[hpv]
     have h2:decide (v.id∈J3 P3 (k+1))=decide (v.id∈J3 P3 k):=by rw[hon];simp[Ne.symm hpv]
     have hy:=hY2 p (T8 v.id (J3 P3 k)) ((T8 v.id (J3 P3 k)).map (El j.A9)) (decide (v.id∈J3 P3 k)) hpv hfl (by rw[yS];exact hfl);have h3:(T8 v.id (J3 P3 (k+1))).map (El j.A9)=(T8 v.id (J3 P3 k)).map (El j.A9)++[El j.A9 p]:=by rw[h1,List.map_append];rfl
     rw[<-h1,<-h3]at hy;have q1:=@hy;refine wd OC [] (AM gp) (AM @c3) ?_;clear q1;with_reducible repeat' first|constructor|intro hc
     refine⟨k+1,hkl,om,xH _,?_⟩;dsimp only;rw[h2];exact A6.ck rfl
  .have e:k=P3.length:=om
   subst e;refine wd OC [] A4 A4 ?_;with_reducible repeat' first|constructor|intro hc
   exact⟨_,A6.refl _,xH _,_,_,rfl,rfl,rfl⟩
 .generalize J3 P3 P3.length=O at *;generalize hL:T8 v.id O=L at *;generalize decide (v.id∈O)=own at *;rintro r hr x H' rfl;refine .inl ⟨rfl,?_⟩;refine wd Hm [10] A4 A4 ?_;unfold qw jC;simp only[List.set_cons_succ,List.set_cons_zero];refine BC (A6.freeze 6 (x:=.is L) rfl) (by rw[E5];exact xH _) ?_;simp only[KS,EP,AI.Fu,AV.Fu,AV.Hd,KU,Nat.reduceEqDiff,Nat.reduceAdd,decide_true,q0M,BK,xw,yI,yG,yC,reduceCtorEq];refine BC (A6.freeze 7 (x:=Ap (L.map (El j.A9))) rfl) (by rw[E5];exact xH _) ?_;simp only[KS,EP,AI.Fu,AV.Fu,AV.Hd,KU,Nat.reduceEqDiff,Nat.reduceAdd,decide_true,q0M,BK,xw,yI,yG,yC,reduceCtorEq];have hv:=Ik v ⟨j.AL,3,j.Ak,j.A9,j.AO,L,j.AQ⟩ (.d (Ap (L.map (El j.A9)))) own (by simp[AV.ok,B0]);unfold jC at hv
  by_cases h0:L=[]
  .subst h0;have d1:=Ds.mk [0] (hv);refine wd Hm [] A4 A4 ?_;clear d1;exact⟨⟨[],[.c (jC v ⟨j.AL,5,j.Ak,j.A9,j.AO,[],j.AQ⟩ (.xG ([])) (.d (Ap [])) own)],_⟩,(A6.ck rfl),xA,_,_,rfl,rfl,rfl,rfl⟩
  .have hl0:((L.length:Int)==0)=false:=eq_false' (by have:=List.length_pos_iff.2 h0;omega);rw[if_neg h0];refine wd Hm [] (AM hl0) A4 ?_;exact⟨⟨[],[.c (jC v ⟨j.AL,3,j.Ak,j.A9,j.AO,L,j.AQ⟩ (.xG L) (.d (Ap (L.map (El j.A9)))) own)],_⟩,(A6.ck rfl),xA,_,_,rfl,rfl,rfl,rfl⟩
abbrev Ir:Aw:=[0,2,3,4,13,26,38,50,56,85,101]
abbrev jE(v:AD)(c:JC):xS:=[.c (jC v c.job (.xG c.job.left) (.d (Ap c.BN)) c.own)]
theorem Ow(v:AD)(j:An)(hn:v.A8.length<=1048576):xC 215 [.ptr 0 0 37] [.c (jC v j (.xG j.left) .e0 false)] (.tup []) (jE v (EH v j)):=by
 obtain⟨AL,A5,⟨AH,Cj,Bn,B4,CB,AQ⟩,A9,AO,left,jc⟩:=j;have hA:cP ⟨AH,Cj,Bn,B4,CB,AQ⟩=cP ⟨AH,Cj,Bn,B4,CB,AQ⟩:=rfl;generalize hq:cP ⟨AH,Cj,Bn,B4,CB,AQ⟩=q at hA;refine zD AF Tryz.func215 ?_;clear hA;generalize hj:EH v ⟨AL,A5,⟨AH,Cj,Bn,B4,CB,AQ⟩,A9,AO,left,jc⟩=r;unfold EH at hj;dsimp only at hj;unfold jE
 by_cases h1:AQ≠0
 .rw[if_pos h1]at hj;subst hj;have f1:=eq_false' h1;have hv:=Ik v ⟨AL,A5,⟨AH,Cj,Bn,B4,CB,AQ⟩,A9,AO,left,AQ⟩ .e0 false rfl;unfold jC at hv;unfold jC;have d1:=Ds.mk [0] (hv);refine wd Ir [] (AM f1) A4 ?_ [] true;clear d1;with_reducible repeat' first|constructor|intro hc
  exact⟨⟨[],[.c (jC v ⟨AL,5,⟨AH,Cj,Bn,B4,CB,AQ⟩,A9,AO,[],AQ⟩ (.xG ([])) (.d (Ap [])) false)],_⟩,(A6.trans' (A6.JF 0 35 (.sl 15 []) rfl rfl rfl rfl (by simp[B0])) (A6.ck rfl) xA),xA,_,_,rfl,rfl,rfl,rfl⟩
 rw[if_neg h1]at hj;have f1:=AS (Decidable.not_not.1 h1)
 by_cases h2:CB=false
 .rw[if_pos h2,hq]at hj;subst h2;have c1:=tA ⟨AH,Cj,Bn,B4,false,AQ⟩;rw[hq]at c1;obtain⟨m,b⟩:=q;unfold Bw.d Bw.A0 at c1
  cases b with
  |true=>
   dsimp only at hj;rw[if_pos rfl]at hj;subst hj;have c2:=UV v ⟨AL,1,⟨AH,Cj,Bn,B4,false,AQ⟩,A9,AO,left,jc⟩ false m;unfold jC at *;unfold Wi.AC.d Wi.AC.A0 at c1 c2;have d1:=Ds.mk [0] (c2);refine wd Ir [] (AM f1) (AM @c1) ?_ [] true;clear d1;with_reducible repeat' first|constructor|intro hc
   exact⟨⟨[],[.c (jC v ⟨AL,1,⟨AH,Cj,Bn,B4,false,AQ⟩,A9,AO,left,jc⟩ (.xG left) (.d (Ap [m])) false)],_⟩,(A6.ck rfl),xA,_,_,rfl,rfl,rfl,rfl⟩
  |false=>
   dsimp only at hj;rw[if_neg (by decide)]at hj;subst hj;unfold jC at *;unfold Wi.AC.d Wi.AC.A0 at c1;refine wd Ir [] (AM f1) (AM @c1) ?_ [] true;with_reducible repeat' first|constructor|intro hc
   exact⟨⟨[],[.c (jC v ⟨AL,1,⟨AH,Cj,Bn,B4,false,AQ⟩,A9,AO,left,jc⟩ (.xG left) (.d (Ap [])) false)],_⟩,(A6.trans' (A6.JF 0 35 (.sl 15 []) rfl rfl rfl rfl (by simp[B0])) (A6.ck rfl) xA),xA,_,_,rfl,rfl,rfl,rfl⟩
 rw[if_neg h2]at hj;have h3:CB=true:=by cases CB<;>simp_all
 subst h3
 by_cases h4:AL=1
 .rw[if_pos h4]at hj;subst hj;have f2:=AS h4;have hv:=Ik v ⟨AL,A5,⟨AH,Cj,Bn,B4,true,AQ⟩,A9,Cj,left,0⟩ .e0 false rfl;unfold jC at hv;unfold jC;have d1:=Ds.mk [0] (hv);refine wd Ir [] (Ax f1 f2) A4 ?_ [] true;clear d1;with_reducible repeat' first|constructor|intro hc
  exact⟨⟨[],[.c (jC v ⟨AL,5,⟨AH,Cj,Bn,B4,true,AQ⟩,A9,Cj,[],0⟩ (.xG ([])) (.d (Ap [])) false)],_⟩,(A6.trans' (A6.JF 0 35 (.sl 15 []) rfl rfl rfl rfl (by simp[B0])) (A6.ck rfl) xA),xA,_,_,rfl,rfl,rfl,rfl⟩
 rw[if_neg h4]at hj;have f2:=eq_false' h4
 by_cases h5:AL=2
 .have f3:=AS h5
  by_cases h6:Cj=v.id
  .rw[if_pos ⟨h5,h6⟩]at hj;have f4:=AS h6;have hp:=cF v ⟨AL,A5,⟨AH,Cj,Bn,B4,true,AQ⟩,A9,Cj,left,jc⟩ Cj v.A8 hn;rw[hj]at hp;unfold jC at *;have d1:=Ds.mk [0] (hp);refine wd Ir [] (KQ f1 f2 f3 f4) A4 ?_ [] true;clear d1;with_reducible repeat' first|constructor|intro hc
   exact⟨⟨[],[.c (jC v r.job (.xG r.job.left) (.d (Ap r.BN)) r.own)],_⟩,(A6.ck rfl),xA,_,_,rfl,rfl,rfl,rfl⟩
  .rw[if_neg (fun h=>h6 h.2),if_pos h5]at hj;subst hj;have f4:=eq_false' h6;have c2:=BJ.arg (UV v ⟨AL,2,⟨AH,Cj,Bn,B4,true,AQ⟩,A9,Cj,left,jc⟩ false (J9 Cj)) (lJ 1 Cj 0 false AY);unfold mAV AY at c2;unfold jC at *;have d1:=Ds.mk [0] (c2);refine wd Ir [] (KQ f1 f2 f3 f4) A4 ?_ [] true;clear d1;with_reducible repeat' first|constructor|intro hc
   exact⟨⟨[],[.c (jC v ⟨AL,2,⟨AH,Cj,Bn,B4,true,AQ⟩,A9,Cj,left,jc⟩ (.xG left) (.d (Ap [J9 Cj])) false)],_⟩,(A6.ck rfl),xA,_,_,rfl,rfl,rfl,rfl⟩
 .rw[if_neg (fun h=>h5 h.1),if_neg h5]at hj;have f3:=eq_false' h5
  by_cases h6:Cj=v.id
  .rw[if_pos h6]at hj;subst hj;have f4:=AS h6;have hv:=Ik v ⟨AL,A5,⟨AH,Cj,Bn,B4,true,AQ⟩,A9,Cj,left,0⟩ .e0 true rfl;unfold jC at hv;unfold jC;have d1:=Ds.mk [0] (hv);refine wd Ir [] (KQ f1 f2 f3 f4) A4 ?_ [] true;clear d1;with_reducible repeat' first|constructor|intro hc
   exact⟨⟨[],[.c (jC v ⟨AL,5,⟨AH,Cj,Bn,B4,true,AQ⟩,A9,Cj,[],0⟩ (.xG ([])) (.d (Ap [])) true)],_⟩,(A6.trans' (A6.JF 0 35 (.sl 15 []) rfl rfl rfl rfl (by simp[B0])) (A6.ck rfl) xA),xA,_,_,rfl,rfl,rfl,rfl⟩
  .rw[if_neg h6]at hj;subst hj;have f4:=eq_false' h6;have c2:=BJ.arg (UV v ⟨AL,4,⟨AH,Cj,Bn,B4,true,AQ⟩,A9,Cj,left,jc⟩ false (UW Cj A9.AH)) (lJ 6 Cj 0 false ⟨A9.AH,0,0,false⟩);unfold mAV at c2;unfold jC at *;have d1:=Ds.mk [0] (c2);refine wd Ir [] (KQ f1 f2 f3 f4) A4 ?_ [] true;clear d1;with_reducible repeat' first|constructor|intro hc
   exact⟨⟨[],[.c (jC v ⟨AL,4,⟨AH,Cj,Bn,B4,true,AQ⟩,A9,Cj,left,jc⟩ (.xG left) (.d (Ap [UW Cj A9.AH])) false)],_⟩,(A6.ck rfl),xA,_,_,rfl,rfl,rfl,rfl⟩
abbrev UH:xT:=[(.i .u8 1,.fn (.func 282) [] [.ptr 2 0 1,.ptr 1 0 1]),(.i .u8 2,.fn (.func 284) [] [.ptr 2 0 1,.ptr 1 0 1]),(.i .u8 3,.fn (.func 286) [] [.ptr 1 0 1]),(.i .u8 4,.fn (.func 288) [] [.ptr 2 0 1,.ptr 1 0 1])]
abbrev Td:xT:=[(.i .u8 1,.fn (.func 343) [] [.ptr 2 0 1,.ptr 1 0 1]),(.i .u8 2,.fn (.func 342) [] [.ptr 2 0 1,.ptr 1 0 1]),(.i .u8 3,.fn (.func 345) [] [.ptr 1 0 1]),(.i .u8 4,.fn (.func 342) [] [.ptr 2 0 1,.ptr 1 0 1])]
abbrev rD:xT:=[(.i .u8 1,.fn (.func 282) [] [.ptr 3 0 1,.ptr 2 0 1]),(.i .u8 2,.fn (.func 284) [] [.ptr 3 0 1,.ptr 2 0 1]),(.i .u8 3,.fn (.func 286) [] [.ptr 2 0 1]),(.i .u8 4,.fn (.func 288) [] [.ptr 3 0 1,.ptr 2 0 1])]
abbrev qg:xT:=[(.i .u8 1,.fn (.func 343) [] [.ptr 3 0 1,.ptr 2 0 1]),(.i .u8 2,.fn (.func 342) [] [.ptr 3 0 1,.ptr 2 0 1]),(.i .u8 3,.fn (.func 345) [] [.ptr 2 0 1]),(.i .u8 4,.fn (.func 342) [] [.ptr 3 0 1,.ptr 2 0 1])]
theorem IN(v:AD)(j:An):xC 207 [.ptr 0 0 37] [.c (jC v j (.xG j.left) .e0 false)] (.mp 3) [.c (jC v j (.xG j.left) .e0 false),.c [.ptr 0 0 37],.c [.ptr 0 20 37],.m UH]:=by
 refine zD AF Tryz.func207 ?_;refine wd [0,1,2,3] [] A4 A4 ?_;exact⟨_,(A6.ck rfl),xA,_,_,rfl,rfl,rfl,rfl⟩
theorem I6(v:AD)(j:An):xC 302 [.ptr 0 0 37] [.c (jC v j (.xG j.left) .e0 false)] (.mp 3) [.c (jC v j (.xG j.left) .e0 false),.c [.ptr 0 0 37],.c [.ptr 0 20 37],.m Td]:=by
 refine zD AF Tryz.func302 ?_;refine wd [0,1,2,3,4] [] A4 A4 ?_;exact⟨_,(A6.ck rfl),xA,_,_,rfl,rfl,rfl,rfl⟩
theorem YO(v:AD)(j:An):xC 207 [.ptr 0 0 37] [.c (jC v j (.sl 1 j.left.length 1) .e0 false),.a (.is j.left)] (.mp 4) [.c (jC v j (.sl 1 j.left.length 1) .e0 false),.a (.is j.left),.c [.ptr 0 0 37],.c [.ptr 0 20 37],.m rD]:=by
 refine zD AF Tryz.func207 ?_;refine wd [0,1,2,3] [] A4 A4 ?_;exact⟨_,(A6.ck rfl),xA,_,_,rfl,rfl,rfl,rfl⟩
theorem Wu(v:AD)(j:An):xC 302 [.ptr 0 0 37] [.c (jC v j (.sl 1 j.left.length 1) .e0 false),.a (.is j.left)] (.mp 4) [.c (jC v j (.sl 1 j.left.length 1) .e0 false),.a (.is j.left),.c [.ptr 0 0 37],.c [.ptr 0 20 37],.m qg]:=by
 refine zD AF Tryz.func302 ?_;refine wd [0,1,2,3,4] [] A4 A4 ?_;exact⟨_,(A6.ck rfl),xA,_,_,rfl,rfl,rfl,rfl⟩
structure Dp where
 to:Int
 by_:AJ
 harmed:Bool
def Dp.A0(g:Dp):ww:=[.i .i64 g.to,.by g.by_,.b g.harmed]
def Dp.d(g:Dp):D:=.agg g.A0
end Nd
end Go.Proofs.YtkljbfejbakooaaGreatDoor
