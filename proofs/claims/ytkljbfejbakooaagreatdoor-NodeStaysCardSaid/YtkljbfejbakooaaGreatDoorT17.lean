/- Part 17 of a proof. Conditions: those that its theorems state. -/
import Derived.Test.YtkljbfejbakooaaGreatDoorT16
set_option linter.unusedSimpArgs false
set_option linter.unusedVariables false
set_option maxHeartbeats 40000000
set_option maxRecDepth 4000
namespace Go.Proofs.YtkljbfejbakooaaGreatDoor
namespace Nd
open Go.Gar
open Wi (AC Bp BE AN Bc mC)
abbrev O8:Aw:=[0,1,2,3,4,5,17,24]
abbrev ES:Aw:=[0,1,2,3,4,5,6,7,8,9,21,25,26,27,34,42]
abbrev Lu:Aw:=[0,1,2,3,26]
variable {l:Bw}
theorem S5(h:JP l=true):0<=l.Bn/\l.Bn<=41:=by
 unfold JP at h;simp only[xI,xK]at h;exact⟨h.1.1.2,h.1.2⟩
theorem br(h:l.Bn+1>40):NY l=⟨l.AH,l.Cj,l.Bn+1,l.B4,l.CB,211⟩:=by unfold NY;rw[if_pos h]
theorem bu(h:¬l.Bn+1>40):NY l=⟨l.AH,l.Cj,l.Bn+1,l.B4,l.CB,l.AQ⟩:=by unfold NY;rw[if_neg h]
theorem tC(v:AD)(l:Bw)(hb:v.AB.length<=1000)(hl:v.A8.length<=1000):xB 344 [v.d,l.d] (gz v l).d:=by
 have c1:=BV v hb hl;have c2:=Ry l;have c3:=Rx l;have hT:gz v l=if Al v&&(JP l&& !lookO l)then(if l.Bn+1>40 then NY l else⟨l.AH,(Eo v l.AH true).1,l.Bn+1,true,(Eo v l.AH true).2,l.AQ⟩)else l:=rfl
 have c4:=bq l;have hR:=S5 (l:=l);have hhi:=br (l:=l);have hlo:=bu (l:=l);obtain⟨id,AB,A8,AG,f⟩:=v;refine zF AF Tryz.func344 ?_;generalize JP l=b2 at *;generalize lookO l=b3 at*
 cases h1:Al ⟨id,AB,A8,AG,f⟩with
 |false=>
  rw[h1]at c1 hT;rw[hT];unfold Bw.d Bw.A0;refine wd O8 [] A4 (AM @c1) ?_ [] true;exact zE
 |true=>
 rw[h1]at c1 hT
 cases b2 with
 |false=>
  rw[hT];unfold Bw.d Bw.A0 at *;refine wd O8 [] A4 (Ax @c1 @c2) ?_ [] true;exact zE
 |true=>
 cases b3 with
 |true=>
  rw[hT];unfold Bw.d Bw.A0 at *;refine wd O8 [] A4 (Ci @c1 @c2 @c3) ?_ [] true;exact zE
 |false=>
 replace c4:=c4 (hR rfl);rw[yF,yF,Bool.not_false,if_pos rfl]at hT
 by_cases hh:l.Bn+1>40
 .rw[if_pos hh,hhi hh]at hT;rw[hhi hh,xO om]at c4;rw[hT];unfold Bw.d Bw.A0 at *;refine wd O8 [] A4 (KQ @c1 @c2 @c3 @c4) ?_ [] true;exact zE
 .rw[if_neg hh]at hT;rw[hlo hh,xM om]at c4;rw[hT];have c5:=VK id AB A8 AG f ⟨l.AH,l.Cj,l.Bn+1,true,l.CB,l.AQ⟩;have c6:=S7 id AB A8 AG f ⟨l.AH,l.Cj,l.Bn+1,true,l.CB,l.AQ⟩ hb hl;dsimp only at c6;generalize Eo ⟨id,AB,A8,AG,f⟩ l.AH true=q at *;obtain⟨q1,q2⟩:=q;unfold Bw.d Bw.A0 at *;unfold Ov at c5 c6;have d1:=Ds.mk [] (c5);have d2:=Ds.mk [3,4] (c6);refine wd O8 [] A4 (KQ @c1 @c2 @c3 @c4) ?_ [] true;clear d2 d1;exact zE
theorem oG(id:Int)(AB A8:Ad)(AG:Int)(f:Nat->Int)(l:Bw)(m:AC):xC 333 [.d (AD.d ⟨id,AB,A8,AG,f⟩),.d l.d,.d m.d] [] (.fn (.func 359) [] [.ptr 2 0 15,.ptr 1 0 6,.ptr 0 0 20]) [.c (vC id AB A8 AG f),.c (Ov l),.c (mC m)]:=by
 refine zD AF Tryz.func333 ?_;unfold vC Ov mC Bw.d Bw.A0 Wi.AC.d Wi.AC.A0;refine wd [0,1,2,3,4,5,6] [] A4 A4 ?_;exact⟨_,(A6.ck rfl),xQ _,_,_,rfl,rfl,rfl,rfl⟩
theorem lE(l:Bw)(k:Nat):AV.oks k (Ov l)=true:=rfl
theorem ql(m:AC)(k:Nat):AV.oks k (mC m)=true:=rfl
abbrev W7(id:Int)(AB A8:Ad)(AG:Int)(f:Nat->Int)(l l0:Bw)(m:AC)(ok:Bool)(r:Lp):xS:=[.c (vC id AB A8 AG f),.c (Ov l),.c (mC m),.c (Ov Ps),.c [.wu ok],.c (vC id AB A8 AG f),.c (Ov l0),.c (mC m),.lp r]
theorem tD(v:AD)(l:Bw)(m:AC)(hb:v.AB.length<=1000)(hl:v.A8.length<=1000)(hm:Am m):xB 283 [v.d,l.d,m.d] (Ph v l m).d:=by
 have c1:=BV v hb hl;have c2:=Ry l;have c3:=Rx l;have hT:Ph v l m=if Al v&&(JP l&& !lookO l)then(if Vx v l m then(if l.Bn+1>40 then NY l else⟨l.AH,(uY v l m).1,l.Bn+1,l.B4,(uY v l m).2,l.AQ⟩)else l)else l:=rfl
 have c4:=bq l;have hR:=S5 (l:=l);have hhi:=br (l:=l);have hlo:=bu (l:=l);refine zF AF Tryz.func283 ?_;generalize JP l=b2 at *;generalize lookO l=b3 at*
 cases h1:Al v with
 |false=>
  rw[h1]at c1 hT;rw[hT];obtain⟨id,AB,A8,AG,f⟩:=v;unfold Bw.d Bw.A0 Wi.AC.d Wi.AC.A0 at *;refine wd ES [] A4 (AM @c1) ?_ [] true;exact zE
 |true=>
 rw[h1]at c1 hT
 cases b2 with
 |false=>
  rw[hT];obtain⟨id,AB,A8,AG,f⟩:=v;unfold Bw.d Bw.A0 Wi.AC.d Wi.AC.A0 at *;refine wd ES [] A4 (Ax @c1 @c2) ?_ [] true;exact zE
 |true=>
 cases b3 with
 |true=>
  rw[hT];obtain⟨id,AB,A8,AG,f⟩:=v;unfold Bw.d Bw.A0 Wi.AC.d Wi.AC.A0 at *;refine wd ES [] A4 (Ci @c1 @c2 @c3) ?_ [] true;exact zE
 |false=>
 replace c4:=c4 (hR rfl);rw[yF,yF,Bool.not_false,if_pos rfl]at hT;have hTo:Vx v l m=(decide (m.AR=10)&&(decide (m.As=l.Cj)&&(decide (m.dst=v.id)&&m.right))):=rfl;have hOn:uY v l m=if m.AT=v.id/\m.done=false then Eo v l.AH l.B4 else(m.AT,m.done):=rfl
 generalize Ph v l m=R at *;obtain⟨id,AB,A8,AG,f⟩:=v;dsimp only at hTo hOn;have c5:=oG id AB A8 AG f l m;have c7:=VK id AB A8 AG f ⟨l.AH,l.Cj,l.Bn+1,l.B4,l.CB,l.AQ⟩;have c8:=S7 id AB A8 AG f ⟨l.AH,l.Cj,l.Bn+1,l.B4,l.CB,l.AQ⟩ hb hl;have c9:=Wi.CX m (lm hm);dsimp only at c8;generalize m.right=mr at *;generalize Vx ⟨id,AB,A8,AG,f⟩ l m=T1 at *;generalize uY ⟨id,AB,A8,AG,f⟩ l m=on at *;generalize Eo ⟨id,AB,A8,AG,f⟩ l.AH l.B4=hp at *;unfold Bw.d Bw.A0 Wi.AC.d Wi.AC.A0 at *;have d1:=Ds.mk [] (c5);refine wd ES [] A4 (Ci @c1 @c2 @c3) ?_ [] true;clear d1;refine zG (K:=fun r _ H'=>(T1=false/\H'=W7 id AB A8 AG f l l m false r)\/(T1=true/\l.Bn+1>40/\H'=W7 id AB A8 AG f (NY l) l m false (r.left (.goto 0)))\/(T1=true/\¬l.Bn+1>40/\H'=W7 id AB A8 AG f ⟨l.AH,on.1,l.Bn+1,l.B4,on.2,l.AQ⟩ l m true r)) ?_ ?_
 .intro r hr;have hk:=xU lE (xU ql (xU (dO id AB A8 AG f) (hr.ok (k:=8) rfl)))
  have hY1:l.Bn+1>40->YT Tryz.prog 8 [.wo m.AT,.wu m.done] (W7 id AB A8 AG f l l m false r) fun x K=>x= .wu false/\K=W7 id AB A8 AG f (NY l) l m false (r.left (.goto 0)):=by
   intro hh;rw[hhi hh,xO om]at c4;rw[hhi hh];refine BD hr rfl rfl rfl ?_;unfold W7 Ov mC;refine wd ES [] A4 A4 ?_ [] true;refine zR ?_;refine wd ES [] A4 (AM @c4) ?_ [] true;exact⟨_,A6.refl _,xH _,rfl,rfl,rfl⟩
  have hY2:¬l.Bn+1>40->YT Tryz.prog 8 [.wo m.AT,.wu m.done] (W7 id AB A8 AG f l l m false r) fun x K=>x= .wu true/\K=W7 id AB A8 AG f ⟨l.AH,on.1,l.Bn+1,l.B4,on.2,l.AQ⟩ l m true r:=by
   intro hh;rw[hlo hh,xM om]at c4;refine BD hr rfl rfl rfl ?_;unfold W7 Ov mC;unfold Ov at c7 c8
   by_cases p1:m.AT=id
   .have g1:=AS p1
    cases hd:m.done with
    |false=>
     have ho:on=hp:=by rw[hOn,if_pos ⟨p1,hd⟩]
     rw[ho];obtain⟨q1,q2⟩:=hp;clear hTo hOn hT hhi hlo hR c9 c5 hY1;obtain⟨m1,m2,m3,m4,m5,m6,m7,m8,m9,m10,m11,m12⟩:=m;dsimp only at hd g1|-;subst hd;refine wd ES [] A4 A4 ?_ [] true;refine zR ?_;have d1:=Ds.mk [] (c7);have d2:=Ds.mk [9,10] (c8);refine wd ES [] (AM g1) (AM @c4) ?_ [] true;clear d2 d1;exact⟨⟨[],[.c (vC id AB A8 AG f),.c [.wo l.AH,.wo q1,.wo (l.Bn+1),.wu l.B4,.wu q2,.wo l.AQ],.c (mC ⟨m1,m2,m3,m4,m5,m6,false,m8,m9,m10,m11,m12⟩),.c (Ov Ps),.c [.wu true],.c (vC id AB A8 AG f),.c (Ov l),.c (mC ⟨m1,m2,m3,m4,m5,m6,false,m8,m9,m10,m11,m12⟩),.lp r.busy],_⟩,(A6.ck rfl),xH _,rfl,rfl,rfl⟩
    |true=>
     have ho:on=(m.AT,true):=by rw[hOn,if_neg (fun h=>by rw[hd]at h;cases h.2),hd]
     rw[ho];refine wd ES [] A4 A4 ?_ [] true;refine zR ?_;refine wd ES [] (Ax g1 hd) (AM @c4) ?_ [] true;exact⟨_,A6.refl _,xH _,rfl,rfl,rfl⟩
   .have g1:=eq_false' p1;have ho:on=(m.AT,m.done):=by rw[hOn,if_neg (fun h=>p1 h.1)]
    rw[ho];refine wd ES [] A4 A4 ?_ [] true;refine zR ?_;refine wd ES [] (AM g1) (AM @c4) ?_ [] true;exact⟨_,A6.refl _,xH _,rfl,rfl,rfl⟩
  refine zT AF Tryz.func359 ?_
  by_cases k1:m.AR=10
  .have f1:=C2 k1
   by_cases k2:m.As=l.Cj
   .have f2:=C2 k2
    by_cases k3:m.dst=id
    .have f3:=C2 k3
     cases mr with
     |false=>
      unfold W7 Ov mC at *;refine wd Lu [] (Ci f1 f2 f3) (AM @c9) ?_;exact⟨_,A6.refl _,xH _,_,_,rfl,rfl,.inl ⟨by rw[hTo];simp,rfl⟩⟩
     |true=>
      have hT1:T1=true:=by rw[hTo];simp[k1,k2,k3]
      by_cases hh:l.Bn+1>40
      .have hY:=hY1 hh;unfold W7 Ov mC at *;have q1:=@hY;refine wd Lu [] (Ci f1 f2 f3) (AM @c9) ?_;clear q1;exact⟨_,A6.refl _,xH _,_,_,rfl,rfl,.inr (.inl ⟨hT1,hh,rfl⟩)⟩
      .have hY:=hY2 hh;unfold W7 Ov mC at *;have q1:=@hY;refine wd Lu [] (Ci f1 f2 f3) (AM @c9) ?_;clear q1;exact⟨_,A6.refl _,xH _,_,_,rfl,rfl,.inr (.inr ⟨hT1,hh,rfl⟩)⟩
    .have f3:=C4 k3;unfold W7 Ov mC at *;refine wd Lu [] (Ci f1 f2 f3) A4 ?_;exact⟨_,A6.refl _,xH _,_,_,rfl,rfl,.inl ⟨by rw[hTo];simp[k3],rfl⟩⟩
   .have f2:=C4 k2;unfold W7 Ov mC at *;refine wd Lu [] (Ax f1 f2) A4 ?_;exact⟨_,A6.refl _,xH _,_,_,rfl,rfl,.inl ⟨by rw[hTo];simp[k2],rfl⟩⟩
  .have f1:=C4 k1;unfold W7 Ov mC at *;refine wd Lu [] (AM f1) A4 ?_;exact⟨_,A6.refl _,xH _,_,_,rfl,rfl,.inl ⟨by rw[hTo];simp[k1],rfl⟩⟩
 .rintro r hr x H' (⟨h,rfl⟩|⟨h,hh,rfl⟩|⟨h,hh,rfl⟩)
  .refine .inl ⟨rfl,?_⟩;rw[h,if_neg (by decide)]at hT;rw[hT];unfold W7 Ov;refine wd ES [] A4 A4 ?_ [] true;exact zE
  .refine .inr ⟨.goto 0,rfl,?_⟩;rw[h,if_pos rfl,if_pos hh]at hT;rw[hT,hhi hh];unfold W7 Ov;refine wd ES [] A4 A4 ?_ [] true;exact zE
  .refine .inl ⟨rfl,?_⟩;rw[h,if_pos rfl,if_neg hh]at hT;rw[hT];unfold W7 Ov;refine wd ES [] A4 A4 ?_ [] true;exact zE
abbrev O9:Aw:=[0,1,2,3,4,6,7]
abbrev GJ:Aw:=[0,1,2,3,4,5,6,7,9,10]
def DC(a:AC×Int):ww:=[.i .u8 a.1.AR,.i .i64 a.1.Aa,.i .i64 a.1.As,.i .i64 a.1.dst,.i .i64 a.1.AH,.b a.1.B4,.b a.1.done,.i .i64 a.1.AT,.i .i64 a.1.AG,.is a.1.A8,.s a.1.A9.AH,.i .i64 a.1.A9.B2,.i .i64 a.1.A9.AZ,.b a.1.A9.gone,.i .i64 a.1.AQ,.i .u8 a.2]
abbrev Ab(l:List (AC×Int)):D:=.sl 16 (l.map DC)
theorem Xt{A5 B8:Int}(h0:0<=A5)(h:CZ A5 B8=true):A5=0\/A5=1\/A5=2\/A5=3:=by
 unfold CZ at h;split at h
 .exact .inl (by assumption)
 .simp only[xI,xK]at h;have:=h.1;omega
theorem WT(A5 B8:Int):xC 250 [.d (.agg [.i .u8 A5,.i .i64 B8])] [] (.fn (.func 305) [] [.ptr 0 0 2]) [.c [.wz A5,.wo B8]]:=by
 refine zD AF Tryz.func250 ?_;refine wd [0,1,2] [] A4 A4 ?_;exact⟨_,(A6.ck rfl),xQ _,_,_,rfl,rfl,rfl,rfl⟩
theorem qW{P:Program}{id:Nat}{xs:xD}{ds:ww}{H:xS}{R:AV->xS->Prop}(hx:MO xs ds)(h:YT P id (ds.map .d) H R):YT P id xs H R:=
 fun G w l N vs h1 h2 h3 h4=>h G w l N vs h1 h2 h3 (Ke.2 (OU hx h4))
abbrev jA(kd B8 wy:Int):AV:=.ag [.wz kd,.wo 0,.wo 0,.wo B8,.wo 0,.wu false,.wu false,.wo 0,.wo 0,.e0,.xE ([]),.wo 0,.wo 0,.wu false,.wo 0,.wz wy]
abbrev WR(kd B8 wy:Int):AC×Int:=(⟨kd,0,0,B8,0,false,false,0,0,[],AY,0⟩,wy)
theorem bM(kd B8 wy:Int):MO [jA kd B8 wy] [.agg (DC (WR kd B8 wy))]:=by
 repeat'(first|rfl|trivial|refine⟨rfl,rfl,by simp[B0]⟩|refine⟨_,_,rfl,?_,?_⟩|refine⟨_,rfl,?_⟩)
theorem jB{A5:Int}(B8:Int)(h:A5=1\/A5=2\/A5=3):∃kd wy:Int,GK A5 B8=[WR kd B8 wy]/\(1<=kd/\kd<=3)/\kd+6=(if A5=3 then 9 else 7)/\((A5=1/\kd=1/\wy=1)\/(A5=2/\kd=1/\wy=2)\/(A5=3/\kd=3/\wy=3)):=by
 rcases h with rfl|rfl|rfl
 .exact⟨1,1,rfl,om,rfl,.inl ⟨rfl,rfl,rfl⟩⟩
 .exact⟨1,2,rfl,om,rfl,.inr (.inl ⟨rfl,rfl,rfl⟩)⟩
 .exact⟨3,3,rfl,om,rfl,.inr (.inr ⟨rfl,rfl,rfl⟩)⟩
theorem QB(A5 B8:Int)(h0:0<=A5)(hs:CZ A5 B8=true):xB 169 [.agg [.i .u8 A5,.i .i64 B8]] (Ab (GK A5 B8)):=by
 have c1:=WT A5 B8;have hc:=Xt h0 hs;clear h0 hs;refine zF AF Tryz.func169 ?_;have d1:=Ds.mk [] (c1);refine wd O9 [] A4 A4 ?_;clear d1;clear c1;rcases hc with rfl|hc
 .refine zG (K:=fun r _ H'=>H'=[.c [.wz 0,.wo B8],.c [.e0],.c [.wz 0,.wo B8],.lp r]) ?_ ?_
  .intro r hr;have hk:=hr.ok (k:=3) rfl;refine zT AF Tryz.func305 ?_;refine wd [0,1,3,6] [] A4 A4 ?_;exact⟨_,A6.refl _,xH _,_,_,rfl,rfl,rfl⟩
  .rintro r hr x H' rfl;refine .inl ⟨rfl,?_⟩;refine wd O9 [] A4 A4 ?_;exact BL @GK.eq_1
 .obtain⟨kd,wy,hA,-,-,hcase⟩:=jB B8 hc;rw[hA];clear hA hc;refine zG (K:=fun r _ H'=>H'=[.c [.wz A5,.wo B8],.c [.d (Ab [WR kd B8 wy])],.c [.wz A5,.wo B8],.lp r]) ?_ ?_
  .intro r hr;have hk:=hr.ok (k:=3) rfl
   have hY:YT Tryz.prog 3 [jA kd B8 wy] [.c [.wz A5,.wo B8],.c [.e0],.c [.wz A5,.wo B8],.lp r,.c [.wz kd,.wz wy]] fun x K=>x= .wu true/\K=[.c [.wz A5,.wo B8],.c [.d (Ab [WR kd B8 wy])],.c [.wz A5,.wo B8],.lp r,.c [.wz kd,.wz wy]]:=by
    refine qW (bM kd B8 wy) (BD hr rfl rfl rfl ?_);unfold DC;refine wd O9 [] A4 A4 ?_;refine zR ?_;refine wd O9 [] A4 A4 ?_;exact⟨⟨[],[.c [.wz A5,.wo B8],.c [.d (Ab [WR kd B8 wy])],.c [.wz A5,.wo B8],.lp r.busy,.c [.wz kd,.wz wy]],_⟩,(A6.ck rfl),xH _,rfl,rfl,rfl⟩
   refine zT AF Tryz.func305 ?_;rcases hcase with⟨rfl,rfl,rfl⟩|⟨rfl,rfl,rfl⟩|⟨rfl,rfl,rfl⟩
   all_goals
    have q1:=@hY;refine wd [0,1,3,6] [] A4 A4 ?_;clear q1
   .exact⟨⟨[],[.c [.wz 1,.wo B8],.c [.d (Ab [WR 1 B8 1])],.c [.wz 1,.wo B8],.lp r],_⟩,(A6.ck rfl),xH _,_,_,rfl,rfl,rfl⟩
   .exact⟨⟨[],[.c [.wz 2,.wo B8],.c [.d (Ab [WR 1 B8 2])],.c [.wz 2,.wo B8],.lp r],_⟩,(A6.ck rfl),xH _,_,_,rfl,rfl,rfl⟩
   .exact⟨⟨[],[.c [.wz 3,.wo B8],.c [.d (Ab [WR 3 B8 3])],.c [.wz 3,.wo B8],.lp r],_⟩,(A6.ck rfl),xH _,_,_,rfl,rfl,rfl⟩
  .rintro r hr x H' rfl;refine .inl ⟨rfl,?_⟩;refine wd O9 [] A4 A4 ?_;exact zE
theorem eD(v:AD)(A5 B8:Int)(m:AC)(h0:0<=A5)(hs:CZ A5 B8=true)(hm:Am m):xB 203 [v.d,.agg [.i .u8 A5,.i .i64 B8],m.d] (.b (Uf v A5 B8 m)):=by
 have c1:=WT A5 B8;have c2:=Wi.CX m (lm hm);have hc:=Xt h0 hs;have hT:Uf v A5 B8 m=(decide (A5≠0)&&(decide (m.AR=(if A5=3 then 9 else 7))&&(decide (m.As=B8)&&(decide (m.dst=v.id)&&m.right)))):=rfl;clear h0 hs;generalize Uf v A5 B8 m=B at *;generalize m.right=mr at *;obtain⟨id,AB,A8,AG,f⟩:=v;dsimp only at hT;refine zF AF Tryz.func203 ?_;unfold Wi.AC.d Wi.AC.A0 at *;have d1:=Ds.mk [] (c1);refine wd GJ [] A4 A4 ?_;clear d1;clear c1;rcases hc with rfl|hc
 .refine zG (K:=fun r _ H'=>H'=[.c (vC id AB A8 AG f),.c [.wz 0,.wo B8],.c (mC m),.c [.wu false],.c [.wz 0,.wo B8],.lp r]) ?_ ?_
  .intro r hr;have hk:=xU (dO id AB A8 AG f) (hr.ok (k:=5) rfl);refine zT AF Tryz.func305 ?_;refine wd [0,1,3,6] [] A4 A4 ?_;exact⟨_,A6.refl _,xH _,_,_,rfl,rfl,rfl⟩
  .rintro r hr x H' rfl;refine .inl ⟨rfl,?_⟩;rw[hT];unfold vC mC;refine wd GJ [] A4 A4 ?_;exact zE
 .obtain⟨kd,wy,-,hkd,hkw,hcase⟩:=jB B8 hc;rw[<-hkw,xM (show A5≠0 by omega),yF]at hT;clear hc hkw;refine zG (K:=fun r _ H'=>H'=[.c (vC id AB A8 AG f),.c [.wz A5,.wo B8],.c (mC m),.c [.wu B],.c [.wz A5,.wo B8],.lp (r.left .ret)]) ?_ ?_
  .intro r hr;have hk:=xU lE (xU ql (xU (dO id AB A8 AG f) (hr.ok (k:=5) rfl)))
   have hY:YT Tryz.prog 5 [jA kd B8 wy] [.c (vC id AB A8 AG f),.c [.wz A5,.wo B8],.c (mC m),.c [.wu false],.c [.wz A5,.wo B8],.lp r,.c [.wz kd,.wz wy]] fun x K=>x= .wu false/\K=[.c (vC id AB A8 AG f),.c [.wz A5,.wo B8],.c (mC m),.c [.wu B],.c [.wz A5,.wo B8],.lp (r.left .ret),.c [.wz kd,.wz wy]]:=by
    refine qW (bM kd B8 wy) (BD hr rfl rfl rfl ?_);unfold DC vC mC
    by_cases k1:m.AR=kd+6
    .have f1:=AS k1;rw[xM k1,yF]at hT
     by_cases k2:m.As=B8
     .have f2:=AS k2;rw[xM k2,yF]at hT
      by_cases k3:m.dst=id
      .have f3:=AS k3;rw[xM k3,yF]at hT;rw[hT];refine wd GJ [] A4 A4 ?_;refine zR ?_;refine wd GJ [] (Ci f1 f2 f3) (AM @c2) ?_;with_reducible repeat' first|constructor|intro hc
       exact⟨⟨[],[.c (vC id AB A8 AG f),.c [.wz A5,.wo B8],.c (mC m),.c [.wu mr],.c [.wz A5,.wo B8],.lp r.busy,.c [.wz kd,.wz wy]],_⟩,(A6.ck rfl),xH _,rfl,rfl,rfl⟩
      .have f3:=eq_false' k3;rw[xO k3,zN]at hT;rw[hT];refine wd GJ [] A4 A4 ?_;refine zR ?_;refine wd GJ [] (Ci f1 f2 f3) A4 ?_;with_reducible repeat' first|constructor|intro hc
       exact⟨⟨[],[.c (vC id AB A8 AG f),.c [.wz A5,.wo B8],.c (mC m),.c [.wu false],.c [.wz A5,.wo B8],.lp r.busy,.c [.wz kd,.wz wy]],_⟩,(A6.ck rfl),xH _,rfl,rfl,rfl⟩
     .have f2:=eq_false' k2;rw[xO k2,zN]at hT;rw[hT];refine wd GJ [] A4 A4 ?_;refine zR ?_;refine wd GJ [] (Ax f1 f2) A4 ?_;with_reducible repeat' first|constructor|intro hc
      exact⟨⟨[],[.c (vC id AB A8 AG f),.c [.wz A5,.wo B8],.c (mC m),.c [.wu false],.c [.wz A5,.wo B8],.lp r.busy,.c [.wz kd,.wz wy]],_⟩,(A6.ck rfl),xH _,rfl,rfl,rfl⟩
    .have f1:=eq_false' k1;rw[xO k1,zN]at hT;rw[hT];refine wd GJ [] A4 A4 ?_;refine zR ?_;refine wd GJ [] (AM f1) A4 ?_;with_reducible repeat' first|constructor|intro hc
     exact⟨⟨[],[.c (vC id AB A8 AG f),.c [.wz A5,.wo B8],.c (mC m),.c [.wu false],.c [.wz A5,.wo B8],.lp r.busy,.c [.wz kd,.wz wy]],_⟩,(A6.ck rfl),xH _,rfl,rfl,rfl⟩
   clear c2 hT hkd;refine zT AF Tryz.func305 ?_;rcases hcase with⟨rfl,rfl,rfl⟩|⟨rfl,rfl,rfl⟩|⟨rfl,rfl,rfl⟩
   all_goals
    have q1:=@hY;refine wd [0,1,3,6] [] A4 A4 ?_;clear q1
   .exact⟨⟨[],[.c (vC id AB A8 AG f),.c [.wz 1,.wo B8],.c (mC m),.c [.wu B],.c [.wz 1,.wo B8],.lp (r.left .ret)],_⟩,(A6.ck rfl),xH _,_,_,rfl,rfl,rfl⟩
   .exact⟨⟨[],[.c (vC id AB A8 AG f),.c [.wz 2,.wo B8],.c (mC m),.c [.wu B],.c [.wz 2,.wo B8],.lp (r.left .ret)],_⟩,(A6.ck rfl),xH _,_,_,rfl,rfl,rfl⟩
   .exact⟨⟨[],[.c (vC id AB A8 AG f),.c [.wz 3,.wo B8],.c (mC m),.c [.wu B],.c [.wz 3,.wo B8],.lp (r.left .ret)],_⟩,(A6.ck rfl),xH _,_,_,rfl,rfl,rfl⟩
  .rintro r hr x H' rfl;refine .inr ⟨.ret,rfl,?_⟩;unfold vC mC;refine wd GJ [] A4 A4 ?_;exact zE
end Nd
end Go.Proofs.YtkljbfejbakooaaGreatDoor
