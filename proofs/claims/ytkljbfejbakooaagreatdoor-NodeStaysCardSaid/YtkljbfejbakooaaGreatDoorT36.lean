/- Part 36 of a proof. Conditions: those that its theorems state. -/
import Derived.Test.YtkljbfejbakooaaGreatDoorT33
set_option linter.unusedSimpArgs false
set_option linter.unusedVariables false
set_option linter.unnecessarySimpa false
set_option maxHeartbeats 40000000
set_option maxRecDepth 4000
namespace Go.Proofs.YtkljbfejbakooaaGreatDoor
namespace Nd
open Go.Gar
open Wi (AC Bp BE AN Bc mC C6 BP)
abbrev OG:Aw:=[0,1,2,3,4,5,6]
theorem pW(C0 now:Int)(h1:DJ C0=true)(h2:DJ now=true):xB 340 [.i .i64 C0,.i .i64 now] (.i .i64 (now-C0)):=by
 unfold DJ at h1 h2;simp only[xI,xK]at h1 h2;refine zF AF Tryz.func340 ?_;refine wd [0,1,4] [] A4 A4 ?_;exact zE
theorem U4(C0 now:Int)(h1:DJ C0=true)(h2:DJ now=true):xC 300 [.wo C0,.wo now] [] (.fn (.func 341) [] [.ptr 0 0 1]) [.c [.wo (now-C0)]]:=by
 have c1:=pW C0 now h1 h2;refine zD AF Tryz.func300 ?_;refine wd [0,1,4,5] [] A4 (AM @c1) ?_;exact⟨_,(A6.ck rfl),xQ _,_,_,rfl,rfl,rfl,rfl⟩
theorem SQ(t w:Int):xC 341 [.wo w,.ptr 0 0 1] [.c [.wo t]] (.wu (decide (t>=w))) [.c [.wo t]]:=by
 refine zD AF Tryz.func341 ?_;refine wd [0,1,3] [] A4 A4 ?_;exact⟨_,(A6.ck rfl),xA,_,_,rfl,rfl,rfl,rfl⟩
theorem dQ(t:Int)(h1:1<=t)(h3:t<=3):xB 301 [.i .i64 t] (.i .i64 (MW t)):=by
 have:t=1\/t=2\/t=3:=om
 clear h1 h3;refine zF AF Tryz.func301 ?_;rcases this with rfl|rfl|rfl
 all_goals
  refine wd [0,2,4] [] A4 A4 ?_;exact BL @MW.eq_1
theorem Sy(x:AW)(now:Int)(h1:1<=x.BA)(h3:x.BA<=3)(h4:DJ x.C0=true)(h5:DJ now=true):xB 243 [.i .i64 x.C0,.i .i64 x.BA,.i .i64 now] (.b (Dc now x)):=by
 have c1:=U4 x.C0 now h4 h5;have c2:=SQ (now-x.C0) (MW x.BA);have c3:=dQ x.BA h1 h3;have hT:Dc now x=(decide (3<=x.BA)&&decide (now-x.C0>=MW x.BA)):=rfl;rw[hT];clear hT h4 h5;generalize now-x.C0=df at *;generalize MW x.BA=w at *;refine zF AF Tryz.func243 ?_
 by_cases h:x.BA>=3
 .have f1:decide (x.BA>=3)=true:=xM h;rw[xM (show 3<=x.BA from h),yF];have d1:=Ds.mk [] (c1);have d2:=Ds.mk [0] (c2);refine wd [0,1,2,6] [] (AM f1) (AM @c3) ?_;clear d2 d1;exact zE
 .have f1:decide (x.BA>=3)=false:=xO h;rw[xO (show ¬3<=x.BA from h),zN];refine wd [0,1,2,6] [] (AM f1) A4 ?_;exact zE
theorem dP(x:AW)(now:Int)(h1:1<=x.BA)(h3:x.BA<=3)(h4:DJ x.C0=true)(h5:DJ now=true):xB 244 [.i .i64 x.C0,.i .i64 x.BA,.i .i64 now] (.b (MK now x)):=by
 have c1:=U4 x.C0 now h4 h5;have c2:=SQ (now-x.C0) (MW x.BA);have c3:=dQ x.BA h1 h3;have hT:MK now x=((decide (1<=x.BA)&&decide (x.BA<3))&&decide (now-x.C0>=MW x.BA)):=rfl;rw[hT,xM h1,yF];clear hT h4 h5;generalize now-x.C0=df at *;generalize MW x.BA=w at *;have f0:decide (x.BA>=1)=true:=xM h1;refine zF AF Tryz.func244 ?_
 by_cases h:x.BA<3
 .have f1:decide (x.BA<3)=true:=xM h;rw[f1,yF];have d1:=Ds.mk [] (c1);have d2:=Ds.mk [0] (c2);refine wd [0,1,2,6] [] (Ax f0 f1) (AM @c3) ?_;clear d2 d1;exact zE
 .have f1:decide (x.BA<3)=false:=xO h;rw[f1,zN];refine wd [0,1,2,6] [] (Ax f0 f1) A4 ?_;exact zE
theorem pE(c:Calls)(x:AW)(m:AC)(hk:1<=x.Ao.AR/\x.Ao.AR<=6):xB 127 [c.d,x.d,m.d] (.b (Q2 c.id m x)):=by
 have hT:Q2 c.id m x=(decide (m.Aa=x.id)&&(decide (m.As=x.Ao.dst)&&(decide (m.dst=c.id)&&decide (m.AR=x.Ao.AR+6)))):=rfl;have f5:(x.Ao.AR+6)%256=x.Ao.AR+6:=om
 rw[hT];clear hT;refine zF AF Tryz.func127 ?_;unfold Wi.AC.d Wi.AC.A0 AW.d AW.A0 Calls.d Calls.A0
 by_cases h1:m.Aa=x.id
 case neg=>
  have f1:=eq_false' h1;rw[xO h1,zN];refine wd OG [] (AM f1) A4 ?_;exact zE
 case pos=>
 have f1:=AS h1;rw[xM h1,yF]
 by_cases h2:m.As=x.Ao.dst
 case neg=>
  have f2:=eq_false' h2;rw[xO h2,zN];refine wd OG [] (Ax f1 f2) A4 ?_;exact zE
 case pos=>
 have f2:=AS h2;rw[xM h2,yF]
 by_cases h3:m.dst=c.id
 case neg=>
  have f3:=eq_false' h3;rw[xO h3,zN];refine wd OG [] (Ci f1 f2 f3) A4 ?_;exact zE
 case pos=>
 have f3:=AS h3;rw[xM h3,yF]
 by_cases h4:m.AR=x.Ao.AR+6
 .have f4:=AS h4;rw[xM h4];refine wd OG [] (MX f1 f2 f3 f4 f5) A4 ?_;exact zE
 .have f4:=eq_false' h4;rw[xO h4];refine wd OG [] (MX f1 f2 f3 f4 f5) A4 ?_;exact zE
abbrev M9:Aw:=[0,1,2,3,5,15,31]
abbrev D6:Aw:=[0,1,2,3,4,5,6,17,18,20]
abbrev MA:Aw:=[0,1,4,6,7,8,9,16]
abbrev KY:=List AW×List AC×List AW
def CI(now:Int)(s:KY)(x:AW):KY:=
 if Dc now x then(s.1++[x],s.2.1,s.2.2)else(s.1,if MK now x then s.2.1++[x.Ao]else s.2.1,s.2.2++[HC now x])
abbrev HL(now:Int)(ov:List AW)(ag:List AC):xS:=[.c [.wo now],.c [.sl 3 ov.length 20],.c [.sl 4 ag.length 15],.a (Ag ov),.a (Ap ag)]
theorem Za(now:Int)(ov:List AW)(ag:List AC)(x:AW)(h1:1<=x.BA)(h3:x.BA<=3)(h4:DJ x.C0=true)(h5:DJ now=true)(ho:ov.length<=1048576)(h:Dc now x=true):
  xC 242 [.ptr 5 0 20,.ptr 0 0 1,.ptr 1 0 1,.ptr 2 0 1] (HL now ov ag++[.c (Bi x)]) (.wu false) (HL now (ov++[x]) ag++[.c (Bi x)]):=by
 have c1:=Sy x now h1 h3 h4 h5;rw[h]at c1;refine zD AF Tryz.func242 ?_;unfold Bi;simp only[xX,xY];refine wd M9 [2] A4 (AM @c1) ?_;refine wd M9 [] A4 A4 ?_;exact⟨⟨[(5,.wu false)],[.c [.wo now],.c [.sl 3 (ov++[x]).length 20],.c [.sl 4 ag.length 15],.a (Ag (ov++[x])),.a (Ap ag),.c (Bi x)],_⟩,(have nC:=xU @Ag.eq_1 @AW.A0.eq_1;A6.cn rfl),xA,_,_,rfl,rfl,rfl,rfl⟩
theorem fB(now:Int)(ov:List AW)(ag:List AC)(x:AW)(hm:Am x.Ao)(h1:1<=x.BA)(h3:x.BA<=3)(h4:DJ x.C0=true)(h5:DJ now=true)(ha:ag.length<=1048576)(h:Dc now x=false)(hd:MK now x=true):
  xC 242 [.ptr 5 0 20,.ptr 0 0 1,.ptr 1 0 1,.ptr 2 0 1] (HL now ov ag++[.c (Bi x)]) (.wu true) (HL now ov (ag++[x.Ao])++[.c (Bi (HC now x))]):=by
 have c1:=Sy x now h1 h3 h4 h5;have c2:=dP x now h1 h3 h4 h5;have c3:=ER x.Ao hm;have e:HC now x=⟨x.id,x.Ao,x.BQ,x.ref,now,x.BA+1⟩:=by unfold HC;rw[hd];rfl
 rw[h]at c1;rw[hd]at c2;rw[e];refine zD AF Tryz.func242 ?_;unfold Bi;unfold Wi.AC.d Wi.AC.A0 at c3;simp only[xX,xY];refine wd M9 [5] A4 (Ax @c1 @c2) ?_;refine wd M9 [7] A4 A4 ?_;refine wd M9 [] A4 (AM @c3) ?_;exact⟨⟨[(5,.wu true)],[.c [.wo now],.c [.sl 3 ov.length 20],.c [.sl 4 (ag++[x.Ao]).length 15],.a (Ag ov),.a (Ap (ag++[x.Ao])),.c (Bi ⟨x.id,x.Ao,x.BQ,x.ref,now,x.BA+1⟩)],_⟩,(have nC:=xU @Ap.eq_1 @Wi.AC.A0.eq_1;A6.cn rfl),xA,_,_,rfl,rfl,rfl,rfl⟩
theorem Zb(now:Int)(ov:List AW)(ag:List AC)(x:AW)(h1:1<=x.BA)(h3:x.BA<=3)(h4:DJ x.C0=true)(h5:DJ now=true)(h:Dc now x=false)(hd:MK now x=false):
  xC 242 [.ptr 5 0 20,.ptr 0 0 1,.ptr 1 0 1,.ptr 2 0 1] (HL now ov ag++[.c (Bi x)]) (.wu true) (HL now ov ag++[.c (Bi x)]):=by
 have c1:=Sy x now h1 h3 h4 h5;have c2:=dP x now h1 h3 h4 h5;rw[h]at c1;rw[hd]at c2;refine zD AF Tryz.func242 ?_;unfold Bi;simp only[xX,xY];refine wd M9 [] A4 (Ax @c1 @c2) ?_;exact⟨⟨[(5,.wu true)],[.c [.wo now],.c [.sl 3 ov.length 20],.c [.sl 4 ag.length 15],.a (Ag ov),.a (Ap ag),.c (Bi x)],_⟩,(A6.ck rfl),xA,_,_,rfl,rfl,rfl,rfl⟩
abbrev My:=AW×Bool×List AW
def Cs(id:Int)(m:AC)(s:My)(x:AW):My:=if Q2 id m x then(x,true,s.2.2)else(s.1,s.2.1,s.2.2++[x])
abbrev HK(id AU:Int)(l0:List AW)(m:AC)(cl:AW)(fd:Bool):xS:=[.c [.wo id,.wo AU,.d (Ag l0)],.c (mX m),.c (Bi cl),.c [.wu fd]]
theorem closeD(id AU:Int)(l0:List AW)(m:AC)(cl:AW)(fd:Bool)(x:AW)(hk:1<=x.Ao.AR/\x.Ao.AR<=6)(b:Bool)(hb:Q2 id m x=b):
  xC 126 [.ptr 4 0 20,.ptr 0 0 3,.ptr 1 0 15,.ptr 2 0 20,.ptr 3 0 1] (HK id AU l0 m cl fd++[.c (Bi x)]) (.wu !b) (HK id AU l0 m (if b then x else cl) (fd||b)++[.c (Bi x)]):=by
 have c1:=pE ⟨id,AU,l0⟩ x m hk;rw[hb]at c1;refine zD AF Tryz.func126 ?_;unfold HK Bi;unfold Wi.AC.d Wi.AC.A0 AW.d AW.A0 Calls.d Calls.A0 at c1;simp only[xX,xY]
 cases b with
 |true=>
  refine wd [0,1,2,3,4,6,13] [] A4 (AM @c1) ?_;rw[Bool.or_true];exact⟨⟨[(6,.wu false)],[.c [.wo id,.wo AU,.d (Ag l0)],.c (mX m),.c (Bi x),.c [.wu true],.c (Bi x)],_⟩,(A6.ck rfl),xA,_,_,rfl,rfl,rfl,rfl⟩
 |false=>
  refine wd [0,1,2,3,4,6,13] [] A4 (AM @c1) ?_;rw[Bool.or_false];exact⟨⟨[(6,.wu true)],[.c [.wo id,.wo AU,.d (Ag l0)],.c (mX m),.c (Bi cl),.c [.wu fd],.c (Bi x)],_⟩,(A6.ck rfl),xA,_,_,rfl,rfl,rfl,rfl⟩
theorem e9(id AU:Int)(l:List AW)(now:Int)(hl:∀x∈l,Am x.Ao)(hn:l.length<=1048576)(h5:DJ now=true)(hc:∀x∈l,Em id AU x=true)(hs:∀j,(fun s:KY=>s.1.length<=1048576/\s.2.1.length<=1048576/\s.2.2.length<=1048576) ((l.take j).foldl (CI now) (([],[],[]):KY))):xC 125 [.d (Calls.d ⟨id,AU,l⟩),.fn (.func 242) [] [.ptr 0 0 1,.ptr 1 0 1,.ptr 2 0 1]] [.c [.wo now],.c [.sl 3 ([]:List AW).length 20],.c [.sl 4 ([]:List AC).length 15],.a (Ag ([]:List AW)),.a (Ap ([]:List AC))] (.ag [.wo id,.wo AU,.sl 8 (l.foldl (CI now) (([],[],[]):KY)).2.2.length 20]) [.c [.wo now],.c [.sl 3 (l.foldl (CI now) (([],[],[]):KY)).1.length 20],.c [.sl 4 (l.foldl (CI now) (([],[],[]):KY)).2.1.length 15],.a (Ag (l.foldl (CI now) (([],[],[]):KY)).1),.a (Ap (l.foldl (CI now) (([],[],[]):KY)).2.1),.gone,.gone,.c [.wo id,.wo AU,.sl 8 (l.foldl (CI now) (([],[],[]):KY)).2.2.length 20],.a (Ag (l.foldl (CI now) (([],[],[]):KY)).2.2)]:=by
 have c1:=NG ⟨id,AU,l⟩;refine zD AF Tryz.func125 ?_;unfold Calls.d Calls.A0 at *;refine wd D6 [1] A4 A4 ?_;refine Mb T.get 7 9 8 9 ⟨[(0,.d (.agg [.i .i64 id,.i .i64 AU,Ag l])),(1,.fn (.func 242) [] [.ptr 0 0 1,.ptr 1 0 1,.ptr 2 0 1]),(2,.ptr 5 0 3),(3,.ptr 6 0 1),(4,.ptr 7 0 3),(5,.ptr 9 0 3)],[.c [.wo now],.c [.sl 3 ([]:List AW).length 20],.c [.sl 4 ([]:List AC).length 15],.a (Ag ([]:List AW)),.a (Ap ([]:List AC)),.c [.wo id,.wo AU,.d (Ag l)],.c [.fn (.func 242) [] [.ptr 0 0 1,.ptr 1 0 1,.ptr 2 0 1]],.c [.wo 0,.wo 0,.e0],.a (Ag []),.c [.wo id,.wo AU,.sl 8 0 20]],28⟩ mixed rfl rfl rfl ?_ ?_ ?_
 .refine wd D6 [] A4 A4 ?_ [(0,7),(1,7),(2,7),(3,7),(0,9),(1,9),(2,9),(3,9)];exact⟨rfl,.inl rfl⟩
 .refine wd D6 [] A4 A4 ?_ [(0,7),(1,7),(2,7),(3,7),(4,7),(5,7),(0,8),(1,8),(2,8),(3,8)];exact⟨rfl,.inr rfl⟩
 have d1:=Ds.mk [] (c1);refine wd D6 [] A4 A4 ?_;clear d1;refine zG (K:=fun r _ H'=>H'=[.c [.wo now],.c [.sl 3 (l.foldl (CI now) (([],[],[]):KY)).1.length 20],.c [.sl 4 (l.foldl (CI now) (([],[],[]):KY)).2.1.length 15],.a (Ag (l.foldl (CI now) (([],[],[]):KY)).1),.a (Ap (l.foldl (CI now) (([],[],[]):KY)).2.1),.c [.wo id,.wo AU,.d (Ag l)],.c [.fn (.func 242) [] [.ptr 0 0 1,.ptr 1 0 1,.ptr 2 0 1]],.c [.wo 0,.wo 0,.e0],.a (Ag (l.foldl (CI now) (([],[],[]):KY)).2.2),.c [.wo id,.wo AU,.sl 8 (l.foldl (CI now) (([],[],[]):KY)).2.2.length 20],.c [.wo id,.wo AU,.d (Ag l)],.lp r]) ?_ ?_
 .intro r hr;have hk:=hr.ok (k:=11) rfl
  have hY:∀(x:AW)(s:KY),Em id AU x=true->Am x.Ao->(s.1.length<=1048576/\s.2.1.length<=1048576/\s.2.2.length<=1048576)->YT Tryz.prog 11 [.d (.agg [.i .i64 x.id,.i .u8 x.Ao.AR,.i .i64 x.Ao.Aa,.i .i64 x.Ao.As,.i .i64 x.Ao.dst,.i .i64 x.Ao.AH,.b x.Ao.B4,.b x.Ao.done,.i .i64 x.Ao.AT,.i .i64 x.Ao.AG,.is x.Ao.A8,.s x.Ao.A9.AH,.i .i64 x.Ao.A9.B2,.i .i64 x.Ao.A9.AZ,.b x.Ao.A9.gone,.i .i64 x.Ao.AQ,.i .u8 x.BQ,.i .i64 x.ref,.i .i64 x.C0,.i .i64 x.BA])] [.c [.wo now],.c [.sl 3 s.1.length 20],.c [.sl 4 s.2.1.length 15],.a (Ag s.1),.a (Ap s.2.1),.c [.wo id,.wo AU,.d (Ag l)],.c [.fn (.func 242) [] [.ptr 0 0 1,.ptr 1 0 1,.ptr 2 0 1]],.c [.wo 0,.wo 0,.e0],.a (Ag s.2.2),.c [.wo id,.wo AU,.sl 8 s.2.2.length 20],.c [.wo id,.wo AU,.d (Ag l)],.lp r,.c (Bi x)] fun v K=>v= .wu true/\K=[.c [.wo now],.c [.sl 3 (CI now s x).1.length 20],.c [.sl 4 (CI now s x).2.1.length 15],.a (Ag (CI now s x).1),.a (Ap (CI now s x).2.1),.c [.wo id,.wo AU,.d (Ag l)],.c [.fn (.func 242) [] [.ptr 0 0 1,.ptr 1 0 1,.ptr 2 0 1]],.c [.wo 0,.wo 0,.e0],.a (Ag (CI now s x).2.2),.c [.wo id,.wo AU,.sl 8 (CI now s x).2.2.length 20],.c [.wo id,.wo AU,.d (Ag l)],.lp r,.c (Bi x)]:=by
   intro x s hx hm hsz;obtain⟨b1,b2,b3,b4,b5,b6,b7,b8⟩:=Dq.1 hx;obtain⟨ov,ag,o⟩:=s;dsimp only at hsz
   cases hov:Dc now x with
   |true=>
    have c2:=Za now ov ag x b6 b7 b8 h5 hsz.1 hov;have e:CI now (ov,ag,o) x=(ov++[x],ag,o):=by unfold CI;rw[hov];rfl
    rw[e];clear e;refine BD hr rfl rfl rfl ?_;unfold HL Bi at *;simp only[xX,xY]at *;refine wd D6 [] A4 A4 ?_;refine zR ?_;have d1:=Ds.mk [0,1,2,3,4,13] (c2);refine wd D6 [] A4 A4 ?_;clear d1;refine⟨⟨[],[.c [.wo now],.c [.sl 3 (ov++[x]).length 20],.c [.sl 4 ag.length 15],.a (Ag (ov++[x])),.a (Ap ag),.c [.wo id,.wo AU,.d (Ag l)],.c [.fn (.func 242) [] [.ptr 0 0 1,.ptr 1 0 1,.ptr 2 0 1]],.c [.wo 0,.wo 0,.e0],.a (Ag o),.c [.wo id,.wo AU,.sl 8 o.length 20],.c [.wo id,.wo AU,.d (Ag l)],.lp r.busy,.c (Bi x)],_⟩,(have nC:=xU @Ag.eq_1 (xU @Ap.eq_1 @AW.A0.eq_1);A6.cn rfl),xH _,rfl,rfl,rfl⟩
   |false=>
   cases hd:MK now x with
   |true=>
    have c2:=fB now ov ag x hm b6 b7 b8 h5 hsz.2.1 hov hd;have e:CI now (ov,ag,o) x=(ov,ag++[x.Ao],o++[⟨x.id,x.Ao,x.BQ,x.ref,now,x.BA+1⟩]):=by unfold CI HC;rw[hov,hd];rfl
    have en:HC now x=⟨x.id,x.Ao,x.BQ,x.ref,now,x.BA+1⟩:=by unfold HC;rw[hd];rfl
    rw[en]at c2;rw[e];clear e en;refine BD hr rfl rfl rfl ?_;unfold HL Bi at *;simp only[xX,xY]at *;refine wd D6 [] A4 A4 ?_;refine zR ?_;have d1:=Ds.mk [0,1,2,3,4,13] (c2);refine wd D6 [] A4 A4 ?_;clear d1;refine⟨⟨[],[.c [.wo now],.c [.sl 3 ov.length 20],.c [.sl 4 (ag++[x.Ao]).length 15],.a (Ag ov),.a (Ap (ag++[x.Ao])),.c [.wo id,.wo AU,.d (Ag l)],.c [.fn (.func 242) [] [.ptr 0 0 1,.ptr 1 0 1,.ptr 2 0 1]],.c [.wo 0,.wo 0,.e0],.a (Ag (o++[(⟨x.id,x.Ao,x.BQ,x.ref,now,x.BA+1⟩:AW)])),.c [.wo id,.wo AU,.sl 8 (o++[(⟨x.id,x.Ao,x.BQ,x.ref,now,x.BA+1⟩:AW)]).length 20],.c [.wo id,.wo AU,.d (Ag l)],.lp r.busy,.c (Bi x)],_⟩,(have nC:=xU @Ag.eq_1 (xU @Ap.eq_1 @AW.A0.eq_1);A6.cn rfl),xH _,rfl,rfl,rfl⟩
   |false=>
    have c2:=Zb now ov ag x b6 b7 b8 h5 hov hd;have e:CI now (ov,ag,o) x=(ov,ag,o++[x]):=by unfold CI HC;rw[hov,hd];rfl
    rw[e];clear e;refine BD hr rfl rfl rfl ?_;unfold HL Bi at *;simp only[xX,xY]at *;refine wd D6 [] A4 A4 ?_;refine zR ?_;have d1:=Ds.mk [0,1,2,3,4,13] (c2);refine wd D6 [] A4 A4 ?_;clear d1;refine⟨⟨[],[.c [.wo now],.c [.sl 3 ov.length 20],.c [.sl 4 ag.length 15],.a (Ag ov),.a (Ap ag),.c [.wo id,.wo AU,.d (Ag l)],.c [.fn (.func 242) [] [.ptr 0 0 1,.ptr 1 0 1,.ptr 2 0 1]],.c [.wo 0,.wo 0,.e0],.a (Ag (o++[x])),.c [.wo id,.wo AU,.sl 8 (o++[x]).length 20],.c [.wo id,.wo AU,.d (Ag l)],.lp r.busy,.c (Bi x)],_⟩,(have nC:=xU @Ag.eq_1 (xU @Ap.eq_1 @AW.A0.eq_1);A6.cn rfl),xH _,rfl,rfl,rfl⟩
  refine zT AF Tryz.func251 ?_;refine wd MA [] A4 A4 ?_;refine Ct (fun j:Nat=>j<=l.length) (fun j:Nat=>[(8,.wo j)]) (fun j=>[(1,.c [.sl 3 ((l.take j).foldl (CI now) (([],[],[]):KY)).1.length 20]),(2,.c [.sl 4 ((l.take j).foldl (CI now) (([],[],[]):KY)).2.1.length 15]),(3,.a (Ag ((l.take j).foldl (CI now) (([],[],[]):KY)).1)),(4,.a (Ap ((l.take j).foldl (CI now) (([],[],[]):KY)).2.1)),(8,.a (Ag ((l.take j).foldl (CI now) (([],[],[]):KY)).2.2)),(9,.c [.wo id,.wo AU,.sl 8 ((l.take j).foldl (CI now) (([],[],[]):KY)).2.2.length 20])]) (fun j=>l.length-j) 0 (xQ _) (fun _=>rfl) (fun _=>rfl) ?_ ?_
  .exact A6.ck rfl
  intro j hj
  by_cases hjl:j<l.length
  .obtain⟨x,hx⟩:=BB hjl;have hxm:=yH hx;have c3:=Jy x (hl x hxm);unfold AW.d AW.A0 at c3;have hy:=hY x ((l.take j).foldl (CI now) (([],[],[]):KY)) (hc x hxm) (hl x hxm) (hs j);have hf:(CI now) ((l.take j).foldl (CI now) (([],[],[]):KY)) x=((l.take (j+1)).foldl (CI now) (([],[],[]):KY)):=by rw[Au hx,q04];rfl
   rw[hf]at hy;have ix1:=hx;have q1:=@hy;refine wd MA [] A4 (AM @c3) ?_;clear q1 ix1;with_reducible repeat' first|constructor|intro hc
   refine⟨j+1,hjl,om,xH _,?_⟩;exact A6.ck rfl
  .have e:j=l.length:=om
   subst e;rw[yD];refine wd MA [] A4 A4 ?_;with_reducible repeat' first|constructor|intro hc
   exact⟨_,A6.refl _,xH _,_,_,rfl,rfl,rfl⟩
 .rintro r hr x H' rfl;refine .inl ⟨rfl,?_⟩;refine wd D6 [] A4 A4 ?_;exact⟨⟨[(4,.ptr 7 0 3)],[.c [.wo now],.c [.sl 3 (l.foldl (CI now) (([],[],[]):KY)).1.length 20],.c [.sl 4 (l.foldl (CI now) (([],[],[]):KY)).2.1.length 15],.a (Ag (l.foldl (CI now) (([],[],[]):KY)).1),.a (Ap (l.foldl (CI now) (([],[],[]):KY)).2.1),.gone,.gone,.c [.wo id,.wo AU,.sl 8 (l.foldl (CI now) (([],[],[]):KY)).2.2.length 20],.a (Ag (l.foldl (CI now) (([],[],[]):KY)).2.2)],_⟩,(A6.ck rfl),xA,_,_,rfl,rfl,rfl,rfl⟩
theorem e8(id AU:Int)(l:List AW)(l0:List AW)(m:AC)(hl:∀x∈l,Am x.Ao)(hn:l.length<=1048576)(hc:∀x∈l,Em id AU x=true)(hs:∀j,(fun s:My=>s.2.2.length<=1048576) ((l.take j).foldl (Cs id m) ((Cn,false,[]):My))):xC 125 [.d (Calls.d ⟨id,AU,l⟩),.fn (.func 126) [] [.ptr 0 0 3,.ptr 1 0 15,.ptr 2 0 20,.ptr 3 0 1]] [.c [.wo id,.wo AU,.d (Ag l0)],.c (mX m),.c (Bi Cn),.c [.wu false]] (.ag [.wo id,.wo AU,.sl 7 (l.foldl (Cs id m) ((Cn,false,[]):My)).2.2.length 20]) [.c [.wo id,.wo AU,.d (Ag l0)],.c (mX m),.c (Bi (l.foldl (Cs id m) ((Cn,false,[]):My)).1),.c [.wu ((l.foldl (Cs id m) ((Cn,false,[]):My)).2.1)],.gone,.gone,.c [.wo id,.wo AU,.sl 7 (l.foldl (Cs id m) ((Cn,false,[]):My)).2.2.length 20],.a (Ag (l.foldl (Cs id m) ((Cn,false,[]):My)).2.2)]:=by
 have c1:=NG ⟨id,AU,l⟩;refine zD AF Tryz.func125 ?_;unfold Calls.d Calls.A0 at *;refine wd D6 [1] A4 A4 ?_;refine Mb T.get 7 9 7 8 ⟨[(0,.d (.agg [.i .i64 id,.i .i64 AU,Ag l])),(1,.fn (.func 126) [] [.ptr 0 0 3,.ptr 1 0 15,.ptr 2 0 20,.ptr 3 0 1]),(2,.ptr 4 0 3),(3,.ptr 5 0 1),(4,.ptr 6 0 3),(5,.ptr 8 0 3)],[.c [.wo id,.wo AU,.d (Ag l0)],.c (mX m),.c (Bi Cn),.c [.wu false],.c [.wo id,.wo AU,.d (Ag l)],.c [.fn (.func 126) [] [.ptr 0 0 3,.ptr 1 0 15,.ptr 2 0 20,.ptr 3 0 1]],.c [.wo 0,.wo 0,.e0],.a (Ag []),.c [.wo id,.wo AU,.sl 7 0 20]],28⟩ mixed rfl rfl rfl ?_ ?_ ?_
 .refine wd D6 [] A4 A4 ?_ [(0,7),(1,7),(2,7),(3,7),(0,9),(1,9),(2,9),(3,9)];exact⟨rfl,.inl rfl⟩
 .refine wd D6 [] A4 A4 ?_ [(0,7),(1,7),(2,7),(3,7),(4,7),(5,7),(0,8),(1,8),(2,8),(3,8)];exact⟨rfl,.inr rfl⟩
 have d1:=Ds.mk [] (c1);refine wd D6 [] A4 A4 ?_;clear d1;refine zG (K:=fun r _ H'=>H'=[.c [.wo id,.wo AU,.d (Ag l0)],.c (mX m),.c (Bi (l.foldl (Cs id m) ((Cn,false,[]):My)).1),.c [.wu ((l.foldl (Cs id m) ((Cn,false,[]):My)).2.1)],.c [.wo id,.wo AU,.d (Ag l)],.c [.fn (.func 126) [] [.ptr 0 0 3,.ptr 1 0 15,.ptr 2 0 20,.ptr 3 0 1]],.c [.wo 0,.wo 0,.e0],.a (Ag (l.foldl (Cs id m) ((Cn,false,[]):My)).2.2),.c [.wo id,.wo AU,.sl 7 (l.foldl (Cs id m) ((Cn,false,[]):My)).2.2.length 20],.c [.wo id,.wo AU,.d (Ag l)],.lp r]) ?_ ?_
 .intro r hr;have hk:=hr.ok (k:=10) rfl
  have hY:∀(x:AW)(s:My),Em id AU x=true->Am x.Ao->(s.2.2.length<=1048576)->YT Tryz.prog 10 [.d (.agg [.i .i64 x.id,.i .u8 x.Ao.AR,.i .i64 x.Ao.Aa,.i .i64 x.Ao.As,.i .i64 x.Ao.dst,.i .i64 x.Ao.AH,.b x.Ao.B4,.b x.Ao.done,.i .i64 x.Ao.AT,.i .i64 x.Ao.AG,.is x.Ao.A8,.s x.Ao.A9.AH,.i .i64 x.Ao.A9.B2,.i .i64 x.Ao.A9.AZ,.b x.Ao.A9.gone,.i .i64 x.Ao.AQ,.i .u8 x.BQ,.i .i64 x.ref,.i .i64 x.C0,.i .i64 x.BA])] [.c [.wo id,.wo AU,.d (Ag l0)],.c (mX m),.c (Bi s.1),.c [.wu s.2.1],.c [.wo id,.wo AU,.d (Ag l)],.c [.fn (.func 126) [] [.ptr 0 0 3,.ptr 1 0 15,.ptr 2 0 20,.ptr 3 0 1]],.c [.wo 0,.wo 0,.e0],.a (Ag s.2.2),.c [.wo id,.wo AU,.sl 7 s.2.2.length 20],.c [.wo id,.wo AU,.d (Ag l)],.lp r,.c (Bi x)] fun v K=>v= .wu true/\K=[.c [.wo id,.wo AU,.d (Ag l0)],.c (mX m),.c (Bi (Cs id m s x).1),.c [.wu ((Cs id m s x).2.1)],.c [.wo id,.wo AU,.d (Ag l)],.c [.fn (.func 126) [] [.ptr 0 0 3,.ptr 1 0 15,.ptr 2 0 20,.ptr 3 0 1]],.c [.wo 0,.wo 0,.e0],.a (Ag (Cs id m s x).2.2),.c [.wo id,.wo AU,.sl 7 (Cs id m s x).2.2.length 20],.c [.wo id,.wo AU,.d (Ag l)],.lp r,.c (Bi x)]:=by
   intro x s hx hm hsz;obtain⟨b1,b2,b3,b4,b5,b6,b7,b8⟩:=Dq.1 hx
   have hk6:1<=x.Ao.AR/\x.Ao.AR<=6:=by
    unfold AC.BN at b2;simpa only[xI,xK]using b2
   obtain⟨cl,fd,o⟩:=s;dsimp only at hsz
   cases hof:Q2 id m x with
   |true=>
    have c2:=closeD id AU l0 m cl fd x hk6 true hof;rw[Bool.or_true,if_pos rfl]at c2;have e:Cs id m (cl,fd,o) x=(x,true,o):=by unfold Cs;rw[hof];rfl
    rw[e];clear e;refine BD hr rfl rfl rfl ?_;unfold HK Bi at *;simp only[xX,xY]at *;refine wd D6 [] A4 A4 ?_;refine zR ?_;have d1:=Ds.mk [0,1,2,3,12] (c2);refine wd D6 [] A4 A4 ?_;clear d1;refine⟨⟨[],[.c [.wo id,.wo AU,.d (Ag l0)],.c (mX m),.c (Bi x),.c [.wu true],.c [.wo id,.wo AU,.d (Ag l)],.c [.fn (.func 126) [] [.ptr 0 0 3,.ptr 1 0 15,.ptr 2 0 20,.ptr 3 0 1]],.c [.wo 0,.wo 0,.e0],.a (Ag o),.c [.wo id,.wo AU,.sl 7 o.length 20],.c [.wo id,.wo AU,.d (Ag l)],.lp r.busy,.c (Bi x)],_⟩,(have nC:=xU @Ag.eq_1 (xU @Ap.eq_1 @AW.A0.eq_1);A6.cn rfl),xH _,rfl,rfl,rfl⟩
   |false=>
    have c2:=closeD id AU l0 m cl fd x hk6 false hof;rw[Bool.or_false,if_neg (by decide)]at c2;have e:Cs id m (cl,fd,o) x=(cl,fd,o++[x]):=by unfold Cs;rw[hof];rfl
    rw[e];clear e;refine BD hr rfl rfl rfl ?_;unfold HK Bi at *;simp only[xX,xY]at *;refine wd D6 [] A4 A4 ?_;refine zR ?_;have d1:=Ds.mk [0,1,2,3,12] (c2);refine wd D6 [] A4 A4 ?_;clear d1;refine⟨⟨[],[.c [.wo id,.wo AU,.d (Ag l0)],.c (mX m),.c (Bi cl),.c [.wu fd],.c [.wo id,.wo AU,.d (Ag l)],.c [.fn (.func 126) [] [.ptr 0 0 3,.ptr 1 0 15,.ptr 2 0 20,.ptr 3 0 1]],.c [.wo 0,.wo 0,.e0],.a (Ag (o++[x])),.c [.wo id,.wo AU,.sl 7 (o++[x]).length 20],.c [.wo id,.wo AU,.d (Ag l)],.lp r.busy,.c (Bi x)],_⟩,(have nC:=xU @Ag.eq_1 (xU @Ap.eq_1 @AW.A0.eq_1);A6.cn rfl),xH _,rfl,rfl,rfl⟩
  refine zT AF Tryz.func251 ?_;refine wd MA [] A4 A4 ?_;refine Ct (fun j:Nat=>j<=l.length) (fun j:Nat=>[(8,.wo j)]) (fun j=>[(2,.c (Bi ((l.take j).foldl (Cs id m) ((Cn,false,[]):My)).1)),(3,.c [.wu (((l.take j).foldl (Cs id m) ((Cn,false,[]):My)).2.1)]),(7,.a (Ag ((l.take j).foldl (Cs id m) ((Cn,false,[]):My)).2.2)),(8,.c [.wo id,.wo AU,.sl 7 ((l.take j).foldl (Cs id m) ((Cn,false,[]):My)).2.2.length 20])]) (fun j=>l.length-j) 0 (xQ _) (fun _=>rfl) (fun _=>rfl) ?_ ?_
  .exact A6.ck rfl
  intro j hj
  by_cases hjl:j<l.length
  .obtain⟨x,hx⟩:=BB hjl;have hxm:=yH hx;have c3:=Jy x (hl x hxm);unfold AW.d AW.A0 at c3;have hy:=hY x ((l.take j).foldl (Cs id m) ((Cn,false,[]):My)) (hc x hxm) (hl x hxm) (hs j);have hf:(Cs id m) ((l.take j).foldl (Cs id m) ((Cn,false,[]):My)) x=((l.take (j+1)).foldl (Cs id m) ((Cn,false,[]):My)):=by rw[Au hx,q04];rfl
   rw[hf]at hy;have ix1:=hx;have q1:=@hy;refine wd MA [] A4 (AM @c3) ?_;clear q1 ix1;with_reducible repeat' first|constructor|intro hc
   refine⟨j+1,hjl,om,xH _,?_⟩;exact A6.ck rfl
  .have e:j=l.length:=om
   subst e;rw[yD];refine wd MA [] A4 A4 ?_;with_reducible repeat' first|constructor|intro hc
   exact⟨_,A6.refl _,xH _,_,_,rfl,rfl,rfl⟩
 .rintro r hr x H' rfl;refine .inl ⟨rfl,?_⟩;refine wd D6 [] A4 A4 ?_;exact⟨⟨[(4,.ptr 6 0 3)],[.c [.wo id,.wo AU,.d (Ag l0)],.c (mX m),.c (Bi (l.foldl (Cs id m) ((Cn,false,[]):My)).1),.c [.wu ((l.foldl (Cs id m) ((Cn,false,[]):My)).2.1)],.gone,.gone,.c [.wo id,.wo AU,.sl 7 (l.foldl (Cs id m) ((Cn,false,[]):My)).2.2.length 20],.a (Ag (l.foldl (Cs id m) ((Cn,false,[]):My)).2.2)],_⟩,(A6.ck rfl),xA,_,_,rfl,rfl,rfl,rfl⟩
abbrev OH:Aw:=[0,1,2,3,4,5,6,14]
abbrev Is:Aw:=[0,1,2,3,4,5,6,7,8,16]
theorem kD(now:Int):∀(l:List AW)(s:KY),l.foldl (CI now) s=(s.1++l.filter (Dc now),s.2.1++((l.filter fun x=> !Dc now x).filter (MK now)).map (·.Ao),s.2.2++(l.filter fun x=> !Dc now x).map (HC now))
 |[],s=>by simp
 |x::r,s=>by
  rw[zH,kD now r];unfold CI;cases h:Dc now x<;>cases hd:MK now x<;>simp[h,hd]
theorem X2(id:Int)(m:AC):∀(l:List AW)(s:My),(∀x∈l,Q2 id m x=false)->l.foldl (Cs id m) s=(s.1,s.2.1,s.2.2++l)
 |[],s,_=>by simp
 |x::r,s,h=>by
  rw[zH,X2 id m r _ (fun y hy=>h y (yQ _ hy))];unfold Cs;rw[h x (yT ..)];simp
theorem kC(id:Int)(m:AC):∀(l:List AW)(s:My),(l.Pairwise fun x y=>x.id<y.id)->l.foldl (Cs id m) s=match l.find? (Q2 id m)with
  |some x=>(x,true,s.2.2++l.filter fun y=> !Q2 id m y)
  |none=>(s.1,s.2.1,s.2.2++l)
 |[],s,_=>by simp
 |x::r,s,h=>by
  obtain⟨h1,h2⟩:=q0L.1 h
  cases hx:Q2 id m x with
  |true=>
   have hr:∀y∈r,Q2 id m y=false:=fun y hy=>by
    cases e:Q2 id m y with
    |false=>rfl
    |true=>
     exfalso;have:=h1 y hy;unfold Q2 at hx e;simp only[xI,xK]at hx e;omega
   rw[zH,X2 id m r _ hr,List.find?_cons,hx];unfold Cs;rw[hx];have hf:r.filter (fun y=> !Q2 id m y)=r:=List.filter_eq_self.2 fun y hy=>by rw[hr y hy];rfl
   simp[hx,hf]
  |false=>
   rw[zH,kC id m r _ h2,List.find?_cons,hx];unfold Cs;rw[hx];cases r.find? (Q2 id m)<;>simp[hx]
theorem fF(now:Int)(l:List AW)(hn:l.length<=1048576)(j:Nat):(fun s:KY=>s.1.length<=1048576/\s.2.1.length<=1048576/\s.2.2.length<=1048576) ((l.take j).foldl (CI now) (([],[],[]):KY)):=by
 rw[kD];have h0:=List.length_take_le j l;have h0':(l.take j).length<=l.length:=by rw[yM];omega
 have h1:=yu (Dc now) (l.take j);have h2:=yu (fun x=> !Dc now x) (l.take j);have h3:=yu (MK now) ((l.take j).filter fun x=> !Dc now x);simp only[xY,yS];omega
theorem jP(c:Calls)(now:Int)(hl:∀x∈c.op,Am x.Ao)(hn:c.op.length<=1048576):xB 167 [c.d,.i .i64 now] (.tup [(CH c now).1.d,Ap (CH c now).2.1,Ag (CH c now).2.2]):=by
 have c1:=Kk c hl;have c2:=On now;have c3:=QF c hl hn
 cases hc:Bs c&&DJ now with
 |false=>
  have hT:CH c now=(c,[],[]):=by unfold CH;rw[hc];rfl
  rw[hT];refine zF AF Tryz.func167 ?_;unfold Calls.d Calls.A0 at*
  cases h1:Bs c with
  |false=>
   rw[h1]at c1;refine wd OH [] A4 (Ax @c1 @c3) ?_ [] true;exact zE
  |true=>
   rw[h1,yF]at hc;rw[h1]at c1;rw[hc]at c2;refine wd OH [] A4 (Ci @c1 @c2 @c3) ?_ [] true;exact zE
 |true=>
  have hT:CH c now=(⟨c.id,c.AU,(c.op.filter fun x=> !Dc now x).map (HC now)⟩,((c.op.filter fun x=> !Dc now x).filter (MK now)).map (·.Ao),c.op.filter (Dc now)):=by unfold CH;rw[hc];rfl
  rw[xI]at hc;have c4:=e9 c.id c.AU c.op now hl hn hc.2 (Bz.1 hc.1).2.1 (fF now c.op hn);rw[kD]at c4;rw[hc.1]at c1;rw[hc.2]at c2;rw[hT];refine zF AF Tryz.func167 ?_;unfold Calls.d Calls.A0 at *;simp only[xY]at c4;clear hT;dsimp only;generalize((c.op.filter fun x=> !Dc now x).filter (MK now)).map (·.Ao)=A2 at *;generalize(c.op.filter fun x=> !Dc now x).map (HC now)=A1 at *;generalize c.op.filter (Dc now)=A3 at *;refine wd OH [2] A4 (Ax @c1 @c2) ?_ [] true;refine BC (A6.EO 4 0 (.sl 20 []) rfl rfl rfl rfl (by simp[B0])) sm ?_;refine BC (A6.EO 3 0 (.sl 15 []) rfl rfl rfl rfl (by simp[B0])) sm ?_;have d1:=Ds.mk [1,4,3,5,6] (c4);refine wd OH [3] A4 A4 ?_ [] true;clear d1;refine wd OH [] A4 A4 ?_ [(1,3),(2,3),(2,4)] true;exact zE
theorem dx(c:Calls)(m:AC)(hl:∀x∈c.op,Am x.Ao)(hn:c.op.length<=1048576)(hm:m.A8.length<9223372036854775807):xB 47 [c.d,m.d] (.tup [(D9 c m).1.d,(D9 c m).2.1.d,.b (D9 c m).2.2]):=by
 have c1:=Kk c hl;have c2:=Wi.CX m hm;have c3:=QF c hl hn
 cases hc:Bs c&&m.right with
 |false=>
  have hT:D9 c m=(c,Cn,false):=by unfold D9;rw[hc];rfl
  rw[hT];refine zF AF Tryz.func47 ?_;unfold Wi.AC.d Wi.AC.A0 Calls.d Calls.A0 AW.d AW.A0 at*
  cases h1:Bs c with
  |false=>
   rw[h1]at c1;refine wd Is [] A4 (Ax @c1 @c3) ?_ [] true;exact BL (xU @AN.eq_1 @AY.eq_1)
  |true=>
   rw[h1,yF]at hc;rw[h1]at c1;rw[hc]at c2;refine wd Is [] A4 (Ci @c1 @c2 @c3) ?_ [] true;exact BL (xU @AN.eq_1 @AY.eq_1)
 |true=>
  rw[xI]at hc;obtain⟨_,k2,k3⟩:=Bz.1 hc.1
  have hsz:∀j,(fun s:My=>s.2.2.length<=1048576) ((c.op.take j).foldl (Cs c.id m) ((Cn,false,[]):My)):=fun j=>by
   have h0:(c.op.take j).length<=c.op.length:=by rw[yM];omega
   have hp:(c.op.take j).Pairwise fun x y=>x.id<y.id:=k3.sublist (List.take_sublist ..);rw[kC c.id m _ _ hp]
   have h1:=yu (fun y=> !Q2 c.id m y) (c.op.take j)
   cases(c.op.take j).find? (Q2 c.id m)with
   |some x=>dsimp only;rw[xY];omega
   |none=>dsimp only;rw[xY];omega
  have c4:=e8 c.id c.AU c.op c.op m hl hn k2 hsz;have hf:=kC c.id m c.op ((Cn,false,[]):My) k3
  have hT:D9 c m=match c.op.find? (Q2 c.id m)with
    |some x=>(⟨c.id,c.AU,c.op.filter fun y=> !Q2 c.id m y⟩,x,true)
    |none=>(c,Cn,false):=by unfold D9;rw[hc.1,hc.2];rfl
  rw[hT];rw[hf]at c4;rw[hc.1]at c1;rw[hc.2]at c2;clear hf hT hsz k2 k3;generalize c.op.find? (Q2 c.id m)=fx at *;generalize(c.op.filter fun y=> !Q2 c.id m y)=fl at *;refine zF AF Tryz.func47 ?_
  cases fx with
  |some x=>
   dsimp only at c4|-;rw[xY]at c4;unfold Bi at c4;unfold Wi.AC.d Wi.AC.A0 Calls.d Calls.A0 AW.d AW.A0 at *;refine wd Is [4] A4 (Ax @c1 @c2) ?_ [] true;refine BC (A6.JF 4 10 (.is []) rfl rfl rfl rfl trivial) sm ?_;have d1:=Ds.mk [0,1,4,5] (c4);refine wd Is [5] A4 A4 ?_ [] true;clear d1;refine wd Is [] A4 A4 ?_ [(1,3),(2,3),(2,4)] true;exact BL (xU @AN.eq_1 @AY.eq_1)
  |none=>
   dsimp only at c4|-;rw[xY]at c4;unfold Bi at c4;unfold Wi.AC.d Wi.AC.A0 Calls.d Calls.A0 AW.d AW.A0 at *;refine wd Is [4] A4 (Ax @c1 @c2) ?_ [] true;refine BC (A6.JF 4 10 (.is []) rfl rfl rfl rfl trivial) sm ?_;have d1:=Ds.mk [0,1,4,5] (c4);refine wd Is [5] A4 A4 ?_ [] true;clear d1;refine wd Is [] A4 A4 ?_ [(1,3),(2,3),(2,4)] true;exact BL (xU @AN.eq_1 @AY.eq_1)
abbrev OJ:Aw:=[0,2,3,4,6,8,29,30,31,32,39,40,41,42]
theorem Ra(n:AA)(w:Int)(e:Bool)(c:JC)(h:c.BN.length<=3):(B6 n w e c).2.length<=3:=by
 unfold B6;dsimp only;rw[yS];exact h
theorem PQ(n:AA)(w AL AT:Int)(x:AK):(Bh n w AL AT x).2.length<=3:=by
 unfold Bh;split
 .exact Ra _ _ _ _ (ZV ..).1
 .exact xQ _
theorem OV(p o:Int):(GK p o).length<=3:=by
 unfold GK;split
 .simp
 split<;>simp
theorem ed(n:AA)(c:AW)(m:AC):(Cd n c m).2.length<=3:=by
 unfold Cd;split
 .split
  .dsimp only;unfold Cb;split
   .split
    .exact xQ _
    .dsimp only;split
     .dsimp only;exact OV _ _
     .dsimp only;exact OV _ _
   .exact xQ _
  split
  .exact Ra _ _ _ _ (Nf _ _ _ ((H6 n c.BQ).A9.AH.length+m.A9.AH.length) (Nat.le_add_right ..) (Nat.le_add_left ..)).1
  .exact xQ _
 .exact xQ _
theorem lG(n:AA)(c:AW):(Cv n c).2.length<=3:=by
 unfold Cv;split
 .dsimp only;split
  .exact xQ _
  split
  .exact Ra _ _ _ _ (Na _ _ _).1
  .exact xQ _
 .exact xQ _
theorem dm(v:AD)(p o:Int):(Cc v p o).2.length<=3:=by
 unfold Cc;split
 .dsimp only;exact OV _ _
 .exact xQ _
def Io(g:List Dp)(l:List AC):List Dp:=l.foldl (fun g m=>g++GG m) g
theorem YI:∀(l:List AC)(g:List Dp),Io g l=g++l.flatMap GG
 |[],g=>by simp[Io]
 |m::r,g=>by
  have:=YI r (g++GG m);unfold Io at *;rw[zH,this,List.flatMap_cons,yB]
theorem Ln:∀(l:List AC)(g:List Dp),(Io g l).length<=g.length+l.length
 |[],g=>xH _
 |m::r,g=>by
  have h1:=Ln r (g++GG m);have h2:(GG m).length<=1:=by unfold GG;split<;>simp
  unfold Io at *;rw[zH,xw];rw[y9]at h1;omega
def IB(s:NS)(l:List AW):NS:=l.foldl (fun s x=>Ei s.2 (Cv s.1 x)) s
theorem cM(n:AA)(g:List Dp):L0 (n,g)=IB ({n with AX:=(CH n.AX n.Aj).1},Io g (CH n.AX n.Aj).2.1) (CH n.AX n.Aj).2.2:=by
 rw[YI];rfl
theorem Rp{n:AA}(h:NB n):(∀m∈(CH n.AX n.Aj).2.1,m.A8.length<9223372036854775807)/\(CH n.AX n.Aj).2.1.length<=16/\(CH n.AX n.Aj).2.2.length<=16:=by
 have h16:=h.tP;unfold CH;split
 .dsimp only;have h1:=yu (Dc n.Aj) n.AX.op;have h2:=yu (fun x=> !Dc n.Aj x) n.AX.op;have h3:=yu (MK n.Aj) (n.AX.op.filter fun x=> !Dc n.Aj x);refine⟨fun m hm=> ?_,by rw[yS];omega,om⟩;simp only[List.mem_map,List.mem_filter]at hm;obtain⟨x,⟨⟨hx,_⟩,_⟩,rfl⟩:=hm;have:=h.FV.cl x hx;unfold Am at this;omega
 .exact⟨fun m hm=>(by cases hm),xQ _,xQ _⟩
theorem S6{s:NS}(h:NB s.1)(l:List AW):NB (IB s l).1/\(IB s l).2.length<=s.2.length+16:=⟨(Nj l h).nb,(Nj l h).size⟩
theorem pL(n:AA)(g:List Dp)(h:NB n)(hg:g.length<=900000):xC 106 [.ptr 0 0 77] (nH n g) (.tup []) (nH (L0 (n,g)).1 (L0 (n,g)).2):=by
 have c1:=jP n.AX n.Aj h.FV.cl h.FV.cn;have hN:=h.late n.Aj;obtain⟨hA,hB1,hB2⟩:=Rp h;rw[cM];generalize CH n.AX n.Aj=q at *;obtain⟨q1,ag,ov⟩:=q;dsimp only at *;refine zC AF Tryz.func106 ?_;unfold Calls.d Calls.A0 at c1;unfold nH hC;refine wd OJ [] A4 (AM @c1) ?_ [(0,15),(1,15),(2,15),(3,15),(4,15),(5,15),(6,15),(7,15),(8,15),(9,15)];obtain⟨N,hNe⟩:∃N:AA,N={n with AX:=q1}:=⟨_,rfl⟩;rw[<-hNe]at hN|-;refine Ct (fun j:Nat=>j<=ag.length) (fun j:Nat=>[(31,.wo j)]) (fun j=>[(0,.c (hC N (.sl 1 (Io g (ag.take j)).length 3))),(1,.a (GZ (Io g (ag.take j))))]) (fun j=>ag.length-j) 0 (xQ _) (fun _=>rfl) (fun _=>rfl) ?_ ?_
 .subst hNe;exact A6.ck rfl
 intro j hj
 by_cases hjl:j<ag.length
 .obtain⟨x,hx⟩:=BB hjl;have hz:=Ln (ag.take j) g;have hz2:(ag.take j).length<=ag.length:=by rw[yM];omega
  have c2:=QY N (Io g (ag.take j)) x (hA x (yH hx)) om
  have e1:Io g (ag.take j)++GG x=Io g (ag.take (j+1)):=by
   rw[Au hx];unfold Io;rw[q04];rfl
  rw[e1]at c2;unfold nH at c2;unfold Wi.AC.d Wi.AC.A0 at c2;have ix1:=hx;have d1:=Ds.mk [0,1] (c2);refine wd OJ [] A4 A4 ?_;clear d1 ix1;with_reducible repeat' first|constructor|intro hc
  refine⟨j+1,hjl,om,xH _,?_⟩;exact A6.ck rfl
 .have e:j=ag.length:=om
  subst e;rw[yD];have hz:=Ln ag g;generalize Io g ag=G at *;refine wd OJ [] A4 A4 ?_;with_reducible repeat' first|constructor|intro hc
  refine Ct (fun j:Nat=>j<=ov.length) (fun j:Nat=>[(41,.wo j)]) (fun j=>[(0,.c (hC (IB (N,G) (ov.take j)).1 (.sl 1 (IB (N,G) (ov.take j)).2.length 3))),(1,.a (GZ (IB (N,G) (ov.take j)).2))]) (fun j=>ov.length-j) 0 (xQ _) (fun _=>rfl) (fun _=>rfl) ?_ ?_
  .exact A6.ck rfl
  intro j hj
  by_cases hjl:j<ov.length
  .obtain⟨x,hx⟩:=BB hjl;obtain⟨k1,k2⟩:=S6 (s:=(N,G)) hN (ov.take j)
   have e1:Ei (IB (N,G) (ov.take j)).2 (Cv (IB (N,G) (ov.take j)).1 x)=IB (N,G) (ov.take (j+1)):=by
    rw[Au hx];unfold IB;rw[q04];rfl
   generalize IB (N,G) (ov.take j)=s at *;obtain⟨M,K⟩:=s;dsimp only at *;have c2:=ox M k1.hok x;have c3:=O3 M (Cv M x).1 K (Cv M x).2 k1.lost (tE M x) (by have:=lG M x;omega) om;rw[show((Cv M x).1,(Cv M x).2)=Cv M x from rfl,e1]at c3;generalize Cv M x=t at *;obtain⟨t1,t2⟩:=t;dsimp only at c2 c3;unfold nH at c3;unfold AA.d AA.A0 AD.A0 Calls.A0 An.A0 at c2 c3;unfold AW.d AW.A0 at c2;have ix1:=hx;have d1:=Ds.mk [0,1] (c3);refine wd OJ [] A4 (AM @c2) ?_;clear d1 ix1;with_reducible repeat' first|constructor|intro hc
   refine⟨j+1,hjl,om,xH _,?_⟩;exact A6.ck rfl
  .have e:j=ov.length:=om
   subst e;rw[yD];refine wd OJ [] A4 A4 ?_;with_reducible repeat' first|constructor|intro hc
   exact Hc
end Nd
end Go.Proofs.YtkljbfejbakooaaGreatDoor
