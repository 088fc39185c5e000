/- Part 22 of a proof. Conditions: those that its theorems state. -/
import Derived.Test.YtkljbfejbakooaaGreatDoorS21
set_option linter.unusedSimpArgs false
set_option linter.unusedVariables false
set_option maxHeartbeats 40000000
set_option maxRecDepth 4000
namespace Go.Proofs.YtkljbfejbakooaaGreatDoor
namespace Nd
open Go.Gar
open Wi (A2 B5 AU A5 B6 mC)
abbrev Cz:List Nat:=[0,1,2,3,4,5,6,7,8,9,21,25,26,27,34,42]
abbrev Js:List Nat:=[0,1,2,3,26]
variable {l:Look}
theorem VW(h:KG l=true):0<=l.hops/\l.hops<=41:=by
 unfold KG at h;simp only[qH,qJ]at h;exact⟨h.1.1.2,h.1.2⟩
theorem iE(h:l.hops+1>40):NK l=⟨l.key,l.at_,l.hops+1,l.slow,l.found,211⟩:=by unfold NK;rw[if_pos h]
theorem iF(h:¬l.hops+1>40):NK l=⟨l.key,l.at_,l.hops+1,l.slow,l.found,l.code⟩:=by unfold NK;rw[if_neg h]
theorem gK(id:Int)(base list:List Int)(pred:Int)(f:Nat->Int)(l:Look)(m:A2):qC 333 [.d (View.d ⟨id,base,list,pred,f⟩),.d l.d,.d m.d] [] (.fn (.func 359) [] [.ptr 2 0 15,.ptr 1 0 6,.ptr 0 0 20]) [.c (vC id base list pred f),.c (NN l),.c (mC m)]:=by
 refine zD A4 Tryz.func333 ?_;unfold vC NN mC Look.d Look.cells Wi.A2.d Wi.A2.cells;refine wd [0,1,2,3,4,5,6] [] A0 A0 ?_;exact⟨_,(A1.ck rfl),qP _,_,_,rfl,rfl,rfl,rfl⟩
theorem dS(l:Look)(k:Nat):AV.oks k (NN l)=true:=rfl
theorem jv(m:A2)(k:Nat):AV.oks k (mC m)=true:=rfl
abbrev Sj(id:Int)(base list:List Int)(pred:Int)(f:Nat->Int)(l l0:Look)(m:A2)(ok:Bool)(r:Lp):List A3:=[.c (vC id base list pred f),.c (NN l),.c (mC m),.c (NN fV),.c [.pq ok],.c (vC id base list pred f),.c (NN l0),.c (mC m),.lp r]
theorem mE(v:View)(l:Look)(m:A2)(hb:v.base.length<=1000)(hl:v.list.length<=1000)(hm:AD m):qB 283 [v.d,l.d,m.d] (N6 v l m).d:=by
 have c1:=Bg v hb hl;have c2:=U6 l;have c3:=U5 l;have hT:N6 v l m=if AS v&&(KG l&& !lookO l)then(if SS v l m then(if l.hops+1>40 then NK l else⟨l.key,(ng v l m).1,l.hops+1,l.slow,(ng v l m).2,l.code⟩)else l)else l:=rfl
 have c4:=iD l;have hR:=VW (l:=l);have hhi:=iE (l:=l);have hlo:=iF (l:=l);refine zF A4 Tryz.func283 ?_;generalize KG l=b2 at *;generalize lookO l=b3 at*
 cases h1:AS v with
 |false=>
  rw[h1]at c1 hT;rw[hT];obtain⟨id,base,list,pred,f⟩:=v;unfold Look.d Look.cells Wi.A2.d Wi.A2.cells at *;refine wd Cz [] A0 (A6 @c1) ?_ [] true;exact zE
 |true=>
 rw[h1]at c1 hT
 cases b2 with
 |false=>
  rw[hT];obtain⟨id,base,list,pred,f⟩:=v;unfold Look.d Look.cells Wi.A2.d Wi.A2.cells at *;refine wd Cz [] A0 (AX @c1 @c2) ?_ [] true;exact zE
 |true=>
 cases b3 with
 |true=>
  rw[hT];obtain⟨id,base,list,pred,f⟩:=v;unfold Look.d Look.cells Wi.A2.d Wi.A2.cells at *;refine wd Cz [] A0 (C3 @c1 @c2 @c3) ?_ [] true;exact zE
 |false=>
 replace c4:=c4 (hR rfl);rw[rC,rC,Bool.not_false,if_pos rfl]at hT;have hTo:SS v l m=(decide (m.kind=10)&&(decide (m.src=l.at_)&&(decide (m.dst=v.id)&&m.right))):=rfl;have hOn:ng v l m=if m.place=v.id/\m.done=false then FY v l.key l.slow else(m.place,m.done):=rfl
 generalize N6 v l m=R at *;obtain⟨id,base,list,pred,f⟩:=v;dsimp only at hTo hOn;have c5:=gK id base list pred f l m;have c7:=iT id base list pred f ⟨l.key,l.at_,l.hops+1,l.slow,l.found,l.code⟩;have c8:=dV id base list pred f ⟨l.key,l.at_,l.hops+1,l.slow,l.found,l.code⟩ hb hl;have c9:=Wi.BV m (lm hm);dsimp only at c8;generalize m.right=mr at *;generalize SS ⟨id,base,list,pred,f⟩ l m=T1 at *;generalize ng ⟨id,base,list,pred,f⟩ l m=on at *;generalize FY ⟨id,base,list,pred,f⟩ l.key l.slow=hp at *;unfold Look.d Look.cells Wi.A2.d Wi.A2.cells at *;have d1:=Ds.mk [] (c5);refine wd Cz [] A0 (C3 @c1 @c2 @c3) ?_ [] true;clear d1;refine zG (K:=fun r _ H'=>(T1=false/\H'=Sj id base list pred f l l m false r)\/(T1=true/\l.hops+1>40/\H'=Sj id base list pred f (NK l) l m false (r.left (.goto 0)))\/(T1=true/\¬l.hops+1>40/\H'=Sj id base list pred f ⟨l.key,on.1,l.hops+1,l.slow,on.2,l.code⟩ l m true r)) ?_ ?_
 .intro r hr;have hk:=qQ dS (qQ jv (qQ (Y7 id base list pred f) (hr.ok (k:=8) rfl)))
  have hY1:l.hops+1>40->YT Tryz.prog 8 [.pY m.place,.pq m.done] (Sj id base list pred f l l m false r) fun x K=>x= .pq false/\K=Sj id base list pred f (NK l) l m false (r.left (.goto 0)):=by
   intro hh;rw[hhi hh,qO om]at c4;rw[hhi hh];refine AZ hr rfl rfl rfl ?_;unfold Sj NN mC;refine wd Cz [] A0 A0 ?_ [] true;refine zR ?_;refine wd Cz [] A0 (A6 @c4) ?_ [] true;exact⟨_,A1.refl _,qG _,rfl,rfl,rfl⟩
  have hY2:¬l.hops+1>40->YT Tryz.prog 8 [.pY m.place,.pq m.done] (Sj id base list pred f l l m false r) fun x K=>x= .pq true/\K=Sj id base list pred f ⟨l.key,on.1,l.hops+1,l.slow,on.2,l.code⟩ l m true r:=by
   intro hh;rw[hlo hh,qM om]at c4;refine AZ hr rfl rfl rfl ?_;unfold Sj NN mC;unfold NN at c7 c8
   by_cases p1:m.place=id
   .have g1:=A9 p1
    cases hd:m.done with
    |false=>
     have ho:on=hp:=by rw[hOn,if_pos ⟨p1,hd⟩]
     rw[ho];obtain⟨q1,q2⟩:=hp;clear hTo hOn hT hhi hlo hR c9 c5 hY1;obtain⟨m1,m2,m3,m4,m5,m6,m7,m8,m9,m10,m11,m12⟩:=m;dsimp only at hd g1|-;subst hd;refine wd Cz [] A0 A0 ?_ [] true;refine zR ?_;have d1:=Ds.mk [] (c7);have d2:=Ds.mk [9,10] (c8);refine wd Cz [] (A6 g1) (A6 @c4) ?_ [] true;clear d2 d1;exact⟨⟨[],[.c (vC id base list pred f),.c [.pY l.key,.pY q1,.pY (l.hops+1),.pq l.slow,.pq q2,.pY l.code],.c (mC ⟨m1,m2,m3,m4,m5,m6,false,m8,m9,m10,m11,m12⟩),.c (NN fV),.c [.pq true],.c (vC id base list pred f),.c (NN l),.c (mC ⟨m1,m2,m3,m4,m5,m6,false,m8,m9,m10,m11,m12⟩),.lp r.busy],_⟩,(A1.ck rfl),qG _,rfl,rfl,rfl⟩
    |true=>
     have ho:on=(m.place,true):=by rw[hOn,if_neg (fun h=>by rw[hd]at h;cases h.2),hd]
     rw[ho];refine wd Cz [] A0 A0 ?_ [] true;refine zR ?_;refine wd Cz [] (AX g1 hd) (A6 @c4) ?_ [] true;exact⟨_,A1.refl _,qG _,rfl,rfl,rfl⟩
   .have g1:=eq_false' p1;have ho:on=(m.place,m.done):=by rw[hOn,if_neg (fun h=>p1 h.1)]
    rw[ho];refine wd Cz [] A0 A0 ?_ [] true;refine zR ?_;refine wd Cz [] (A6 g1) (A6 @c4) ?_ [] true;exact⟨_,A1.refl _,qG _,rfl,rfl,rfl⟩
  refine zT A4 Tryz.func359 ?_
  by_cases k1:m.kind=10
  .have f1:=BF k1
   by_cases k2:m.src=l.at_
   .have f2:=BF k2
    by_cases k3:m.dst=id
    .have f3:=BF k3
     cases mr with
     |false=>
      unfold Sj NN mC at *;refine wd Js [] (C3 f1 f2 f3) (A6 @c9) ?_;exact⟨_,A1.refl _,qG _,_,_,rfl,rfl,.inl ⟨by rw[hTo];simp,rfl⟩⟩
     |true=>
      have hT1:T1=true:=by rw[hTo];simp[k1,k2,k3]
      by_cases hh:l.hops+1>40
      .have hY:=hY1 hh;unfold Sj NN mC at *;have q1:=@hY;refine wd Js [] (C3 f1 f2 f3) (A6 @c9) ?_;clear q1;exact⟨_,A1.refl _,qG _,_,_,rfl,rfl,.inr (.inl ⟨hT1,hh,rfl⟩)⟩
      .have hY:=hY2 hh;unfold Sj NN mC at *;have q1:=@hY;refine wd Js [] (C3 f1 f2 f3) (A6 @c9) ?_;clear q1;exact⟨_,A1.refl _,qG _,_,_,rfl,rfl,.inr (.inr ⟨hT1,hh,rfl⟩)⟩
    .have f3:=BJ k3;unfold Sj NN mC at *;refine wd Js [] (C3 f1 f2 f3) A0 ?_;exact⟨_,A1.refl _,qG _,_,_,rfl,rfl,.inl ⟨by rw[hTo];simp[k3],rfl⟩⟩
   .have f2:=BJ k2;unfold Sj NN mC at *;refine wd Js [] (AX f1 f2) A0 ?_;exact⟨_,A1.refl _,qG _,_,_,rfl,rfl,.inl ⟨by rw[hTo];simp[k2],rfl⟩⟩
  .have f1:=BJ k1;unfold Sj NN mC at *;refine wd Js [] (A6 f1) A0 ?_;exact⟨_,A1.refl _,qG _,_,_,rfl,rfl,.inl ⟨by rw[hTo];simp[k1],rfl⟩⟩
 .rintro r hr x H' (⟨h,rfl⟩|⟨h,hh,rfl⟩|⟨h,hh,rfl⟩)
  .refine .inl ⟨rfl,?_⟩;rw[h,if_neg (by decide)]at hT;rw[hT];unfold Sj NN;refine wd Cz [] A0 A0 ?_ [] true;exact zE
  .refine .inr ⟨.goto 0,rfl,?_⟩;rw[h,if_pos rfl,if_pos hh]at hT;rw[hT,hhi hh];unfold Sj NN;refine wd Cz [] A0 A0 ?_ [] true;exact zE
  .refine .inl ⟨rfl,?_⟩;rw[h,if_pos rfl,if_neg hh]at hT;rw[hT];unfold Sj NN;refine wd Cz [] A0 A0 ?_ [] true;exact zE
abbrev Ly:List Nat:=[0,1,2,3,4,6,7]
abbrev Ed:List Nat:=[0,1,2,3,4,5,6,7,9,10]
def Bz(a:A2×Int):List D:=[.i .u8 a.1.kind,.i .i64 a.1.call,.i .i64 a.1.src,.i .i64 a.1.dst,.i .i64 a.1.key,.b a.1.slow,.b a.1.done,.i .i64 a.1.place,.i .i64 a.1.pred,.is a.1.list,.s a.1.item.key,.i .i64 a.1.item.value,.i .i64 a.1.item.version,.b a.1.item.gone,.i .i64 a.1.code,.i .u8 a.2]
abbrev AC(l:List (A2×Int)):D:=.sl 16 (l.map Bz)
theorem UM{phase of_:Int}(h0:0<=phase)(h:D6 phase of_=true):phase=0\/phase=1\/phase=2\/phase=3:=by
 unfold D6 at h;split at h
 .exact .inl (by assumption)
 .simp only[qH,qJ]at h;have:=h.1;omega
theorem TA(phase of_:Int):qC 250 [.d (.agg [.i .u8 phase,.i .i64 of_])] [] (.fn (.func 305) [] [.ptr 0 0 2]) [.c [.pz phase,.pY of_]]:=by
 refine zD A4 Tryz.func250 ?_;refine wd [0,1,2] [] A0 A0 ?_;exact⟨_,(A1.ck rfl),qP _,_,_,rfl,rfl,rfl,rfl⟩
theorem jh{P:Program}{id:Nat}{xs:List AV}{ds:List D}{H:List A3}{R:AV->List A3->Prop}(hx:Ig xs ds)(h:YT P id (ds.map .d) H R):YT P id xs H R:=
 fun G w l N vs h1 h2 h3 h4=>h G w l N vs h1 h2 h3 (Ij.2 (OD hx h4))
abbrev bO(kd of_ wy:Int):AV:=.ag [.pz kd,.pY 0,.pY 0,.pY of_,.pY 0,.pq false,.pq false,.pY 0,.pY 0,.e0,.qE ([]),.pY 0,.pY 0,.pq false,.pY 0,.pz wy]
abbrev T9(kd of_ wy:Int):A2×Int:=(⟨kd,0,0,of_,0,false,false,0,0,[],AA,0⟩,wy)
theorem Wr(kd of_ wy:Int):Ig [bO kd of_ wy] [.agg (Bz (T9 kd of_ wy))]:=by
 repeat'(first|rfl|trivial|refine⟨rfl,rfl,by simp[AF]⟩|refine⟨_,_,rfl,?_,?_⟩|refine⟨_,rfl,?_⟩)
theorem bP{phase:Int}(of_:Int)(h:phase=1\/phase=2\/phase=3):∃kd wy:Int,Gl phase of_=[T9 kd of_ wy]/\(1<=kd/\kd<=3)/\kd+6=(if phase=3 then 9 else 7)/\((phase=1/\kd=1/\wy=1)\/(phase=2/\kd=1/\wy=2)\/(phase=3/\kd=3/\wy=3)):=by
 rcases h with rfl|rfl|rfl
 .exact⟨1,1,rfl,om,rfl,.inl ⟨rfl,rfl,rfl⟩⟩
 .exact⟨1,2,rfl,om,rfl,.inr (.inl ⟨rfl,rfl,rfl⟩)⟩
 .exact⟨3,3,rfl,om,rfl,.inr (.inr ⟨rfl,rfl,rfl⟩)⟩
theorem Qv(phase of_:Int)(h0:0<=phase)(hs:D6 phase of_=true):qB 169 [.agg [.i .u8 phase,.i .i64 of_]] (AC (Gl phase of_)):=by
 have c1:=TA phase of_;have hc:=UM h0 hs;clear h0 hs;refine zF A4 Tryz.func169 ?_;have d1:=Ds.mk [] (c1);refine wd Ly [] A0 A0 ?_;clear d1;clear c1;rcases hc with rfl|hc
 .refine zG (K:=fun r _ H'=>H'=[.c [.pz 0,.pY of_],.c [.e0],.c [.pz 0,.pY of_],.lp r]) ?_ ?_
  .intro r hr;have hk:=hr.ok (k:=3) rfl;refine zT A4 Tryz.func305 ?_;refine wd [0,1,3,6] [] A0 A0 ?_;exact⟨_,A1.refl _,qG _,_,_,rfl,rfl,rfl⟩
  .rintro r hr x H' rfl;refine .inl ⟨rfl,?_⟩;refine wd Ly [] A0 A0 ?_;exact Ag @Gl.eq_1
 .obtain⟨kd,wy,hA,-,-,hcase⟩:=bP of_ hc;rw[hA];clear hA hc;refine zG (K:=fun r _ H'=>H'=[.c [.pz phase,.pY of_],.c [.d (AC [T9 kd of_ wy])],.c [.pz phase,.pY of_],.lp r]) ?_ ?_
  .intro r hr;have hk:=hr.ok (k:=3) rfl
   have hY:YT Tryz.prog 3 [bO kd of_ wy] [.c [.pz phase,.pY of_],.c [.e0],.c [.pz phase,.pY of_],.lp r,.c [.pz kd,.pz wy]] fun x K=>x= .pq true/\K=[.c [.pz phase,.pY of_],.c [.d (AC [T9 kd of_ wy])],.c [.pz phase,.pY of_],.lp r,.c [.pz kd,.pz wy]]:=by
    refine jh (Wr kd of_ wy) (AZ hr rfl rfl rfl ?_);unfold Bz;refine wd Ly [] A0 A0 ?_;refine zR ?_;refine wd Ly [] A0 A0 ?_;exact⟨⟨[],[.c [.pz phase,.pY of_],.c [.d (AC [T9 kd of_ wy])],.c [.pz phase,.pY of_],.lp r.busy,.c [.pz kd,.pz wy]],_⟩,(A1.ck rfl),qG _,rfl,rfl,rfl⟩
   refine zT A4 Tryz.func305 ?_;rcases hcase with⟨rfl,rfl,rfl⟩|⟨rfl,rfl,rfl⟩|⟨rfl,rfl,rfl⟩
   all_goals
    have q1:=@hY;refine wd [0,1,3,6] [] A0 A0 ?_;clear q1
   .exact⟨⟨[],[.c [.pz 1,.pY of_],.c [.d (AC [T9 1 of_ 1])],.c [.pz 1,.pY of_],.lp r],_⟩,(A1.ck rfl),qG _,_,_,rfl,rfl,rfl⟩
   .exact⟨⟨[],[.c [.pz 2,.pY of_],.c [.d (AC [T9 1 of_ 2])],.c [.pz 2,.pY of_],.lp r],_⟩,(A1.ck rfl),qG _,_,_,rfl,rfl,rfl⟩
   .exact⟨⟨[],[.c [.pz 3,.pY of_],.c [.d (AC [T9 3 of_ 3])],.c [.pz 3,.pY of_],.lp r],_⟩,(A1.ck rfl),qG _,_,_,rfl,rfl,rfl⟩
  .rintro r hr x H' rfl;refine .inl ⟨rfl,?_⟩;refine wd Ly [] A0 A0 ?_;exact zE
theorem Yi(v:View)(phase of_:Int)(m:A2)(h0:0<=phase)(hs:D6 phase of_=true)(hm:AD m):qB 203 [v.d,.agg [.i .u8 phase,.i .i64 of_],m.d] (.b (V5 v phase of_ m)):=by
 have c1:=TA phase of_;have c2:=Wi.BV m (lm hm);have hc:=UM h0 hs;have hT:V5 v phase of_ m=(decide (phase≠0)&&(decide (m.kind=(if phase=3 then 9 else 7))&&(decide (m.src=of_)&&(decide (m.dst=v.id)&&m.right)))):=rfl;clear h0 hs;generalize V5 v phase of_ m=B at *;generalize m.right=mr at *;obtain⟨id,base,list,pred,f⟩:=v;dsimp only at hT;refine zF A4 Tryz.func203 ?_;unfold Wi.A2.d Wi.A2.cells at *;have d1:=Ds.mk [] (c1);refine wd Ed [] A0 A0 ?_;clear d1;clear c1;rcases hc with rfl|hc
 .refine zG (K:=fun r _ H'=>H'=[.c (vC id base list pred f),.c [.pz 0,.pY of_],.c (mC m),.c [.pq false],.c [.pz 0,.pY of_],.lp r]) ?_ ?_
  .intro r hr;have hk:=qQ (Y7 id base list pred f) (hr.ok (k:=5) rfl);refine zT A4 Tryz.func305 ?_;refine wd [0,1,3,6] [] A0 A0 ?_;exact⟨_,A1.refl _,qG _,_,_,rfl,rfl,rfl⟩
  .rintro r hr x H' rfl;refine .inl ⟨rfl,?_⟩;rw[hT];unfold vC mC;refine wd Ed [] A0 A0 ?_;exact zE
 .obtain⟨kd,wy,-,hkd,hkw,hcase⟩:=bP of_ hc;rw[<-hkw,qM (show phase≠0 by omega),rC]at hT;clear hc hkw;refine zG (K:=fun r _ H'=>H'=[.c (vC id base list pred f),.c [.pz phase,.pY of_],.c (mC m),.c [.pq B],.c [.pz phase,.pY of_],.lp (r.left .ret)]) ?_ ?_
  .intro r hr;have hk:=qQ dS (qQ jv (qQ (Y7 id base list pred f) (hr.ok (k:=5) rfl)))
   have hY:YT Tryz.prog 5 [bO kd of_ wy] [.c (vC id base list pred f),.c [.pz phase,.pY of_],.c (mC m),.c [.pq false],.c [.pz phase,.pY of_],.lp r,.c [.pz kd,.pz wy]] fun x K=>x= .pq false/\K=[.c (vC id base list pred f),.c [.pz phase,.pY of_],.c (mC m),.c [.pq B],.c [.pz phase,.pY of_],.lp (r.left .ret),.c [.pz kd,.pz wy]]:=by
    refine jh (Wr kd of_ wy) (AZ hr rfl rfl rfl ?_);unfold Bz vC mC
    by_cases k1:m.kind=kd+6
    .have f1:=A9 k1;rw[qM k1,rC]at hT
     by_cases k2:m.src=of_
     .have f2:=A9 k2;rw[qM k2,rC]at hT
      by_cases k3:m.dst=id
      .have f3:=A9 k3;rw[qM k3,rC]at hT;rw[hT];refine wd Ed [] A0 A0 ?_;refine zR ?_;refine wd Ed [] (C3 f1 f2 f3) (A6 @c2) ?_;with_reducible repeat' first|constructor|intro hc;try simp only[AB]at hc
       exact⟨⟨[],[.c (vC id base list pred f),.c [.pz phase,.pY of_],.c (mC m),.c [.pq mr],.c [.pz phase,.pY of_],.lp r.busy,.c [.pz kd,.pz wy]],_⟩,(A1.ck rfl),qG _,rfl,rfl,rfl⟩
      .have f3:=eq_false' k3;rw[qO k3,uH]at hT;rw[hT];refine wd Ed [] A0 A0 ?_;refine zR ?_;refine wd Ed [] (C3 f1 f2 f3) A0 ?_;with_reducible repeat' first|constructor|intro hc;try simp only[AB]at hc
       exact⟨⟨[],[.c (vC id base list pred f),.c [.pz phase,.pY of_],.c (mC m),.c [.pq false],.c [.pz phase,.pY of_],.lp r.busy,.c [.pz kd,.pz wy]],_⟩,(A1.ck rfl),qG _,rfl,rfl,rfl⟩
     .have f2:=eq_false' k2;rw[qO k2,uH]at hT;rw[hT];refine wd Ed [] A0 A0 ?_;refine zR ?_;refine wd Ed [] (AX f1 f2) A0 ?_;with_reducible repeat' first|constructor|intro hc;try simp only[AB]at hc
      exact⟨⟨[],[.c (vC id base list pred f),.c [.pz phase,.pY of_],.c (mC m),.c [.pq false],.c [.pz phase,.pY of_],.lp r.busy,.c [.pz kd,.pz wy]],_⟩,(A1.ck rfl),qG _,rfl,rfl,rfl⟩
    .have f1:=eq_false' k1;rw[qO k1,uH]at hT;rw[hT];refine wd Ed [] A0 A0 ?_;refine zR ?_;refine wd Ed [] (A6 f1) A0 ?_;with_reducible repeat' first|constructor|intro hc;try simp only[AB]at hc
     exact⟨⟨[],[.c (vC id base list pred f),.c [.pz phase,.pY of_],.c (mC m),.c [.pq false],.c [.pz phase,.pY of_],.lp r.busy,.c [.pz kd,.pz wy]],_⟩,(A1.ck rfl),qG _,rfl,rfl,rfl⟩
   clear c2 hT hkd;refine zT A4 Tryz.func305 ?_;rcases hcase with⟨rfl,rfl,rfl⟩|⟨rfl,rfl,rfl⟩|⟨rfl,rfl,rfl⟩
   all_goals
    have q1:=@hY;refine wd [0,1,3,6] [] A0 A0 ?_;clear q1
   .exact⟨⟨[],[.c (vC id base list pred f),.c [.pz 1,.pY of_],.c (mC m),.c [.pq B],.c [.pz 1,.pY of_],.lp (r.left .ret)],_⟩,(A1.ck rfl),qG _,_,_,rfl,rfl,rfl⟩
   .exact⟨⟨[],[.c (vC id base list pred f),.c [.pz 2,.pY of_],.c (mC m),.c [.pq B],.c [.pz 2,.pY of_],.lp (r.left .ret)],_⟩,(A1.ck rfl),qG _,_,_,rfl,rfl,rfl⟩
   .exact⟨⟨[],[.c (vC id base list pred f),.c [.pz 3,.pY of_],.c (mC m),.c [.pq B],.c [.pz 3,.pY of_],.lp (r.left .ret)],_⟩,(A1.ck rfl),qG _,_,_,rfl,rfl,rfl⟩
  .rintro r hr x H' rfl;refine .inr ⟨.ret,rfl,?_⟩;unfold vC mC;refine wd Ed [] A0 A0 ?_;exact zE
abbrev Bq:List Nat:=[0,1,2,3,4,5,6,9,12,13,14,15,22,23,31,32,52,55,73]
abbrev E7:List Nat:=[0,1,2,5,6,7,8,9,17]
theorem HX(why:Int)(l:List A2):qC 209 [.pz why,.d (Ac l)] [] (.fn (.func 290) [] [.ptr 1 0 1,.ptr 0 0 1]) [.c [.pz why],.c [.d (Ac l)]]:=by
 refine zD A4 Tryz.func209 ?_;refine wd [0,1,2,3,4] [] A0 A0 ?_;exact⟨_,(A1.ck rfl),qP _,_,_,rfl,rfl,rfl,rfl⟩
abbrev mX(x:A2):List AV:=[.pz x.kind,.pY x.call,.pY x.src,.pY x.dst,.pY x.key,.pq x.slow,.pq x.done,.pY x.place,.pY x.pred,.qF x.list,.qE x.item.key,.pY x.item.value,.pY x.item.version,.pq x.item.gone,.pY x.code]
abbrev Aw(w:Int)(l:List A2):List (A2×Int):=l.map fun m=>(m,w)
theorem EV(n:Node)(x:D)(k:Nat)(h:k=AP x):A3.EN 5 x (.c (hC n (.sl 5 k 16)))= .c (hC n (.d x)):=by
 have e:AV.EN 5 x (.sl 5 k 16)= .d x:=by simp[AV.EN,h]
 show A3.c (AV.Ft 5 x (hC n (.sl 5 k 16)))=_;rw[Iv];show A3.c (hC n (AV.EN 5 x (.sl 5 k 16)))=A3.c (hC n (.d x));rw[e]
abbrev gH(n:Node)(j:Job)(w:Int)(l:List A2)(a:List (A2×Int)):List A3:=[.c (hC n (.sl 5 a.length 16)),.c [.ptr 0 0 77],.c (I3 j (.qF j.left)),.c [.pz w],.c [.d (Ac l)],.a (AC a)]
theorem lb(n:Node)(j:Job)(ended:Bool)(l:List A2)(hl:l.length<=100000)(hn:n.keep.length<=1048576)(hs:0<=j.item.key.length)(k:List Item)(i:Job)(hT:Cr n.keep j=(k,i)):qC 132 [.ptr 0 0 77,.pz 6,.pq ended,.d j.d,.d (Ac l),.pq true] [.c (hC n .e0)] (.tup []) [.c (hC {n with keep:=k,mirror:=i} (.d (AC (Aw 6 l))))]:=by
 have c1:=Lo n;have c3:=HX 6 l;have c2:=SN n j hn hs;rw[hT]at c2;dsimp only at c2;refine zD A4 Tryz.func132 ?_;obtain⟨N,hN⟩:∃N:Node,N={n with keep:=k,mirror:=i}:=⟨_,rfl⟩;rw[<-hN];unfold hC Job.d Job.cells at *;have d1:=Ds.mk [0] (c1);have d2:=Ds.mk [0,2] (c2);have d3:=Ds.mk [] (c3);refine wd Bq [] A0 A0 ?_;clear d3 d2 d1;refine Ah (A1.FV 0 76 (.sl 16 []) rfl rfl rfl rfl (by simp[AF])) sm ?_;refine zG (K:=fun r _ H'=>H'=gH N i 6 l (Aw 6 l)++[.lp r]) ?_ ?_
 .intro r hr;have hk:=hr.ok (k:=6) rfl
  have hY:∀(x:A2)(a:List (A2×Int)),a.length<=1000000->YT Tryz.prog 6 [.d (.agg (Bz (x,6)))] (gH N i 6 l a++[.lp r,.c (mX x)]) fun v K=>v= .pq true/\K=gH N i 6 l (a++[(x,6)])++[.lp r,.c (mX x)]:=by
   intro x a ha;refine AZ hr rfl rfl rfl ?_;unfold Bz mX;unfold gH hC;simp only[qV,qX];refine wd Bq [] A0 A0 ?_;refine zR ?_;refine wd Bq [] A0 A0 ?_ [(0,6),(1,6),(2,6),(3,6),(4,6),(0,7)];refine⟨⟨[],[.c (hC N (.sl 5 (a++[(x,6)]).length 16)),.c [.ptr 0 0 77],.c (I3 i (.qF i.left)),.c [.pz 6],.c [.d (Ac l)],.a (AC (a++[(x,6)])),.lp r.busy,.c (mX x)],_⟩,(have nC:=qQ @AC.eq_1 @Bz.eq_1;A1.cn rfl),qG _,rfl,rfl,rfl⟩
  refine zT A4 Tryz.func290 ?_;refine wd E7 [] A0 A0 ?_;refine Cu (fun k:Nat=>k<=l.length) (fun k:Nat=>[(8,.pY k)]) (fun k=>[(0,.c (hC N (.sl 5 (Aw 6 (l.take k)).length 16))),(5,.a (AC (Aw 6 (l.take k))))]) (fun k=>l.length-k) 0 (qP _) (fun _=>rfl) (fun _=>rfl) ?_ ?_
  .subst hN;exact A1.ck rfl
  intro k0 hk0
  by_cases hkl:k0<l.length
  .obtain⟨x,hx⟩:=AT hkl;have hy:=hY x (Aw 6 (l.take k0)) (by rw[rZ,rM];omega)
   have e1:Aw 6 (l.take k0)++[(x,6)]=Aw 6 (l.take (k0+1)):=by
    rw[AQ hx];simp[Aw]
   rw[e1]at hy;unfold gH Bz mX at hy;simp only[qV,qX]at hy;have ix1:=hx;have q1:=@hy;refine wd E7 [] A0 A0 ?_;clear q1 ix1;with_reducible repeat' first|constructor|intro hc;try simp only[AB]at hc
   refine⟨k0+1,hkl,om,qG _,?_⟩;exact A1.ck rfl
  .have e:k0=l.length:=om
   subst e;rw[qx];refine wd E7 [] A0 A0 ?_;with_reducible repeat' first|constructor|intro hc;try simp only[AB]at hc
   exact⟨_,A1.refl _,qG _,_,_,rfl,rfl,rfl⟩
 .rintro r hr x H' rfl;refine .inl ⟨rfl,?_⟩;refine wd Bq [9] A0 A0 ?_;unfold gH;simp only[qV,qX];refine Ah (A1.freeze 5 (x:=AC (Aw 6 l)) rfl) (by rw[Ce];exact qG _) ?_;unfold hC at *;simp only[IZ,Cx];simp only[A3.EN,AV.EN,AV.Ft,Ia,Nat.reduceEqDiff,Nat.reduceAdd,decide_true,uw,AP,qY,qy,rZ,qw,ql,reduceCtorEq];refine wd Bq [] A0 A0 ?_;exact⟨⟨[],[.c (hC N (.d (AC (Aw 6 l))))],_⟩,A1.cut rfl trivial ⟨.inr (EV N (AC (Aw 6 l)) _ (by simp[AP])).symm,trivial⟩ rfl rfl,qA,_,_,rfl,rfl,rfl,rfl⟩
theorem lZ(n:Node)(j:Job)(ended:Bool)(l:List A2)(hl:l.length<=100000):qC 132 [.ptr 0 0 77,.pz 6,.pq ended,.d j.d,.d (Ac l),.pq false] [.c (hC n .e0)] (.tup []) [.c (hC {n with mirror:=j} (.d (AC (Aw 6 l))))]:=by
 have c1:=Lo n;have c3:=HX 6 l;refine zD A4 Tryz.func132 ?_;obtain⟨N,hN⟩:∃N:Node,N={n with mirror:=j}:=⟨_,rfl⟩;rw[<-hN];unfold hC Job.d Job.cells at *;have d1:=Ds.mk [0] (c1);have d2:=Ds.mk [] (c3);refine wd Bq [] A0 A0 ?_;clear d2 d1;refine Ah (A1.FV 0 76 (.sl 16 []) rfl rfl rfl rfl (by simp[AF])) sm ?_;refine zG (K:=fun r _ H'=>H'=gH N j 6 l (Aw 6 l)++[.lp r]) ?_ ?_
 .intro r hr;have hk:=hr.ok (k:=6) rfl
  have hY:∀(x:A2)(a:List (A2×Int)),a.length<=1000000->YT Tryz.prog 6 [.d (.agg (Bz (x,6)))] (gH N j 6 l a++[.lp r,.c (mX x)]) fun v K=>v= .pq true/\K=gH N j 6 l (a++[(x,6)])++[.lp r,.c (mX x)]:=by
   intro x a ha;refine AZ hr rfl rfl rfl ?_;unfold Bz mX;unfold gH hC;simp only[qV,qX];refine wd Bq [] A0 A0 ?_;refine zR ?_;refine wd Bq [] A0 A0 ?_ [(0,6),(1,6),(2,6),(3,6),(4,6),(0,7)];refine⟨⟨[],[.c (hC N (.sl 5 (a++[(x,6)]).length 16)),.c [.ptr 0 0 77],.c (I3 j (.qF j.left)),.c [.pz 6],.c [.d (Ac l)],.a (AC (a++[(x,6)])),.lp r.busy,.c (mX x)],_⟩,(have nC:=qQ @AC.eq_1 @Bz.eq_1;A1.cn rfl),qG _,rfl,rfl,rfl⟩
  refine zT A4 Tryz.func290 ?_;refine wd E7 [] A0 A0 ?_;refine Cu (fun k:Nat=>k<=l.length) (fun k:Nat=>[(8,.pY k)]) (fun k=>[(0,.c (hC N (.sl 5 (Aw 6 (l.take k)).length 16))),(5,.a (AC (Aw 6 (l.take k))))]) (fun k=>l.length-k) 0 (qP _) (fun _=>rfl) (fun _=>rfl) ?_ ?_
  .subst hN;exact A1.ck rfl
  intro k0 hk0
  by_cases hkl:k0<l.length
  .obtain⟨x,hx⟩:=AT hkl;have hy:=hY x (Aw 6 (l.take k0)) (by rw[rZ,rM];omega)
   have e1:Aw 6 (l.take k0)++[(x,6)]=Aw 6 (l.take (k0+1)):=by
    rw[AQ hx];simp[Aw]
   rw[e1]at hy;unfold gH Bz mX at hy;simp only[qV,qX]at hy;have ix1:=hx;have q1:=@hy;refine wd E7 [] A0 A0 ?_;clear q1 ix1;with_reducible repeat' first|constructor|intro hc;try simp only[AB]at hc
   refine⟨k0+1,hkl,om,qG _,?_⟩;exact A1.ck rfl
  .have e:k0=l.length:=om
   subst e;rw[qx];refine wd E7 [] A0 A0 ?_;with_reducible repeat' first|constructor|intro hc;try simp only[AB]at hc
   exact⟨_,A1.refl _,qG _,_,_,rfl,rfl,rfl⟩
 .rintro r hr x H' rfl;refine .inl ⟨rfl,?_⟩;refine wd Bq [9] A0 A0 ?_;unfold gH;simp only[qV,qX];refine Ah (A1.freeze 5 (x:=AC (Aw 6 l)) rfl) (by rw[Ce];exact qG _) ?_;unfold hC at *;simp only[IZ,Cx];simp only[A3.EN,AV.EN,AV.Ft,Ia,Nat.reduceEqDiff,Nat.reduceAdd,decide_true,uw,AP,qY,qy,rZ,qw,ql,reduceCtorEq];refine wd Bq [] A0 A0 ?_;exact⟨⟨[],[.c (hC N (.d (AC (Aw 6 l))))],_⟩,A1.cut rfl trivial ⟨.inr (EV N (AC (Aw 6 l)) _ (by simp[AP])).symm,trivial⟩ rfl rfl,qA,_,_,rfl,rfl,rfl,rfl⟩
theorem lg(n:Node)(j:Job)(ended:Bool)(l:List A2)(hl:l.length<=100000)(hn:n.keep.length<=1048576)(hs:0<=j.item.key.length)(k:List Item)(i:Job)(hT:Cr n.keep j=(k,i)):qC 132 [.ptr 0 0 77,.pz 7,.pq ended,.d j.d,.d (Ac l),.pq true] [.c (hC n .e0)] (.tup []) [.c (hC {n with keep:=k,client:=i} (.d (AC (Aw 7 l))))]:=by
 have c1:=Lq n;have c3:=HX 7 l;have c2:=SN n j hn hs;rw[hT]at c2;dsimp only at c2;refine zD A4 Tryz.func132 ?_;obtain⟨N,hN⟩:∃N:Node,N={n with keep:=k,client:=i}:=⟨_,rfl⟩;rw[<-hN];unfold hC Job.d Job.cells at *;have d1:=Ds.mk [0] (c1);have d2:=Ds.mk [0,2] (c2);have d3:=Ds.mk [] (c3);refine wd Bq [] A0 A0 ?_;clear d3 d2 d1;refine Ah (A1.FV 0 76 (.sl 16 []) rfl rfl rfl rfl (by simp[AF])) sm ?_;refine zG (K:=fun r _ H'=>H'=gH N i 7 l (Aw 7 l)++[.lp r]) ?_ ?_
 .intro r hr;have hk:=hr.ok (k:=6) rfl
  have hY:∀(x:A2)(a:List (A2×Int)),a.length<=1000000->YT Tryz.prog 6 [.d (.agg (Bz (x,7)))] (gH N i 7 l a++[.lp r,.c (mX x)]) fun v K=>v= .pq true/\K=gH N i 7 l (a++[(x,7)])++[.lp r,.c (mX x)]:=by
   intro x a ha;refine AZ hr rfl rfl rfl ?_;unfold Bz mX;unfold gH hC;simp only[qV,qX];refine wd Bq [] A0 A0 ?_;refine zR ?_;refine wd Bq [] A0 A0 ?_ [(0,6),(1,6),(2,6),(3,6),(4,6),(0,7)];refine⟨⟨[],[.c (hC N (.sl 5 (a++[(x,7)]).length 16)),.c [.ptr 0 0 77],.c (I3 i (.qF i.left)),.c [.pz 7],.c [.d (Ac l)],.a (AC (a++[(x,7)])),.lp r.busy,.c (mX x)],_⟩,(have nC:=qQ @AC.eq_1 @Bz.eq_1;A1.cn rfl),qG _,rfl,rfl,rfl⟩
  refine zT A4 Tryz.func290 ?_;refine wd E7 [] A0 A0 ?_;refine Cu (fun k:Nat=>k<=l.length) (fun k:Nat=>[(8,.pY k)]) (fun k=>[(0,.c (hC N (.sl 5 (Aw 7 (l.take k)).length 16))),(5,.a (AC (Aw 7 (l.take k))))]) (fun k=>l.length-k) 0 (qP _) (fun _=>rfl) (fun _=>rfl) ?_ ?_
  .subst hN;exact A1.ck rfl
  intro k0 hk0
  by_cases hkl:k0<l.length
  .obtain⟨x,hx⟩:=AT hkl;have hy:=hY x (Aw 7 (l.take k0)) (by rw[rZ,rM];omega)
   have e1:Aw 7 (l.take k0)++[(x,7)]=Aw 7 (l.take (k0+1)):=by
    rw[AQ hx];simp[Aw]
   rw[e1]at hy;unfold gH Bz mX at hy;simp only[qV,qX]at hy;have ix1:=hx;have q1:=@hy;refine wd E7 [] A0 A0 ?_;clear q1 ix1;with_reducible repeat' first|constructor|intro hc;try simp only[AB]at hc
   refine⟨k0+1,hkl,om,qG _,?_⟩;exact A1.ck rfl
  .have e:k0=l.length:=om
   subst e;rw[qx];refine wd E7 [] A0 A0 ?_;with_reducible repeat' first|constructor|intro hc;try simp only[AB]at hc
   exact⟨_,A1.refl _,qG _,_,_,rfl,rfl,rfl⟩
 .rintro r hr x H' rfl;refine .inl ⟨rfl,?_⟩;refine wd Bq [9] A0 A0 ?_;unfold gH;simp only[qV,qX];refine Ah (A1.freeze 5 (x:=AC (Aw 7 l)) rfl) (by rw[Ce];exact qG _) ?_;unfold hC at *;simp only[IZ,Cx];simp only[A3.EN,AV.EN,AV.Ft,Ia,Nat.reduceEqDiff,Nat.reduceAdd,decide_true,uw,AP,qY,qy,rZ,qw,ql,reduceCtorEq];refine wd Bq [] A0 A0 ?_;exact⟨⟨[],[.c (hC N (.d (AC (Aw 7 l))))],_⟩,A1.cut rfl trivial ⟨.inr (EV N (AC (Aw 7 l)) _ (by simp[AP])).symm,trivial⟩ rfl rfl,qA,_,_,rfl,rfl,rfl,rfl⟩
theorem lc(n:Node)(j:Job)(ended:Bool)(l:List A2)(hl:l.length<=100000):qC 132 [.ptr 0 0 77,.pz 7,.pq ended,.d j.d,.d (Ac l),.pq false] [.c (hC n .e0)] (.tup []) [.c (hC {n with client:=j} (.d (AC (Aw 7 l))))]:=by
 have c1:=Lq n;have c3:=HX 7 l;refine zD A4 Tryz.func132 ?_;obtain⟨N,hN⟩:∃N:Node,N={n with client:=j}:=⟨_,rfl⟩;rw[<-hN];unfold hC Job.d Job.cells at *;have d1:=Ds.mk [0] (c1);have d2:=Ds.mk [] (c3);refine wd Bq [] A0 A0 ?_;clear d2 d1;refine Ah (A1.FV 0 76 (.sl 16 []) rfl rfl rfl rfl (by simp[AF])) sm ?_;refine zG (K:=fun r _ H'=>H'=gH N j 7 l (Aw 7 l)++[.lp r]) ?_ ?_
 .intro r hr;have hk:=hr.ok (k:=6) rfl
  have hY:∀(x:A2)(a:List (A2×Int)),a.length<=1000000->YT Tryz.prog 6 [.d (.agg (Bz (x,7)))] (gH N j 7 l a++[.lp r,.c (mX x)]) fun v K=>v= .pq true/\K=gH N j 7 l (a++[(x,7)])++[.lp r,.c (mX x)]:=by
   intro x a ha;refine AZ hr rfl rfl rfl ?_;unfold Bz mX;unfold gH hC;simp only[qV,qX];refine wd Bq [] A0 A0 ?_;refine zR ?_;refine wd Bq [] A0 A0 ?_ [(0,6),(1,6),(2,6),(3,6),(4,6),(0,7)];refine⟨⟨[],[.c (hC N (.sl 5 (a++[(x,7)]).length 16)),.c [.ptr 0 0 77],.c (I3 j (.qF j.left)),.c [.pz 7],.c [.d (Ac l)],.a (AC (a++[(x,7)])),.lp r.busy,.c (mX x)],_⟩,(have nC:=qQ @AC.eq_1 @Bz.eq_1;A1.cn rfl),qG _,rfl,rfl,rfl⟩
  refine zT A4 Tryz.func290 ?_;refine wd E7 [] A0 A0 ?_;refine Cu (fun k:Nat=>k<=l.length) (fun k:Nat=>[(8,.pY k)]) (fun k=>[(0,.c (hC N (.sl 5 (Aw 7 (l.take k)).length 16))),(5,.a (AC (Aw 7 (l.take k))))]) (fun k=>l.length-k) 0 (qP _) (fun _=>rfl) (fun _=>rfl) ?_ ?_
  .subst hN;exact A1.ck rfl
  intro k0 hk0
  by_cases hkl:k0<l.length
  .obtain⟨x,hx⟩:=AT hkl;have hy:=hY x (Aw 7 (l.take k0)) (by rw[rZ,rM];omega)
   have e1:Aw 7 (l.take k0)++[(x,7)]=Aw 7 (l.take (k0+1)):=by
    rw[AQ hx];simp[Aw]
   rw[e1]at hy;unfold gH Bz mX at hy;simp only[qV,qX]at hy;have ix1:=hx;have q1:=@hy;refine wd E7 [] A0 A0 ?_;clear q1 ix1;with_reducible repeat' first|constructor|intro hc;try simp only[AB]at hc
   refine⟨k0+1,hkl,om,qG _,?_⟩;exact A1.ck rfl
  .have e:k0=l.length:=om
   subst e;rw[qx];refine wd E7 [] A0 A0 ?_;with_reducible repeat' first|constructor|intro hc;try simp only[AB]at hc
   exact⟨_,A1.refl _,qG _,_,_,rfl,rfl,rfl⟩
 .rintro r hr x H' rfl;refine .inl ⟨rfl,?_⟩;refine wd Bq [9] A0 A0 ?_;unfold gH;simp only[qV,qX];refine Ah (A1.freeze 5 (x:=AC (Aw 7 l)) rfl) (by rw[Ce];exact qG _) ?_;unfold hC at *;simp only[IZ,Cx];simp only[A3.EN,AV.EN,AV.Ft,Ia,Nat.reduceEqDiff,Nat.reduceAdd,decide_true,uw,AP,qY,qy,rZ,qw,ql,reduceCtorEq];refine wd Bq [] A0 A0 ?_;exact⟨⟨[],[.c (hC N (.d (AC (Aw 7 l))))],_⟩,A1.cut rfl trivial ⟨.inr (EV N (AC (Aw 7 l)) _ (by simp[AP])).symm,trivial⟩ rfl rfl,qA,_,_,rfl,rfl,rfl,rfl⟩
abbrev Bs:List Nat:=[0,1,2,3,4,5,6,9,12,13,14,15,22,23,31,32,52,55,73]
abbrev Jv:List Nat:=[0,1,2,5,6,7,8,9,17]
theorem lX(n:Node)(j:Job)(ended:Bool)(l:List A2)(hl:l.length<=100000)(hx0:0<=n.next)(hx1:n.next<16)(hb1:n.view.base.length<=1000)(hb2:n.view.list.length<=1000)(hn:n.keep.length<=1048576)(hs:0<=j.item.key.length)(k:List Item)(i:Job)(hT:Cr n.keep j=(k,i)):qC 132 [.ptr 0 0 77,.pz 5,.pq ended,.d j.d,.d (Ac l),.pq true] [.c (hC n .e0)] (.tup []) [.c (hC (if ended=false/\i.phase=5 then Du {n with keep:=k,finger:=i}else{n with keep:=k,finger:=i}) (.d (AC (Aw 5 l))))]:=by
 have c1:=Ln n;have c3:=HX 5 l;have c2:=SN n j hn hs;rw[hT]at c2;dsimp only at c2;refine zD A4 Tryz.func132 ?_;obtain⟨N,hN⟩:∃N:Node,N={n with keep:=k,finger:=i}:=⟨_,rfl⟩;rw[<-hN];unfold hC Job.d Job.cells at *;have d1:=Ds.mk [0] (c1);have d2:=Ds.mk [0,2] (c2);have d3:=Ds.mk [] (c3);refine wd Bs [] A0 A0 ?_;clear d3 d2 d1;refine Ah (A1.FV 0 76 (.sl 16 []) rfl rfl rfl rfl (by simp[AF])) sm ?_;refine zG (K:=fun r _ H'=>H'=gH N i 5 l (Aw 5 l)++[.lp r]) ?_ ?_
 .intro r hr;have hk:=hr.ok (k:=6) rfl
  have hY:∀(x:A2)(a:List (A2×Int)),a.length<=1000000->YT Tryz.prog 6 [.d (.agg (Bz (x,5)))] (gH N i 5 l a++[.lp r,.c (mX x)]) fun v K=>v= .pq true/\K=gH N i 5 l (a++[(x,5)])++[.lp r,.c (mX x)]:=by
   intro x a ha;refine AZ hr rfl rfl rfl ?_;unfold Bz mX;unfold gH hC;simp only[qV,qX];refine wd Bs [] A0 A0 ?_;refine zR ?_;refine wd Bs [] A0 A0 ?_ [(0,6),(1,6),(2,6),(3,6),(4,6),(0,7)];refine⟨⟨[],[.c (hC N (.sl 5 (a++[(x,5)]).length 16)),.c [.ptr 0 0 77],.c (I3 i (.qF i.left)),.c [.pz 5],.c [.d (Ac l)],.a (AC (a++[(x,5)])),.lp r.busy,.c (mX x)],_⟩,(have nC:=qQ @AC.eq_1 @Bz.eq_1;A1.cn rfl),qG _,rfl,rfl,rfl⟩
  refine zT A4 Tryz.func290 ?_;refine wd Jv [] A0 A0 ?_;refine Cu (fun k:Nat=>k<=l.length) (fun k:Nat=>[(8,.pY k)]) (fun k=>[(0,.c (hC N (.sl 5 (Aw 5 (l.take k)).length 16))),(5,.a (AC (Aw 5 (l.take k))))]) (fun k=>l.length-k) 0 (qP _) (fun _=>rfl) (fun _=>rfl) ?_ ?_
  .subst hN;exact A1.ck rfl
  intro k0 hk0
  by_cases hkl:k0<l.length
  .obtain⟨x,hx⟩:=AT hkl;have hy:=hY x (Aw 5 (l.take k0)) (by rw[rZ,rM];omega)
   have e1:Aw 5 (l.take k0)++[(x,5)]=Aw 5 (l.take (k0+1)):=by
    rw[AQ hx];simp[Aw]
   rw[e1]at hy;unfold gH Bz mX at hy;simp only[qV,qX]at hy;have ix1:=hx;have q1:=@hy;refine wd Jv [] A0 A0 ?_;clear q1 ix1;with_reducible repeat' first|constructor|intro hc;try simp only[AB]at hc
   refine⟨k0+1,hkl,om,qG _,?_⟩;exact A1.ck rfl
  .have e:k0=l.length:=om
   subst e;rw[qx];refine wd Jv [] A0 A0 ?_;with_reducible repeat' first|constructor|intro hc;try simp only[AB]at hc
   exact⟨_,A1.refl _,qG _,_,_,rfl,rfl,rfl⟩
 .rintro r hr x H' rfl;refine .inl ⟨rfl,?_⟩;unfold gH hC;simp only[qV,qX];have hv:=X3 n.view n.next i.owner hb1 hb2;unfold View.d View.cells at hv;subst hN;dsimp only
  cases ended with
  |true=>
   refine wd Bs [] A0 A0 ?_;exact⟨⟨[],[.c (hC {n with keep:=k,finger:=i} (.d (AC (Aw 5 l))))],_⟩,A1.trans' (A1.freeze 5 (x:=AC (Aw 5 l)) rfl) (A1.cut rfl trivial ⟨.inr (EV {n with keep:=k,finger:=i} (AC (Aw 5 l)) _ (by simp[AP])).symm,trivial⟩ rfl rfl) qA,qA,_,_,rfl,rfl,rfl,rfl⟩
  |false=>
   by_cases h5:i.phase=5
   .have f5:=A9 h5;rw[if_pos ⟨rfl,h5⟩]
    by_cases hc:i.code=0
    .have fc:=A9 hc
     have hg:Du {n with keep:=k,finger:=i}={ {n with keep:=k,finger:=i}with view:=(HT n.view n.next i.owner).1,next:=(n.next+1).tmod 16}:=by
      unfold Du;dsimp only;rw[if_pos hc]
     rw[hg]
     have hq:(HT n.view n.next i.owner).2=0\/((HT n.view n.next i.owner).1=n.view/\(HT n.view n.next i.owner).2=2):=by
      unfold HT;split
      .exact .inl rfl
      .exact .inr ⟨rfl,rfl⟩
     generalize HT n.view n.next i.owner=q at *;obtain⟨qv,qe⟩:=q;dsimp only at hv hq|-;rcases hq with rfl|⟨rfl,rfl⟩
     .refine wd Bs [12] (AX f5 fc) (A6 @hv) ?_ [(0,16),(1,16),(2,16),(3,16),(4,16),(5,16),(6,16),(7,16),(8,16),(9,16),(10,16),(11,16),(15,17)];with_reducible repeat' first|constructor|intro hc;try simp only[AB]at hc
      refine wd Bs [] A0 A0 ?_;exact⟨⟨[],[.c (hC { {n with keep:=k,finger:=i}with view:=qv,next:=(n.next+1).tmod 16} (.d (AC (Aw 5 l))))],_⟩,A1.trans' (A1.freeze 5 (x:=AC (Aw 5 l)) rfl) (A1.cut rfl trivial ⟨.inr (EV { {n with keep:=k,finger:=i}with view:=qv,next:=(n.next+1).tmod 16} (AC (Aw 5 l)) _ (by simp[AP])).symm,trivial⟩ rfl rfl) qA,qA,_,_,rfl,rfl,rfl,rfl⟩
     .refine wd Bs [12] (AX f5 fc) (A6 @hv) ?_ [(0,16),(1,16),(2,16),(3,16),(4,16),(5,16),(6,16),(7,16),(8,16),(9,16),(10,16),(11,16),(15,17)];with_reducible repeat' first|constructor|intro hc;try simp only[AB]at hc
      refine wd Bs [] A0 A0 ?_;exact⟨⟨[],[.c (hC { {n with keep:=k,finger:=i}with next:=(n.next+1).tmod 16} (.d (AC (Aw 5 l))))],_⟩,A1.trans' (A1.freeze 5 (x:=AC (Aw 5 l)) rfl) (A1.cut rfl trivial ⟨.inr (EV { {n with keep:=k,finger:=i}with next:=(n.next+1).tmod 16} (AC (Aw 5 l)) _ (by simp[AP])).symm,trivial⟩ rfl rfl) qA,qA,_,_,rfl,rfl,rfl,rfl⟩
    .have fc:=eq_false' hc
     have hg:Du {n with keep:=k,finger:=i}={ {n with keep:=k,finger:=i}with next:=(n.next+1).tmod 16}:=by
      unfold Du;dsimp only;rw[if_neg hc]
     rw[hg];dsimp only;refine wd Bs [] (AX f5 fc) A0 ?_;with_reducible repeat' first|constructor|intro hc;try simp only[AB]at hc
     exact⟨⟨[],[.c (hC { {n with keep:=k,finger:=i}with next:=(n.next+1).tmod 16} (.d (AC (Aw 5 l))))],_⟩,A1.trans' (A1.freeze 5 (x:=AC (Aw 5 l)) rfl) (A1.cut rfl trivial ⟨.inr (EV { {n with keep:=k,finger:=i}with next:=(n.next+1).tmod 16} (AC (Aw 5 l)) _ (by simp[AP])).symm,trivial⟩ rfl rfl) qA,qA,_,_,rfl,rfl,rfl,rfl⟩
   .have f5:=eq_false' h5;rw[if_neg (fun h=>h5 h.2)];refine wd Bs [] (A6 f5) A0 ?_;with_reducible repeat' first|constructor|intro hc;try simp only[AB]at hc
    exact⟨⟨[],[.c (hC {n with keep:=k,finger:=i} (.d (AC (Aw 5 l))))],_⟩,A1.trans' (A1.freeze 5 (x:=AC (Aw 5 l)) rfl) (A1.cut rfl trivial ⟨.inr (EV {n with keep:=k,finger:=i} (AC (Aw 5 l)) _ (by simp[AP])).symm,trivial⟩ rfl rfl) qA,qA,_,_,rfl,rfl,rfl,rfl⟩
theorem lW(n:Node)(j:Job)(ended:Bool)(l:List A2)(hl:l.length<=100000)(hx0:0<=n.next)(hx1:n.next<16)(hb1:n.view.base.length<=1000)(hb2:n.view.list.length<=1000):qC 132 [.ptr 0 0 77,.pz 5,.pq ended,.d j.d,.d (Ac l),.pq false] [.c (hC n .e0)] (.tup []) [.c (hC (if ended=false/\j.phase=5 then Du {n with finger:=j}else{n with finger:=j}) (.d (AC (Aw 5 l))))]:=by
 have c1:=Ln n;have c3:=HX 5 l;refine zD A4 Tryz.func132 ?_;obtain⟨N,hN⟩:∃N:Node,N={n with finger:=j}:=⟨_,rfl⟩;rw[<-hN];unfold hC Job.d Job.cells at *;have d1:=Ds.mk [0] (c1);have d2:=Ds.mk [] (c3);refine wd Bs [] A0 A0 ?_;clear d2 d1;refine Ah (A1.FV 0 76 (.sl 16 []) rfl rfl rfl rfl (by simp[AF])) sm ?_;refine zG (K:=fun r _ H'=>H'=gH N j 5 l (Aw 5 l)++[.lp r]) ?_ ?_
 .intro r hr;have hk:=hr.ok (k:=6) rfl
  have hY:∀(x:A2)(a:List (A2×Int)),a.length<=1000000->YT Tryz.prog 6 [.d (.agg (Bz (x,5)))] (gH N j 5 l a++[.lp r,.c (mX x)]) fun v K=>v= .pq true/\K=gH N j 5 l (a++[(x,5)])++[.lp r,.c (mX x)]:=by
   intro x a ha;refine AZ hr rfl rfl rfl ?_;unfold Bz mX;unfold gH hC;simp only[qV,qX];refine wd Bs [] A0 A0 ?_;refine zR ?_;refine wd Bs [] A0 A0 ?_ [(0,6),(1,6),(2,6),(3,6),(4,6),(0,7)];refine⟨⟨[],[.c (hC N (.sl 5 (a++[(x,5)]).length 16)),.c [.ptr 0 0 77],.c (I3 j (.qF j.left)),.c [.pz 5],.c [.d (Ac l)],.a (AC (a++[(x,5)])),.lp r.busy,.c (mX x)],_⟩,(have nC:=qQ @AC.eq_1 @Bz.eq_1;A1.cn rfl),qG _,rfl,rfl,rfl⟩
  refine zT A4 Tryz.func290 ?_;refine wd Jv [] A0 A0 ?_;refine Cu (fun k:Nat=>k<=l.length) (fun k:Nat=>[(8,.pY k)]) (fun k=>[(0,.c (hC N (.sl 5 (Aw 5 (l.take k)).length 16))),(5,.a (AC (Aw 5 (l.take k))))]) (fun k=>l.length-k) 0 (qP _) (fun _=>rfl) (fun _=>rfl) ?_ ?_
  .subst hN;exact A1.ck rfl
  intro k0 hk0
  by_cases hkl:k0<l.length
  .obtain⟨x,hx⟩:=AT hkl;have hy:=hY x (Aw 5 (l.take k0)) (by rw[rZ,rM];omega)
   have e1:Aw 5 (l.take k0)++[(x,5)]=Aw 5 (l.take (k0+1)):=by
    rw[AQ hx];simp[Aw]
   rw[e1]at hy;unfold gH Bz mX at hy;simp only[qV,qX]at hy;have ix1:=hx;have q1:=@hy;refine wd Jv [] A0 A0 ?_;clear q1 ix1;with_reducible repeat' first|constructor|intro hc;try simp only[AB]at hc
   refine⟨k0+1,hkl,om,qG _,?_⟩;exact A1.ck rfl
  .have e:k0=l.length:=om
   subst e;rw[qx];refine wd Jv [] A0 A0 ?_;with_reducible repeat' first|constructor|intro hc;try simp only[AB]at hc
   exact⟨_,A1.refl _,qG _,_,_,rfl,rfl,rfl⟩
 .rintro r hr x H' rfl;refine .inl ⟨rfl,?_⟩;unfold gH hC;simp only[qV,qX];have hv:=X3 n.view n.next j.owner hb1 hb2;unfold View.d View.cells at hv;subst hN;dsimp only
  cases ended with
  |true=>
   refine wd Bs [] A0 A0 ?_;exact⟨⟨[],[.c (hC {n with finger:=j} (.d (AC (Aw 5 l))))],_⟩,A1.trans' (A1.freeze 5 (x:=AC (Aw 5 l)) rfl) (A1.cut rfl trivial ⟨.inr (EV {n with finger:=j} (AC (Aw 5 l)) _ (by simp[AP])).symm,trivial⟩ rfl rfl) qA,qA,_,_,rfl,rfl,rfl,rfl⟩
  |false=>
   by_cases h5:j.phase=5
   .have f5:=A9 h5;rw[if_pos ⟨rfl,h5⟩]
    by_cases hc:j.code=0
    .have fc:=A9 hc
     have hg:Du {n with finger:=j}={ {n with finger:=j}with view:=(HT n.view n.next j.owner).1,next:=(n.next+1).tmod 16}:=by
      unfold Du;dsimp only;rw[if_pos hc]
     rw[hg]
     have hq:(HT n.view n.next j.owner).2=0\/((HT n.view n.next j.owner).1=n.view/\(HT n.view n.next j.owner).2=2):=by
      unfold HT;split
      .exact .inl rfl
      .exact .inr ⟨rfl,rfl⟩
     generalize HT n.view n.next j.owner=q at *;obtain⟨qv,qe⟩:=q;dsimp only at hv hq|-;rcases hq with rfl|⟨rfl,rfl⟩
     .refine wd Bs [12] (AX f5 fc) (A6 @hv) ?_ [(0,16),(1,16),(2,16),(3,16),(4,16),(5,16),(6,16),(7,16),(8,16),(9,16),(10,16),(11,16),(15,17)];with_reducible repeat' first|constructor|intro hc;try simp only[AB]at hc
      refine wd Bs [] A0 A0 ?_;exact⟨⟨[],[.c (hC { {n with finger:=j}with view:=qv,next:=(n.next+1).tmod 16} (.d (AC (Aw 5 l))))],_⟩,A1.trans' (A1.freeze 5 (x:=AC (Aw 5 l)) rfl) (A1.cut rfl trivial ⟨.inr (EV { {n with finger:=j}with view:=qv,next:=(n.next+1).tmod 16} (AC (Aw 5 l)) _ (by simp[AP])).symm,trivial⟩ rfl rfl) qA,qA,_,_,rfl,rfl,rfl,rfl⟩
     .refine wd Bs [12] (AX f5 fc) (A6 @hv) ?_ [(0,16),(1,16),(2,16),(3,16),(4,16),(5,16),(6,16),(7,16),(8,16),(9,16),(10,16),(11,16),(15,17)];with_reducible repeat' first|constructor|intro hc;try simp only[AB]at hc
      refine wd Bs [] A0 A0 ?_;exact⟨⟨[],[.c (hC { {n with finger:=j}with next:=(n.next+1).tmod 16} (.d (AC (Aw 5 l))))],_⟩,A1.trans' (A1.freeze 5 (x:=AC (Aw 5 l)) rfl) (A1.cut rfl trivial ⟨.inr (EV { {n with finger:=j}with next:=(n.next+1).tmod 16} (AC (Aw 5 l)) _ (by simp[AP])).symm,trivial⟩ rfl rfl) qA,qA,_,_,rfl,rfl,rfl,rfl⟩
    .have fc:=eq_false' hc
     have hg:Du {n with finger:=j}={ {n with finger:=j}with next:=(n.next+1).tmod 16}:=by
      unfold Du;dsimp only;rw[if_neg hc]
     rw[hg];dsimp only;refine wd Bs [] (AX f5 fc) A0 ?_;with_reducible repeat' first|constructor|intro hc;try simp only[AB]at hc
     exact⟨⟨[],[.c (hC { {n with finger:=j}with next:=(n.next+1).tmod 16} (.d (AC (Aw 5 l))))],_⟩,A1.trans' (A1.freeze 5 (x:=AC (Aw 5 l)) rfl) (A1.cut rfl trivial ⟨.inr (EV { {n with finger:=j}with next:=(n.next+1).tmod 16} (AC (Aw 5 l)) _ (by simp[AP])).symm,trivial⟩ rfl rfl) qA,qA,_,_,rfl,rfl,rfl,rfl⟩
   .have f5:=eq_false' h5;rw[if_neg (fun h=>h5 h.2)];refine wd Bs [] (A6 f5) A0 ?_;with_reducible repeat' first|constructor|intro hc;try simp only[AB]at hc
    exact⟨⟨[],[.c (hC {n with finger:=j} (.d (AC (Aw 5 l))))],_⟩,A1.trans' (A1.freeze 5 (x:=AC (Aw 5 l)) rfl) (A1.cut rfl trivial ⟨.inr (EV {n with finger:=j} (AC (Aw 5 l)) _ (by simp[AP])).symm,trivial⟩ rfl rfl) qA,qA,_,_,rfl,rfl,rfl,rfl⟩
theorem XB(n:Node)(w:Int)(ended:Bool)(c:JC)(hw:w=5\/w=6\/w=7)(hl:c.asks.length<=100000)(hx0:0<=n.next)(hx1:n.next<16)(hb1:n.view.base.length<=1000)(hb2:n.view.list.length<=1000)(hn:n.keep.length<=1048576)(hs:0<=c.job.item.key.length):qC 132 [.ptr 0 0 77,.pz w,.pq ended,.d c.job.d,.d (Ac c.asks),.pq c.own] [.c (hC n .e0)] (.tup []) [.c (hC (As n w ended c).1 (.d (AC (As n w ended c).2)))]:=by
 obtain⟨j,l,own⟩:=c;dsimp only at hl hs|-
 cases own with
 |true=>
  obtain⟨k,i,hT⟩:∃k i,Cr n.keep j=(k,i):=⟨_,_,rfl⟩;rcases hw with rfl|rfl|rfl
  .have:=lX n j ended l hl hx0 hx1 hb1 hb2 hn hs k i hT
   by_cases hE:ended=false/\i.phase=5
   .rw[if_pos hE]at this;unfold As;simp only[qw,hT];rw[if_pos (show True/\ended=false/\i.phase=5 from⟨trivial,hE⟩)];exact this
   .rw[if_neg hE]at this;unfold As;simp only[qw,hT];rw[if_neg (show ¬(True/\ended=false/\i.phase=5)from fun h=>hE h.2)];exact this
  .have:=lb n j ended l hl hn hs k i hT;unfold As;simp only[qw,hT];rw[if_neg (fun h=>absurd h.1 (by decide))];exact this
  .have:=lg n j ended l hl hn hs k i hT;unfold As;simp only[qw,hT];rw[if_neg (fun h=>absurd h.1 (by decide))];exact this
 |false=>
  rcases hw with rfl|rfl|rfl
  .have:=lW n j ended l hl hx0 hx1 hb1 hb2
   by_cases hE:ended=false/\j.phase=5
   .rw[if_pos hE]at this;unfold As;simp only[rD,ql];rw[if_pos (show True/\ended=false/\j.phase=5 from⟨trivial,hE⟩)];exact this
   .rw[if_neg hE]at this;unfold As;simp only[rD,ql];rw[if_neg (show ¬(True/\ended=false/\j.phase=5)from fun h=>hE h.2)];exact this
  .have:=lZ n j ended l hl;unfold As;simp only[rD,ql];rw[if_neg (fun h=>absurd h.1 (by decide))];exact this
  .have:=lc n j ended l hl;unfold As;simp only[rD,ql];rw[if_neg (fun h=>absurd h.1 (by decide))];exact this
abbrev J0:AV:=.fn (.func 128) [] [.ptr 0 0 77,.ptr 1 0 15]
abbrev EW:AV:=.fn (.func 130) [] [.ptr 0 0 77,.ptr 1 0 15]
theorem VL(n:Node)(m:A2)(w:Int):qC 211 [.pz w,.ptr 3 0 1,.ptr 2 0 1] ([.c (hC n .e0),.c (mX m),.c [.ptr 0 0 77],.c [EW]]) (.fn (.func 212) [] [.ptr 3 0 1,.ptr 4 0 1,.ptr 2 0 1]) ([.c (hC n .e0),.c (mX m),.c [.ptr 0 0 77],.c [EW],.c [.pz w]]):=by
 refine zD A4 Tryz.func211 ?_;refine wd [0,1,2,3,4] [] A0 A0 ?_;exact⟨_,(A1.ck rfl),qA,_,_,rfl,rfl,rfl,rfl⟩
abbrev LO:List (D×AV):=[(.i .u8 1,J0),(.i .u8 2,J0),(.i .u8 3,J0),(.i .u8 5,.fn (.func 212) [] [.ptr 3 0 1,.ptr 5 0 1,.ptr 2 0 1]),(.i .u8 6,.fn (.func 212) [] [.ptr 3 0 1,.ptr 6 0 1,.ptr 2 0 1]),(.i .u8 7,.fn (.func 212) [] [.ptr 3 0 1,.ptr 7 0 1,.ptr 2 0 1])]
theorem C7(n:Node)(m:A2):qC 133 [.ptr 0 0 77,J0,EW] ([.c (hC n .e0),.c (mX m)]) (.mp 4) ([.c (hC n .e0),.c (mX m),.c [.ptr 0 0 77],.c [EW],.m LO,.c [.pz 5],.c [.pz 6],.c [.pz 7]]):=by
 have c5:=VL n m 5;have c6:=VL n m 6;have c7:=VL n m 7;refine zD A4 Tryz.func133 ?_;have d1:=Ds.mk [0,1,2,3] (c5);have d2:=Ds.mk [0,1,2,3] (c6);have d3:=Ds.mk [0,1,2,3] (c7);refine wd [0,1,2,3,5,6,7] [] A0 A0 ?_;clear d3 d2 d1;exact⟨_,(A1.ck rfl),qA,_,_,rfl,rfl,rfl,rfl⟩
abbrev Iq:AV:=.fn (.func 232) [] [.ptr 0 0 77]
abbrev ER:AV:=.fn (.func 233) [] [.ptr 0 0 77]
theorem Uz(n:Node)  (w:Int):qC 211 [.pz w,.ptr 2 0 1,.ptr 1 0 1] ([.c (hC n .e0),.c [.ptr 0 0 77],.c [ER]]) (.fn (.func 212) [] [.ptr 2 0 1,.ptr 3 0 1,.ptr 1 0 1]) ([.c (hC n .e0),.c [.ptr 0 0 77],.c [ER],.c [.pz w]]):=by
 refine zD A4 Tryz.func211 ?_;refine wd [0,1,2,3,4] [] A0 A0 ?_;exact⟨_,(A1.ck rfl),qA,_,_,rfl,rfl,rfl,rfl⟩
abbrev L5:List (D×AV):=[(.i .u8 1,Iq),(.i .u8 2,Iq),(.i .u8 3,Iq),(.i .u8 5,.fn (.func 212) [] [.ptr 2 0 1,.ptr 4 0 1,.ptr 1 0 1]),(.i .u8 6,.fn (.func 212) [] [.ptr 2 0 1,.ptr 5 0 1,.ptr 1 0 1]),(.i .u8 7,.fn (.func 212) [] [.ptr 2 0 1,.ptr 6 0 1,.ptr 1 0 1])]
theorem C6(n:Node)  :qC 133 [.ptr 0 0 77,Iq,ER] ([.c (hC n .e0)]) (.mp 3) ([.c (hC n .e0),.c [.ptr 0 0 77],.c [ER],.m L5,.c [.pz 5],.c [.pz 6],.c [.pz 7]]):=by
 have c5:=Uz n  5;have c6:=Uz n  6;have c7:=Uz n  7;refine zD A4 Tryz.func133 ?_;have d1:=Ds.mk [0,1,2] (c5);have d2:=Ds.mk [0,1,2] (c6);have d3:=Ds.mk [0,1,2] (c7);refine wd [0,1,2,3,5,6,7] [] A0 A0 ?_;clear d3 d2 d1;exact⟨_,(A1.ck rfl),qA,_,_,rfl,rfl,rfl,rfl⟩
abbrev H5:List Nat:=[0,1,2,3,4,5,6,7,8,9,10,28,33,60]
theorem U0(v:View)(l:List Int):(DF v l).base.length=v.base.length/\(DF v l).list.length<=v.list.length+l.length:=by
 unfold DF;split
 .exact⟨rfl,Nat.le_add_left _ _⟩
 .exact⟨rfl,Nat.le_add_right _ _⟩
theorem Vy{v:View}(h:AS v=true):v.base.length<=4/\v.list.length<=3:=by
 obtain⟨-,h2,h3,-,-⟩:=Eb h;unfold Bl at h2;unfold BY at h3;simp only[qH,qJ]at h2 h3;exact⟨h2.1.2,h3.1⟩
theorem aE(v:View)(phase of_:Int)(m:A2)(h0:0<=phase)(hb:v.base.length<=1000)(hl:v.list.length<=1000)(hm:AD m):
  qB 129 [v.d,.agg [.i .u8 phase,.i .i64 of_],m.d] (.tup [(Bv v phase of_ m).1.view.d,.agg [.i .u8 (Bv v phase of_ m).1.phase,.i .i64 (Bv v phase of_ m).1.of_],AC (Bv v phase of_ m).2]):=by
 have c1:=Jq v om om;have c2:=Bg v hb hl;have c3:=Y1 phase of_;have hst:=Y6 (v:=v) (phase:=phase) (of_:=of_) (m:=m)
 have hT:Bv v phase of_ m=if AS v&&(D6 phase of_&&V5 v phase of_ m)then
  (if phase=3 then(⟨v,0,0⟩,[])else if phase=1/\m.pred≠ -1/\Ir v.id m.pred m.src=true then(⟨DF v (I7 v.id m.src m.list),2,m.pred⟩,Gl 2 m.pred)else(⟨DF v (I7 v.id m.src m.list),3,KR (DF v (I7 v.id m.src m.list))⟩,Gl 3 (KR (DF v (I7 v.id m.src m.list)))))else(⟨v,phase,of_⟩,[]):=rfl
 refine zF A4 Tryz.func129 ?_
 cases h1:AS v with
 |false=>
  rw[h1]at c2 hT;rw[hT];clear hT hst;obtain⟨id,base,list,pred,f⟩:=v;unfold Wi.A2.d Wi.A2.cells;refine wd H5 [] A0 (AX @c1 @c2) ?_ [(1,2)] true;exact Ag (qQ @View.d.eq_1 @View.cells.eq_1)
 |true=>
 rw[h1]at c2 hT
 cases h2:D6 phase of_ with
 |false=>
  rw[h2]at c3 hT;rw[hT];clear hT hst;obtain⟨id,base,list,pred,f⟩:=v;unfold Wi.A2.d Wi.A2.cells;refine wd H5 [] A0 (C3 @c1 @c2 @c3) ?_ [(1,2)] true;exact Ag (qQ @View.d.eq_1 @View.cells.eq_1)
 |true=>
 have hst':=(hst h2).2;have c4:=Yi v phase of_ m h0 h2 hm;rw[h2]at c3 hT
 cases h3:V5 v phase of_ m with
 |false=>
  rw[h3]at c4 hT;rw[hT];clear hT hst hst';obtain⟨id,base,list,pred,f⟩:=v;unfold Wi.A2.d Wi.A2.cells at *;refine wd H5 [] A0 (Kl @c1 @c2 @c3 @c4) ?_ [(1,2)] true;exact Ag (qQ @View.d.eq_1 @View.cells.eq_1)
 |true=>
 rw[h3]at c4 hT
 by_cases hp:phase=3
 .rw[rC,rC,if_pos rfl,if_pos hp]at hT;rw[hT];clear hT hst hst';have c9:=Qv 0 0 (Int.le_refl _) rfl;rw[show Gl 0 0=[]from rfl]at c9;subst hp;obtain⟨id,base,list,pred,f⟩:=v;unfold Wi.A2.d Wi.A2.cells at *;refine wd H5 [] A0 (NU @c1 @c2 @c3 @c4 @c9) ?_ [(1,4)] true;exact Ag (qQ @View.d.eq_1 @View.cells.eq_1)
 rw[rC,rC,if_pos rfl,if_neg hp]at hT;have f3:=eq_false' hp;have hll:=db v.id m.src m.list;have hlen:=U0 v (I7 v.id m.src m.list);have c5:=fh v.id m.src m.list hm;have c6:=YA v (I7 v.id m.src m.list) hb hl om;have hlens:=Vy h1;have c8:=Qg (DF v (I7 v.id m.src m.list)) om om;generalize hw:DF v (I7 v.id m.src m.list)=w at *;generalize I7 v.id m.src m.list=ml at*
 by_cases hq:phase=1/\m.pred≠ -1/\Ir v.id m.pred m.src=true
 .have c7:=Oe v.id m.pred m.src;rw[hq.2.2]at c7;rw[if_pos hq]at hT;rw[hT]at hst'|-;have c9:=Qv 2 m.pred (by decide) hst';have f1:=A9 hq.1;have f2:=BJ hq.2.1;generalize Gl 2 m.pred=al at *;clear hT hst hst' hq hw hlen;obtain⟨id,base,list,pred,f⟩:=v;obtain⟨id',base',list',pred',f'⟩:=w;unfold Wi.A2.d Wi.A2.cells at *;refine wd H5 [] (C3 f1 f2 f3) (zq8 @c1 @c2 @c3 @c4 @c5 @c6 @c7 @c9) ?_ [(1,4)] true;exact Ag (qQ @View.d.eq_1 @View.cells.eq_1)
 .rw[if_neg hq]at hT;rw[hT]at hst'|-;have c9:=Qv 3 (KR w) (by decide) hst';generalize Gl 3 (KR w)=al at *;generalize KR w=fw at *;clear hT hst hst' hw hlen;obtain⟨id,base,list,pred,f⟩:=v;obtain⟨id',base',list',pred',f'⟩:=w
  by_cases q1:phase=1
  .have f1:=A9 q1
   by_cases q2:m.pred= -1
   .have f2:=BF q2;unfold Wi.A2.d Wi.A2.cells at *;refine wd H5 [] (C3 f1 f2 f3) (zq8 @c1 @c2 @c3 @c4 @c5 @c6 @c8 @c9) ?_ [(1,4)] true;exact Ag (qQ @View.d.eq_1 @View.cells.eq_1)
   .have f2:=BJ q2;have c7:=Oe id m.pred m.src
    have q3:Ir id m.pred m.src=false:=by
     cases hh:Ir id m.pred m.src with
     |false=>rfl
     |true=>exact absurd ⟨q1,q2,hh⟩ hq
    rw[q3]at c7;unfold Wi.A2.d Wi.A2.cells at *;refine wd H5 [] (C3 f1 f2 f3) (zq9 @c1 @c2 @c3 @c4 @c5 @c6 @c7 @c8 @c9) ?_ [(1,4)] true;exact Ag (qQ @View.d.eq_1 @View.cells.eq_1)
  .have f1:=eq_false' q1;unfold Wi.A2.d Wi.A2.cells at *;refine wd H5 [] (AX f1 f3) (zq8 @c1 @c2 @c3 @c4 @c5 @c6 @c8 @c9) ?_ [(1,4)] true;exact Ag (qQ @View.d.eq_1 @View.cells.eq_1)
abbrev Ny:List Nat:=[0,1,2,3,15,23]
abbrev jD(v:View)(j:Job):List A3:=[.c (jC v j (.qF j.left) .e0 false)]
abbrev jO(v:View)(j:Job):List A3:=[.c (jC v j (.sl 1 j.left.length 1) .e0 false),.a (.is j.left)]
abbrev jT:List A3:=[.c [.ptr 0 0 37],.c [.ptr 0 20 37]]
theorem fG(v:View)(j:Job)(m:A2)(hb:v.base.length<=1000)(hl:v.list.length<=1000)(hm:AD m):qC 282 [.d m.d,.ptr 2 0 1,.ptr 1 0 1] (jD v j++jT) (.tup []) (jE v (if m.kind=10/\m.src=j.look.at_ then Eg v ⟨j.what,j.phase,N6 v j.look m,j.item,j.owner,j.left,j.code⟩else⟨j,[],false⟩)++jT):=by
 obtain⟨what,phase,look,item,owner,left,code⟩:=j;obtain⟨key,at_,hops,slow,found,lcode⟩:=look;have c1:=mE v ⟨key,at_,hops,slow,found,lcode⟩ m hb hl hm;generalize N6 v ⟨key,at_,hops,slow,found,lcode⟩ m=q at *;have c2:=ZF v ⟨what,phase,q,item,owner,left,code⟩ om;dsimp only;generalize Eg v ⟨what,phase,q,item,owner,left,code⟩=r at *;refine zD A4 Tryz.func282 ?_;unfold Wi.A2.d Wi.A2.cells at *;unfold View.d View.cells Look.d Look.cells at c1;unfold jD jT jE jC at *;simp only[qV,qX]
 by_cases h1:m.kind=10
 .have f1:=A9 h1
  by_cases h2:m.src=at_
  .have f2:=A9 h2;rw[if_pos ⟨h1,h2⟩];have d1:=Ds.mk [0] (c2);refine wd [0,1,2,3,16] [] (AX f1 f2) (A6 @c1) ?_;clear d1;exact⟨⟨[],[.c (jC v r.job (.qF r.job.left) (.d (Ac r.asks)) r.own),.c [.ptr 0 0 37],.c [.ptr 0 20 37]],_⟩,(A1.ck rfl),qA,_,_,rfl,rfl,rfl,rfl⟩
  .have f2:=eq_false' h2;rw[if_neg (fun h=>h2 h.2)];refine wd [0,1,2,3,16] [] (AX f1 f2) A0 ?_;exact⟨⟨[],[.c (jC v ⟨what,phase,⟨key,at_,hops,slow,found,lcode⟩,item,owner,left,code⟩ (.qF left) (.d (Ac [])) false),.c [.ptr 0 0 37],.c [.ptr 0 20 37]],_⟩,(A1.trans' (A1.KA 0 35 (.sl 15 []) rfl rfl rfl rfl (by simp[AF])) (A1.ck rfl) qA),qA,_,_,rfl,rfl,rfl,rfl⟩
 .have f1:=eq_false' h1;rw[if_neg (fun h=>h1 h.1)];refine wd [0,1,2,3,16] [] (A6 f1) A0 ?_;exact⟨⟨[],[.c (jC v ⟨what,phase,⟨key,at_,hops,slow,found,lcode⟩,item,owner,left,code⟩ (.qF left) (.d (Ac [])) false),.c [.ptr 0 0 37],.c [.ptr 0 20 37]],_⟩,(A1.trans' (A1.KA 0 35 (.sl 15 []) rfl rfl rfl rfl (by simp[AF])) (A1.ck rfl) qA),qA,_,_,rfl,rfl,rfl,rfl⟩
theorem fH(v:View)(j:Job)(m:A2)(hm:AD m):qC 284 [.d m.d,.ptr 2 0 1,.ptr 1 0 1] (jD v j++jT) (.tup []) (jE v (if m.kind=7/\m.src=j.owner then HY v.id j j.owner m.list else⟨j,[],false⟩)++jT):=by
 obtain⟨what,phase,look,item,owner,left,code⟩:=j;have c2:=XL v ⟨what,phase,look,item,owner,left,code⟩ owner m.list (by unfold AD at hm;omega);dsimp only;generalize HY v.id ⟨what,phase,look,item,owner,left,code⟩ owner m.list=r at *;refine zD A4 Tryz.func284 ?_;unfold Wi.A2.d Wi.A2.cells at *;unfold jD jT jE jC at *;simp only[qV,qX]
 by_cases h1:m.kind=7
 .have f1:=A9 h1
  by_cases h2:m.src=owner
  .have f2:=A9 h2;rw[if_pos ⟨h1,h2⟩];have d1:=Ds.mk [0] (c2);refine wd [0,1,2,3,15] [] (AX f1 f2) A0 ?_;clear d1;exact⟨⟨[],[.c (jC v r.job (.qF r.job.left) (.d (Ac r.asks)) r.own),.c [.ptr 0 0 37],.c [.ptr 0 20 37]],_⟩,(A1.ck rfl),qA,_,_,rfl,rfl,rfl,rfl⟩
  .have f2:=eq_false' h2;rw[if_neg (fun h=>h2 h.2)];refine wd [0,1,2,3,15] [] (AX f1 f2) A0 ?_;exact⟨⟨[],[.c (jC v ⟨what,phase,look,item,owner,left,code⟩ (.qF left) (.d (Ac [])) false),.c [.ptr 0 0 37],.c [.ptr 0 20 37]],_⟩,(A1.trans' (A1.KA 0 35 (.sl 15 []) rfl rfl rfl rfl (by simp[AF])) (A1.ck rfl) qA),qA,_,_,rfl,rfl,rfl,rfl⟩
 .have f1:=eq_false' h1;rw[if_neg (fun h=>h1 h.1)];refine wd [0,1,2,3,15] [] (A6 f1) A0 ?_;exact⟨⟨[],[.c (jC v ⟨what,phase,look,item,owner,left,code⟩ (.qF left) (.d (Ac [])) false),.c [.ptr 0 0 37],.c [.ptr 0 20 37]],_⟩,(A1.trans' (A1.KA 0 35 (.sl 15 []) rfl rfl rfl rfl (by simp[AF])) (A1.ck rfl) qA),qA,_,_,rfl,rfl,rfl,rfl⟩
theorem fI(v:View)(j:Job)(m:A2)(h:m.kind≠11\/m.src∉j.left)(hn:j.left.length<=100000):qC 286 [.d m.d,.ptr 1 0 1] (jD v j++jT) (.tup []) (jE v ⟨if m.kind=11 then Eh j m.src m.code else j,[],false⟩++jT):=by
 refine zD A4 Tryz.func286 ?_
 by_cases h1:m.kind=11
 .have h2:m.src∉j.left:=h.resolve_left (fun e=>e h1);have c2:=jV v j m.src m.code h2 hn;rw[if_pos h1];generalize Eh j m.src m.code=q at *;unfold Wi.A2.d Wi.A2.cells at *;unfold jD jT jE jC at *;simp only[qV,qX];have f1:=A9 h1;have d1:=Ds.mk [0] (c2);refine wd [0,1,2,5] [] (A6 f1) A0 ?_;clear d1;exact⟨⟨[],[.c (jC v q (.qF q.left) (.d (Ac [])) false),.c [.ptr 0 0 37],.c [.ptr 0 20 37]],_⟩,(A1.ck rfl),qA,_,_,rfl,rfl,rfl,rfl⟩
 .have f1:=eq_false' h1;rw[if_neg h1];unfold Wi.A2.d Wi.A2.cells at *;unfold jD jT jE jC at *;simp only[qV,qX];refine wd [0,1,2,5] [] (A6 f1) A0 ?_;exact⟨⟨[],[.c (jC v j (.qF j.left) (.d (Ac [])) false),.c [.ptr 0 0 37],.c [.ptr 0 20 37]],_⟩,(A1.trans' (A1.KA 0 35 (.sl 15 []) rfl rfl rfl rfl (by simp[AF])) (A1.ck rfl) qA),qA,_,_,rfl,rfl,rfl,rfl⟩
theorem aK(v:View)(j:Job)(m:A2)(h:m.kind=11/\m.src∈j.left)(hn:j.left.length<=100000):qC 286 [.d m.d,.ptr 2 0 1] (jO v j++jT) (.tup []) (jE v ⟨if m.kind=11 then Eh j m.src m.code else j,[],false⟩++[.gone]++jT):=by
 refine zD A4 Tryz.func286 ?_;obtain⟨h1,h2⟩:=h;have c2:=fS v j m.src m.code h2 hn;rw[if_pos h1];generalize Eh j m.src m.code=q at *;unfold Wi.A2.d Wi.A2.cells at *;unfold jO jT jE jC at *;simp only[qV,qX];simp only[qV,qX]at c2;have f1:=A9 h1;have d1:=Ds.mk [0,1] (c2);refine wd [0,1,2,5] [] (A6 f1) A0 ?_;clear d1;exact⟨⟨[],[.c (jC v q (.qF q.left) (.d (Ac [])) false),.gone,.c [.ptr 0 0 37],.c [.ptr 0 20 37]],_⟩,(A1.ck rfl),qA,_,_,rfl,rfl,rfl,rfl⟩
theorem fJ(v:View)(j:Job)(m:A2):qC 288 [.d m.d,.ptr 2 0 1,.ptr 1 0 1] (jD v j++jT) (.tup []) (jE v (if m.kind=12/\m.src=j.owner then⟨C1 (C0 ⟨j.what,j.phase,j.look,if m.code=0 then m.item else j.item,j.owner,j.left,j.code⟩ m.code),[],false⟩else⟨j,[],false⟩)++jT):=by
 obtain⟨what,phase,look,item,owner,left,code⟩:=j;dsimp only;refine zD A4 Tryz.func288 ?_;have hv:=IB v ⟨what,phase,look,if m.code=0 then m.item else item,owner,left,m.code⟩ .e0 false rfl;unfold Wi.A2.d Wi.A2.cells at *;unfold jD jT jE jC at *;simp only[qV,qX]
 by_cases h1:m.kind=12
 .have f1:=A9 h1
  by_cases h2:m.src=owner
  .have f2:=A9 h2;rw[if_pos ⟨h1,h2⟩]
   by_cases h3:m.code=0
   .have f3:=A9 h3;rw[if_pos h3]at *;have d1:=Ds.mk [0] (hv);refine wd Ny [] (C3 f1 f2 f3) A0 ?_;clear d1;exact⟨⟨[],[.c (jC v ⟨what,5,look,m.item,owner,[],m.code⟩ (.qF ([])) (.d (Ac [])) false),.c [.ptr 0 0 37],.c [.ptr 0 20 37]],_⟩,(A1.trans' (A1.KA 0 35 (.sl 15 []) rfl rfl rfl rfl (by simp[AF])) (A1.ck rfl) qA),qA,_,_,rfl,rfl,rfl,rfl⟩
   .have f3:=eq_false' h3;rw[if_neg h3]at *;have d1:=Ds.mk [0] (hv);refine wd Ny [] (C3 f1 f2 f3) A0 ?_;clear d1;exact⟨⟨[],[.c (jC v ⟨what,5,look,item,owner,[],m.code⟩ (.qF ([])) (.d (Ac [])) false),.c [.ptr 0 0 37],.c [.ptr 0 20 37]],_⟩,(A1.trans' (A1.KA 0 35 (.sl 15 []) rfl rfl rfl rfl (by simp[AF])) (A1.ck rfl) qA),qA,_,_,rfl,rfl,rfl,rfl⟩
  .have f2:=eq_false' h2;rw[if_neg (fun h=>h2 h.2)];refine wd Ny [] (AX f1 f2) A0 ?_;exact⟨⟨[],[.c (jC v ⟨what,phase,look,item,owner,left,code⟩ (.qF left) (.d (Ac [])) false),.c [.ptr 0 0 37],.c [.ptr 0 20 37]],_⟩,(A1.trans' (A1.KA 0 35 (.sl 15 []) rfl rfl rfl rfl (by simp[AF])) (A1.ck rfl) qA),qA,_,_,rfl,rfl,rfl,rfl⟩
 .have f1:=eq_false' h1;rw[if_neg (fun h=>h1 h.1)];refine wd Ny [] (A6 f1) A0 ?_;exact⟨⟨[],[.c (jC v ⟨what,phase,look,item,owner,left,code⟩ (.qF left) (.d (Ac [])) false),.c [.ptr 0 0 37],.c [.ptr 0 20 37]],_⟩,(A1.trans' (A1.KA 0 35 (.sl 15 []) rfl rfl rfl rfl (by simp[AF])) (A1.ck rfl) qA),qA,_,_,rfl,rfl,rfl,rfl⟩
abbrev BW:List Nat:=[0,1,2,3,4,5,6,7,8,9,10,11,28,36]
theorem jS(v:View)(j:Job)(m:A2)(hb:v.base.length<=1000)(hl:v.list.length<=1000)(hn:j.left.length<=100000)(hm:AD m)(h:(AS v&&(m.right&&decide (m.dst=v.id)))=false):qB 131 [v.d,j.d,m.d] (.tup [(JC.mk j [] false).job.d,Ac (JC.mk j [] false).asks,.b (JC.mk j [] false).own]):=by
 have c0:=Fv j om;have c1:=Bg v hb hl;have c2:=Wi.BV m (by unfold AD at hm;omega);obtain⟨what,phase,look,item,owner,left,code⟩:=j;unfold View.d View.cells at c1;unfold Wi.A2.d Wi.A2.cells at c2;unfold Job.d Job.cells at c0;refine zF A4 Tryz.func131 ?_;unfold View.d View.cells Job.d Job.cells Wi.A2.d Wi.A2.cells;dsimp only
 cases h1:AS v with
 |false=>
  rw[h1]at c1;refine wd BW [2] A0 (A6 @c0) ?_ [(0,4),(1,4)];refine wd BW [6] A0 (A6 @c1) ?_;refine wd BW [] A0 A0 ?_ [(2,6),(3,6),(4,6),(5,6)];exact zE
 |true=>
  rw[h1]at c1 h
  cases h2:m.right with
  |false=>
   rw[h2]at c2;refine wd BW [2] A0 (A6 @c0) ?_ [(0,4),(1,4)];refine wd BW [6] A0 (AX @c1 @c2) ?_;refine wd BW [] A0 A0 ?_ [(2,6),(3,6),(4,6),(5,6)];exact zE
  |true=>
   rw[h2]at c2 h;rw[rC,rC]at h;have f1:=eq_false' (of_decide_eq_false h);refine wd BW [2] A0 (A6 @c0) ?_ [(0,4),(1,4)];refine wd BW [6] (A6 f1) (AX @c1 @c2) ?_;refine wd BW [] A0 A0 ?_ [(2,6),(3,6),(4,6),(5,6)];exact zE
theorem mu(v:View)(j:Job)(m:A2)(hb:v.base.length<=1000)(hl:v.list.length<=1000)(hn:j.left.length<=100000)(hm:AD m)(h1:AS v=true)(h2:m.right=true)(h3:m.dst=v.id)(h4:j.phase=1):qB 131 [v.d,j.d,m.d] (.tup [(if m.kind=10/\m.src=j.look.at_ then Eg v ⟨j.what,j.phase,N6 v j.look m,j.item,j.owner,j.left,j.code⟩else⟨j,[],false⟩).job.d,Ac (if m.kind=10/\m.src=j.look.at_ then Eg v ⟨j.what,j.phase,N6 v j.look m,j.item,j.owner,j.left,j.code⟩else⟨j,[],false⟩).asks,.b (if m.kind=10/\m.src=j.look.at_ then Eg v ⟨j.what,j.phase,N6 v j.look m,j.item,j.owner,j.left,j.code⟩else⟨j,[],false⟩).own]):=by
 have c0:=Fv j om;have c1:=Bg v hb hl;have c2:=Wi.BV m (by unfold AD at hm;omega);have c3:=Ge v j;have c4:=fG v j m hb hl hm;generalize(if m.kind=10/\m.src=j.look.at_ then Eg v ⟨j.what,j.phase,N6 v j.look m,j.item,j.owner,j.left,j.code⟩else⟨j,[],false⟩)=r at *;obtain⟨what,phase,look,item,owner,left,code⟩:=j;unfold View.d View.cells at c1;unfold Wi.A2.d Wi.A2.cells at c2;unfold Job.d Job.cells at c0;refine zF A4 Tryz.func131 ?_;unfold View.d View.cells Job.d Job.cells Wi.A2.d Wi.A2.cells;dsimp only at h4;subst h4;rw[h1]at c1;rw[h2]at c2;have f1:=A9 h3;unfold Wi.A2.d Wi.A2.cells at c4;unfold jD jT jE at c4;simp only[qV,qX]at c4;unfold jC at *;unfold Qe at *;dsimp only at c0 c3 c4|-;refine wd BW [2] A0 (A6 @c0) ?_ [(0,4),(1,4)];have d1:=Ds.mk [4] (c3);have d2:=Ds.mk [4,5,6] (c4);refine wd BW [6] (A6 f1) (AX @c1 @c2) ?_ [(1,0),(2,0)];clear d2 d1;refine wd BW [] A0 A0 ?_ [(2,6),(3,6),(4,6),(5,6)];exact zE
theorem mw(v:View)(j:Job)(m:A2)(hb:v.base.length<=1000)(hl:v.list.length<=1000)(hn:j.left.length<=100000)(hm:AD m)(h1:AS v=true)(h2:m.right=true)(h3:m.dst=v.id)(h4:j.phase=2):qB 131 [v.d,j.d,m.d] (.tup [(if m.kind=7/\m.src=j.owner then HY v.id j j.owner m.list else⟨j,[],false⟩).job.d,Ac (if m.kind=7/\m.src=j.owner then HY v.id j j.owner m.list else⟨j,[],false⟩).asks,.b (if m.kind=7/\m.src=j.owner then HY v.id j j.owner m.list else⟨j,[],false⟩).own]):=by
 have c0:=Fv j om;have c1:=Bg v hb hl;have c2:=Wi.BV m (by unfold AD at hm;omega);have c3:=Ge v j;have c4:=fH v j m hm;generalize(if m.kind=7/\m.src=j.owner then HY v.id j j.owner m.list else⟨j,[],false⟩)=r at *;obtain⟨what,phase,look,item,owner,left,code⟩:=j;unfold View.d View.cells at c1;unfold Wi.A2.d Wi.A2.cells at c2;unfold Job.d Job.cells at c0;refine zF A4 Tryz.func131 ?_;unfold View.d View.cells Job.d Job.cells Wi.A2.d Wi.A2.cells;dsimp only at h4;subst h4;rw[h1]at c1;rw[h2]at c2;have f1:=A9 h3;unfold Wi.A2.d Wi.A2.cells at c4;unfold jD jT jE at c4;simp only[qV,qX]at c4;unfold jC at *;unfold Qe at *;dsimp only at c0 c3 c4|-;refine wd BW [2] A0 (A6 @c0) ?_ [(0,4),(1,4)];have d1:=Ds.mk [4] (c3);have d2:=Ds.mk [4,5,6] (c4);refine wd BW [6] (A6 f1) (AX @c1 @c2) ?_ [(1,0),(2,0)];clear d2 d1;refine wd BW [] A0 A0 ?_ [(2,6),(3,6),(4,6),(5,6)];exact zE
theorem fO(v:View)(j:Job)(m:A2)(hb:v.base.length<=1000)(hl:v.list.length<=1000)(hn:j.left.length<=100000)(hm:AD m)(h1:AS v=true)(h2:m.right=true)(h3:m.dst=v.id)(h4:j.phase=3)(h:m.kind≠11\/m.src∉j.left):qB 131 [v.d,j.d,m.d] (.tup [(JC.mk (if m.kind=11 then Eh j m.src m.code else j) [] false).job.d,Ac (JC.mk (if m.kind=11 then Eh j m.src m.code else j) [] false).asks,.b (JC.mk (if m.kind=11 then Eh j m.src m.code else j) [] false).own]):=by
 have c0:=Fv j om;have c1:=Bg v hb hl;have c2:=Wi.BV m (by unfold AD at hm;omega);have c3:=Ge v j;have c4:=fI v j m h hn;generalize(JC.mk (if m.kind=11 then Eh j m.src m.code else j) [] false)=r at *;obtain⟨what,phase,look,item,owner,left,code⟩:=j;unfold View.d View.cells at c1;unfold Wi.A2.d Wi.A2.cells at c2;unfold Job.d Job.cells at c0;refine zF A4 Tryz.func131 ?_;unfold View.d View.cells Job.d Job.cells Wi.A2.d Wi.A2.cells;dsimp only at h4;subst h4;rw[h1]at c1;rw[h2]at c2;have f1:=A9 h3;unfold Wi.A2.d Wi.A2.cells at c4;unfold jD jT jE at c4;simp only[qV,qX]at c4;unfold jC at *;unfold Qe at *;dsimp only at c0 c3 c4|-;refine wd BW [2] A0 (A6 @c0) ?_ [(0,4),(1,4)];have d1:=Ds.mk [4] (c3);have d2:=Ds.mk [4,5,6] (c4);refine wd BW [6] (A6 f1) (AX @c1 @c2) ?_ [(1,0),(2,0)];clear d2 d1;refine wd BW [] A0 A0 ?_ [(2,6),(3,6),(4,6),(5,6)];exact zE
theorem my(v:View)(j:Job)(m:A2)(hb:v.base.length<=1000)(hl:v.list.length<=1000)(hn:j.left.length<=100000)(hm:AD m)(h1:AS v=true)(h2:m.right=true)(h3:m.dst=v.id)(h4:j.phase=4):qB 131 [v.d,j.d,m.d] (.tup [(if m.kind=12/\m.src=j.owner then JC.mk (C1 (C0 ⟨j.what,j.phase,j.look,if m.code=0 then m.item else j.item,j.owner,j.left,j.code⟩ m.code)) [] false else⟨j,[],false⟩).job.d,Ac (if m.kind=12/\m.src=j.owner then JC.mk (C1 (C0 ⟨j.what,j.phase,j.look,if m.code=0 then m.item else j.item,j.owner,j.left,j.code⟩ m.code)) [] false else⟨j,[],false⟩).asks,.b (if m.kind=12/\m.src=j.owner then JC.mk (C1 (C0 ⟨j.what,j.phase,j.look,if m.code=0 then m.item else j.item,j.owner,j.left,j.code⟩ m.code)) [] false else⟨j,[],false⟩).own]):=by
 have c0:=Fv j om;have c1:=Bg v hb hl;have c2:=Wi.BV m (by unfold AD at hm;omega);have c3:=Ge v j;have c4:=fJ v j m;generalize(if m.kind=12/\m.src=j.owner then JC.mk (C1 (C0 ⟨j.what,j.phase,j.look,if m.code=0 then m.item else j.item,j.owner,j.left,j.code⟩ m.code)) [] false else⟨j,[],false⟩)=r at *;obtain⟨what,phase,look,item,owner,left,code⟩:=j;unfold View.d View.cells at c1;unfold Wi.A2.d Wi.A2.cells at c2;unfold Job.d Job.cells at c0;refine zF A4 Tryz.func131 ?_;unfold View.d View.cells Job.d Job.cells Wi.A2.d Wi.A2.cells;dsimp only at h4;subst h4;rw[h1]at c1;rw[h2]at c2;have f1:=A9 h3;unfold Wi.A2.d Wi.A2.cells at c4;unfold jD jT jE at c4;simp only[qV,qX]at c4;unfold jC at *;unfold Qe at *;dsimp only at c0 c3 c4|-;refine wd BW [2] A0 (A6 @c0) ?_ [(0,4),(1,4)];have d1:=Ds.mk [4] (c3);have d2:=Ds.mk [4,5,6] (c4);refine wd BW [6] (A6 f1) (AX @c1 @c2) ?_ [(1,0),(2,0)];clear d2 d1;refine wd BW [] A0 A0 ?_ [(2,6),(3,6),(4,6),(5,6)];exact zE
theorem nB(v:View)(j:Job)(m:A2)(hb:v.base.length<=1000)(hl:v.list.length<=1000)(hn:j.left.length<=100000)(hm:AD m)(h1:AS v=true)(h2:m.right=true)(h3:m.dst=v.id)(h4:j.phase≠1/\j.phase≠2/\j.phase≠3/\j.phase≠4):qB 131 [v.d,j.d,m.d] (.tup [(JC.mk j [] false).job.d,Ac (JC.mk j [] false).asks,.b (JC.mk j [] false).own]):=by
 have c0:=Fv j om;have c1:=Bg v hb hl;have c2:=Wi.BV m (by unfold AD at hm;omega);have c3:=Ge v j;obtain⟨what,phase,look,item,owner,left,code⟩:=j;unfold View.d View.cells at c1;unfold Wi.A2.d Wi.A2.cells at c2;unfold Job.d Job.cells at c0;refine zF A4 Tryz.func131 ?_;unfold View.d View.cells Job.d Job.cells Wi.A2.d Wi.A2.cells;dsimp only at h4;rw[h1]at c1;rw[h2]at c2;have f1:=A9 h3;unfold jC at *;unfold Qe at *;have hk:NO phase [1,2,3,4]=true:=by simp[NO,h4]
 dsimp only at c0 c3|-;refine wd BW [2] A0 (A6 @c0) ?_ [(0,4),(1,4)];have d1:=Ds.mk [4] (c3);have lk1:=hk;refine wd BW [6] (A6 f1) (AX @c1 @c2) ?_ [(1,0),(2,0)];clear lk1 d1;refine wd BW [] A0 A0 ?_ [(2,6),(3,6),(4,6),(5,6)];exact zE
abbrev M1:List Nat:=[0,1,2,3,4,5,6,7,8,9,10,11,28,36]
theorem mz(v:View)(j:Job)(m:A2)(hb:v.base.length<=1000)(hl:v.list.length<=1000)(hn:j.left.length<=100000)(hm:AD m)(h1:AS v=true)(h2:m.right=true)(h3:m.dst=v.id)(h4:j.phase=3)(h:m.kind=11/\m.src∈j.left):qB 131 [v.d,j.d,m.d] (.tup [(Eh j m.src m.code).d,Ac [],.b false]):=by
 have h0:j.left≠[]:=fun e=>by have:=h.2;rw[e]at this;cases this
 have c0:=dH j om h0;have c1:=Bg v hb hl;have c2:=Wi.BV m (by unfold AD at hm;omega);have c3:=Ul v j;have c4:=aK v j m h hn;rw[if_pos h.1]at c4;generalize Eh j m.src m.code=r at *;obtain⟨what,phase,look,item,owner,left,code⟩:=j;dsimp only at h4;subst h4;unfold View.d View.cells at c1;unfold Wi.A2.d Wi.A2.cells at c2 c4;unfold Job.d Job.cells I3 at c0;refine zF A4 Tryz.func131 ?_;unfold View.d View.cells Job.d Job.cells Wi.A2.d Wi.A2.cells;rw[h1]at c1;rw[h2]at c2;have f1:=A9 h3;unfold jO jT jE at c4;simp only[qV,qX]at c4;unfold jC at *;unfold kM at *;dsimp only at c0 c3 c4|-;refine wd M1 [1] A0 A0 ?_;refine O9 T.get 2 4 4 5 ⟨[(0,.d (.agg [.i .i64 v.id,.is v.base,.is v.list,.i .i64 v.pred,.i .i64 (v.f 0),.i .i64 (v.f 1),.i .i64 (v.f 2),.i .i64 (v.f 3),.i .i64 (v.f 4),.i .i64 (v.f 5),.i .i64 (v.f 6),.i .i64 (v.f 7),.i .i64 (v.f 8),.i .i64 (v.f 9),.i .i64 (v.f 10),.i .i64 (v.f 11),.i .i64 (v.f 12),.i .i64 (v.f 13),.i .i64 (v.f 14),.i .i64 (v.f 15)])),(1,.d (.agg [.i .u8 what,.i .u8 3,.i .i64 look.key,.i .i64 look.at_,.i .i64 look.hops,.b look.slow,.b look.found,.i .i64 look.code,.s item.key,.i .i64 item.value,.i .i64 item.version,.b item.gone,.i .i64 owner,.is left,.i .i64 code])),(2,.d (.agg [.i .u8 m.kind,.i .i64 m.call,.i .i64 m.src,.i .i64 m.dst,.i .i64 m.key,.b m.slow,.b m.done,.i .i64 m.place,.i .i64 m.pred,.is m.list,.s m.item.key,.i .i64 m.item.value,.i .i64 m.item.version,.b m.item.gone,.i .i64 m.code])),(3,.ptr 0 0 20),(4,.ptr 1 0 15),(5,.ptr 2 0 15),(6,.ptr 3 0 15),(7,.e0),(8,.pq false),(9,.ptr 5 0 37)],[.c [.pY v.id,.qF v.base,.qF v.list,.pY v.pred,.pY (v.f 0),.pY (v.f 1),.pY (v.f 2),.pY (v.f 3),.pY (v.f 4),.pY (v.f 5),.pY (v.f 6),.pY (v.f 7),.pY (v.f 8),.pY (v.f 9),.pY (v.f 10),.pY (v.f 11),.pY (v.f 12),.pY (v.f 13),.pY (v.f 14),.pY (v.f 15)],.c [.pz what,.pz 3,.pY look.key,.pY look.at_,.pY look.hops,.pq look.slow,.pq look.found,.pY look.code,.qE item.key,.pY item.value,.pY item.version,.pq item.gone,.pY owner,.qF left,.pY code],.c [.pz m.kind,.pY m.call,.pY m.src,.pY m.dst,.pY m.key,.pq m.slow,.pq m.done,.pY m.place,.pY m.pred,.qF m.list,.qE m.item.key,.pY m.item.value,.pY m.item.version,.pq m.item.gone,.pY m.code],.c [.pz 0,.pz 0,.pY 0,.pY 0,.pY 0,.pq false,.pq false,.pY 0,.qE ([]),.pY 0,.pY 0,.pq false,.pY 0,.e0,.pY 0],.a (.is left),.c [.pY v.id,.qF v.base,.qF v.list,.pY v.pred,.pY (v.f 0),.pY (v.f 1),.pY (v.f 2),.pY (v.f 3),.pY (v.f 4),.pY (v.f 5),.pY (v.f 6),.pY (v.f 7),.pY (v.f 8),.pY (v.f 9),.pY (v.f 10),.pY (v.f 11),.pY (v.f 12),.pY (v.f 13),.pY (v.f 14),.pY (v.f 15),.pz what,.pz 3,.pY look.key,.pY look.at_,.pY look.hops,.pq look.slow,.pq look.found,.pY look.code,.qE item.key,.pY item.value,.pY item.version,.pq item.gone,.pY owner,.sl 4 left.length 1,.pY code,.e0,.pq false]],46⟩ mixed rfl rfl rfl ?_ ?_ ?_
 .have d1:=Ds.mk [] (c0);refine wd M1 [] A0 A0 ?_ [(0,2),(1,2),(0,4),(1,4),(3,4)];clear d1;exact⟨rfl,.inl rfl⟩
 .have d1:=Ds.mk [] (c0);refine wd M1 [] A0 A0 ?_ [(0,2),(1,2),(0,3)];clear d1;exact⟨rfl,.inr rfl⟩
 have d1:=Ds.mk [5,4] (c3);have d2:=Ds.mk [5,4,6,7] (c4);refine wd M1 [6] (A6 f1) (AX @c1 @c2) ?_ [(1,0),(2,0)];clear d2 d1;refine wd M1 [] A0 A0 ?_ [(2,6),(3,6),(4,6),(5,6)];exact Ag (qQ @Job.d.eq_1 @Job.cells.eq_1)
theorem dI(v:View)(j:Job)(m:A2)(hb:v.base.length<=1000)(hl:v.list.length<=1000)(hn:j.left.length<=100000)(hm:AD m):qB 131 [v.d,j.d,m.d] (.tup [(B8 v j m).job.d,Ac (B8 v j m).asks,.b (B8 v j m).own]):=by
 unfold B8
 cases h:AS v&&(m.right&&decide (m.dst=v.id))with
 |false=>exact jS v j m hb hl hn hm h
 |true=>
  rw[if_pos rfl];simp only[qH,qJ]at h;obtain⟨h1,h2,h3⟩:=h
  by_cases p1:j.phase=1
  .rw[if_pos p1];exact mu v j m hb hl hn hm h1 h2 h3 p1
  rw[if_neg p1]
  by_cases p2:j.phase=2
  .rw[if_pos p2];exact mw v j m hb hl hn hm h1 h2 h3 p2
  rw[if_neg p2]
  by_cases p3:j.phase=3
  .rw[if_pos p3]
   by_cases hk:m.kind=11
   .rw[if_pos hk]
    by_cases hs:m.src∈j.left
    .exact mz v j m hb hl hn hm h1 h2 h3 p3 ⟨hk,hs⟩
    .have:=fO v j m hb hl hn hm h1 h2 h3 p3 (.inr hs);rw[if_pos hk]at this;exact this
   .rw[if_neg hk];have:=fO v j m hb hl hn hm h1 h2 h3 p3 (.inl hk);rw[if_neg hk]at this;exact this
  rw[if_neg p3]
  by_cases p4:j.phase=4
  .rw[if_pos p4];exact my v j m hb hl hn hm h1 h2 h3 p4
  .rw[if_neg p4];exact nB v j m hb hl hn hm h1 h2 h3 ⟨p1,p2,p3,p4⟩
end Nd
end Go.Proofs.YtkljbfejbakooaaGreatDoor
