/- Part 20 of a proof. Conditions: those that its theorems state. -/
import Derived.Test.YtamjpnmjpponpaaGreatDoorC19
set_option linter.unusedSimpArgs false
set_option linter.unusedVariables false
set_option maxHeartbeats 40000000
set_option maxRecDepth 4000
namespace Go.Proofs.YtamjpnmjpponpaaGreatDoor
namespace Nd
open Go.Gar
open Wi (AF BV B7 AU Bp mC)
abbrev OO:BF:=[0,1,2,3,4,5,17,24]
abbrev EI:BF:=[0,1,2,3,4,5,6,7,8,9,21,25,26,27,34,42]
abbrev Lm:BF:=[0,1,2,3,26]
variable {l:C6}
theorem SZ(h:JO l=true):0<=l.C3/\l.C3<=41:=by
 unfold JO at h;simp only[zO,zW]at h;exact⟨h.1.1.2,h.1.2⟩
theorem cw(h:l.C3+1>40):Nl l=⟨l.AI,l.CF,l.C3+1,l.BA,l.CK,211⟩:=by unfold Nl;rw[zn h]
theorem cy(h:¬l.C3+1>40):Nl l=⟨l.AI,l.CF,l.C3+1,l.BA,l.CK,l.Aa⟩:=by unfold Nl;rw[zx h]
theorem uy(v:AG)(l:C6)(hb:v.A6.length<=1000)(hl:v.AB.length<=1000):yS 418 [v.d,l.d] (tE v l).d:=by
 have c1:=Bo v hb hl;have c2:=SY l;have c3:=SX l;have hT:tE v l=if Aq v&&(JO l&& !lookO l)then(if l.C3+1>40 then Nl l else⟨l.AI,(Eg v l.AI true).1,l.C3+1,true,(Eg v l.AI true).2,l.Aa⟩)else l:=rfl
 have c4:=cv l;have hR:=SZ (l:=l);have hhi:=cw (l:=l);have hlo:=cy (l:=l);obtain⟨id,A6,AB,AH,f⟩:=v;refine zF AE Tryz.func418 ?_;generalize JO l=b2 at *;generalize lookO l=b3 at*
 cases h1:Aq ⟨id,A6,AB,AH,f⟩with
 |false=>
  rw[h1]at c1 hT;rw[hT];unfold C6.d C6.A4;refine AO OO ?_ (AK @c1);exact zE
 |true=>
 rw[h1]at c1 hT
 cases b2 with
 |false=>
  rw[hT];unfold C6.d C6.A4 at *;refine AO OO ?_ (Au @c1 @c2);exact zE
 |true=>
 cases b3 with
 |true=>
  rw[hT];unfold C6.d C6.A4 at *;refine AO OO ?_ (CP @c1 @c2 @c3);exact zE
 |false=>
 replace c4:=c4 (hR rfl);rw[q0A,q0A,q1p,zn rfl]at hT
 by_cases hh:l.C3+1>40
 .rw[zn hh,hhi hh]at hT;rw[hhi hh,zQ om]at c4;rw[hT];unfold C6.d C6.A4 at *;refine AO OO ?_ (ME @c1 @c2 @c3 @c4);exact zE
 .rw[zx hh]at hT;rw[hlo hh,zU om]at c4;rw[hT];have c5:=VZ id A6 AB AH f ⟨l.AI,l.CF,l.C3+1,true,l.CK,l.Aa⟩;have c6:=Sc id A6 AB AH f ⟨l.AI,l.CF,l.C3+1,true,l.CK,l.Aa⟩ hb hl;dsimp only at c6;generalize Eg ⟨id,A6,AB,AH,f⟩ l.AI true=q at *;obtain⟨q1,q2⟩:=q;unfold C6.d C6.A4 at *;unfold PH at c5 c6;refine B6 OO ?_ (ME @c1 @c2 @c3 @c4) (H0 [] c5 [3,4] c6);exact zE
theorem qC(id:Int)(A6 AB:Ai)(AH:Int)(f:Nat->Int)(l:C6)(m:AF):yT 405 [.d (AG.d ⟨id,A6,AB,AH,f⟩),.d l.d,.d m.d] [] (.fn (.func 431) [] [.ptr 2 0 15,.ptr 1 0 6,.ptr 0 0 20]) [.c (vC id A6 AB AH f),.c (PH l),.c (mC m)]:=by
 refine zD AE Tryz.func405 ?_;unfold vC PH mC C6.d C6.A4 Wi.AF.d Wi.AF.A4;refine A9 [0,1,2,3,4,5,6] ?_;exact wE
theorem my(l:C6)(k:Nat):AV.oks k (PH l)=true:=rfl
theorem tG(m:AF)(k:Nat):AV.oks k (mC m)=true:=rfl
abbrev WM(id:Int)(A6 AB:Ai)(AH:Int)(f:Nat->Int)(l l0:C6)(m:AF)(ok:Bool)(r:Lp):z6:=[.c (vC id A6 AB AH f),.c (PH l),.c (mC m),.c (PH Q8),.c [.yP ok],.c (vC id A6 AB AH f),.c (PH l0),.c (mC m),.lp r]
theorem uz(v:AG)(l:C6)(m:AF)(hb:v.A6.length<=1000)(hl:v.AB.length<=1000)(hm:Ay m):yS 364 [v.d,l.d,m.d] (TU v l m).d:=by
 have c1:=Bo v hb hl;have c2:=SY l;have c3:=SX l;have hT:TU v l m=if Aq v&&(JO l&& !lookO l)then(if W7 v l m then(if l.C3+1>40 then Nl l else⟨l.AI,(wV v l m).1,l.C3+1,l.BA,(wV v l m).2,l.Aa⟩)else l)else l:=rfl
 have c4:=cv l;have hR:=SZ (l:=l);have hhi:=cw (l:=l);have hlo:=cy (l:=l);refine zF AE Tryz.func364 ?_;generalize JO l=b2 at *;generalize lookO l=b3 at*
 cases h1:Aq v with
 |false=>
  rw[h1]at c1 hT;rw[hT];obtain⟨id,A6,AB,AH,f⟩:=v;unfold C6.d C6.A4 Wi.AF.d Wi.AF.A4 at *;refine AO EI ?_ (AK @c1);exact zE
 |true=>
 rw[h1]at c1 hT
 cases b2 with
 |false=>
  rw[hT];obtain⟨id,A6,AB,AH,f⟩:=v;unfold C6.d C6.A4 Wi.AF.d Wi.AF.A4 at *;refine AO EI ?_ (Au @c1 @c2);exact zE
 |true=>
 cases b3 with
 |true=>
  rw[hT];obtain⟨id,A6,AB,AH,f⟩:=v;unfold C6.d C6.A4 Wi.AF.d Wi.AF.A4 at *;refine AO EI ?_ (CP @c1 @c2 @c3);exact zE
 |false=>
 replace c4:=c4 (hR rfl);rw[q0A,q0A,q1p,zn rfl]at hT;have hTo:W7 v l m=(decide (m.AN=10)&&(decide (m.B8=l.CF)&&(decide (m.dst=v.id)&&m.right))):=rfl;have hOn:wV v l m=if m.AP=v.id/\m.done=false then Eg v l.AI l.BA else(m.AP,m.done):=rfl
 generalize TU v l m=R at *;obtain⟨id,A6,AB,AH,f⟩:=v;dsimp only at hTo hOn;have c5:=qC id A6 AB AH f l m;have c7:=VZ id A6 AB AH f ⟨l.AI,l.CF,l.C3+1,l.BA,l.CK,l.Aa⟩;have c8:=Sc id A6 AB AH f ⟨l.AI,l.CF,l.C3+1,l.BA,l.CK,l.Aa⟩ hb hl;have c9:=Wi.Ct m (lm hm);dsimp only at c8;generalize m.right=mr at *;generalize W7 ⟨id,A6,AB,AH,f⟩ l m=T1 at *;generalize wV ⟨id,A6,AB,AH,f⟩ l m=on at *;generalize Eg ⟨id,A6,AB,AH,f⟩ l.AI l.BA=hp at *;unfold C6.d C6.A4 Wi.AF.d Wi.AF.A4 at *;refine B6 EI ?_ (CP @c1 @c2 @c3) (BJ [] c5);refine zG (K:=fun r _ H'=>(T1=false/\H'=WM id A6 AB AH f l l m false r)\/(T1=true/\l.C3+1>40/\H'=WM id A6 AB AH f (Nl l) l m false (r.left (.goto 0)))\/(T1=true/\¬l.C3+1>40/\H'=WM id A6 AB AH f ⟨l.AI,on.1,l.C3+1,l.BA,on.2,l.Aa⟩ l m true r)) ?_ ?_
 .intro r hr;have hk:=zh my (zh tG (zh (eU id A6 AB AH f) (hr.ok (k:=8) rfl)))
  have hY1:l.C3+1>40->YT Tryz.prog 8 [.yO m.AP,.yP m.done] (WM id A6 AB AH f l l m false r) fun x K=>x= .yP false/\K=WM id A6 AB AH f (Nl l) l m false (r.left (.goto 0)):=by
   intro hh;rw[hhi hh,zQ om]at c4;rw[hhi hh];refine Ar hr rfl rfl rfl ?_;unfold WM PH mC;refine A9 EI ?_;refine zR ?_;refine AO EI ?_ (AK @c4);exact⟨_,A8.refl _,zN _,rfl,rfl,rfl⟩
  have hY2:¬l.C3+1>40->YT Tryz.prog 8 [.yO m.AP,.yP m.done] (WM id A6 AB AH f l l m false r) fun x K=>x= .yP true/\K=WM id A6 AB AH f ⟨l.AI,on.1,l.C3+1,l.BA,on.2,l.Aa⟩ l m true r:=by
   intro hh;rw[hlo hh,zU om]at c4;refine Ar hr rfl rfl rfl ?_;unfold WM PH mC;unfold PH at c7 c8
   by_cases p1:m.AP=id
   .have g1:=AT p1
    cases hd:m.done with
    |false=>
     have ho:on=hp:=by rw[hOn,zn ⟨p1,hd⟩]
     rw[ho];obtain⟨q1,q2⟩:=hp;clear hTo hOn hT hhi hlo hR c9 c5 hY1;obtain⟨m1,m2,m3,m4,m5,m6,m7,m8,m9,m10,m11,m12⟩:=m;dsimp only at hd g1|-;subst hd;refine A9 EI ?_;refine zR ?_;refine By EI ?_ (AK g1) (AK @c4) (H0 [] c7 [9,10] c8);exact⟨⟨[],[.c (vC id A6 AB AH f),.c [.yO l.AI,.yO q1,.yO (l.C3+1),.yP l.BA,.yP q2,.yO l.Aa],.c (mC ⟨m1,m2,m3,m4,m5,m6,false,m8,m9,m10,m11,m12⟩),.c (PH Q8),.c [.yP true],.c (vC id A6 AB AH f),.c (PH l),.c (mC ⟨m1,m2,m3,m4,m5,m6,false,m8,m9,m10,m11,m12⟩),.lp r.busy],_⟩,(A8.ck rfl),zN _,rfl,rfl,rfl⟩
    |true=>
     have ho:on=(m.AP,true):=by rw[hOn,zx (fun h=>by rw[hd]at h;cases h.2),hd]
     rw[ho];refine A9 EI ?_;refine zR ?_;refine AJ EI ?_ (Au g1 hd) (AK @c4);exact⟨_,A8.refl _,zN _,rfl,rfl,rfl⟩
   .have g1:=eq_false' p1;have ho:on=(m.AP,m.done):=by rw[hOn,zx (fun h=>p1 h.1)]
    rw[ho];refine A9 EI ?_;refine zR ?_;refine AJ EI ?_ (AK g1) (AK @c4);exact⟨_,A8.refl _,zN _,rfl,rfl,rfl⟩
  refine zT AE Tryz.func431 ?_
  by_cases k1:m.AN=10
  .have f1:=C8 k1
   by_cases k2:m.B8=l.CF
   .have f2:=C8 k2
    by_cases k3:m.dst=id
    .have f3:=C8 k3
     cases mr with
     |false=>
      unfold WM PH mC at *;refine AJ Lm ?_ (CP f1 f2 f3) (AK @c9);exact⟨_,A8.refl _,zN _,_,_,rfl,rfl,.inl ⟨by rw[hTo];simp,rfl⟩⟩
     |true=>
      have hT1:T1=true:=by rw[hTo];simp[k1,k2,k3]
      by_cases hh:l.C3+1>40
      .have hY:=hY1 hh;unfold WM PH mC at *;have q1:=@hY;refine AJ Lm ?_ (CP f1 f2 f3) (AK @c9);clear q1;exact⟨_,A8.refl _,zN _,_,_,rfl,rfl,.inr (.inl ⟨hT1,hh,rfl⟩)⟩
      .have hY:=hY2 hh;unfold WM PH mC at *;have q1:=@hY;refine AJ Lm ?_ (CP f1 f2 f3) (AK @c9);clear q1;exact⟨_,A8.refl _,zN _,_,_,rfl,rfl,.inr (.inr ⟨hT1,hh,rfl⟩)⟩
    .have f3:=CI k3;unfold WM PH mC at *;refine Aj Lm ?_ (CP f1 f2 f3);exact⟨_,A8.refl _,zN _,_,_,rfl,rfl,.inl ⟨by rw[hTo];simp[k3],rfl⟩⟩
   .have f2:=CI k2;unfold WM PH mC at *;refine Aj Lm ?_ (Au f1 f2);exact⟨_,A8.refl _,zN _,_,_,rfl,rfl,.inl ⟨by rw[hTo];simp[k2],rfl⟩⟩
  .have f1:=CI k1;unfold WM PH mC at *;refine Aj Lm ?_ (AK f1);exact⟨_,A8.refl _,zN _,_,_,rfl,rfl,.inl ⟨by rw[hTo];simp[k1],rfl⟩⟩
 .rintro r hr x H' (⟨h,rfl⟩|⟨h,hh,rfl⟩|⟨h,hh,rfl⟩)
  .refine .inl ⟨rfl,?_⟩;rw[h,zx (by decide)]at hT;rw[hT];unfold WM PH;refine A9 EI ?_;exact zE
  .refine .inr ⟨.goto 0,rfl,?_⟩;rw[h,zn rfl,zn hh]at hT;rw[hT,hhi hh];unfold WM PH;refine A9 EI ?_;exact zE
  .refine .inl ⟨rfl,?_⟩;rw[h,zn rfl,zx hh]at hT;rw[hT];unfold WM PH;refine A9 EI ?_;exact zE
abbrev OP:BF:=[0,1,2,3,4,6,7]
abbrev G7:BF:=[0,1,2,3,4,5,6,7,9,10]
def HG(a:AF×Int):yp:=[.i .u8 a.1.AN,.yX a.1.Ae,.yX a.1.B8,.yX a.1.dst,.yX a.1.AI,.b a.1.BA,.b a.1.done,.yX a.1.AP,.yX a.1.AH,.is a.1.AB,.s a.1.AC.AI,.yX a.1.AC.B4,.yX a.1.AC.AZ,.b a.1.AC.gone,.yX a.1.Aa,.i .u8 a.2]
abbrev BS(l:List (AF×Int)):D:=.sl 16 (l.map HG)
theorem YJ{A5 BH:Int}(h0:0<=A5)(h:Cl A5 BH=true):A5=0\/A5=1\/A5=2\/A5=3:=by
 unfold Cl at h;split at h
 .exact .inl (by assumption)
 .simp only[zO,zW]at h;have:=h.1;omega
theorem Wo(A5 BH:Int):yT 337 [.d (.agg [.i .u8 A5,.yX BH])] [] (.fn (.func 379) [] [.ptr 0 0 2]) [.c [.yQ A5,.yO BH]]:=by
 refine zD AE Tryz.func337 ?_;refine A9 [0,1,2] ?_;exact wE
theorem sk{P:Program}{id:Nat}{xs:yr}{ds:yp}{H:z6}{R:AV->z6->Prop}(hx:Oe xs ds)(h:YT P id (ds.map .d) H R):YT P id xs H R:=
 fun G w l N vs h1 h2 h3 h4=>h G w l N vs h1 h2 h3 (ML.2 (RP hx h4))
abbrev jz(kd BH wy:Int):AV:=.ag [.yQ kd,.yO 0,.yO 0,.yO BH,.yO 0,.yP false,.yP false,.yO 0,.yO 0,.e0,.yU ([]),.yO 0,.yO 0,.yP false,.yO 0,.yQ wy]
abbrev Wn(kd BH wy:Int):AF×Int:=(⟨kd,0,0,BH,0,false,false,0,0,[],An,0⟩,wy)
theorem bo(kd BH wy:Int):Oe [jz kd BH wy] [.agg (HG (Wn kd BH wy))]:=by
 repeat'(first|rfl|trivial|refine⟨rfl,rfl,by simp[BM]⟩|refine⟨_,_,rfl,?_,?_⟩|refine⟨_,rfl,?_⟩)
theorem k9{A5:Int}(BH:Int)(h:A5=1\/A5=2\/A5=3):∃kd wy:Int,G9 A5 BH=[Wn kd BH wy]/\(1<=kd/\kd<=3)/\kd+6=(if A5=3 then 9 else 7)/\((A5=1/\kd=1/\wy=1)\/(A5=2/\kd=1/\wy=2)\/(A5=3/\kd=3/\wy=3)):=by
 rcases h with rfl|rfl|rfl
 .exact⟨1,1,rfl,om,rfl,.inl ⟨rfl,rfl,rfl⟩⟩
 .exact⟨1,2,rfl,om,rfl,.inr (.inl ⟨rfl,rfl,rfl⟩)⟩
 .exact⟨3,3,rfl,om,rfl,.inr (.inr ⟨rfl,rfl,rfl⟩)⟩
theorem QU(A5 BH:Int)(h0:0<=A5)(hs:Cl A5 BH=true):yS 280 [.agg [.i .u8 A5,.yX BH]] (BS (G9 A5 BH)):=by
 have c1:=Wo A5 BH;have hc:=YJ h0 hs;clear h0 hs;refine zF AE Tryz.func280 ?_;refine Ax OP ?_ (BJ [] c1);clear c1;rcases hc with rfl|hc
 .refine zG (K:=fun r _ H'=>H'=[.c [.yQ 0,.yO BH],.c [.e0],.c [.yQ 0,.yO BH],.lp r]) ?_ ?_
  .intro r hr;have hk:=hr.ok (k:=3) rfl;refine zT AE Tryz.func379 ?_;refine A9 [0,1,3,6] ?_;exact⟨_,A8.refl _,zN _,_,_,rfl,rfl,rfl⟩
  .rintro r hr x H' rfl;refine .inl ⟨rfl,?_⟩;refine A9 OP ?_;exact BW @G9.eq_1
 .obtain⟨kd,wy,hA,-,-,hcase⟩:=k9 BH hc;rw[hA];clear hA hc;refine zG (K:=fun r _ H'=>H'=[.c [.yQ A5,.yO BH],.c [.d (BS [Wn kd BH wy])],.c [.yQ A5,.yO BH],.lp r]) ?_ ?_
  .intro r hr;have hk:=hr.ok (k:=3) rfl
   have hY:YT Tryz.prog 3 [jz kd BH wy] [.c [.yQ A5,.yO BH],.c [.e0],.c [.yQ A5,.yO BH],.lp r,.c [.yQ kd,.yQ wy]] fun x K=>x= .yP true/\K=[.c [.yQ A5,.yO BH],.c [.d (BS [Wn kd BH wy])],.c [.yQ A5,.yO BH],.lp r,.c [.yQ kd,.yQ wy]]:=by
    refine sk (bo kd BH wy) (Ar hr rfl rfl rfl ?_);unfold HG;refine A9 OP ?_;refine zR ?_;refine A9 OP ?_;exact⟨⟨[],[.c [.yQ A5,.yO BH],.c [.d (BS [Wn kd BH wy])],.c [.yQ A5,.yO BH],.lp r.busy,.c [.yQ kd,.yQ wy]],_⟩,(A8.ck rfl),zN _,rfl,rfl,rfl⟩
   refine zT AE Tryz.func379 ?_;rcases hcase with⟨rfl,rfl,rfl⟩|⟨rfl,rfl,rfl⟩|⟨rfl,rfl,rfl⟩
   all_goals
    have q1:=@hY;refine A9 [0,1,3,6] ?_;clear q1
   .exact⟨⟨[],[.c [.yQ 1,.yO BH],.c [.d (BS [Wn 1 BH 1])],.c [.yQ 1,.yO BH],.lp r],_⟩,(A8.ck rfl),zN _,_,_,rfl,rfl,rfl⟩
   .exact⟨⟨[],[.c [.yQ 2,.yO BH],.c [.d (BS [Wn 1 BH 2])],.c [.yQ 2,.yO BH],.lp r],_⟩,(A8.ck rfl),zN _,_,_,rfl,rfl,rfl⟩
   .exact⟨⟨[],[.c [.yQ 3,.yO BH],.c [.d (BS [Wn 3 BH 3])],.c [.yQ 3,.yO BH],.lp r],_⟩,(A8.ck rfl),zN _,_,_,rfl,rfl,rfl⟩
  .rintro r hr x H' rfl;refine .inl ⟨rfl,?_⟩;refine A9 OP ?_;exact zE
theorem fZ(v:AG)(A5 BH:Int)(m:AF)(h0:0<=A5)(hs:Cl A5 BH=true)(hm:Ay m):yS 307 [v.d,.agg [.i .u8 A5,.yX BH],m.d] (.b (ZR v A5 BH m)):=by
 have c1:=Wo A5 BH;have c2:=Wi.Ct m (lm hm);have hc:=YJ h0 hs;have hT:ZR v A5 BH m=(decide (A5≠0)&&(decide (m.AN=(if A5=3 then 9 else 7))&&(decide (m.B8=BH)&&(decide (m.dst=v.id)&&m.right)))):=rfl;clear h0 hs;generalize ZR v A5 BH m=B at *;generalize m.right=mr at *;obtain⟨id,A6,AB,AH,f⟩:=v;dsimp only at hT;refine zF AE Tryz.func307 ?_;unfold Wi.AF.d Wi.AF.A4 at *;refine Ax G7 ?_ (BJ [] c1);clear c1;rcases hc with rfl|hc
 .refine zG (K:=fun r _ H'=>H'=[.c (vC id A6 AB AH f),.c [.yQ 0,.yO BH],.c (mC m),.c [.yP false],.c [.yQ 0,.yO BH],.lp r]) ?_ ?_
  .intro r hr;have hk:=zh (eU id A6 AB AH f) (hr.ok (k:=5) rfl);refine zT AE Tryz.func379 ?_;refine A9 [0,1,3,6] ?_;exact⟨_,A8.refl _,zN _,_,_,rfl,rfl,rfl⟩
  .rintro r hr x H' rfl;refine .inl ⟨rfl,?_⟩;rw[hT];unfold vC mC;refine A9 G7 ?_;exact zE
 .obtain⟨kd,wy,-,hkd,hkw,hcase⟩:=k9 BH hc;rw[<-hkw,zU (show A5≠0 by omega),q0A]at hT;clear hc hkw;refine zG (K:=fun r _ H'=>H'=[.c (vC id A6 AB AH f),.c [.yQ A5,.yO BH],.c (mC m),.c [.yP B],.c [.yQ A5,.yO BH],.lp (r.left .ret)]) ?_ ?_
  .intro r hr;have hk:=zh my (zh tG (zh (eU id A6 AB AH f) (hr.ok (k:=5) rfl)))
   have hY:YT Tryz.prog 5 [jz kd BH wy] [.c (vC id A6 AB AH f),.c [.yQ A5,.yO BH],.c (mC m),.c [.yP false],.c [.yQ A5,.yO BH],.lp r,.c [.yQ kd,.yQ wy]] fun x K=>x= .yP false/\K=[.c (vC id A6 AB AH f),.c [.yQ A5,.yO BH],.c (mC m),.c [.yP B],.c [.yQ A5,.yO BH],.lp (r.left .ret),.c [.yQ kd,.yQ wy]]:=by
    refine sk (bo kd BH wy) (Ar hr rfl rfl rfl ?_);unfold HG vC mC
    by_cases k1:m.AN=kd+6
    .have f1:=AT k1;rw[zU k1,q0A]at hT
     by_cases k2:m.B8=BH
     .have f2:=AT k2;rw[zU k2,q0A]at hT
      by_cases k3:m.dst=id
      .have f3:=AT k3;rw[zU k3,q0A]at hT;rw[hT];refine A9 G7 ?_;refine zR ?_;refine AJ G7 ?_ (CP f1 f2 f3) (AK @c2);with_reducible repeat' first|constructor|intro hc
       exact⟨⟨[],[.c (vC id A6 AB AH f),.c [.yQ A5,.yO BH],.c (mC m),.c [.yP mr],.c [.yQ A5,.yO BH],.lp r.busy,.c [.yQ kd,.yQ wy]],_⟩,(A8.ck rfl),zN _,rfl,rfl,rfl⟩
      .have f3:=eq_false' k3;rw[zQ k3,q0m]at hT;rw[hT];refine A9 G7 ?_;refine zR ?_;refine Aj G7 ?_ (CP f1 f2 f3);with_reducible repeat' first|constructor|intro hc
       exact⟨⟨[],[.c (vC id A6 AB AH f),.c [.yQ A5,.yO BH],.c (mC m),.c [.yP false],.c [.yQ A5,.yO BH],.lp r.busy,.c [.yQ kd,.yQ wy]],_⟩,(A8.ck rfl),zN _,rfl,rfl,rfl⟩
     .have f2:=eq_false' k2;rw[zQ k2,q0m]at hT;rw[hT];refine A9 G7 ?_;refine zR ?_;refine Aj G7 ?_ (Au f1 f2);with_reducible repeat' first|constructor|intro hc
      exact⟨⟨[],[.c (vC id A6 AB AH f),.c [.yQ A5,.yO BH],.c (mC m),.c [.yP false],.c [.yQ A5,.yO BH],.lp r.busy,.c [.yQ kd,.yQ wy]],_⟩,(A8.ck rfl),zN _,rfl,rfl,rfl⟩
    .have f1:=eq_false' k1;rw[zQ k1,q0m]at hT;rw[hT];refine A9 G7 ?_;refine zR ?_;refine Aj G7 ?_ (AK f1);with_reducible repeat' first|constructor|intro hc
     exact⟨⟨[],[.c (vC id A6 AB AH f),.c [.yQ A5,.yO BH],.c (mC m),.c [.yP false],.c [.yQ A5,.yO BH],.lp r.busy,.c [.yQ kd,.yQ wy]],_⟩,(A8.ck rfl),zN _,rfl,rfl,rfl⟩
   clear c2 hT hkd;refine zT AE Tryz.func379 ?_;rcases hcase with⟨rfl,rfl,rfl⟩|⟨rfl,rfl,rfl⟩|⟨rfl,rfl,rfl⟩
   all_goals
    have q1:=@hY;refine A9 [0,1,3,6] ?_;clear q1
   .exact⟨⟨[],[.c (vC id A6 AB AH f),.c [.yQ 1,.yO BH],.c (mC m),.c [.yP B],.c [.yQ 1,.yO BH],.lp (r.left .ret)],_⟩,(A8.ck rfl),zN _,_,_,rfl,rfl,rfl⟩
   .exact⟨⟨[],[.c (vC id A6 AB AH f),.c [.yQ 2,.yO BH],.c (mC m),.c [.yP B],.c [.yQ 2,.yO BH],.lp (r.left .ret)],_⟩,(A8.ck rfl),zN _,_,_,rfl,rfl,rfl⟩
   .exact⟨⟨[],[.c (vC id A6 AB AH f),.c [.yQ 3,.yO BH],.c (mC m),.c [.yP B],.c [.yQ 3,.yO BH],.lp (r.left .ret)],_⟩,(A8.ck rfl),zN _,_,_,rfl,rfl,rfl⟩
  .rintro r hr x H' rfl;refine .inr ⟨.ret,rfl,?_⟩;unfold vC mC;refine A9 G7 ?_;exact zE
abbrev Iq:BF:=[0,1,2,3,4,5,6,7,8,9,10,28,33,60]
abbrev OQ:BF:=[0,1,2,3,4,6,7,15,27]
theorem Xm(v:AG)(l:Ai):(EW v l).A6.length=v.A6.length/\(EW v l).AB.length<=v.AB.length+l.length:=by
 unfold EW;split
 .exact⟨rfl,Nat.le_add_left _ _⟩
 .exact⟨rfl,Nat.le_add_right _ _⟩
theorem ax{v:AG}(h:Aq v=true):v.A6.length<=4/\v.AB.length<=3:=by
 obtain⟨-,h2,h3,-,-⟩:=Dh h;unfold Cn at h2;unfold CU at h3;simp only[zO,zW]at h2 h3;exact⟨h2.1.2,h3.1⟩
theorem iZ(v:AG)(A5 BH:Int)(m:AF)(h0:0<=A5)(hb:v.A6.length<=1000)(hl:v.AB.length<=1000)(hm:Ay m):
  yS 249 [v.d,.agg [.i .u8 A5,.yX BH],m.d] (.tup [(Dm v A5 BH m).1.A7.d,.agg [.i .u8 (Dm v A5 BH m).1.A5,.yX (Dm v A5 BH m).1.BH],BS (Dm v A5 BH m).2]):=by
 have c1:=HS v om om;have c2:=Bo v hb hl;have c3:=Qp A5 BH;have hst:=eS (v:=v) (A5:=A5) (BH:=BH) (m:=m)
 have hT:Dm v A5 BH m=if Aq v&&(Cl A5 BH&&ZR v A5 BH m)then
  (if A5=3 then(⟨v,0,0⟩,[])else if A5=1/\m.AH≠ -1/\Kk v.id m.AH m.B8=true then(⟨EW v (K1 v.id m.B8 m.AB),2,m.AH⟩,G9 2 m.AH)else(⟨EW v (K1 v.id m.B8 m.AB),3,FM (EW v (K1 v.id m.B8 m.AB))⟩,G9 3 (FM (EW v (K1 v.id m.B8 m.AB)))))else(⟨v,A5,BH⟩,[]):=rfl
 refine zF AE Tryz.func249 ?_
 cases h1:Aq v with
 |false=>
  rw[h1]at c2 hT;rw[hT];clear hT hst;obtain⟨id,A6,AB,AH,f⟩:=v;unfold Wi.AF.d Wi.AF.A4;refine AO Iq ?_ (Au @c1 @c2) [(1,2)];exact BW (zh @AG.d.eq_1 @AG.A4.eq_1)
 |true=>
 rw[h1]at c2 hT
 cases h2:Cl A5 BH with
 |false=>
  rw[h2]at c3 hT;rw[hT];clear hT hst;obtain⟨id,A6,AB,AH,f⟩:=v;unfold Wi.AF.d Wi.AF.A4;refine AO Iq ?_ (CP @c1 @c2 @c3) [(1,2)];exact BW (zh @AG.d.eq_1 @AG.A4.eq_1)
 |true=>
 have hst':=(hst h2).2;have c4:=fZ v A5 BH m h0 h2 hm;rw[h2]at c3 hT
 cases h3:ZR v A5 BH m with
 |false=>
  rw[h3]at c4 hT;rw[hT];clear hT hst hst';obtain⟨id,A6,AB,AH,f⟩:=v;unfold Wi.AF.d Wi.AF.A4 at *;refine AO Iq ?_ (ME @c1 @c2 @c3 @c4) [(1,2)];exact BW (zh @AG.d.eq_1 @AG.A4.eq_1)
 |true=>
 rw[h3]at c4 hT
 by_cases hp:A5=3
 .rw[q0A,q0A,zn rfl,zn hp]at hT;rw[hT];clear hT hst hst';have c9:=QU 0 0 (q1C _) rfl;rw[show G9 0 0=[]from rfl]at c9;subst hp;obtain⟨id,A6,AB,AH,f⟩:=v;unfold Wi.AF.d Wi.AF.A4 at *;refine AO Iq ?_ (TT @c1 @c2 @c3 @c4 @c9) [(1,4)];exact BW (zh @AG.d.eq_1 @AG.A4.eq_1)
 rw[q0A,q0A,zn rfl,zx hp]at hT;have f3:=eq_false' hp;have hll:=nL v.id m.B8 m.AB;have hlen:=Xm v (K1 v.id m.B8 m.AB);have c5:=pX v.id m.B8 m.AB hm;have c6:=eb v (K1 v.id m.B8 m.AB) hb hl om;have hlens:=ax h1;have c8:=JX (EW v (K1 v.id m.B8 m.AB)) om om;generalize hw:EW v (K1 v.id m.B8 m.AB)=w at *;generalize K1 v.id m.B8 m.AB=ml at*
 by_cases hq:A5=1/\m.AH≠ -1/\Kk v.id m.AH m.B8=true
 .have c7:=SI v.id m.AH m.B8;rw[hq.2.2]at c7;rw[zn hq]at hT;rw[hT]at hst'|-;have c9:=QU 2 m.AH (by decide) hst';have f1:=AT hq.1;have f2:=CI hq.2.1;generalize G9 2 m.AH=al at *;clear hT hst hst' hq hw hlen;obtain⟨id,A6,AB,AH,f⟩:=v;obtain⟨id',base',list',pred',f'⟩:=w;unfold Wi.AF.d Wi.AF.A4 at *;refine AJ Iq ?_ (CP f1 f2 f3) (zq8 @c1 @c2 @c3 @c4 @c5 @c6 @c7 @c9) [(1,4)];exact BW (zh @AG.d.eq_1 @AG.A4.eq_1)
 .rw[zx hq]at hT;rw[hT]at hst'|-;have c9:=QU 3 (FM w) (by decide) hst';generalize G9 3 (FM w)=al at *;generalize FM w=fw at *;clear hT hst hst' hw hlen;obtain⟨id,A6,AB,AH,f⟩:=v;obtain⟨id',base',list',pred',f'⟩:=w
  by_cases q1:A5=1
  .have f1:=AT q1
   by_cases q2:m.AH= -1
   .have f2:=C8 q2;unfold Wi.AF.d Wi.AF.A4 at *;refine AJ Iq ?_ (CP f1 f2 f3) (zq8 @c1 @c2 @c3 @c4 @c5 @c6 @c8 @c9) [(1,4)];exact BW (zh @AG.d.eq_1 @AG.A4.eq_1)
   .have f2:=CI q2;have c7:=SI id m.AH m.B8
    have q3:Kk id m.AH m.B8=false:=by
     cases hh:Kk id m.AH m.B8 with
     |false=>rfl
     |true=>exact absurd ⟨q1,q2,hh⟩ hq
    rw[q3]at c7;unfold Wi.AF.d Wi.AF.A4 at *;refine AJ Iq ?_ (CP f1 f2 f3) (zq9 @c1 @c2 @c3 @c4 @c5 @c6 @c7 @c8 @c9) [(1,4)];exact BW (zh @AG.d.eq_1 @AG.A4.eq_1)
  .have f1:=eq_false' q1;unfold Wi.AF.d Wi.AF.A4 at *;refine AJ Iq ?_ (Au f1 f3) (zq8 @c1 @c2 @c3 @c4 @c5 @c6 @c8 @c9) [(1,4)];exact BW (zh @AG.d.eq_1 @AG.A4.eq_1)
theorem iY(v:AG)(A5 BH d:Int)(hb:v.A6.length<=1000)(hl:v.AB.length<=1000):
  yS 333 [v.d,.agg [.i .u8 A5,.yX BH],.yX d] (.tup [(F6 v A5 BH d).A7.d,.agg [.i .u8 (F6 v A5 BH d).A5,.yX (F6 v A5 BH d).BH]]):=by
 have c1:=HS v om om;have c2:=Bo v hb hl;have c3:=Qp A5 BH;have c4:=LK v d hb hl;have hT:F6 v A5 BH d=if Aq v&&Cl A5 BH then(if A5≠0/\BH=d then⟨Bu v d,0,0⟩else⟨Bu v d,A5,BH⟩)else⟨v,A5,BH⟩:=rfl
 refine zF AE Tryz.func333 ?_;generalize Cl A5 BH=b2 at *;generalize Bu v d=w at*
 cases h1:Aq v with
 |false=>
  rw[h1]at c2 hT;rw[hT];clear hT;obtain⟨id,A6,AB,AH,f⟩:=v;refine AO OQ ?_ (Au @c1 @c2) [(2,3)];exact BW (zh @AG.d.eq_1 @AG.A4.eq_1)
 |true=>
 rw[h1]at c2 hT
 cases b2 with
 |false=>
  rw[hT];clear hT;obtain⟨id,A6,AB,AH,f⟩:=v;refine AO OQ ?_ (CP @c1 @c2 @c3) [(2,3)];exact BW (zh @AG.d.eq_1 @AG.A4.eq_1)
 |true=>
 rw[q1c,zn rfl]at hT;obtain⟨id,A6,AB,AH,f⟩:=v;obtain⟨id',base',list',pred',f'⟩:=w
 by_cases q1:A5=0
 .have f1:=C8 q1;rw[zx (fun h=>h.1 q1)]at hT;rw[hT];clear hT;refine AJ OQ ?_ (AK f1) (CP @c2 @c3 @c4) [(3,4)];exact BW (zh @AG.d.eq_1 @AG.A4.eq_1)
 .have f1:=CI q1
  by_cases q2:BH=d
  .have f2:=AT q2;rw[zn ⟨q1,q2⟩]at hT;rw[hT];clear hT;refine AJ OQ ?_ (Au f1 f2) (CP @c2 @c3 @c4) [(3,4)];exact BW (zh @AG.d.eq_1 @AG.A4.eq_1)
  .have f2:=eq_false' q2;rw[zx (fun h=>q2 h.2)]at hT;rw[hT];clear hT;refine AJ OQ ?_ (Au f1 f2) (CP @c2 @c3 @c4) [(3,4)];exact BW (zh @AG.d.eq_1 @AG.A4.eq_1)
end Nd
end Go.Proofs.YtamjpnmjpponpaaGreatDoor
