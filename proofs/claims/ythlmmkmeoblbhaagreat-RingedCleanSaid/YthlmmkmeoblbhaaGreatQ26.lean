/- Part 26 of a proof. Conditions: those that its theorems state. -/
import Derived.Test.YthlmmkmeoblbhaaGreatQ23
import Derived.Test.YthlmmkmeoblbhaaGreatQ24
import Derived.Test.YthlmmkmeoblbhaaGreatQ25
set_option linter.unusedSimpArgs false
set_option linter.unusedVariables false
set_option maxHeartbeats 40000000
set_option maxRecDepth 4000
namespace Go.Proofs.YthlmmkmeoblbhaaGreat
namespace Nd
open Go.Gar
open Wi (AE BE Ay AU C2)
abbrev KV:BK:=[0,1,2,3,4,7,8,9,10,11,12,13,27,36,48,57]
abbrev JE:BK:=[0,1,2,3,6,7,8,9,10,15,24,36,41]
variable {v:AB}
theorem nV(hv:AZ v=true)(AR AY:Int)(x:AL)(hx:x.AH.length<=9223372036854775807):yA 196 [v.d,.i .u8 AR,.yE AY,x.d] (KC (JL v AR AY x)):=by
 have c1:=ry x.AH hx;have c2:=OV hv;have c3:=Wi.Jg x;have hT:JL v AR AY x=if(PH AR AY x).2.2 then ER v ⟨AR,0,ZY v (PH AR AY x).1,(PH AR AY x).2.1,0,[],0⟩else⟨⟨AR,5,Va,AN,0,[],2⟩,[],false⟩:=by unfold JL;rw[hv,Bool.and_true]
 have hB:PH AR AY x=if AR=1 then(AY,AN,decide (0<=AY)&&decide (AY<65536))else if AR=2 then((Fh x.AH).1,x,decide ((Fh x.AH).2=0)&&Ay x)else if AR=3 then((Fh x.AH).1,⟨x.AH,0,0,false⟩,decide ((Fh x.AH).2=0))else(0,AN,false):=rfl
 have hmk:(Fh x.AH).2=0->i64 (Fh x.AH).1:=fun h=>by
  unfold Fh at h|-;split
  .exact YZ _ 7 (by unfold i64;omega)
  .rename_i hc;rw[zO hc]at h;cases h
 have hit:Ay x=true->(Fh x.AH).2=0:=fun h=>by
  unfold Wi.Ay at h;simp only[yU]at h;unfold Fh;rw[zN h.1.1]
 have AH:∀(k:Int)(y:AL),PH AR AY x=(k,y,true)->i64 k->yA 256 [v.d,.yE k] (ZY v k).d/\yA 257 [v.d,(⟨AR,0,ZY v k,y,0,[],0⟩:B5).d] (KC (JL v AR AY x)):=fun k y e hk=>by
  refine⟨rt hv k hk,?_⟩;have:=Pl hv ⟨AR,0,ZY v k,y,0,[],0⟩ (yx _) (fun _ _=>Ut hv k);rw[e]at hT;replace hT:JL v AR AY x=ER v ⟨AR,0,ZY v k,y,0,[],0⟩:=hT;rw[hT];exact this
 have no:(PH AR AY x).2.2=false->JL v AR AY x=⟨⟨AR,5,Va,AN,0,[],2⟩,[],false⟩:=fun e=>by rw[hT,e];rfl
 have c6:=Gs ⟨AR,0,Va,AN,0,[],0⟩ 2;clear hT;generalize JL v AR AY x=R at *;obtain⟨rj,ra,ro⟩:=R;refine zF AK Tryz.func196 ?_
 by_cases h1:AR=1
 .subst h1;rw[zN rfl]at hB;clear hit hmk
  by_cases hp:0<=AY/\AY<65536
  .obtain⟨c4,c5⟩:=AH AY AN (by rw[hB,yX hp.1,yX hp.2];rfl) (by unfold i64;omega);have f1:decide (AY>=0)=true:=yX hp.1;have f2:decide (AY<65536)=true:=yX hp.2;clear AH no hB;generalize ZY v AY=l at *;obtain⟨id,A2,A8,AO,f⟩:=v;generalize Fh x.AH=mx at *;obtain⟨mx1,mx2⟩:=mx;unfold KC AB.d AB.A1 AL.d AL.A1 B5.d B5.A1 CM.d CM.A1 at *;dsimp only at *;have z1:=@c5;refine AD KV ?_ (B1 f1 f2) (DO @c1 @c2 @c4);clear z1;with_reducible repeat' first|constructor|intro hc
   exact zE
  .have hn:=no (by rw[hB];rw[q0f,zn,zn];by_cases h0:0<=AY
                   .exact .inr fun e=>hp ⟨h0,e⟩
                   .exact .inl h0)
   rw[hn];clear AH no hB hn;obtain⟨id,A2,A8,AO,f⟩:=v;generalize Fh x.AH=mx at *;obtain⟨mx1,mx2⟩:=mx;unfold KC AB.d AB.A1 AL.d AL.A1 B5.d B5.A1 at *;dsimp only at *;have z1:=@c6;refine AP KV ?_ (B1 @c1 @c2);clear z1;with_reducible repeat' first|constructor|intro hc
   all_goals first
    |(exfalso;clear c1 c2 c3 c6;grind)
    |(refine⟨_,_,rfl,rfl,?_⟩;simp[E5,B3,B8,Aq,CF,AN,FU,F5])
 have g1:=eq_false' h1;rw[zO h1]at hB
 by_cases h2:AR=2
 .subst h2;rw[zN rfl]at hB
  cases hi:Ay x with
  |true=>
   have hm:=hit hi;obtain⟨c4,c5⟩:=AH (Fh x.AH).1 x (by rw[hB,hm,hi];rfl) (hmk hm);rw[hi]at c3;clear AH no hB hit hmk;generalize Fh x.AH=mx at *;obtain⟨mx1,mx2⟩:=mx;generalize ZY v mx1=l at *;obtain⟨id,A2,A8,AO,f⟩:=v;unfold KC AB.d AB.A1 AL.d AL.A1 B5.d B5.A1 CM.d CM.A1 at *;dsimp only at *;have z1:=@c5;refine AP KV ?_ (Hc @c1 @c2 @c3 @c4);clear z1;with_reducible repeat' first|constructor|intro hc
   exact zE
  |false=>
   have hn:=no (by rw[hB,hi,q0W]);rw[hi]at c3;rw[hn];clear AH no hB hn hit hmk;generalize Fh x.AH=mx at *;obtain⟨mx1,mx2⟩:=mx;obtain⟨id,A2,A8,AO,f⟩:=v;unfold KC AB.d AB.A1 AL.d AL.A1 B5.d B5.A1 at *;dsimp only at *;have z1:=@c6;refine AP KV ?_ (DO @c1 @c2 @c3);clear z1;with_reducible repeat' first|constructor|intro hc
   exact BO (yg @CF.eq_1 (yg @AN.eq_1 (yg @FU.eq_1 @F5.eq_1)))
 have g2:=eq_false' h2;rw[zO h2]at hB
 by_cases h3:AR=3
 .subst h3;rw[zN rfl]at hB
  by_cases hm:(Fh x.AH).2=0
  .obtain⟨c4,c5⟩:=AH (Fh x.AH).1 ⟨x.AH,0,0,false⟩ (by rw[hB,hm];rfl) (hmk hm);clear AH no hB hit hmk;generalize Fh x.AH=mx at *;obtain⟨mx1,mx2⟩:=mx;dsimp only at hm;subst hm;generalize ZY v mx1=l at *;obtain⟨id,A2,A8,AO,f⟩:=v;unfold KC AB.d AB.A1 AL.d AL.A1 B5.d B5.A1 CM.d CM.A1 at *;dsimp only at *;have z1:=@c5;refine AP KV ?_ (DO @c1 @c2 @c4);clear z1;with_reducible repeat' first|constructor|intro hc
   exact zE
  .have hn:=no (by rw[hB];exact yY hm);have f1:=eq_false' hm;rw[hn];clear AH no hB hn hit hmk;generalize Fh x.AH=mx at *;obtain⟨mx1,mx2⟩:=mx;obtain⟨id,A2,A8,AO,f⟩:=v;unfold KC AB.d AB.A1 AL.d AL.A1 B5.d B5.A1 at *;dsimp only at *;have z1:=@c6;refine AD KV ?_ (AQ f1) (B1 @c1 @c2);clear z1;with_reducible repeat' first|constructor|intro hc
   exact BO (yg @CF.eq_1 (yg @AN.eq_1 (yg @FU.eq_1 @F5.eq_1)))
 .have g3:=eq_false' h3;rw[zO h3]at hB;have hn:=no (by rw[hB]);rw[hn];clear AH no hB hn hit hmk;generalize Fh x.AH=mx at *;obtain⟨mx1,mx2⟩:=mx;obtain⟨id,A2,A8,AO,f⟩:=v;unfold KC AB.d AB.A1 AL.d AL.A1 B5.d B5.A1 at *;dsimp only at *;have z1:=@c6;refine AD KV ?_ (DO g1 g2 g3) (B1 @c1 @c2);clear z1;with_reducible repeat' first|constructor|intro hc
  exact BO (yg @CF.eq_1 (yg @AN.eq_1 (yg @FU.eq_1 @F5.eq_1)))
def Ja(p:Int):Int:=if p=1 then 10 else if p=2 then 7 else if p=3 then 11 else if p=4 then 12 else 0
theorem nZ(p:Int):yA 269 [.i .u8 p] (.i .u8 (Ja p)):=by
 have hT:Ja p=if p=1 then 10 else if p=2 then 7 else if p=3 then 11 else if p=4 then 12 else 0:=rfl
 generalize Ja p=R at *;refine zF AK Tryz.func269 ?_;refine A9 [0,2,3,4,6,8,10] ?_;with_reducible repeat' first|constructor|intro hc
 all_goals(refine⟨_,_,rfl,rfl,?_⟩;simp only[E5];refine congrArg (D.i .u8) ?_;rw[hT];clear hT;grind)
theorem Zl(l:Ao)(x:Int)(hn:l.length<=9223372036854775807):yA 303 [.is l,.yE x] (.b (decide (x∈l))):=by
 refine zF AK Tryz.func303 ?_;refine A9 [0,1,4,5,9,17] ?_;with_reducible repeat' first|constructor|intro hc
 refine BA (fun k=>k<=l.length/\x∉l.take k) (fun k:Nat=>[(5,.y5 k)]) (fun k=>l.length-k) 0 ⟨yx _,sm⟩ (fun _=>rfl) ?_ ?_
 .exact A5.ck rfl
 rintro k ⟨hk,hpre⟩
 by_cases hkl:k<l.length
 .obtain⟨y,hy⟩:=AS hkl;have gy:=BQ hy
  by_cases h:y=x
  .have f1:=B6 h;refine Ae [0,1,4,5,9,17] ?_ (B1 gy f1);with_reducible repeat' first|constructor|intro hc
   refine⟨_,_,rfl,rfl,?_⟩;simp only[C4];rw[yX (h▸zM hy)]
  .have f1:=eq_false' h;have hn:x∉l.take (k+1):=by rw[AM hy,q04,q00];exact fun e=>e.elim hpre fun e=>h e.symm
   refine Ae [0,1,4,5,9,17] ?_ (B1 gy f1);with_reducible repeat' first|constructor|intro hc
   refine⟨k+1,⟨hkl,hn⟩,om,yV _,?_⟩;exact A5.ck rfl
 .have e:k=l.length:=om
  subst e;rw[zU]at hpre;refine A9 [0,1,4,5,9,17] ?_;with_reducible repeat' first|constructor|intro hc
  refine⟨_,_,rfl,rfl,?_⟩;simp only[C4];rw[yY hpre]
def Hh(j:B5)(d:Int):Bool:=if j.A3=1 then decide (j.Am.Ck=d)else if j.A3=2\/j.A3=4 then decide (j.Ar=d)else if j.A3=3 then decide (d∈j.left)else false
theorem VJ(j:B5)(d:Int)(hn:j.left.length<=1048576):yA 270 [j.d,.yE d] (.b (Hh j d)):=by
 have c1:=Zl j.left d om;have hT:Hh j d=if j.A3=1 then decide (j.Am.Ck=d)else if j.A3=2\/j.A3=4 then decide (j.Ar=d)else if j.A3=3 then decide (d∈j.left)else false:=rfl
 generalize Hh j d=R at *;generalize decide (d∈j.left)=b at *;refine zF AK Tryz.func270 ?_;unfold B5.d B5.A1;refine AP [0,1,2,4,6,7,14,21] ?_ (AQ @c1);with_reducible repeat' first|constructor|intro hc
 all_goals(clear c1;refine⟨_,_,rfl,rfl,?_⟩;simp only[E5];refine congrArg D.b ?_;rw[hT];clear hT;grind)
theorem QT(j:B5)(d e:Int)(hn:j.left.length<=1048576)(hd:d∈j.left):yA 273 [j.d,.yE d,.yE e] (KC ⟨Hp j d e,[],false⟩):=by
 have hT:Hp j d e=⟨j.AR,if E1 j.left d=[]then 5 else j.A3,j.Am,j.AC,j.Ar,E1 j.left d,if e≠0 then e else j.Ab⟩:=by unfold Hp;rw[zN hd]
 rw[hT];clear hT hd;have hll:=Lr j.left d;obtain⟨AR,A3,Am,AC,Ar,l,Ab⟩:=j;dsimp only at *;have c1:=Gs ⟨AR,A3,Am,AC,Ar,E1 l d,if e≠0 then e else Ab⟩ (if e≠0 then e else Ab);refine zF AK Tryz.func273 ?_;unfold KC B5.d B5.A1 at *;dsimp only at *;refine A9 JE ?_;with_reducible repeat' first|constructor|intro hc
 refine Av (A5.EQ 9 (.is []) rfl rfl rfl trivial) sm ?_;refine CO (fun k=>k<=l.length) (fun k:Nat=>[(9,.sl 2 (E1 (l.take k) d).length 1),(10,.y5 k)]) (fun k=>[(2,.a (.is (E1 (l.take k) d)))]) (fun k=>l.length-k) 0 (yx _) (fun _=>rfl) (fun _=>rfl) ?_ ?_
 .exact A5.ck rfl
 intro k hk;have htl:=Lr (l.take k) d;have htl2:(l.take k).length<=k:=q0Q _ _
 by_cases hkl:k<l.length
 .obtain⟨x,hx⟩:=AS hkl;have gx:=BQ hx
  by_cases h:x=d
  .have f1:=BJ h;have hs:=UZ (d:=d) hx f1;refine Ae JE ?_ (B1 gx f1);with_reducible repeat' first|constructor|intro hc
   refine⟨k+1,hkl,om,yV _,?_⟩;exact(have nC:=hs;A5.cn rfl)
  .have f1:=Bp h;have hs:=Xr (d:=d) hx f1;refine Ae JE ?_ (B1 gx f1);with_reducible repeat' first|constructor|intro hc
   refine⟨k+1,hkl,om,yV _,?_⟩;exact(have nC:=hs;A5.cn rfl)
 .have ek:k=l.length:=om
  subst ek;rw[zU];generalize E1 l d=F at *;clear htl htl2 hk;refine A9 JE ?_ [] [7];with_reducible repeat' first|constructor|intro hc
  refine Av (A5.freeze 2 (x:=.is F) rfl) (by rw[Dq];exact yV _) ?_;simp only[NE,Eg,AF.FK,AV.FK,AV.F3,LO,Nat.reduceEqDiff,Nat.reduceAdd,decide_true,q1J,B3,zx,zo,reduceCtorEq]
  have hF:(F=[]/\((F.length:Int)==0)=true)\/(F≠[]/\((F.length:Int)==0)=false):=by
   by_cases h:F=[]
   .exact .inl ⟨h,by rw[h];rfl⟩
   .exact .inr ⟨h,eq_false' (by have:=List.length_pos_iff.2 h;omega)⟩
  by_cases he:e=0
  .have f1:=BJ he;rw[zO (show ¬e≠0 from fun h=>h he)]at c1|-;rcases hF with⟨h,f2⟩|⟨h,f2⟩
   .refine AD JE ?_ (B1 f1 f2) (AQ @c1);with_reducible repeat' first|constructor|intro hc
    refine⟨_,_,rfl,rfl,?_⟩;simp[E5,B3,B8,Aq,h]
   .rw[zO h];refine Ae JE ?_ (B1 f1 f2);with_reducible repeat' first|constructor|intro hc
    exact zE
  .have f1:=Bp he;rw[zN (show e≠0 from he)]at c1|-;rcases hF with⟨h,f2⟩|⟨h,f2⟩
   .refine AD JE ?_ (B1 f1 f2) (AQ @c1);with_reducible repeat' first|constructor|intro hc
    refine⟨_,_,rfl,rfl,?_⟩;simp[E5,B3,B8,Aq,h]
   .rw[zO h];refine Ae JE ?_ (B1 f1 f2);with_reducible repeat' first|constructor|intro hc
    exact zE
abbrev KW:BK:=[0,1,2,3,4,5,6,7,8,40,43,44,58,72,85]
abbrev RI:BK:=[0,1,2,3,4,6,7,8,19,22,23,36]
variable {j:B5}
theorem mH{m:AE}(hv:AZ v=true)(h:¬(m.right=true/\m.dst=v.id/\m.AG=Ja j.A3/\Hh j m.Ax=true)):FV v j m=⟨j,[],false⟩:=by
 unfold FV;split
 .rename_i hc;simp only[yU,yc]at hc;obtain⟨_,h1,h2⟩:=hc;have hn:¬(m.AG=Ja j.A3/\Hh j m.Ax=true):=fun e=>h ⟨h1,h2,e⟩
  unfold Ja Hh at hn;split
  .rename_i p1;rw[zN p1,zN p1,yc]at hn;rw[zO (fun e=>hn ⟨e.1,e.2.symm⟩)]
  .rename_i p1;rw[zO p1,zO p1]at hn;split
   .rename_i p2;rw[zN p2,zN (.inl p2),yc]at hn;rw[zO (fun e=>hn ⟨e.1,e.2.symm⟩)]
   .rename_i p2;rw[zO p2]at hn;split
    .rename_i p3;rw[zN p3,zO om,zN p3,yc]at hn;split
     .rename_i hk;have:m.Ax∉j.left:=fun e=>hn ⟨hk,e⟩
      unfold Hp;rw[zO this]
     .rfl
    .rename_i p3;rw[zO p3]at hn;split
     .rename_i p4;rw[zN p4,zN (.inr p4),yc]at hn;rw[zO (fun e=>hn ⟨e.1,e.2.symm⟩)]
     .rfl
 .rfl
theorem iG(hv:AZ v=true)(hj:JR j)(m:AE)(hl:j.left.length<=1048576)(hm:m.A8.length<=1048576):yA 213 [v.d,j.d,m.d] (KC (FV v j m)):=by
 have c1:=HZ j hl;have c2:=OV hv;have c3:=Wi.EH m om;have c4:=nZ j.A3;have c5:=VJ j m.Ax hl
 by_cases hc:m.right=true/\m.dst=v.id/\m.AG=Ja j.A3/\Hh j m.Ax=true
 case neg=>
  rw[mH hv hc];generalize Hh j m.Ax=b at *;generalize Ja j.A3=q at *;generalize m.right=b2 at *;clear hj hv;obtain⟨id,A2,A8,AO,f⟩:=v;refine zF AK Tryz.func213 ?_;unfold KC AB.d AB.A1 B5.d B5.A1 Wi.AE.d Wi.AE.A1 at *;dsimp only at *;refine AP KW ?_ (Ll @c1 @c2 @c3 @c4 @c5);with_reducible repeat' first|constructor|intro hc
  all_goals first
   |(exfalso;clear c1 c2 c3 c4 c5;grind)
   |(refine⟨_,_,rfl,rfl,?_⟩;simp[E5,B3,B8,Aq,CF])
 obtain⟨h1,h2,h3,h4⟩:=hc;rw[h1]at c3;rw[h4]at c5;have f2:=BJ h2;have f3:=BJ h3
 have hT:FV v j m=(if j.A3=1 then ER v ⟨j.AR,j.A3,P4 v j.Am m,j.AC,j.Ar,j.left,j.Ab⟩else if j.A3=2 then Ky v.id j j.Ar m.A8 else if j.A3=3 then⟨Hp j m.Ax m.Ab,[],false⟩else⟨FU (F5 ⟨j.AR,j.A3,j.Am,if m.Ab=0 then m.AC else j.AC,j.Ar,j.left,j.Ab⟩ m.Ab),[],false⟩):=by
  unfold FV;rw[zN (by rw[hv,h1,yX h2];rfl)];unfold Ja at h3;unfold Hh at h4;split
  .rename_i p1;rw[zN p1]at h3;rw[zN p1,yc]at h4;rw[zN ⟨h3,h4.symm⟩]
  .rename_i p1;rw[zO p1]at h3 h4;split
   .rename_i p2;rw[zN p2]at h3;rw[zN (.inl p2),yc]at h4;rw[zN ⟨h3,h4.symm⟩]
   .rename_i p2;rw[zO p2]at h3;split
    .rename_i p3;rw[zN p3]at h3;rw[zN h3]
    .rename_i p3;rw[zO p3]at h3;split
     .rename_i p4;rw[zN p4]at h3;rw[zN (.inr p4),yc]at h4;rw[zN ⟨h3,h4.symm⟩]
     .rename_i p4;rw[zO om,zO p3]at h4;cases h4
 rw[hT];clear hT
 by_cases p1:j.A3=1
 .rw[zN p1];have c6:=rx hv j.Am m om;have c7:=Pl hv ⟨j.AR,j.A3,P4 v j.Am m,j.AC,j.Ar,j.left,j.Ab⟩ hl (fun _ _=>Uw hv (hj p1) m);generalize ER v ⟨j.AR,j.A3,P4 v j.Am m,j.AC,j.Ar,j.left,j.Ab⟩=r at *;obtain⟨rj,ra,ro⟩:=r;generalize P4 v j.Am m=lk at *;generalize Ja j.A3=q at *;clear hj hv h4;obtain⟨id,A2,A8,AO,f⟩:=v;obtain⟨AR,A3,Am,AC,Ar,left,Ab⟩:=j;dsimp only at p1;subst p1;refine zF AK Tryz.func213 ?_;unfold KC AB.d AB.A1 B5.d B5.A1 Wi.AE.d Wi.AE.A1 CM.d CM.A1 at *;dsimp only at *;refine AD KW ?_ (B1 f2 f3) (jT @c1 @c2 @c3 @c4 @c5 @c6 @c7);with_reducible repeat' first|constructor|intro hc
  exact zE
 rw[zO p1];have g1:=eq_false' p1
 by_cases p2:j.A3=2
 .rw[zN p2];have c6:=Z1 v j j.Ar m.A8 hm;have c7:=Fn.ww (args':=[.d v.d,.d j.d,.sl 0 (m.A8.length+1) 1]) (x:=.is (j.Ar::m.A8)) c6 (by simp[AV.F3,AV.FK,B3]);clear c6;generalize Ky v.id j j.Ar m.A8=r at *;obtain⟨rj,ra,ro⟩:=r;generalize Ja j.A3=q at *;clear hj hv h4;obtain⟨id,A2,A8,AO,f⟩:=v;obtain⟨AR,A3,Am,AC,Ar,left,Ab⟩:=j;dsimp only at p2;subst p2;refine zF AK Tryz.func213 ?_;unfold KC AB.d AB.A1 B5.d B5.A1 Wi.AE.d Wi.AE.A1 at *;dsimp only at *;have ow:Lv [64]:=trivial;refine EL KW ?_ (B1 f2 f3) (Ll @c1 @c2 @c3 @c4 @c5) (E8 [4] c7) [] [9];clear ow;with_reducible repeat' first|constructor|intro hc
  have ow:Lv [64]:=trivial;refine Cd KW ?_ (E8 [4] c7) [(0,4),(1,4),(5,4),(6,4),(0,7),(1,7)];clear ow;with_reducible repeat' first|constructor|intro hc
  exact zE
 rw[zO p2];have g2:=eq_false' p2
 by_cases p3:j.A3=3
 .rw[zN p3]
  have hmem:m.Ax∈j.left:=by
   unfold Hh at h4;rw[zO p1,zO om,zN p3,yc]at h4;exact h4
  have c6:=QT j m.Ax m.Ab hl hmem;generalize Hp j m.Ax m.Ab=r at *;generalize Ja j.A3=q at *;clear hj hv h4 hmem;obtain⟨id,A2,A8,AO,f⟩:=v;obtain⟨AR,A3,Am,AC,Ar,left,Ab⟩:=j;dsimp only at p3;subst p3;refine zF AK Tryz.func213 ?_;unfold KC AB.d AB.A1 B5.d B5.A1 Wi.AE.d Wi.AE.A1 at *;dsimp only at *;refine AD KW ?_ (B1 f2 f3) (jS @c1 @c2 @c3 @c4 @c5 @c6);with_reducible repeat' first|constructor|intro hc
  exact zE
 rw[zO p3];have g3:=eq_false' p3;have c6:=Gs ⟨j.AR,j.A3,j.Am,if m.Ab=0 then m.AC else j.AC,j.Ar,j.left,j.Ab⟩ m.Ab;generalize Ja j.A3=q at *;clear hj hv h4;obtain⟨id,A2,A8,AO,f⟩:=v;obtain⟨AR,A3,Am,AC,Ar,left,Ab⟩:=j;refine zF AK Tryz.func213 ?_
 by_cases he:m.Ab=0
 .have f4:=B6 he;rw[zN he]at c6|-;unfold KC AB.d AB.A1 B5.d B5.A1 Wi.AE.d Wi.AE.A1 at *;dsimp only at *;refine AD KW ?_ (jS f2 f3 g1 g2 g3 f4) (jS @c1 @c2 @c3 @c4 @c5 @c6);with_reducible repeat' first|constructor|intro hc
  exact zE
 .have f4:=eq_false' he;rw[zO he]at c6|-;unfold KC AB.d AB.A1 B5.d B5.A1 Wi.AE.d Wi.AE.A1 at *;dsimp only at *;refine AD KW ?_ (jS f2 f3 g1 g2 g3 f4) (jS @c1 @c2 @c3 @c4 @c5 @c6);with_reducible repeat' first|constructor|intro hc
  exact zE
theorem iE(hv:AZ v=true)(hj:JR j)(d:Int)(hl:j.left.length<=1048576):yA 250 [v.d,j.d,.yE d] (KC (FT v j d)):=by
 have c1:=HZ j hl;have c2:=OV hv;have c3:=VJ j d hl;have hA:Hh j d=if j.A3=1 then decide (j.Am.Ck=d)else if j.A3=2\/j.A3=4 then decide (j.Ar=d)else if j.A3=3 then decide (d∈j.left)else false:=rfl
 have hT:FT v j d=if j.A3=1 then(if j.Am.Ck=d then ER v ⟨j.AR,j.A3,ZZ v j.Am,j.AC,j.Ar,j.left,j.Ab⟩else⟨j,[],false⟩)else if j.A3=2\/j.A3=4 then(if j.Ar=d then⟨FU (F5 j 210),[],false⟩else⟨j,[],false⟩)else if j.A3=3 then⟨Hp j d 210,[],false⟩else⟨j,[],false⟩:=by unfold FT;rw[zN hv]
 cases hb:Hh j d with
 |false=>
  rw[hb]at c3 hA
  have hN:FT v j d=⟨j,[],false⟩:=by
   rw[hT];split
   .rename_i p1;rw[zN p1]at hA;rw[zO (of_decide_eq_false hA.symm)]
   .rename_i p1;rw[zO p1]at hA;split
    .rename_i p2;rw[zN p2]at hA;rw[zO (of_decide_eq_false hA.symm)]
    .rename_i p2;rw[zO p2]at hA;split
     .rename_i p3;rw[zN p3]at hA;unfold Hp;rw[zO (of_decide_eq_false hA.symm)]
     .rfl
  rw[hN];clear hN hT hA hb hj hv;obtain⟨id,A2,A8,AO,f⟩:=v;refine zF AK Tryz.func250 ?_;unfold KC AB.d AB.A1 B5.d B5.A1 at *;dsimp only at *;refine AP RI ?_ (DO @c1 @c2 @c3);with_reducible repeat' first|constructor|intro hc
  exact BO @CF.eq_1
 |true=>
 rw[hb]at c3 hA;replace hA:=hA.symm
 by_cases p1:j.A3=1
 .rw[zN p1]at hA hT;rw[zN (q1H hA)]at hT;rw[hT];have c4:=ru hv j.Am;have c5:=Pl hv ⟨j.AR,j.A3,ZZ v j.Am,j.AC,j.Ar,j.left,j.Ab⟩ hl (fun _ _=>Uu hv (hj p1));generalize ER v ⟨j.AR,j.A3,ZZ v j.Am,j.AC,j.Ar,j.left,j.Ab⟩=r at *;obtain⟨rj,ra,ro⟩:=r;generalize ZZ v j.Am=lk at *;clear hj hv hA hT hb;obtain⟨id,A2,A8,AO,f⟩:=v;obtain⟨AR,A3,Am,AC,Ar,left,Ab⟩:=j;dsimp only at p1;subst p1;refine zF AK Tryz.func250 ?_;unfold KC AB.d AB.A1 B5.d B5.A1 CM.d CM.A1 at *;dsimp only at *;refine AP RI ?_ (Ll @c1 @c2 @c3 @c4 @c5);with_reducible repeat' first|constructor|intro hc
  exact zE
 rw[zO p1]at hA hT;have g1:=eq_false' p1
 by_cases p2:j.A3=2\/j.A3=4
 .rw[zN p2]at hA hT;rw[zN (q1H hA)]at hT;rw[hT];have c4:=Gs j 210;have g3:=eq_false' (show j.A3≠3 by omega);clear hj hv hA hT hb;obtain⟨id,A2,A8,AO,f⟩:=v;refine zF AK Tryz.func250 ?_;unfold KC AB.d AB.A1 B5.d B5.A1 at *;dsimp only at *;refine AD RI ?_ (B1 g1 g3) (Hc @c1 @c2 @c3 @c4);with_reducible repeat' first|constructor|intro hc
  exact zE
 rw[zO p2]at hA hT;have p3:j.A3=3:=q1A fun e=>by rw[zO e]at hA;cases hA
 rw[zN p3]at hA hT;rw[hT];have c4:=QT j d 210 hl (q1H hA);generalize Hp j d 210=r at *;clear hj hv hA hT hb p2;obtain⟨id,A2,A8,AO,f⟩:=v;obtain⟨AR,A3,Am,AC,Ar,left,Ab⟩:=j;dsimp only at p3;subst p3;refine zF AK Tryz.func250 ?_;unfold KC AB.d AB.A1 B5.d B5.A1 at *;dsimp only at *;refine AP RI ?_ (Hc @c1 @c2 @c3 @c4);with_reducible repeat' first|constructor|intro hc
 exact zE
end Nd
end Go.Proofs.YthlmmkmeoblbhaaGreat
namespace Go.Proofs.YthlmmkmeoblbhaaGreat
namespace Nd
open Go.Gar
open Wi (AE BE Ay AU C2)
set_option maxRecDepth 8000
abbrev RN:BK:=[0,1,2,3,4,5,9,10,11,13,14,15,16,31,33,34,38,42]
abbrev XC:BK:=[0,1,2,3,4,5,6,7,8,9,10,11,12,13,14,15,20,24,49]
abbrev XG:BK:=[0,1,2,3,4,5,6,7,8,9,10,11,12,13,18,30,53]
abbrev Oy:BK:=[0,1,2,4,5,6,11,14,30]
theorem gZ:∀l:Ao,(FY l).length<=3
 |[]=>by simp[FY]
 |[_]=>by simp[FY]
 |[a,b]=>by simp only[FY,yu];split<;>simp
 |a::b::c::_=>by simp only[FY,yu,yw];split<;>split<;>simp
theorem YC(id:Int)(j:B5)(o:Int)(l:Ao):(Ky id j o l).BW.length<=1000:=by
 unfold Ky;dsimp only;rw[zY];have:=q0b (fun p=>p !=id) (FY (o::l));have:=gZ (o::l);omega
theorem PZ(v:AB)(j:B5):(ER v j).BW.length<=1000:=by
 unfold ER;split
 .exact yx _
 split
 .dsimp only;split<;>simp
 split
 .exact yx _
 split
 .exact YC ..
 split
 .simp
 split
 .exact yx _
 .simp
theorem mA(v:AB)(AR AY:Int)(x:AL):(JL v AR AY x).BW.length<=1000:=by
 unfold JL;split
 .exact PZ ..
 .exact yx _
theorem gB(v:AB)(j:B5)(m:AE):(FV v j m).BW.length<=1000:=by
 unfold FV
 repeat' split
 all_goals first|exact PZ .. |exact YC .. |exact yx _
theorem g9(v:AB)(j:B5)(d:Int):(FT v j d).BW.length<=1000:=by
 unfold FT
 repeat' split
 all_goals first|exact PZ .. |exact yx _
theorem lT(n:A6)(w:Int)(j:B5)(e:Bool)(c:JC):Cv (FL n w j) w e c=Cv n w e c:=by
 unfold Cv FL
 repeat' split
 all_goals rfl
variable {n:A6}{w:Int}
theorem qw(hw:5<=w/\w<=7)(j:B5):Bj (FL n w j) w=j:=by
 have:w=5\/w=6\/w=7:=om
 rcases this with rfl|rfl|rfl<;>rfl
theorem Fa(h:NB n):yA 43 [n.d] (.b true):=by
 have:=VQ n h.P5;rwa [h.r]at this
theorem P1.slot(h:P1 n)(w:Int):P1 (FL n w Hb):=by
 unfold FL;split
 .exact⟨h.id,h.li,h.vb,h.vl,h.cl,h.cn,h.sl,h.sn,h.kn,yx _,h.ml,h.tl⟩
 split
 .exact⟨h.id,h.li,h.vb,h.vl,h.cl,h.cn,h.sl,h.sn,h.kn,h.fl,yx _,h.tl⟩
 .exact⟨h.id,h.li,h.vb,h.vl,h.cl,h.cn,h.sl,h.sn,h.kn,h.fl,h.ml,yx _⟩
theorem NB.kp(h:NB n):CK n.keep=true:=(Al.1 h.r).2.2.2.2.2.2.1
theorem NB.nx(h:NB n):0<=n.next/\n.next<16:=(Al.1 h.r).2.2.1
theorem NB.st(h:NB n):Ci n.A3 n.BN=true:=(Al.1 h.r).2.2.2.2.2.1
theorem bQ(h:NB n)(hw:5<=w/\w<=7){c:JC}(hc:c.BW.length<=1000):
  yA 197 [n.d,.i .u8 w,c.job.d,CF c.BW,.b c.own] (.tup [(Cv n w (decide ((Bj n w).A3=5)) c).1.d,Ey (Cv n w (decide ((Bj n w).A3=5)) c).2]):=
 Z5 n w c h.P5 h.rv h.kp h.nx hw hc
theorem nq(h:NB n)(hw:5<=w/\w<=7){c:JC}(hc:c.BW.length<=1000):
  yA 197 [(FL n w Hb).d,.i .u8 w,c.job.d,CF c.BW,.b c.own] (.tup [(Cv n w false c).1.d,Ey (Cv n w false c).2]):=by
 have hp:(FL n w Hb).A4=n.A4/\(FL n w Hb).keep=n.keep/\(FL n w Hb).next=n.next:=by
  unfold FL
  repeat' split
  all_goals exact⟨rfl,rfl,rfl⟩
 have:=Z5 (FL n w Hb) w c (h.P5.slot w) (by rw[hp.1];exact h.rv) (by rw[hp.2.1];exact h.kp) (by rw[hp.2.2];exact h.nx) hw hc;rw[qw hw,lT]at this;exact this
theorem LV(h:NB n)(hw:5<=w/\w<=7)(AR AY:Int)(x:AL)(hx:x.AH.length<=9223372036854775807):
  yA 137 [n.d,.i .u8 w,.i .u8 AR,.yE AY,x.d] (.tup [(CL n w AR AY x).1.d,Ey (CL n w AR AY x).2]):=by
 have hR:CL n w AR AY x=Cv n w false (JL n.A4 AR AY x):=by
  unfold CL;rw[h.r,yX hw.1,yX hw.2];rfl
 have c1:=EJ n h.P5;have c2:=Fa h;have c3:=LU n h.P5 w;have c4:=nV h.rv AR AY x hx;have c5:=nq h hw (mA n.A4 AR AY x);rw[hR];rw[yX hw.1,yX hw.2]at c3;generalize Cv n w false (JL n.A4 AR AY x)=R at *;generalize JL n.A4 AR AY x=c at *;generalize Bj n w=was at *;obtain⟨cj,ca,co⟩:=c;obtain⟨N,qs⟩:=R;dsimp only at *;have hw3:w=5\/w=6\/w=7:=om
 clear h hw hR;unfold KC at c4;dsimp only at c4;refine zF AK Tryz.func137 ?_;rcases hw3 with rfl|rfl|rfl
 all_goals
  unfold FL at c5;simp only[zx,reduceIte,Int.reduceEq]at c5;unfold A6.d A6.A1 AB.d AB.A1 Calls.A1 B5.d B5.A1 AL.d AL.A1 at *;simp only[AN]at c5;simp only[zA,zK]at *;refine AP RN ?_ (DO @c1 @c2 @c3) [] [12];with_reducible repeat' first|constructor|intro hc
 .refine Av (A5.jW 0 40 (.is []) rfl rfl rfl rfl trivial) sm ?_;refine AP RN ?_ (B1 @c4 @c5);with_reducible repeat' first|constructor|intro hc
  exact zE
 .refine Av (A5.jW 0 55 (.is []) rfl rfl rfl rfl trivial) sm ?_;refine AP RN ?_ (B1 @c4 @c5);with_reducible repeat' first|constructor|intro hc
  exact zE
 .refine Av (A5.jW 0 70 (.is []) rfl rfl rfl rfl trivial) sm ?_;refine AP RN ?_ (B1 @c4 @c5);with_reducible repeat' first|constructor|intro hc
  exact zE
theorem Z0(h:NB n)(hJ:NJ n)(c:B4)(m:AE)(hm:m.A8.length<=1048576):
  yA 143 [n.d,c.d,m.d] (.tup [(CQ n c m).1.d,Ey (CQ n c m).2]):=by
 have c1:=EJ n h.P5;have c2:=Fa h;have c3:=Pm c.BH;have c4:=LU n h.P5 c.BH
 by_cases h1:1<=c.BH/\c.BH<=3
 .have hR:CQ n c m=({n with A4:=(D1 n.A4 n.A3 n.BN m).1.A4,A3:=(D1 n.A4 n.A3 n.BN m).1.A3,BN:=(D1 n.A4 n.A3 n.BN m).1.BN},(D1 n.A4 n.A3 n.BN m).2):=by
   unfold CQ;rw[zN h.r,zN h1]
  have c5:=iS (m:=m) h.rv h.st h.ph om;rw[yX h1.1,yX h1.2]at c3;rw[hR];clear h hJ hR c4;generalize D1 n.A4 n.A3 n.BN m=R at *;obtain⟨⟨v,p,o⟩,qs⟩:=R;dsimp only at *;refine zF AK Tryz.func143 ?_;unfold A6.d A6.A1 AB.d AB.A1 Calls.A1 B5.A1 B4.d B4.A1 Wi.AE.d Wi.AE.A1 at *;simp only[zA,zK]at *;refine AP XC ?_ (Hc @c1 @c2 @c3 @c5) [(1,3),(1,2)];with_reducible repeat' first|constructor|intro hc
  exact zE
 have g1:(decide (1<=c.BH)&&decide (c.BH<=3))=false:=by
  rw[q0f,zn,zn];omega
 rw[g1]at c3
 by_cases h2:5<=c.BH/\c.BH<=7
 .have hR:CQ n c m=Cv n c.BH (decide ((Bj n c.BH).A3=5)) (FV n.A4 (Bj n c.BH) m):=by
   unfold CQ;rw[zN h.r,zO h1,zN h2]
  have hl:(Bj n c.BH).left.length<=1048576:=by
   have:=h.P5.fl;have:=h.P5.ml;have:=h.P5.tl;unfold Bj VW
   repeat' split
   all_goals first|assumption|exact yx _
  have c5:=iG h.rv (hJ.of c.BH) m hl hm;have c6:=bQ h h2 (gB n.A4 (Bj n c.BH) m);rw[yX h2.1,yX h2.2]at c4;rw[hR];clear h hJ hR hl;generalize Cv n c.BH (decide ((Bj n c.BH).A3=5)) (FV n.A4 (Bj n c.BH) m)=R at *;generalize FV n.A4 (Bj n c.BH) m=r at *;generalize Bj n c.BH=was at *;obtain⟨cj,ca,co⟩:=r;obtain⟨N,qs⟩:=R;unfold KC at c5;dsimp only at *;refine zF AK Tryz.func143 ?_;unfold A6.d A6.A1 AB.d AB.A1 Calls.A1 B5.d B5.A1 B4.d B4.A1 Wi.AE.d Wi.AE.A1 at *;simp only[zA,zK]at *;refine AP XC ?_ (jS @c1 @c2 @c3 @c4 @c5 @c6);with_reducible repeat' first|constructor|intro hc
  exact zE
 .have hR:CQ n c m=(n,[]):=by
   unfold CQ;rw[zN h.r,zO h1,zO h2]
  have g2:(decide (5<=c.BH)&&decide (c.BH<=7))=false:=by
   rw[q0f,zn,zn];omega
  rw[g2]at c4;rw[hR];clear h hJ hR;generalize Bj n c.BH=was at *;refine zF AK Tryz.func143 ?_;unfold A6.d A6.A1 AB.A1 Calls.A1 B5.d B5.A1 B4.d B4.A1 Wi.AE.d Wi.AE.A1 at *;simp only[zA,zK]at *;refine AP XC ?_ (Hc @c1 @c2 @c3 @c4);with_reducible repeat' first|constructor|intro hc
  exact zE
theorem bN(h:NB n)(hJ:NJ n)(c:B4):
  yA 189 [n.d,c.d] (.tup [(Bu n c).1.d,Ey (Bu n c).2]):=by
 have c1:=EJ n h.P5;have c2:=Fa h;have c3:=Pm c.BH;have hb:NB {n with A4:=Ca n.A4 c.Cl.dst}:=h.A4 (Lq n.A4 c.Cl.dst) h.nx;have c7:=tM h.rv c.Cl.dst;have c4:=LU {n with A4:=Ca n.A4 c.Cl.dst} hb.P5 c.BH;replace c4:yA 195 [A6.d {n with A4:=Ca n.A4 c.Cl.dst},.i .u8 c.BH] (.tup [(Bj n c.BH).d,.b (decide (5<=c.BH)&&decide (c.BH<=7))]):=c4
 by_cases h1:1<=c.BH/\c.BH<=3
 .have hR:Bu n c=({n with A4:=(Dw (Ca n.A4 c.Cl.dst) n.A3 n.BN c.Cl.dst).A4,A3:=(Dw (Ca n.A4 c.Cl.dst) n.A3 n.BN c.Cl.dst).A3,BN:=(Dw (Ca n.A4 c.Cl.dst) n.A3 n.BN c.Cl.dst).BN},[]):=by
   unfold Bu;rw[zN h.r];dsimp only;rw[zN h1]
  have c5:=iB hb.rv h.st c.Cl.dst;dsimp only at c5;rw[yX h1.1,yX h1.2]at c3;rw[hR];clear h hb hJ hR c4;generalize Ca n.A4 c.Cl.dst=v1 at *;generalize Dw v1 n.A3 n.BN c.Cl.dst=R at *;obtain⟨v,p,o⟩:=R;dsimp only at *;refine zF AK Tryz.func189 ?_;unfold A6.d A6.A1 AB.d AB.A1 Calls.A1 B5.A1 B4.d B4.A1 at *;simp only[zA,zK]at *;refine AP XG ?_ (Ll @c1 @c2 @c3 @c7 @c5) [(1,3),(1,2)];with_reducible repeat' first|constructor|intro hc
  exact zE
 have g1:(decide (1<=c.BH)&&decide (c.BH<=3))=false:=by
  rw[q0f,zn,zn];omega
 rw[g1]at c3
 by_cases h2:5<=c.BH/\c.BH<=7
 .have hR:Bu n c=Cv {n with A4:=Ca n.A4 c.Cl.dst} c.BH (decide ((Bj n c.BH).A3=5)) (FT (Ca n.A4 c.Cl.dst) (Bj n c.BH) c.Cl.dst):=by
   unfold Bu;rw[zN h.r];dsimp only;rw[zO h1,zN h2]
  have hl:(Bj n c.BH).left.length<=1048576:=by
   have:=h.P5.fl;have:=h.P5.ml;have:=h.P5.tl;unfold Bj VW
   repeat' split
   all_goals first|assumption|exact yx _
  have c5:=iE hb.rv (hJ.of c.BH) c.Cl.dst hl;have c6:=bQ hb h2 (g9 (Ca n.A4 c.Cl.dst) (Bj n c.BH) c.Cl.dst);rw[show Bj {n with A4:=Ca n.A4 c.Cl.dst} c.BH=Bj n c.BH from rfl]at c6;rw[yX h2.1,yX h2.2]at c4;rw[hR];clear h hb hJ hR hl;dsimp only at c5;generalize Ca n.A4 c.Cl.dst=v1 at *;generalize Cv {n with A4:=v1} c.BH (decide ((Bj n c.BH).A3=5)) (FT v1 (Bj n c.BH) c.Cl.dst)=R at *;generalize FT v1 (Bj n c.BH) c.Cl.dst=r at *;generalize Bj n c.BH=was at *;obtain⟨cj,ca,co⟩:=r;obtain⟨N,qs⟩:=R;unfold KC at c5;dsimp only at *;refine zF AK Tryz.func189 ?_;unfold A6.d A6.A1 AB.d AB.A1 Calls.A1 B5.d B5.A1 B4.d B4.A1 at *;simp only[zA,zK]at *;refine AP XG ?_ (jT @c1 @c2 @c3 @c4 @c5 @c6 @c7);with_reducible repeat' first|constructor|intro hc
  exact zE
 .have hR:Bu n c=({n with A4:=Ca n.A4 c.Cl.dst},[]):=by
   unfold Bu;rw[zN h.r];dsimp only;rw[zO h1,zO h2]
  have g2:(decide (5<=c.BH)&&decide (c.BH<=7))=false:=by
   rw[q0f,zn,zn];omega
  rw[g2]at c4;rw[hR];clear h hb hJ hR;generalize Bj n c.BH=was at *;generalize Ca n.A4 c.Cl.dst=v1 at *;refine zF AK Tryz.func189 ?_;unfold A6.d A6.A1 AB.d AB.A1 Calls.A1 B5.d B5.A1 B4.d B4.A1 at *;simp only[zA,zK]at *;refine AP XG ?_ (Ll @c1 @c2 @c3 @c4 @c7);with_reducible repeat' first|constructor|intro hc
  exact zE
theorem bK(h:NB n)(w:Int):yA 199 [n.d,.i .u8 w] (ED n w).d:=by
 have c1:=EJ n h.P5;have c2:=Fa h;have c3:=Pm w;have c4:=LU n h.P5 w
 by_cases h1:1<=w/\w<=3
 .have hR:ED n w={n with A3:=0,BN:=0}:=by
   unfold ED;rw[zN h.r,zN h1]
  rw[yX h1.1,yX h1.2]at c3;rw[hR];clear h hR c4;refine zF AK Tryz.func199 ?_;unfold A6.d A6.A1 AB.A1 Calls.A1 B5.A1 at *;simp only[zA,zK]at *;refine AP Oy ?_ (DO @c1 @c2 @c3);with_reducible repeat' first|constructor|intro hc
  exact zE
 have g1:(decide (1<=w)&&decide (w<=3))=false:=by
  rw[q0f,zn,zn];omega
 rw[g1]at c3
 by_cases h2:5<=w/\w<=7
 .rw[yX h2.1,yX h2.2]at c4
  by_cases h5:(Bj n w).A3=5
  .have hR:ED n w=n:=by
    unfold ED;rw[zN h.r,zO h1,zO (fun e=>e.2 h5)]
   rw[hR];clear h hR;generalize Bj n w=was at *;have f1:=B6 h5;refine zF AK Tryz.func199 ?_;unfold A6.d A6.A1 AB.A1 Calls.A1 B5.d B5.A1 at *;simp only[zA,zK]at *;refine AD Oy ?_ (AQ f1) (Hc @c1 @c2 @c3 @c4);with_reducible repeat' first|constructor|intro hc
   exact zE
  .have hR:ED n w=(Cv n w false ⟨FU (F5 (Bj n w) 100),[],false⟩).1:=by
    unfold ED;rw[zN h.r,zO h1,zN ⟨h2,h5⟩]
   have c5:=bQ h h2 (c:=⟨FU (F5 (Bj n w) 100),[],false⟩) (yx _);rw[yY h5]at c5;rw[hR];clear h hR;generalize Cv n w false ⟨FU (F5 (Bj n w) 100),[],false⟩=R at *;generalize Bj n w=was at *;obtain⟨N,qs⟩:=R;have f1:=eq_false' h5;unfold FU F5 at c5;simp only[CF,zh]at c5;dsimp only at *;refine zF AK Tryz.func199 ?_;unfold A6.d A6.A1 AB.A1 Calls.A1 B5.d B5.A1 at *;simp only[zA,zK]at *;refine AD Oy ?_ (AQ f1) (Hc @c1 @c2 @c3 @c4) [] [11];with_reducible repeat' first|constructor|intro hc
   refine Av (A5.jW 2 13 (.is []) rfl rfl rfl rfl trivial) sm ?_;have z1:=@c5;refine A9 Oy ?_;clear z1;with_reducible repeat' first|constructor|intro hc
   exact zE
 .have hR:ED n w=n:=by
   unfold ED;rw[zN h.r,zO h1,zO (fun e=>h2 e.1)]
  have g2:(decide (5<=w)&&decide (w<=7))=false:=by
   rw[q0f,zn,zn];omega
  rw[g2]at c4;rw[hR];clear h hR;generalize Bj n w=was at *;refine zF AK Tryz.func199 ?_;unfold A6.d A6.A1 AB.A1 Calls.A1 B5.d B5.A1 at *;simp only[zA,zK]at *;refine AP Oy ?_ (Hc @c1 @c2 @c3 @c4);with_reducible repeat' first|constructor|intro hc
  exact zE
end Nd
end Go.Proofs.YthlmmkmeoblbhaaGreat
namespace Go.Proofs.YthlmmkmeoblbhaaGreat
namespace Nd
open Go.Gar
open Wi (AE BE Ay AU C2 CG Ac)
set_option maxRecDepth 8000
abbrev JF:BK:=[0,1,2,3,4,5,6,7,8,14,27,34,35,47,56,62,74]
theorem bR{n:A6}(h:NB n){m:AE}(hm:Co m):yA 202 [n.d,m.d] (.b (E7 n m)):=by
 have c1:=Fa h;have c2:=Wi.EH m (lm hm);have c3:=Wi.IZ m;obtain⟨R,hR⟩:∃R,R=E7 n m:=⟨_,rfl⟩;rw[<-hR];unfold E7 at hR;rw[h.r]at hR;generalize m.right=b1 at *;generalize m.BW=b2 at *;clear h hm;refine zF AK Tryz.func202 ?_;unfold A6.d A6.A1 AB.A1 Calls.A1 B5.A1 Wi.AE.d Wi.AE.A1 at *;simp only[zA,zK]at *;refine AP [0,1,2,3,4] ?_ (DO @c1 @c2 @c3);with_reducible repeat' first|constructor|intro hc
 all_goals(refine⟨_,_,rfl,rfl,?_⟩;simp only[E5];refine congrArg D.b ?_;rw[hR];clear hR c1 c2 c3;grind)
theorem oa{l:List Past}{s c:Int}:(GU l s c).2=l.any (JZ s c):=by
 unfold GU
 cases h:l.find? (fun p=>decide (p.Ax=s)&&decide (p.AW=c))with
 |some p=>
  have h1:=List.mem_of_find?_eq_some h;have h2:=List.find?_some h
  symm
  rw[q1E];exact⟨p,h1,h2⟩
 |none=>
  symm
  rw[q0O];exact fun p hp=>q0r.1 h p hp
theorem oZ(l:List Past)(s c:Int):GU l s c=(Iw l s c,l.any (JZ s c)):=by
 rw[<-oa];refine Prod.ext ?_ rfl;unfold GU Iw JZ;cases l.find? (fun p=>decide (p.Ax=s)&&decide (p.AW=c))<;>rfl
theorem Z9{n:A6}(h:NB n){m:AE}(hm:Co m):yA 140 [n.d,m.d] (.tup [(Bv n m).1.d,(Bv n m).2.d]):=by
 have c1:=EJ n h.P5;have c2:=bR h hm
 cases hs:E7 n m with
 |false=>
  have hT:Bv n m=(n,AU):=by unfold Bv;rw[hs];rfl
  rw[hs]at c2;rw[hT];clear h hT;refine zF AK Tryz.func140 ?_;unfold A6.d A6.A1 AB.A1 Calls.A1 B5.A1 Wi.AE.d Wi.AE.A1 at *;simp only[zA,zK]at *;refine AP JF ?_ (B1 @c1 @c2);with_reducible repeat' first|constructor|intro hc
  exact BO (yg @AU.eq_1 @AN.eq_1)
 |true=>
 rw[hs]at c2;obtain⟨s1,s2,_⟩:=I9.1 (Al.1 h.r).2.2.2.2.2.2.2.1;have hsl:∀x∈n.BL,Co x.AA:=h.P5.sl;have c3:=VL n.BL m.Ax m.AW hsl om;have hA:=K2 hs;have hbn:=(PE h hs).1;have hF:GU n.BL m.Ax m.AW=(Iw n.BL m.Ax m.AW,n.BL.any (JZ m.Ax m.AW)):=oZ ..
 cases hf:n.BL.any (JZ m.Ax m.AW)with
 |true=>
  rw[hf]at hF c3
  have ht:Co (Iw n.BL m.Ax m.AW):=by
   obtain⟨p,hp,_,_,e⟩:=Pv (l:=n.BL) (s:=m.Ax) (c:=m.AW) (by rw[hF]);rw[hF]at e;rw[show Iw n.BL m.Ax m.AW=p.AA from e];exact hsl p hp
  have hT:Bv n m=(n,Iw n.BL m.Ax m.AW):=by
   unfold Bv;rw[zN hs,hF];rfl
  have c4:=F9 _ ht;rw[hT];clear hT hF ht h hsl hA hbn s2;generalize Iw n.BL m.Ax m.AW=t at *;refine zF AK Tryz.func140 ?_;unfold A6.d A6.A1 AB.A1 Calls.A1 B5.A1 Wi.AE.d Wi.AE.A1 at *;simp only[zA,zK]at *;refine AP JF ?_ (Hc @c1 @c2 @c3 @c4) [(1,3)];with_reducible repeat' first|constructor|intro hc
  exact zE
 |false=>
  rw[hf]at hF c3
  have hT:Bv n m=({(BC n m).1 with BL:=Ha n.BL (BC n m).2},(BC n m).2):=by
   unfold Bv;rw[zN hs,hF];rfl
  obtain⟨ha,_,hd,_⟩:=Gu.1 hs;have c4:=ZD m;rw[Jp ha]at c4;have c5:=rk n.BL (BC n m).2 hsl s1 hA.1 hA.2.1 (by rw[hA.2.2.2.1,hA.2.2.2.2];exact hf);have c6:=F9 (BC n m).2 (DZ hA.1);have c7:=bO h.rv m.Ax;have c8:=bH (m:=m) h.rv (lm hm);have c9:=Z8 n.keep m.AC h.kp;have c10:=Yz n.keep m.AC.AH h.kp;have hta:=Jp ha;have hk:1<=m.AG/\m.AG<=6:=HL.1 ha;have hvl:=h.P5.vl;rw[hT];clear hT hF h hsl hA hbn s2 hs ha hf;generalize Iw n.BL m.Ax m.AW=u at *;obtain⟨AG,AW,Ax,dst,AH,BX,done,AY,AO,A8,AC,Ab⟩:=m;dsimp only at *;refine zF AK Tryz.func140 ?_;have hk6:AG=1\/AG=2\/AG=3\/AG=4\/AG=5\/AG=6:=om
  rcases hk6 with rfl|rfl|rfl|rfl|rfl|rfl
  .have e:BC n ⟨1,AW,Ax,dst,AH,BX,done,AY,AO,A8,AC,Ab⟩=(n,⟨7,AW,dst,Ax,0,false,false,0,n.A4.AO,n.A4.A8,AN,0⟩):=by
    unfold BC;dsimp only;rw[hta];rfl
   rw[e]at c5 c6|-;clear e hta hm hk hd;clear c7 c8 c9 c10;dsimp only at *;generalize Ha n.BL _=S at *;simp only[AN]at c4 c5 c6;unfold A6.d A6.A1 AB.A1 Calls.A1 B5.A1 Wi.AE.d Wi.AE.A1 at *;simp only[zA,zK]at *;refine AP JF ?_ (jS @c1 @c2 @c3 @c4 @c5 @c6) [(1,3)];with_reducible repeat' first|constructor|intro hc
   exact BO @AN.eq_1
  .have e:BC n ⟨2,AW,Ax,dst,AH,BX,done,AY,AO,A8,AC,Ab⟩=(n,⟨8,AW,dst,Ax,0,false,false,0,0,[],AN,0⟩):=by
    unfold BC;dsimp only;rw[hta];rfl
   rw[e]at c5 c6|-;clear e hta hm hk hd;clear c7 c8 c9 c10;dsimp only at *;generalize Ha n.BL _=S at *;simp only[AN]at c4 c5 c6;unfold A6.d A6.A1 AB.A1 Calls.A1 B5.A1 Wi.AE.d Wi.AE.A1 at *;simp only[zA,zK]at *;refine AP JF ?_ (jS @c1 @c2 @c3 @c4 @c5 @c6) [(1,3)];with_reducible repeat' first|constructor|intro hc
   exact BO @AN.eq_1
  .have e:BC n ⟨3,AW,Ax,dst,AH,BX,done,AY,AO,A8,AC,Ab⟩=({n with A4:=HC n.A4 Ax},⟨9,AW,dst,Ax,0,false,false,0,0,[],AN,0⟩):=by
    unfold BC;dsimp only;rw[hta];rfl
   rw[e]at c5 c6|-;clear e hta hm hk hd;clear c8 c9 c10;dsimp only at *;generalize HC n.A4 Ax=w at *;generalize Ha n.BL _=S at *;simp only[AN]at c4 c5 c6;unfold A6.d A6.A1 AB.A1 Calls.A1 B5.A1 Wi.AE.d Wi.AE.A1 at *;unfold AB.d AB.A1 at *;simp only[zA,zK]at *;refine AP JF ?_ (jT @c1 @c2 @c3 @c4 @c5 @c6 @c7) [(1,3)];with_reducible repeat' first|constructor|intro hc
   exact BO @AN.eq_1
  .have e:BC n ⟨4,AW,Ax,dst,AH,BX,done,AY,AO,A8,AC,Ab⟩=(n,Sl n.A4 ⟨4,AW,Ax,dst,AH,BX,done,AY,AO,A8,AC,Ab⟩):=by
    unfold BC;dsimp only;rw[hta];rfl
   rw[e]at c5 c6|-;clear e hta hm hk hd;clear c7 c9 c10;dsimp only at *;generalize Sl n.A4 ⟨4,AW,Ax,dst,AH,BX,done,AY,AO,A8,AC,Ab⟩=w at *;generalize Ha n.BL _=S at *;simp only[AN]at c4;unfold A6.d A6.A1 AB.A1 Calls.A1 B5.A1 Wi.AE.d Wi.AE.A1 at *;unfold AB.d AB.A1 at *;simp only[zA,zK]at *;refine AP JF ?_ (jT @c1 @c2 @c3 @c4 @c5 @c6 @c8) [(1,3)];with_reducible repeat' first|constructor|intro hc
   exact BO @AN.eq_1
  .have e:BC n ⟨5,AW,Ax,dst,AH,BX,done,AY,AO,A8,AC,Ab⟩=({n with keep:=(Fj n.keep AC).1},⟨11,AW,dst,Ax,0,false,false,0,0,[],AN,(Fj n.keep AC).2⟩):=by
    unfold BC;dsimp only;rw[hta];rfl
   rw[e]at c5 c6|-;clear e hta hm hk hd;clear c7 c8 c10;dsimp only at *;generalize Fj n.keep AC=w at *;generalize Ha n.BL _=S at *;simp only[AN]at c4 c5 c6;unfold A6.d A6.A1 AB.A1 Calls.A1 B5.A1 Wi.AE.d Wi.AE.A1 at *;unfold AL.d AL.A1 at *;simp only[zA,zK]at *;refine AP JF ?_ (jT @c1 @c2 @c3 @c4 @c5 @c6 @c9) [(1,3)];with_reducible repeat' first|constructor|intro hc
   exact BO @AN.eq_1
  .have e:BC n ⟨6,AW,Ax,dst,AH,BX,done,AY,AO,A8,AC,Ab⟩=(n,⟨12,AW,dst,Ax,0,false,false,0,0,[],(Et n.keep AC.AH).1,(Et n.keep AC.AH).2⟩):=by
    unfold BC;dsimp only;rw[hta];rfl
   rw[e]at c5 c6|-;clear e hta hm hk hd;clear c7 c8 c9;dsimp only at *;generalize Et n.keep AC.AH=w at *;generalize Ha n.BL _=S at *;simp only[AN]at c4 c5 c6;unfold A6.d A6.A1 AB.A1 Calls.A1 B5.A1 Wi.AE.d Wi.AE.A1 at *;unfold AL.d AL.A1 at *;simp only[zA,zK]at *;refine AP JF ?_ (jT @c1 @c2 @c3 @c4 @c5 @c6 @c10) [(1,3)];with_reducible repeat' first|constructor|intro hc
   exact BO @AN.eq_1
end Nd
end Go.Proofs.YthlmmkmeoblbhaaGreat
