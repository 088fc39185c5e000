/- Part 22 of a proof. Conditions: those that its theorems state. -/
import Derived.Test.YtamjpnmjpponpaaGreatDoorC20
import Derived.Test.YtamjpnmjpponpaaGreatDoorC21
set_option linter.unusedSimpArgs false
set_option linter.unusedVariables false
set_option maxHeartbeats 40000000
set_option maxRecDepth 4000
namespace Go.Proofs.YtamjpnmjpponpaaGreatDoor
namespace Nd
open Go.Gar
open Wi (AF BV B7 AU Bp mC)
abbrev OV:BF:=[0,1,2,3,4,5,6,9,12,13,14,15,22,23,31,32,52,55,73]
abbrev WH:BF:=[0,1,2,5,6,7,8,9,17]
theorem XP(Bd:Int)(l:List AF):yT 276 [.yQ Bd,.d (CB l)] [] (.fn (.func 326) [] [.ptr 1 0 1,.ptr 0 0 1]) [.c [.yQ Bd],.c [.d (CB l)]]:=by
 refine zD AE Tryz.func276 ?_;refine A9 [0,1,2,3,4] ?_;exact wE
abbrev mX(x:AF):yr:=[.yQ x.AN,.yO x.Ae,.yO x.B8,.yO x.dst,.yO x.AI,.yP x.BA,.yP x.done,.yO x.AP,.yO x.AH,.yV x.AB,.yU x.AC.AI,.yO x.AC.B4,.yO x.AC.AZ,.yP x.AC.gone,.yO x.Aa]
abbrev HE(w:Int)(l:List AF):List (AF×Int):=l.map fun m=>(m,w)
theorem mB(n:AA)(x:D)(k:Nat)(h:k=BP x):AM.G8 5 x (.c (hC n (.sl 5 k 16)))= .c (hC n (.d x)):=by
 have e:AV.G8 5 x (.sl 5 k 16)= .d x:=by simp[AV.G8,h]
 show AM.c (AV.IM 5 x (hC n (.sl 5 k 16)))=_;rw[Kv];show AM.c (hC n (AV.G8 5 x (.sl 5 k 16)))=AM.c (hC n (.d x));rw[e]
abbrev gH(n:AA)(j:B9)(w:Int)(l:List AF)(a:List (AF×Int)):z6:=[.c (hC n (.sl 5 a.length 16)),.c [.ptr 0 0 77],.c (Tb j (.yV j.left)),.c [.yQ w],.c [.d (CB l)],.a (BS a)]
theorem cq(n N:AA)(i j:B9)(w:Int)(o:Nat)(ended own:Bool)(l:List AF)(k:List AS)(hl:l.length<=100000)(hw:w≠5)(c1:yT 224 [.ptr 0 0 77,.yQ w] [.c (hC n .e0)] (.ptr 0 o 77) [.c (hC n .e0)])
  (ho:(o=42/\N={n with keep:=k,AX:=i})\/(o=57/\N={n with keep:=k,AW:=i})) (hown:(own=true/\EK n.keep j=(k,i)/\n.keep.length<=1048576/\0<=j.AC.AI.length)\/(own=false/\i=j/\k=n.keep)):
  yT 226 [.ptr 0 0 77,.yQ w,.yP ended,.d j.d,.d (CB l),.yP own] [.c (hC n .e0)] (.tup []) [.c (hC N (.d (BS (HE w l))))]:=by
 have c3:=XP w l;have f5:=eq_false' hw;have c2:=c1;rcases hown with⟨rfl,hT,hn,hs⟩|⟨rfl,rfl,rfl⟩<;>rcases ho with⟨rfl,hN⟩|⟨rfl,hN⟩
 any_goals (have c2:=eG n j hn hs;rw[hT]at c2;dsimp only at c2)
 all_goals
  refine zD AE Tryz.func226 ?_;unfold hC B9.d B9.A4 at *;refine Ax OV ?_ (WA [0] c1 [0,2] c2 [] c3);refine BG (A8.ES 0 76 (.sl 16 []) rfl rfl rfl rfl (by simp[BM])) sm ?_;refine zG (K:=fun r _ H'=>H'=gH N i w l (HE w l)++[.lp r]) ?_ ?_
  .intro r hr;have hk:=hr.ok (k:=6) rfl
   have hY:∀(x:AF)(a:List (AF×Int)),a.length<=1000000->YT Tryz.prog 6 [.d (.agg (HG (x,w)))] (gH N i w l a++[.lp r,.c (mX x)]) fun v K=>v= .yP true/\K=gH N i w l (a++[(x,w)])++[.lp r,.c (mX x)]:=by
    intro x a ha;refine Ar hr rfl rfl rfl ?_;unfold HG mX;unfold gH hC;simp only[zY,zZ];refine A9 OV ?_;refine zR ?_;refine A9 OV ?_ [(0,6),(1,6),(2,6),(3,6),(4,6),(0,7)];refine⟨⟨[],[.c (hC N (.sl 5 (a++[(x,w)]).length 16)),.c [.ptr 0 0 77],.c (Tb i (.yV i.left)),.c [.yQ w],.c [.d (CB l)],.a (BS (a++[(x,w)])),.lp r.busy,.c (mX x)],_⟩,(have nC:=zh @BS.eq_1 @HG.eq_1;A8.cn rfl),zN _,rfl,rfl,rfl⟩
   refine zT AE Tryz.func326 ?_;refine A9 WH ?_;refine CM (fun k:Nat=>k<=l.length) (fun k:Nat=>[(8,.yO k)]) (fun k=>[(0,.c (hC N (.sl 5 (HE w (l.take k)).length 16))),(5,.a (BS (HE w (l.take k))))]) (fun k=>l.length-k) 0 (zi _) (fun _=>rfl) (fun _=>rfl) ?_ ?_
   .subst hN;exact A8.ck rfl
   intro k0 hk0
   by_cases hkl:k0<l.length
   .obtain⟨x,hx⟩:=Ah hkl;have hy:=hY x (HE w (l.take k0)) (by rw[q08,q0D];omega)
    have e1:HE w (l.take k0)++[(x,w)]=HE w (l.take (k0+1)):=by
     rw[AY hx];simp[HE]
    rw[e1]at hy;unfold gH HG mX at hy;simp only[zY,zZ]at hy;have ix1:=hx;have q1:=@hy;refine A9 WH ?_;clear q1 ix1;with_reducible repeat' first|constructor|intro hc
    refine⟨k0+1,hkl,om,zN _,?_⟩;exact A8.ck rfl
   .have e:k0=l.length:=om
    subst e;rw[q06];refine A9 WH ?_;with_reducible repeat' first|constructor|intro hc
    exact⟨_,A8.refl _,zN _,_,_,rfl,rfl,rfl⟩
  .rintro r hr x H' rfl;refine .inl ⟨rfl,?_⟩;refine A9 OV ?_ [] [9];unfold gH;simp only[zY,zZ];refine BG (A8.freeze 5 (x:=BS (HE w l)) rfl) (by rw[Fs];exact zN _) ?_;unfold hC at *;simp only[S8,F8];simp only[AM.G8,AV.G8,AV.IM,PM,Nat.reduceEqDiff,Nat.reduceAdd,decide_true,decide_false,BP,q02,q0B,q08,q0X,q0U,reduceCtorEq];refine Aj OV ?_ (AK f5);with_reducible repeat' first|constructor|intro hc
   refine wE ?_;exact A8.cut rfl trivial ⟨.inr (mB _ _ _ (by simp[BP])).symm,trivial⟩ rfl rfl
abbrev TZ:AV:=.fn (.func 248) [] [.ptr 0 0 77,.ptr 1 0 15]
abbrev Jv:AV:=.fn (.func 250) [] [.ptr 0 0 77,.ptr 1 0 15]
theorem Zq(n:AA)(m:AF)(w:Int):yT 312 [.yQ w,.ptr 3 0 1,.ptr 2 0 1] ([.c (hC n .e0),.c (mX m),.c [.ptr 0 0 77],.c [Jv]]) (.fn (.func 313) [] [.ptr 3 0 1,.ptr 4 0 1,.ptr 2 0 1]) ([.c (hC n .e0),.c (mX m),.c [.ptr 0 0 77],.c [Jv],.c [.yQ w]]):=by
 refine zD AE Tryz.func312 ?_;refine A9 [0,1,2,3,4] ?_;exact wE
abbrev Zp:z7:=[(.i .u8 1,TZ),(.i .u8 2,TZ),(.i .u8 3,TZ),(.i .u8 5,.fn (.func 313) [] [.ptr 3 0 1,.ptr 5 0 1,.ptr 2 0 1]),(.i .u8 6,.fn (.func 313) [] [.ptr 3 0 1,.ptr 6 0 1,.ptr 2 0 1]),(.i .u8 7,.fn (.func 313) [] [.ptr 3 0 1,.ptr 7 0 1,.ptr 2 0 1])]
theorem HZ(n:AA)(m:AF):yT 252 [.ptr 0 0 77,TZ,Jv] ([.c (hC n .e0),.c (mX m)]) (.mp 4) ([.c (hC n .e0),.c (mX m),.c [.ptr 0 0 77],.c [Jv],.m Zp,.c [.yQ 5],.c [.yQ 6],.c [.yQ 7]]):=by
 have c5:=Zq n m 5;have c6:=Zq n m 6;have c7:=Zq n m 7;refine zD AE Tryz.func252 ?_;refine Ax [0,1,2,3,5,6,7] ?_ (WA [0,1,2,3] c5 [0,1,2,3] c6 [0,1,2,3] c7);exact wE
abbrev SL:AV:=.fn (.func 332) [] [.ptr 0 0 77,.ptr 1 0 1]
abbrev JL:AV:=.fn (.func 334) [] [.ptr 0 0 77,.ptr 1 0 1]
theorem aK(n:AA)(d:Int)(w:Int):yT 312 [.yQ w,.ptr 3 0 1,.ptr 2 0 1] ([.c (hC n .e0),.c ([.yO d]),.c [.ptr 0 0 77],.c [JL]]) (.fn (.func 313) [] [.ptr 3 0 1,.ptr 4 0 1,.ptr 2 0 1]) ([.c (hC n .e0),.c ([.yO d]),.c [.ptr 0 0 77],.c [JL],.c [.yQ w]]):=by
 refine zD AE Tryz.func312 ?_;refine A9 [0,1,2,3,4] ?_;exact wE
abbrev Xh:z7:=[(.i .u8 1,SL),(.i .u8 2,SL),(.i .u8 3,SL),(.i .u8 5,.fn (.func 313) [] [.ptr 3 0 1,.ptr 5 0 1,.ptr 2 0 1]),(.i .u8 6,.fn (.func 313) [] [.ptr 3 0 1,.ptr 6 0 1,.ptr 2 0 1]),(.i .u8 7,.fn (.func 313) [] [.ptr 3 0 1,.ptr 7 0 1,.ptr 2 0 1])]
theorem GK(n:AA)(d:Int):yT 252 [.ptr 0 0 77,SL,JL] ([.c (hC n .e0),.c ([.yO d])]) (.mp 4) ([.c (hC n .e0),.c ([.yO d]),.c [.ptr 0 0 77],.c [JL],.m Xh,.c [.yQ 5],.c [.yQ 6],.c [.yQ 7]]):=by
 have c5:=aK n d 5;have c6:=aK n d 6;have c7:=aK n d 7;refine zD AE Tryz.func252 ?_;refine Ax [0,1,2,3,5,6,7] ?_ (WA [0,1,2,3] c5 [0,1,2,3] c6 [0,1,2,3] c7);exact wE
abbrev Kj:AV:=.fn (.func 318) [] [.ptr 0 0 77]
abbrev Gj:AV:=.fn (.func 319) [] [.ptr 0 0 77]
theorem ZE(n:AA)  (w:Int):yT 312 [.yQ w,.ptr 2 0 1,.ptr 1 0 1] ([.c (hC n .e0),.c [.ptr 0 0 77],.c [Gj]]) (.fn (.func 313) [] [.ptr 2 0 1,.ptr 3 0 1,.ptr 1 0 1]) ([.c (hC n .e0),.c [.ptr 0 0 77],.c [Gj],.c [.yQ w]]):=by
 refine zD AE Tryz.func312 ?_;refine A9 [0,1,2,3,4] ?_;exact wE
abbrev NK:z7:=[(.i .u8 1,Kj),(.i .u8 2,Kj),(.i .u8 3,Kj),(.i .u8 5,.fn (.func 313) [] [.ptr 2 0 1,.ptr 4 0 1,.ptr 1 0 1]),(.i .u8 6,.fn (.func 313) [] [.ptr 2 0 1,.ptr 5 0 1,.ptr 1 0 1]),(.i .u8 7,.fn (.func 313) [] [.ptr 2 0 1,.ptr 6 0 1,.ptr 1 0 1])]
theorem DI(n:AA)  :yT 252 [.ptr 0 0 77,Kj,Gj] ([.c (hC n .e0)]) (.mp 3) ([.c (hC n .e0),.c [.ptr 0 0 77],.c [Gj],.m NK,.c [.yQ 5],.c [.yQ 6],.c [.yQ 7]]):=by
 have c5:=ZE n  5;have c6:=ZE n  6;have c7:=ZE n  7;refine zD AE Tryz.func252 ?_;refine Ax [0,1,2,3,5,6,7] ?_ (WA [0,1,2] c5 [0,1,2] c6 [0,1,2] c7);exact wE
abbrev Gg:BF:=[0,1,2,3,4,5,6,9,12,13,14,15,22,23,31,32,52,55,73]
abbrev WI:BF:=[0,1,2,5,6,7,8,9,17]
theorem mA(n:AA)(x:D){k:Nat}(h:k=BP x):AM.c (hC n (.d x))=AM.G8 5 x (.c (hC n (.sl 5 k 16))):=(mB n x k h).symm
theorem mJ(n:AA)(i j:B9)(ended own:Bool)(l:List AF)(k:List AS)(hl:l.length<=100000)(hx0:0<=n.next)(hx1:n.next<16)(hb1:n.A7.A6.length<=1000)(hb2:n.A7.AB.length<=1000)(hown:(own=true/\EK n.keep j=(k,i)/\n.keep.length<=1048576/\0<=j.AC.AI.length)\/(own=false/\i=j/\k=n.keep)):
  yT 226 [.ptr 0 0 77,.yQ 5,.yP ended,.d j.d,.d (CB l),.yP own] [.c (hC n .e0)] (.tup []) [.c (hC (if ended=false/\i.A5=5 then I0 {n with keep:=k,AQ:=i}else{n with keep:=k,AQ:=i}) (.d (BS (HE 5 l))))]:=by
 have c1:=JR n;have c3:=XP 5 l;have c2:=c1;rcases hown with⟨rfl,hT,hn,hs⟩|⟨rfl,rfl,hk⟩
 case' inl=>have c2:=eG n j hn hs;rw[hT]at c2;dsimp only at c2
 case' inr=>obtain⟨n,rfl⟩:∃n0:AA,n={n0 with keep:=k}:=⟨n,by rw[hk]⟩
 all_goals
  refine zD AE Tryz.func226 ?_;obtain⟨N,hN⟩:∃N:AA,N={n with keep:=k,AQ:=i}:=⟨_,rfl⟩;rw[<-hN];unfold hC B9.d B9.A4 at*
  try dsimp only at*
  refine Ax Gg ?_ (WA [0] c1 [0,2] c2 [] c3);refine BG (A8.ES 0 76 (.sl 16 []) rfl rfl rfl rfl (by simp[BM])) sm ?_;refine zG (K:=fun r _ H'=>H'=gH N i 5 l (HE 5 l)++[.lp r]) ?_ ?_
  .intro r hr;have hk:=hr.ok (k:=6) rfl
   have hY:∀(x:AF)(a:List (AF×Int)),a.length<=1000000->YT Tryz.prog 6 [.d (.agg (HG (x,5)))] (gH N i 5 l a++[.lp r,.c (mX x)]) fun v K=>v= .yP true/\K=gH N i 5 l (a++[(x,5)])++[.lp r,.c (mX x)]:=by
    intro x a ha;refine Ar hr rfl rfl rfl ?_;unfold HG mX;unfold gH hC;simp only[zY,zZ];refine A9 Gg ?_;refine zR ?_;refine A9 Gg ?_ [(0,6),(1,6),(2,6),(3,6),(4,6),(0,7)];refine⟨⟨[],[.c (hC N (.sl 5 (a++[(x,5)]).length 16)),.c [.ptr 0 0 77],.c (Tb i (.yV i.left)),.c [.yQ 5],.c [.d (CB l)],.a (BS (a++[(x,5)])),.lp r.busy,.c (mX x)],_⟩,(have nC:=zh @BS.eq_1 @HG.eq_1;A8.cn rfl),zN _,rfl,rfl,rfl⟩
   refine zT AE Tryz.func326 ?_;refine A9 WI ?_;refine CM (fun k:Nat=>k<=l.length) (fun k:Nat=>[(8,.yO k)]) (fun k=>[(0,.c (hC N (.sl 5 (HE 5 (l.take k)).length 16))),(5,.a (BS (HE 5 (l.take k))))]) (fun k=>l.length-k) 0 (zi _) (fun _=>rfl) (fun _=>rfl) ?_ ?_
   .subst hN;exact A8.ck rfl
   intro k0 hk0
   by_cases hkl:k0<l.length
   .obtain⟨x,hx⟩:=Ah hkl;have hy:=hY x (HE 5 (l.take k0)) (by rw[q08,q0D];omega)
    have e1:HE 5 (l.take k0)++[(x,5)]=HE 5 (l.take (k0+1)):=by
     rw[AY hx];simp[HE]
    rw[e1]at hy;unfold gH HG mX at hy;simp only[zY,zZ]at hy;have ix1:=hx;have q1:=@hy;refine A9 WI ?_;clear q1 ix1;with_reducible repeat' first|constructor|intro hc
    refine⟨k0+1,hkl,om,zN _,?_⟩;exact A8.ck rfl
   .have e:k0=l.length:=om
    subst e;rw[q06];refine A9 WI ?_;with_reducible repeat' first|constructor|intro hc
    exact⟨_,A8.refl _,zN _,_,_,rfl,rfl,rfl⟩
  .rintro r hr x H' rfl;refine .inl ⟨rfl,?_⟩;unfold gH hC;simp only[zY,zZ];have hv:=qh n.A7 n.next i.Ao hb1 hb2;unfold AG.d AG.A4 at hv;subst hN;dsimp only
   cases ended with
   |true=>
    refine A9 Gg ?_;refine wE ?_;exact A8.trans' (A8.freeze 5 (x:=BS (HE 5 l)) rfl) (A8.cut rfl trivial ⟨.inr (mA _ _ (by simp[BP])),trivial⟩ rfl rfl) yR
   |false=>
    by_cases h5:i.A5=5
    .have f5:=AT h5;rw[zn ⟨rfl,h5⟩]
     by_cases hc:i.Aa=0
     .have fc:=AT hc
      have hg:I0 {n with keep:=k,AQ:=i}={ {n with keep:=k,AQ:=i}with A7:=(NX n.A7 n.next i.Ao).1,next:=(n.next+1).tmod 16}:=by
       unfold I0;dsimp only;rw[zn hc]
      rw[hg]
      have hq:(NX n.A7 n.next i.Ao).2=0\/((NX n.A7 n.next i.Ao).1=n.A7/\(NX n.A7 n.next i.Ao).2=2):=by
       unfold NX;split
       .exact .inl rfl
       .exact .inr ⟨rfl,rfl⟩
      generalize NX n.A7 n.next i.Ao=q at *;obtain⟨qv,qe⟩:=q;dsimp only at hv hq|-;rcases hq with rfl|⟨rfl,rfl⟩
      .refine AJ Gg ?_ (Au f5 fc) (AK @hv) [(0,16),(1,16),(2,16),(3,16),(4,16),(5,16),(6,16),(7,16),(8,16),(9,16),(10,16),(11,16),(15,17)] [12];with_reducible repeat' first|constructor|intro hc
       refine A9 Gg ?_;refine wE ?_;exact A8.trans' (A8.freeze 5 (x:=BS (HE 5 l)) rfl) (A8.cut rfl trivial ⟨.inr (mA {n with keep:=k,AQ:=i,A7:=qv,next:=(n.next+1).tmod 16} (BS (HE 5 l)) (by simp[BP])),trivial⟩ rfl rfl) yR
      .refine AJ Gg ?_ (Au f5 fc) (AK @hv) [(0,16),(1,16),(2,16),(3,16),(4,16),(5,16),(6,16),(7,16),(8,16),(9,16),(10,16),(11,16),(15,17)] [12];with_reducible repeat' first|constructor|intro hc
       refine A9 Gg ?_;refine wE ?_;exact A8.trans' (A8.freeze 5 (x:=BS (HE 5 l)) rfl) (A8.cut rfl trivial ⟨.inr (mA {n with keep:=k,AQ:=i,next:=(n.next+1).tmod 16} (BS (HE 5 l)) (by simp[BP])),trivial⟩ rfl rfl) yR
     .have fc:=eq_false' hc
      have hg:I0 {n with keep:=k,AQ:=i}={ {n with keep:=k,AQ:=i}with next:=(n.next+1).tmod 16}:=by
       unfold I0;dsimp only;rw[zx hc]
      rw[hg];dsimp only;refine Aj Gg ?_ (Au f5 fc);with_reducible repeat' first|constructor|intro hc
      refine wE ?_;exact A8.trans' (A8.freeze 5 (x:=BS (HE 5 l)) rfl) (A8.cut rfl trivial ⟨.inr (mA {n with keep:=k,AQ:=i,next:=(n.next+1).tmod 16} (BS (HE 5 l)) (by simp[BP])),trivial⟩ rfl rfl) yR
    .have f5:=eq_false' h5;rw[zx (fun h=>h5 h.2)];refine Aj Gg ?_ (AK f5);with_reducible repeat' first|constructor|intro hc
     refine wE ?_;exact A8.trans' (A8.freeze 5 (x:=BS (HE 5 l)) rfl) (A8.cut rfl trivial ⟨.inr (mA _ _ (by simp[BP])),trivial⟩ rfl rfl) yR
theorem LW(n:AA)(w:Int)(ended:Bool)(c:JC)(hw:w=5\/w=6\/w=7)(hl:c.BY.length<=100000)(hx0:0<=n.next)(hx1:n.next<16)(hb1:n.A7.A6.length<=1000)(hb2:n.A7.AB.length<=1000)(hn:n.keep.length<=1048576)(hs:0<=c.job.AC.AI.length):yT 226 [.ptr 0 0 77,.yQ w,.yP ended,.d c.job.d,.d (CB c.BY),.yP c.own] [.c (hC n .e0)] (.tup []) [.c (hC (B5 n w ended c).1 (.d (BS (B5 n w ended c).2)))]:=by
 obtain⟨j,l,own⟩:=c;dsimp only at hl hs|-
 cases own with
 |true=>
  obtain⟨k,i,hT⟩:∃k i,EK n.keep j=(k,i):=⟨_,_,rfl⟩;rcases hw with rfl|rfl|rfl
  .have:=mJ n i j ended true l k hl hx0 hx1 hb1 hb2 (.inl ⟨rfl,hT,hn,hs⟩)
   by_cases hE:ended=false/\i.A5=5
   .rw[zn hE]at this;unfold B5;simp only[q0X,hT];rw[zn (show True/\ended=false/\i.A5=5 from⟨trivial,hE⟩)];exact this
   .rw[zx hE]at this;unfold B5;simp only[q0X,hT];rw[zx (show ¬(True/\ended=false/\i.A5=5)from fun h=>hE h.2)];exact this
  .have:=cq n _ i j 6 42 ended true l k hl (by decide) (I9 n) (.inl ⟨rfl,rfl⟩) (.inl ⟨rfl,hT,hn,hs⟩);unfold B5;simp only[q0X,hT];rw[zx (fun h=>absurd h.1 (by decide))];exact this
  .have:=cq n _ i j 7 57 ended true l k hl (by decide) (IA n) (.inr ⟨rfl,rfl⟩) (.inl ⟨rfl,hT,hn,hs⟩);unfold B5;simp only[q0X,hT];rw[zx (fun h=>absurd h.1 (by decide))];exact this
 |false=>
  rcases hw with rfl|rfl|rfl
  .have:=mJ n j j ended false l n.keep hl hx0 hx1 hb1 hb2 (.inr ⟨rfl,rfl,rfl⟩)
   by_cases hE:ended=false/\j.A5=5
   .rw[zn hE]at this;unfold B5;simp only[q0E,q0U];rw[zn (show True/\ended=false/\j.A5=5 from⟨trivial,hE⟩)];exact this
   .rw[zx hE]at this;unfold B5;simp only[q0E,q0U];rw[zx (show ¬(True/\ended=false/\j.A5=5)from fun h=>hE h.2)];exact this
  .have:=cq n _ j j 6 42 ended false l n.keep hl (by decide) (I9 n) (.inl ⟨rfl,rfl⟩) (.inr ⟨rfl,rfl,rfl⟩);unfold B5;simp only[q0E,q0U];rw[zx (fun h=>absurd h.1 (by decide))];exact this
  .have:=cq n _ j j 7 57 ended false l n.keep hl (by decide) (IA n) (.inr ⟨rfl,rfl⟩) (.inr ⟨rfl,rfl,rfl⟩);unfold B5;simp only[q0E,q0U];rw[zx (fun h=>absurd h.1 (by decide))];exact this
end Nd
end Go.Proofs.YtamjpnmjpponpaaGreatDoor
namespace Go.Proofs.YtamjpnmjpponpaaGreatDoor
namespace Wi
open Go.Gar
def Sf(k:Int):Nat:=if k=4 then 345 else if k=5 then 347 else if k=6 then 349 else if k=7 then 351 else if k=10 then 353 else if k=11 then 354 else 355
theorem re(m:AF)(b:AL)(hb:b.length<70368744177664)(h:JQ m b=none):MZ Tryz.prog (Sf m.AN) [.ptr 0 0 1,.ptr 1 0 1] (gH m b) (pF 12) gX:=by
 unfold JQ at h;unfold Sf
 by_cases h4:m.AN=4
 .rw[zn h4]at h|-;split at h
  .rename_i h1;exact vG m b hb h1
  .rename_i n b1 h1;split at h
   .rename_i h2;exact vH m b hb n b1 h1 h2
   .cases h
 rw[zx h4]at h|-
 by_cases h5:m.AN=5
 .rw[zn h5]at h|-;split at h
  .rename_i h1;exact vI m b hb h1
  .cases h
 rw[zx h5]at h|-
 by_cases h6:m.AN=6
 .rw[zn h6]at h|-;split at h
  .rename_i h1;exact vJ m b hb h1
  .cases h
 rw[zx h6]at h|-
 by_cases h7:m.AN=7
 .rw[zn h7]at h|-;split at h
  .rename_i h1;exact vK m b hb h1
  .rename_i n b1 h1;split at h
   .rename_i h2;exact vL m b hb n b1 h1 h2
   .cases h
 rw[zx h7]at h|-
 by_cases h10:m.AN=10
 .rw[zn h10]at h|-;split at h
  .rename_i h1;exact vM m b hb h1
  .rename_i n b1 h1;split at h
   .rename_i h2;exact vN m b hb n b1 h1 h2
   .cases h
 rw[zx h10]at h|-
 by_cases h11:m.AN=11
 .rw[zn h11]at h|-;split at h
  .rename_i h1;exact vO m b hb h1
  .cases h
 rw[zx h11]at h|-;split at h
 .split at h
  .rename_i h1;exact vP m b hb h1
  .rename_i n b1 h1;split at h
   .rename_i hn;subst hn;split at h
    .rename_i h2;exact vQ m b hb b1 h1 h2
    .cases h
   .cases h
 .cases h
def special(k:Int):Prop:=k=4\/k=5\/k=6\/k=7\/k=10\/k=11\/k=12
theorem dU(m:AF)(b:AL)(hb:b.length<70368744177664)(m':AF)(r:AL)(h:JQ m b=some (m',r))(hs:special m.AN):yT (Sf m.AN) [.ptr 0 0 1,.ptr 1 0 1] (gH m b) (.tup []) (gH m' r):=by
 unfold JQ at h;unfold Sf
 by_cases h4:m.AN=4
 .rw[zn h4]at h|-;split at h
  .cases h
  .rename_i n b1 h1;split at h
   .cases h
   .rename_i g b2 h2;cases h;exact xr m b hb n b1 h1 g _ h2
 rw[zx h4]at h|-
 by_cases h5:m.AN=5
 .rw[zn h5]at h|-;split at h
  .cases h
  .rename_i x b1 h1;cases h;exact xu m b hb x _ h1
 rw[zx h5]at h|-
 by_cases h6:m.AN=6
 .rw[zn h6]at h|-;split at h
  .cases h
  .rename_i s b1 h1;cases h;exact xw m b hb s _ h1
 rw[zx h6]at h|-
 by_cases h7:m.AN=7
 .rw[zn h7]at h|-;split at h
  .cases h
  .rename_i n b1 h1;split at h
   .cases h
   .rename_i l b2 h2;cases h;exact xx m b hb n b1 h1 l _ h2
 rw[zx h7]at h|-
 by_cases h10:m.AN=10
 .rw[zn h10]at h|-;split at h
  .cases h
  .rename_i n b1 h1;split at h
   .cases h
   .rename_i g b2 h2;cases h;exact xy m b hb n b1 h1 g _ h2
 rw[zx h10]at h|-
 by_cases h11:m.AN=11
 .rw[zn h11]at h|-;split at h
  .cases h
  .rename_i n b1 h1;cases h;exact xz m b hb n _ h1
 rw[zx h11]at h|-;have h12:m.AN=12:=by unfold special at hs;omega
 rw[zn h12]at h;split at h
 .cases h
 .rename_i n b1 h1;split at h
  .rename_i hn;subst hn;split at h
   .cases h
   .rename_i x b2 h2;cases h;exact vR m b hb b1 h1 x _ h2
  .rename_i hn;cases h;exact y3 m b hb n _ h1 hn
theorem L5(m:AF)(b:AL)(hs:¬special m.AN):JQ m b=some (m,b):=by
 unfold special at hs;unfold JQ;rw[zx om,zx om,zx om,zx om,zx om,zx om,zx om]
def aQ:z7:=[(.i .u8 4,.fn (.func 345) [] [.ptr 3 0 1,.ptr 2 0 1]),(.i .u8 5,.fn (.func 347) [] [.ptr 3 0 1,.ptr 2 0 1]),(.i .u8 6,.fn (.func 349) [] [.ptr 3 0 1,.ptr 2 0 1]),(.i .u8 7,.fn (.func 351) [] [.ptr 3 0 1,.ptr 2 0 1]),
 (.i .u8 10,.fn (.func 353) [] [.ptr 3 0 1,.ptr 2 0 1]),(.i .u8 11,.fn (.func 354) [] [.ptr 3 0 1,.ptr 2 0 1]),(.i .u8 12,.fn (.func 355) [] [.ptr 3 0 1,.ptr 2 0 1])]
theorem PY(m:AF)(b:AL):yT 292 [.ptr 0 0 15,.ptr 1 0 1] [.c (mC m),.c [.d (.by b)]] (.mp 4) [.c (mC m),.c [.d (.by b)],.c [.ptr 0 0 15],.c [.ptr 1 0 1],.m aQ]:=by
 refine zD AE Tryz.func292 ?_;unfold aQ mC;refine A9 [0,1,2,3,4] ?_;exact wE
theorem Tn(H:z6):WR Tryz.prog 289 [.ptr 0 0 15,.ptr 1 0 1] H .returning H:=by
 refine LM Tryz.func289 rfl rfl yR fun c0 cs hu=> ?_;refine Kg (LP ?_)
 refine pg rfl rfl rfl rfl (.inl ⟨by simp[recoverD,hu],rfl,rfl⟩) ?_;refine Sq AE rfl rfl rfl rfl ?_ rfl;refine QS ?_;refine Kg (GE ?_);refine Kq AE rfl rfl rfl rfl ?_ rfl;refine Kn AE rfl rfl rfl rfl ?_;refine EC ?_;refine QQ rfl (bY ?_);exact⟨.returning,by rw[<-hu],rfl,_,A8.refl _,zN _,rfl⟩
def zC:yr:=[.yQ 0,.yO 0,.yO 0,.yO 0,.yO 0,.yP false,.yP false,.yO 0,.yO 0,.e0,.yU ([]),.yO 0,.yO 0,.yP false,.yO 0]
theorem GD(c0 c1 c2 c3 c4 c5 c6 c7 c8 c9 c10 c11 c12 c13 c14 y:AV)(R:z6)(n:Int):WR Tryz.prog 289 [.ptr 0 0 15,.ptr 1 0 1] (.c [c0,c1,c2,c3,c4,c5,c6,c7,c8,c9,c10,c11,c12,c13,c14]:: .c [y]::R) (.panicking (pF n)) (.c zC:: .c [.yO n]::R):=by
 have hc:=X0 n 12;refine LM Tryz.func289 rfl rfl yR fun c0 cs hu=> ?_
 refine Kg (LP ?_);refine pg (cs':={c0 with mode:=.panicking [{v:=.iface 316 (.agg #[.int .i64 n]),recovered:=true}]}::cs) rfl rfl rfl rfl (.inr ⟨316,.agg #[.int .i64 n],by simp[recoverD,hu,pF],rfl⟩) ?_;refine Sq AE rfl rfl rfl rfl ?_ rfl;refine QS ?_;refine Kg (GE ?_);refine Kq AE rfl rfl rfl rfl ?_ rfl;refine Kn AE rfl rfl rfl rfl ?_;refine EC ?_;refine QQ rfl (GE ?_);refine Kq AE rfl rfl rfl rfl ?_ rfl;refine Kq AE rfl rfl rfl rfl ?_ rfl;refine KF hc rfl rfl rfl rfl (by simp[Oe,Ec,Cw]) rfl rfl ?_;refine Kw AE rfl rfl rfl rfl ?_ rfl;refine Kw AE rfl rfl rfl rfl ?_ rfl;refine EC ?_;exact⟨_,rfl,rfl,_,A8.refl _,zN _,rfl⟩
abbrev E9:BF:=[0,2,3,4,5,6,10,23,34]
def I6(b:AL):AF×Int:=
 if 46<b.length then(AU,12)else match Ih AU b with
 |none=>(AU,12)
 |some (m,r)=>match JQ m r with
  |none=>(AU,12)
  |some (m',r')=>if r'=[]/\m'.right=true then(m',0)else(AU,12)
theorem KE:∀(k:Nat)(b:AL)(acc:Ai),(HC k b acc).1.length<=k+acc.length/\(HC k b acc).2.1.length<=b.length
 |0,b,acc=>by simp[HC]
 |k+1,b,acc=>by
  simp only[HC];split
  .have ih:=KE k (Cq b).2.1 (acc++[((Cq b).1:Int)]);have hl:=JS b;simp only[q04,q02,q0B]at ih;omega
  .simp
variable {b r:AL}
theorem nh{l:Ai}(h:MU b=some (l,r)):l.length<=255/\r.length<=b.length:=by
 have e:=Sv h;unfold E4 at e;split at e
 .simp at e
 .rename_i m q;have hl:=KE m.toNat q [];rw[e]at hl;have:=m.toNat_lt;simp only[q0B,q02]at hl|-;omega
variable {m:AF}
theorem Sw{m':AF}(h:JQ m b=some (m',r))(hl:m.AB.length<=255):m'.AB.length<=255/\r.length<=b.length:=by
 unfold JQ at h;split at h
 .split at h
  .cases h
  .rename_i n b1 h1;split at h
   .cases h
   .rename_i g b2 h2;have:=Bn h1;have:=PQ h2;cases h;exact⟨hl,om⟩
 split at h
 .split at h
  .cases h
  .rename_i x b1 h1;have:=UN h1;cases h;exact⟨hl,om⟩
 split at h
 .split at h
  .cases h
  .rename_i x b1 h1;have:=Lb h1;cases h;exact⟨hl,om⟩
 split at h
 .split at h
  .cases h
  .rename_i n b1 h1;split at h
   .cases h
   .rename_i g b2 h2;have:=Bn h1;have:=nh h2;cases h;exact⟨this.1,om⟩
 split at h
 .split at h
  .cases h
  .rename_i n b1 h1;split at h
   .cases h
   .rename_i g b2 h2;have:=Bn h1;have:=PQ h2;cases h;exact⟨hl,om⟩
 split at h
 .split at h
  .cases h
  .rename_i n b1 h1;have:=Bn h1;cases h;exact⟨hl,om⟩
 split at h
 .split at h
  .cases h
  .rename_i n b1 h1;have:=Bn h1;split at h
   .split at h
    .cases h
    .rename_i x b2 h2;have:=UN h2;cases h;exact⟨hl,om⟩
   .cases h;exact⟨hl,om⟩
 .cases h;exact⟨hl,om⟩
theorem K8(h:Ih AU b=some (m,r)):0<=m.AN/\m.AN<13/\m.AB=[]:=by
 unfold Ih at h;split at h
 .cases h
 rename_i k b1 h1;split at h
 .cases h
 split at h
 .cases h
 rename_i c b2 h2;split at h
 .cases h
 rename_i s b3 h3;split at h
 .cases h
 rename_i d b4 h4;simp only[zf,zu]at h;obtain⟨rfl,rfl⟩:=h;exact⟨by show(0:Int)<=(k:Int);omega,by show(k:Int)<13;omega,rfl⟩
abbrev iE:AV:=.tup [.ag zC,.yO 12]
abbrev yM:z6:=[.c zC,.c [.yO 12]]
theorem tn(b:AL)(h:46<b.length):yT 240 [.d (.by b)] [] iE yM:=by
 refine Fe (g:=289) (xs:=[.ptr 0 0 15,.ptr 1 0 1]) AE Tryz.func240 rfl rfl yR ?_;refine Ka AE rfl rfl rfl rfl rfl ?_ rfl;refine Ka AE rfl rfl rfl rfl rfl ?_ rfl;refine EC ?_;refine Fq AE rfl rfl rfl rfl ?_ rfl;refine Ep rfl rfl rfl rfl rfl rfl ⟨_,Tryz.func289,rfl,rfl⟩ rfl ?_;refine A9 E9 ?_;with_reducible repeat' first|constructor|intro hc
 refine⟨_,GD _ _ _ _ _ _ _ _ _ _ _ _ _ _ _ _ _ 12,?_⟩;exact wE
theorem tp(b:AL)(hb:b.length<=46)(h:Ih AU b=none):yT 240 [.d (.by b)] [] iE yM:=by
 have c1:=rB AU b om h;unfold hH at c1;simp only[mC,AU,An]at c1;refine Fe (g:=289) (xs:=[.ptr 0 0 15,.ptr 1 0 1]) AE Tryz.func240 rfl rfl yR ?_;refine Ka AE rfl rfl rfl rfl rfl ?_ rfl;refine Ka AE rfl rfl rfl rfl rfl ?_ rfl;refine EC ?_;refine Fq AE rfl rfl rfl rfl ?_ rfl;refine Ep rfl rfl rfl rfl rfl rfl ⟨_,Tryz.func289,rfl,rfl⟩ rfl ?_;refine A9 E9 ?_ [] [5];with_reducible repeat' first|constructor|intro hc
 refine BG (A8.Ux 0 9 (.is []) rfl rfl rfl rfl trivial) sm ?_;have x1:=Ds.mk [2,0] (c1);refine A9 E9 ?_;clear x1;refine⟨_,GD _ _ _ _ _ _ _ _ _ _ _ _ _ _ _ _ _ 12,?_⟩;exact wE
theorem tq(b:AL)(hb:b.length<=46)(m:AF)(r:AL)(h:Ih AU b=some (m,r))(h2:JQ m r=none):yT 240 [.d (.by b)] [] iE yM:=by
 have c1:=VL AU b om m r h;have l1:=PR h;obtain⟨hk1,hk2,hk3⟩:=K8 h;have c2:=PY m r;have c3:=re m r om h2;have hs:special m.AN:=Classical.byContradiction fun hs=>by rw[L5 m r hs]at h2;cases h2
 unfold special at hs;obtain⟨k,c,s,d,ky,sl,dn,pl,pr,l,⟨ik,iv,ir,ig⟩,co⟩:=m;unfold hH at c1;simp only[mC,aQ,AU,An]at *;unfold gH gX at c3;simp only[mC,Sf]at c3;refine Fe (g:=289) (xs:=[.ptr 0 0 15,.ptr 1 0 1]) AE Tryz.func240 rfl rfl yR ?_;refine Ka AE rfl rfl rfl rfl rfl ?_ rfl;refine Ka AE rfl rfl rfl rfl rfl ?_ rfl;refine EC ?_;refine Fq AE rfl rfl rfl rfl ?_ rfl;refine Ep rfl rfl rfl rfl rfl rfl ⟨_,Tryz.func289,rfl,rfl⟩ rfl ?_;refine A9 E9 ?_ [] [5];with_reducible repeat' first|constructor|intro hc
 refine BG (A8.Ux 0 9 (.is []) rfl rfl rfl rfl trivial) sm ?_;clear h h2;rcases hs with rfl|rfl|rfl|rfl|rfl|rfl|rfl
 all_goals(
  simp only[Int.reduceEq,q0X,q0U]at c3;have x1:=Ds.mk [4,3,0,2] (c3);refine Ax E9 ?_ (H0 [2,0] c1 [0,2] c2) [(1,0),(2,0)];clear x1;refine⟨_,GD _ _ _ _ _ _ _ _ _ _ _ _ _ _ _ _ _ 12,?_⟩
  exact wE )
theorem tx(b:AL)(hb:b.length<=46)(m m':AF)(r r':AL)(h:Ih AU b=some (m,r))(h2:JQ m r=some (m',r'))(h3:¬(r'=[]/\m'.right=true)):yT 240 [.d (.by b)] [] iE yM:=by
 have c1:=VL AU b om m r h;have l1:=PR h;obtain⟨hk1,hk2,hk3⟩:=K8 h;have c2:=PY m r;have hl:=Sw h2 (by rw[hk3];simp);have cR:=Ct m' om
 by_cases hs:special m.AN
 .have c3:=dU m r om m' r' h2 hs;unfold special at hs;obtain⟨k,c,s,d,ky,sl,dn,pl,pr,l,⟨ik,iv,ir,ig⟩,co⟩:=m;obtain⟨k',c',s',d',ky',sl',dn',pl',pr',l',⟨ik',iv',ir',ig'⟩,co'⟩:=m';unfold hH at c1;unfold gH at c3;unfold AF.d AF.A4 at cR;simp only[mC,aQ,AU,An,Sf]at *;refine Fe (g:=289) (xs:=[.ptr 0 0 15,.ptr 1 0 1]) AE Tryz.func240 rfl rfl yR ?_;refine Ka AE rfl rfl rfl rfl rfl ?_ rfl;refine Ka AE rfl rfl rfl rfl rfl ?_ rfl;refine EC ?_;refine Fq AE rfl rfl rfl rfl ?_ rfl;refine Ep rfl rfl rfl rfl rfl rfl ⟨_,Tryz.func289,rfl,rfl⟩ rfl ?_;refine A9 E9 ?_ [] [5];with_reducible repeat' first|constructor|intro hc
  refine BG (A8.Ux 0 9 (.is []) rfl rfl rfl rfl trivial) sm ?_;clear h h2
  by_cases hr:r'=[]
  .subst hr
   have hR:(AF.mk k' c' s' d' ky' sl' dn' pl' pr' l' ⟨ik',iv',ir',ig'⟩ co').right=false:=by
    cases hq:(AF.mk k' c' s' d' ky' sl' dn' pl' pr' l' ⟨ik',iv',ir',ig'⟩ co').right with
    |false=>rfl
    |true=>exact absurd ⟨rfl,hq⟩ h3
   rw[hR]at cR;rcases hs with rfl|rfl|rfl|rfl|rfl|rfl|rfl
   all_goals(
    simp only[Int.reduceEq,q0X,q0U]at c3;refine B6 E9 ?_ (AK @cR) (WA [2,0] c1 [0,2] c2 [4,3,0,2] c3) [(1,0),(2,0)];refine⟨_,GD _ _ _ _ _ _ _ _ _ _ _ _ _ _ _ _ _ 12,?_⟩
    exact wE )
  .have hpos:0<r'.length:=List.length_pos_iff.2 hr;rcases hs with rfl|rfl|rfl|rfl|rfl|rfl|rfl
   all_goals(
    simp only[Int.reduceEq,q0X,q0U]at c3;refine B6 E9 ?_ (AK @cR) (WA [2,0] c1 [0,2] c2 [4,3,0,2] c3) [(1,0),(2,0)];with_reducible repeat' first|constructor|intro hc
    refine⟨_,GD _ _ _ _ _ _ _ _ _ _ _ _ _ _ _ _ _ 12,?_⟩
    exact wE )
 .rw[L5 m r hs]at h2;simp only[zf,zu]at h2;obtain⟨rfl,rfl⟩:=h2;unfold special at hs;obtain⟨k,c,s,d,ky,sl,dn,pl,pr,l,⟨ik,iv,ir,ig⟩,co⟩:=m;unfold hH at c1;unfold AF.d AF.A4 at cR;simp only[mC,aQ,AU,An]at *;have hs:k=0\/k=1\/k=2\/k=3\/k=8\/k=9:=om
  refine Fe (g:=289) (xs:=[.ptr 0 0 15,.ptr 1 0 1]) AE Tryz.func240 rfl rfl yR ?_;refine Ka AE rfl rfl rfl rfl rfl ?_ rfl;refine Ka AE rfl rfl rfl rfl rfl ?_ rfl;refine EC ?_;refine Fq AE rfl rfl rfl rfl ?_ rfl;refine Ep rfl rfl rfl rfl rfl rfl ⟨_,Tryz.func289,rfl,rfl⟩ rfl ?_;refine A9 E9 ?_ [] [5];with_reducible repeat' first|constructor|intro hc
  refine BG (A8.Ux 0 9 (.is []) rfl rfl rfl rfl trivial) sm ?_;clear h
  by_cases hr:r=[]
  .subst hr
   have hR:(AF.mk k c s d ky sl dn pl pr l ⟨ik,iv,ir,ig⟩ co).right=false:=by
    cases hq:(AF.mk k c s d ky sl dn pl pr l ⟨ik,iv,ir,ig⟩ co).right with
    |false=>rfl
    |true=>exact absurd ⟨rfl,hq⟩ h3
   rw[hR]at cR;rcases hs with rfl|rfl|rfl|rfl|rfl|rfl
   all_goals(
    refine B6 E9 ?_ (AK @cR) (H0 [2,0] c1 [0,2] c2) [(1,0),(2,0)];refine⟨_,GD _ _ _ _ _ _ _ _ _ _ _ _ _ _ _ _ _ 12,?_⟩
    exact wE )
  .have hpos:0<r.length:=List.length_pos_iff.2 hr;rcases hs with rfl|rfl|rfl|rfl|rfl|rfl
   all_goals(
    refine B6 E9 ?_ (AK @cR) (H0 [2,0] c1 [0,2] c2) [(1,0),(2,0)];with_reducible repeat' first|constructor|intro hc
    refine⟨_,GD _ _ _ _ _ _ _ _ _ _ _ _ _ _ _ _ _ 12,?_⟩
    exact wE )
abbrev MD:BF:=[0,2,3,4,5,6,10,23,34]
theorem jW(b:AL)(hb:b.length<=46)(m m':AF)(r:AL)(h:Ih AU b=some (m,r))(h2:JQ m r=some (m',[]))(h3:m'.right=true):yT 240 [.d (.by b)] [] (.tup [.d m'.d,.yO 0]) [.c (mC m'),.c [.yO 0]]:=by
 have c1:=VL AU b om m r h;have l1:=PR h;obtain⟨hk1,hk2,hk3⟩:=K8 h;have c2:=PY m r;have hl:=Sw h2 (by rw[hk3];simp);have cR:=Ct m' om;rw[h3]at cR
 by_cases hs:special m.AN
 .have c3:=dU m r om m' [] h2 hs;unfold special at hs;obtain⟨k,c,s,d,ky,sl,dn,pl,pr,l,⟨ik,iv,ir,ig⟩,co⟩:=m;obtain⟨k',c',s',d',ky',sl',dn',pl',pr',l',⟨ik',iv',ir',ig'⟩,co'⟩:=m';unfold hH at c1;unfold gH at c3;unfold AF.d AF.A4 at cR|-;simp only[mC,aQ,AU,An,Sf]at *;refine Fe (g:=289) (xs:=[.ptr 0 0 15,.ptr 1 0 1]) AE Tryz.func240 rfl rfl yR ?_;refine Ka AE rfl rfl rfl rfl rfl ?_ rfl;refine Ka AE rfl rfl rfl rfl rfl ?_ rfl;refine EC ?_;refine Fq AE rfl rfl rfl rfl ?_ rfl;refine Ep rfl rfl rfl rfl rfl rfl ⟨_,Tryz.func289,rfl,rfl⟩ rfl ?_;refine A9 MD ?_ [] [5];with_reducible repeat' first|constructor|intro hc
  refine BG (A8.Ux 0 9 (.is []) rfl rfl rfl rfl trivial) sm ?_;clear h h2;rcases hs with rfl|rfl|rfl|rfl|rfl|rfl|rfl
  all_goals(
   simp only[Int.reduceEq,q0X,q0U]at c3;refine B6 MD ?_ (AK @cR) (WA [2,0] c1 [0,2] c2 [4,3,0,2] c3) [(1,0),(2,0)];refine⟨_,Tn _,?_⟩
   exact wE )
 .rw[L5 m r hs]at h2;simp only[zf,zu]at h2;obtain⟨rfl,rfl⟩:=h2;unfold special at hs;obtain⟨k,c,s,d,ky,sl,dn,pl,pr,l,⟨ik,iv,ir,ig⟩,co⟩:=m;unfold hH at c1;unfold AF.d AF.A4 at cR|-;simp only[mC,aQ,AU,An]at *;have hs:k=0\/k=1\/k=2\/k=3\/k=8\/k=9:=om
  refine Fe (g:=289) (xs:=[.ptr 0 0 15,.ptr 1 0 1]) AE Tryz.func240 rfl rfl yR ?_;refine Ka AE rfl rfl rfl rfl rfl ?_ rfl;refine Ka AE rfl rfl rfl rfl rfl ?_ rfl;refine EC ?_;refine Fq AE rfl rfl rfl rfl ?_ rfl;refine Ep rfl rfl rfl rfl rfl rfl ⟨_,Tryz.func289,rfl,rfl⟩ rfl ?_;refine A9 MD ?_ [] [5];with_reducible repeat' first|constructor|intro hc
  refine BG (A8.Ux 0 9 (.is []) rfl rfl rfl rfl trivial) sm ?_;clear h;rcases hs with rfl|rfl|rfl|rfl|rfl|rfl
  all_goals(
   refine B6 MD ?_ (AK @cR) (H0 [2,0] c1 [0,2] c2) [(1,0),(2,0)];refine⟨_,Tn _,?_⟩
   exact wE )
theorem Ng{H:z6}:Cw H iE (.tup [AU.d,.yX 12]):=by
 simp[iE,zC,AU,An,AF.d,AF.A4,HM,Kf,CG,Ca,C7,Iv,Bl,BP,BM]
theorem pd(b:AL):yS 240 [.by b] (.tup [(I6 b).1.d,.yX (I6 b).2]):=by
 by_cases h0:46<b.length
 .have e:I6 b=(AU,12):=zn h0;rw[e];exact Ff (ds:=[.by b]) (tn b h0) Ng
 cases h1:Ih AU b with
 |none=>
  have e:I6 b=(AU,12):=by unfold I6;rw[zx h0,h1]
  rw[e];exact Ff (ds:=[.by b]) (tp b om h1) Ng
 |some p=>
 obtain⟨m,r⟩:=p
 cases h2:JQ m r with
 |none=>
  have e:I6 b=(AU,12):=by unfold I6;rw[zx h0,h1];simp only[h2]
  rw[e];exact Ff (ds:=[.by b]) (tq b om m r h1 h2) Ng
 |some p=>
 obtain⟨m',r'⟩:=p
 by_cases h3:r'=[]/\m'.right=true
 .have e:I6 b=(m',0):=by unfold I6;rw[zx h0,h1];simp only[h2];rw[zn h3]
  rw[e];obtain⟨rfl,h4⟩:=h3;refine Ff (ds:=[.by b]) (jW b om m m' r h1 h2 h4) ?_;simp[HM,CG,Ca,C7]
 .have e:I6 b=(AU,12):=by unfold I6;rw[zx h0,h1];simp only[h2];rw[zx h3]
  rw[e];exact Ff (ds:=[.by b]) (tx b om m m' r r' h1 h2 h3) Ng
def Cp(m:AF):AL×Int:=if m.right then Hu (PT m)else([],2)
def Bc(b:AL):AF×Int:=if(CX b).2=0 then I6 (CX b).1 else(AU,(CX b).2)
theorem s6(h:m.right=true):Cp m=((Hu (PT m)).1,0):=by
 have:=nk h;unfold Cp;rw[zn h,Tz om]
theorem tc(m:AF)(hl:m.AB.length<9223372036854775807):yS 245 [m.d] (.tup [.by (Cp m).1,.yX (Cp m).2]):=by
 have hP:=Z2 m hl
 cases h:m.right with
 |false=>
  have e:Cp m=([],2):=by unfold Cp;rw[h];rfl
  have e2:YI m=([],2):=by unfold YI;rw[h];rfl
  rw[e2]at hP;unfold AF.d AF.A4 at *;refine zF AE Tryz.func245 ?_;refine AO [0,1,2,3,4,5,12] ?_ (AK @hP);exact BW e
 |true=>
  have e:Cp m=Hu (PT m):=by unfold Cp;rw[h];rfl
  have e2:YI m=(PT m,0):=by unfold YI;rw[h];rfl
  have hC:=jA (PT m);rw[e2]at hP;unfold AF.d AF.A4 at *;refine zF AE Tryz.func245 ?_;refine AO [0,1,2,3,4,5,12] ?_ (Au @hP @hC);exact BW e
theorem QP(b:AL)(hb:b.length<70368744177664):yS 170 [.by b] (.tup [(Bc b).1.d,.yX (Bc b).2]):=by
 have hO:=pY b hb;refine zF AE Tryz.func170 ?_
 by_cases h:(CX b).2=0
 .have e:Bc b=I6 (CX b).1:=zn h;have hR:=pd (CX b).1;have f:=C8 h;unfold AF.d AF.A4 at *;refine AJ [0,2,3,4,5,12] ?_ (AK f) (Au @hO @hR);exact BW e
 .have e:Bc b=(AU,(CX b).2):=zx h;have f:=CI h;unfold AF.d AF.A4;refine AJ [0,2,3,4,5,12] ?_ (AK f) (AK @hO);exact BW (zh e (zh @AU.eq_1 @An.eq_1))
theorem bR:AU.right=false:=by decide +kernel
end Wi
end Go.Proofs.YtamjpnmjpponpaaGreatDoor
namespace Go.Proofs.YtamjpnmjpponpaaGreatDoor
namespace Nd
open Go.Gar
open Wi (AF BV B7 AU Bp Cp Bc)
abbrev D7:Al:=⟨0,AU,0,0,0,0⟩
def CX(c:Calls)(m:AF)(Bd ref now:Int):Calls×AF×Int:=
 if Bw c then
  (if c.op.length=16\/c.Ad=1048576 then(c,AU,100)
   else
    let q:AF:={m with Ae:=c.id*1048576+(c.Ad+1),B8:=c.id}
    if DG now&&(q.BY&&q.right)then(⟨c.id,c.Ad+1,c.op++[⟨c.id*1048576+(c.Ad+1),q,Bd,ref,now,1⟩]⟩,q,0)else(c,AU,2))
 else(c,AU,2)
def QK(id:Int)(m:AF)(x:Al):Bool:=decide (m.Ae=x.id)&&(decide (m.B8=x.BD.dst)&&(decide (m.dst=id)&&decide (m.AN=x.BD.AN+6)))
def D8(c:Calls)(m:AF):Calls×Al×Bool:=
 if Bw c&&m.right then
  (match c.op.find? (QK c.id m)with
   |some x=>(⟨c.id,c.Ad,c.op.filter fun y=> !QK c.id m y⟩,x,true)
   |none=>(c,D7,false))
 else(c,D7,false)
def MY(BQ:Int):Int:=if BQ<1 then 0 else if BQ=1 then 1 else if BQ=2 then 2 else 4
def DX(now:Int)(x:Al):Bool:=decide (3<=x.BQ)&&decide (now-x.CZ>=MY x.BQ)
def MG(now:Int)(x:Al):Bool:=(decide (1<=x.BQ)&&decide (x.BQ<3))&&decide (now-x.CZ>=MY x.BQ)
def Gv(now:Int)(x:Al):Al:=if MG now x then⟨x.id,x.BD,x.Bd,x.ref,now,x.BQ+1⟩else x
def Ch(c:Calls)(now:Int):Calls×List AF×List Al:=
 if Bw c&&DG now then
  (⟨c.id,c.Ad,(c.op.filter fun x=> !DX now x).map (Gv now)⟩,((c.op.filter fun x=> !DX now x).filter (MG now)).map (·.BD),c.op.filter (DX now))
 else(c,[],[])
def NY(c:Calls)(Bd:Int):Al×Bool:=
 if Bw c then
  (match c.op.find? (fun x=>decide (x.Bd=Bd))with
   |some x=>(x,true)
   |none=>(D7,false))
 else(D7,false)
def Cr(l:List Past)(B8 Ae:Int):AF×Bool:=
 match l.find? (fun p=>decide (p.B8=B8)&&decide (p.Ae=Ae))with
 |some p=>(p.AD,true)
 |none=>(AU,false)
def EB(l:List Past)(AD:AF):List Past:=
 if AD.right&& !AD.BY then
  (if(Cr l AD.dst AD.Ae).2 then l
   else(l++[(⟨AD.dst,AD.Ae,AD⟩:Past)]).drop ((l.length+1)-40))
 else l
def CY(m:AF):AF:=if m.BY then⟨m.AN+6,m.Ae,m.dst,m.B8,0,false,false,0,0,[],An,0⟩else AU
def LQ(v:AG)(x:Int):Bool:=(Bb x&&decide (x≠v.id))&&(decide (v.AH= -1)||Kk v.AH x v.id)
def EX(v:AG)(x:Int):AG:=if Aq v&&LQ v x then{v with AH:=x}else v
def P5(v:AG)(m:AF):AF:=
 if(Aq v&&decide (m.AN=4))&&(decide (m.dst=v.id)&&m.right)then{CY m with AP:=(Eg v m.AI m.BA).1,done:=(Eg v m.AI m.BA).2}else AU
def D9(n:AA)(m:AF):Bool:=(m.BY&&m.right)&&(decide (m.dst=n.A7.id)&&BL n)
def CL(n:AA)(m:AF):AA×AF:=
 let t:=CY m
 if m.AN=1 then(n,{t with AH:=n.A7.AH,AB:=n.A7.AB})
 else if m.AN=2 then(n,t)
 else if m.AN=3 then({n with A7:=EX n.A7 m.B8},t)
 else if m.AN=4 then(n,P5 n.A7 m)
 else if m.AN=5 then({n with keep:=(F3 n.keep m.AC).1},{t with Aa:=(F3 n.keep m.AC).2})
 else if m.AN=6 then(n,{t with AC:=(Dx n.keep m.AC.AI).1,Aa:=(Dx n.keep m.AC.AI).2})
 else(n,AU)
def BI(n:AA)(m:AF):AA×AF:=
 if D9 n m then
  (if(Cr n.BZ m.B8 m.Ae).2 then(n,(Cr n.BZ m.B8 m.Ae).1)
   else({(CL n m).1 with BZ:=EB n.BZ (CL n m).2},(CL n m).2))
 else(n,AU)
abbrev NS:Type:=AA×List B0
def GO(m:AF):List B0:=if(Cp m).2=0 then[⟨m.dst,(Cp m).1,false⟩]else[]
def PN(s:NS)(a:AF×Int):NS:=
 if(CX s.1.Ac a.1 a.2 0 s.1.Am).2.2=0 then({s.1 with Ac:=(CX s.1.Ac a.1 a.2 0 s.1.Am).1},s.2++GO (CX s.1.Ac a.1 a.2 0 s.1.Am).2.1)
 else(GA s.1 a.2,s.2)
def FB(s:NS)(l:List (AF×Int)):NS:=l.foldl PN s
def Em(g:List B0)(r:AA×List (AF×Int)):NS:=FB (r.1,g) r.2
def Q0(s:NS):NS:=
 (Ch s.1.Ac s.1.Am).2.2.foldl (fun s x=>Em s.2 (Dz s.1 x)) ({s.1 with Ac:=(Ch s.1.Ac s.1.Am).1},s.2++(Ch s.1.Ac s.1.Am).2.1.flatMap GO)
def Ku(j:B9):Bool:=decide (j.A5=0)||decide (j.A5=5)
def Cm(v:AG)(A5 BH:Int):(Int×Int)×List (AF×Int):=
 if(Aq v&&Cl A5 BH)&&decide (A5=0)then((1,FM v),G9 1 (FM v))else((A5,BH),[])
def Mv(s:NS):NS:=
 let b:=Cm s.1.A7 s.1.A5 s.1.BH
 FB ({s.1 with A5:=b.1.1,BH:=b.1.2},s.2) b.2
def Q4(v:AG):Int×Bool:=if Aq v&&decide (v.AH≠ -1)then(v.AH,true)else(0,false)
def Q3(s:NS):NS:=
 if(Q4 s.1.A7).2&& !(NY s.1.Ac 4).2 then FB s [(⟨2,0,0,(Q4 s.1.A7).1,0,false,false,0,0,[],An,0⟩,4)]else s
def IE(v:AG):Nat->Nat->(Nat->Int)->(Nat->Int)×yb
 |0,_,f=>(f,none)
 |k+1,i,f=>if JW v.id (XO v.id i) (FM v)then IE v k (i+1) (Vz f i (if FM v=v.id then -1 else FM v))else(f,some i)
def walkT(v:AG)(i:Int):AG×Int×Int×Bool:=
 if Aq v then
  let i0:=if 0<=i/\i<16 then i.toNat else 0
  match IE v (16-i0) i0 v.f with
  |(f,none)=>({v with f:=f},0,0,false)
  |(f,some k)=>({v with f:=f},k,XO v.id k,true)
 else(v,0,0,false)
def IZ(s:NS):NS:=
 if Ku s.1.AQ then
  let r:=walkT s.1.A7 s.1.next;let n:={s.1 with A7:=r.1,next:=r.2.1}
  if r.2.2.2 then Em s.2 (Bq n 5 1 r.2.2.1 An)else(n,s.2)
 else s
def FV(k:List AS)(AI:AL):AS×Bool:=
 if decide (0<k.length)&&Cg k then
  let CF:=if hasK k AI then Cc k AI+1 else Cc k AI
  (k.getD (if k.length<=CF then 0 else CF) An,true)
 else(An,false)
def Ic(s:NS):NS:=
 if Ku s.1.AX&&(FV s.1.keep s.1.last).2 then
  let x:=(FV s.1.keep s.1.last).1
  Em s.2 (Bq {s.1 with last:=x.AI} 6 2 0 x)
 else s
def Gz(n:AA):NS:=
 if n.Am>=1099511627776\/BL n=false then(n,[])
 else Ic (IZ (Q3 (Mv (Q0 ({n with Am:=n.Am+1},[])))))
def Im(n:AA)(b:AL):NS:=
 if BL n then
  (if(Bc b).2≠0\/(Bc b).1.dst≠n.A7.id then({n with bad:=if n.bad<1099511627776 then n.bad+1 else n.bad},[])
   else if(Bc b).1.BY then((BI n (Bc b).1).1,GO (BI n (Bc b).1).2)
   else if(D8 n.Ac (Bc b).1).2.2 then Em [] (D4 {n with Ac:=(D8 n.Ac (Bc b).1).1} (D8 n.Ac (Bc b).1).2.1 (Bc b).1)
   else(n,[]))
 else(n,[])
def Un(AR:Int)(x:AS):Bool:=(decide (AR=2)&&B7 x)||(decide (AR=3)&&Bp x.AI)
def Jl(n:AA)(AR:Int)(x:AS):NS×Int:=
 if BL n&&Un AR x then
  (if Ku n.AW then(Em [] (Bq n 7 AR 0 x),0)else((n,[]),100))
 else((n,[]),2)
def L3(n:AA)(i:Nat)(x:AS):AF:=⟨5,(Gl n.A7.id (n.Ac.Ad+1+i)).1,n.A7.id,FM n.A7,0,false,false,0,0,[],x,0⟩
def FN(n:AA):Nat->List AS->List B0
 |_,[]=>[]
 |i,x::r=>if(Gl n.A7.id (n.Ac.Ad+1+i)).2=0 then GO (L3 n i x)++FN n (i+1) r else[]
def GL(n:AA):List B0:=if BL n then FN n 0 n.keep else[]
end Nd
end Go.Proofs.YtamjpnmjpponpaaGreatDoor
namespace Go.Proofs.YtamjpnmjpponpaaGreatDoor
namespace Nd
open Go.Gar
open Wi (AF BV B7 AU Bp mC Cp Bc)
theorem vT(n:Int):yS 388 [.yX n] (.b (Bb n)):=by
 refine zF AE Tryz.func388 ?_;refine A9 [0,2] ?_;repeat'(apply zB<;>intro hc)
 all_goals(refine⟨_,_,rfl,rfl,?_⟩;simp only[C7];refine congrArg D.b ?_;unfold Bb;grind)
theorem fG(id:Int)(A6 AB:Ai)(AH:Int)(f:Nat->Int):yT 356 [.ptr 0 0 20] [.c (vC id A6 AB AH f)] (.fn (.func 387) [] [.ptr 1 0 1]) [.c (vC id A6 AB AH f),.c [.ptr 0 0 20]]:=by
 refine zD AE Tryz.func356 ?_;refine A9 [0,1,2] ?_;exact wE
theorem ZI(id:Int)(A6 AB:Ai)(AH:Int)(f:Nat->Int)(x:Int):yT 387 [.yO x,.ptr 1 0 1] [.c (vC id A6 AB AH f),.c [.ptr 0 0 20]] (.yP (LQ ⟨id,A6,AB,AH,f⟩ x)) [.c (vC id A6 AB AH f),.c [.ptr 0 0 20]]:=by
 have c1:=vT x;have c2:=SI AH x id;have hT:LQ ⟨id,A6,AB,AH,f⟩ x=((Bb x&&decide (x≠id))&&(decide (AH= -1)||Kk AH x id)):=rfl;rw[hT];refine zD AE Tryz.func387 ?_;unfold vC
 cases h1:Bb x with
 |false=>
  rw[h1]at c1;refine AO [0,1,3,14] ?_ (AK @c1);exact wE
 |true=>
 rw[h1]at c1
 by_cases h2:x=id
 .have f2:=AT h2;rw[zQ (show ¬x≠id from fun h=>h h2)];refine AJ [0,1,3,14] ?_ (AK f2) (AK @c1);exact wE
 have f2:=eq_false' h2;rw[zU h2]
 by_cases h3:AH= -1
 .have f3:=AT h3;rw[zU h3];refine AJ [0,1,3,14] ?_ (Au f2 f3) (AK @c1);exact wE
 .have f3:=eq_false' h3;rw[zQ h3];simp only[q0A,q0k];generalize Kk AH x id=b at *;refine AJ [0,1,3,14] ?_ (Au f2 f3) (Au @c1 @c2);exact wE
theorem o4(l:Ai):yT 357 [.yV l] [] (.fn (.func 389) [] [.ptr 0 0 1]) [.c [.yV l]]:=by
 refine zD AE Tryz.func357 ?_;refine A9 [0,1,2] ?_;exact wE
theorem FY(n:AA)(m:AF)(hn:Hm n)(hm:Ay m):yS 241 [n.d,m.d] (.b (D9 n m)):=by
 have c1:=Wi.Gs m;have c2:=Wi.Ct m (lm hm);have c3:=BO n hn;have hT:D9 n m=((m.BY&&m.right)&&(decide (m.dst=n.A7.id)&&BL n)):=rfl;rw[hT];clear hT hn hm;refine zF AE Tryz.func241 ?_;generalize m.BY=a at *;generalize m.right=r at *;generalize BL n=rn at *;unfold Wi.AF.d Wi.AF.A4 AA.d AA.A4 AG.A4 Calls.A4 B9.A4 at *;simp only[zY,zZ]at*
 cases a with
 |false=>
  refine AO [0,1,2,3,4] ?_ (AK @c1);exact zE
 |true=>
 cases r with
 |false=>
  refine AO [0,1,2,3,4] ?_ (Au @c1 @c2);exact zE
 |true=>
 by_cases hd:m.dst=n.A7.id
 .have f1:=AT hd;rw[zU hd]
  cases rn<;>
  .refine AJ [0,1,2,3,4] ?_ (AK f1) (CP @c1 @c2 @c3);exact zE
 .have f1:=eq_false' hd;rw[zQ hd];refine AJ [0,1,2,3,4] ?_ (AK f1) (Au @c1 @c2);exact zE
abbrev OX:BF:=[0,1,2,3,4,5,6]
theorem rb(CZ now:Int)(h1:DG CZ=true)(h2:DG now=true):yS 414 [.yX CZ,.yX now] (.yX (now-CZ)):=by
 unfold DG at h1 h2;simp only[zO,zW]at h1 h2;refine zF AE Tryz.func414 ?_;refine A9 [0,1,4] ?_;exact zE
theorem UR(CZ now:Int)(h1:DG CZ=true)(h2:DG now=true):yT 375 [.yO CZ,.yO now] [] (.fn (.func 415) [] [.ptr 0 0 1]) [.c [.yO (now-CZ)]]:=by
 have c1:=rb CZ now h1 h2;refine zD AE Tryz.func375 ?_;refine AO [0,1,4,5] ?_ (AK @c1);exact wE
theorem Sy(t w:Int):yT 415 [.yO w,.ptr 0 0 1] [.c [.yO t]] (.yP (decide (t>=w))) [.c [.yO t]]:=by
 refine zD AE Tryz.func415 ?_;refine A9 [0,1,3] ?_;exact wE
theorem eW(t:Int)(h1:1<=t)(h3:t<=3):yS 376 [.yX t] (.yX (MY t)):=by
 have:t=1\/t=2\/t=3:=om
 clear h1 h3;refine zF AE Tryz.func376 ?_;rcases this with rfl|rfl|rfl
 all_goals
  refine A9 [0,2,4] ?_;exact BW @MY.eq_1
theorem TP(x:Al)(now:Int)(h1:1<=x.BQ)(h3:x.BQ<=3)(h4:DG x.CZ=true)(h5:DG now=true):yS 330 [.yX x.CZ,.yX x.BQ,.yX now] (.b (DX now x)):=by
 have c1:=UR x.CZ now h4 h5;have c2:=Sy (now-x.CZ) (MY x.BQ);have c3:=eW x.BQ h1 h3;have hT:DX now x=(decide (3<=x.BQ)&&decide (now-x.CZ>=MY x.BQ)):=rfl;rw[hT];clear hT h4 h5;generalize now-x.CZ=df at *;generalize MY x.BQ=w at *;refine zF AE Tryz.func330 ?_
 by_cases h:x.BQ>=3
 .have f1:decide (x.BQ>=3)=true:=zU h;rw[zU (show 3<=x.BQ from h),q0A];refine By [0,1,2,6] ?_ (AK f1) (AK @c3) (H0 [] c1 [0] c2);exact zE
 .have f1:decide (x.BQ>=3)=false:=zQ h;rw[zQ (show ¬3<=x.BQ from h),q0m];refine Aj [0,1,2,6] ?_ (AK f1);exact zE
theorem eV(x:Al)(now:Int)(h1:1<=x.BQ)(h3:x.BQ<=3)(h4:DG x.CZ=true)(h5:DG now=true):yS 331 [.yX x.CZ,.yX x.BQ,.yX now] (.b (MG now x)):=by
 have c1:=UR x.CZ now h4 h5;have c2:=Sy (now-x.CZ) (MY x.BQ);have c3:=eW x.BQ h1 h3;have hT:MG now x=((decide (1<=x.BQ)&&decide (x.BQ<3))&&decide (now-x.CZ>=MY x.BQ)):=rfl;rw[hT,zU h1,q0A];clear hT h4 h5;generalize now-x.CZ=df at *;generalize MY x.BQ=w at *;have f0:decide (x.BQ>=1)=true:=zU h1;refine zF AE Tryz.func331 ?_
 by_cases h:x.BQ<3
 .have f1:decide (x.BQ<3)=true:=zU h;rw[f1,q0A];refine By [0,1,2,6] ?_ (Au f0 f1) (AK @c3) (H0 [] c1 [0] c2);exact zE
 .have f1:decide (x.BQ<3)=false:=zQ h;rw[f1,q0m];refine Aj [0,1,2,6] ?_ (Au f0 f1);exact zE
theorem rK(c:Calls)(x:Al)(m:AF)(hk:1<=x.BD.AN/\x.BD.AN<=6):yS 247 [c.d,x.d,m.d] (.b (QK c.id m x)):=by
 have hT:QK c.id m x=(decide (m.Ae=x.id)&&(decide (m.B8=x.BD.dst)&&(decide (m.dst=c.id)&&decide (m.AN=x.BD.AN+6)))):=rfl;have f5:(x.BD.AN+6)%256=x.BD.AN+6:=om
 rw[hT];clear hT;refine zF AE Tryz.func247 ?_;unfold Wi.AF.d Wi.AF.A4 Al.d Al.A4 Calls.d Calls.A4
 by_cases h1:m.Ae=x.id
 case neg=>
  have f1:=eq_false' h1;rw[zQ h1,q0m];refine Aj OX ?_ (AK f1);exact zE
 case pos=>
 have f1:=AT h1;rw[zU h1,q0A]
 by_cases h2:m.B8=x.BD.dst
 case neg=>
  have f2:=eq_false' h2;rw[zQ h2,q0m];refine Aj OX ?_ (Au f1 f2);exact zE
 case pos=>
 have f2:=AT h2;rw[zU h2,q0A]
 by_cases h3:m.dst=c.id
 case neg=>
  have f3:=eq_false' h3;rw[zQ h3,q0m];refine Aj OX ?_ (CP f1 f2 f3);exact zE
 case pos=>
 have f3:=AT h3;rw[zU h3,q0A]
 by_cases h4:m.AN=x.BD.AN+6
 .have f4:=AT h4;rw[zU h4];refine Aj OX ?_ (TT f1 f2 f3 f4 f5);exact zE
 .have f4:=eq_false' h4;rw[zQ h4];refine Aj OX ?_ (TT f1 f2 f3 f4 f5);exact zE
end Nd
end Go.Proofs.YtamjpnmjpponpaaGreatDoor
namespace Go.Proofs.YtamjpnmjpponpaaGreatDoor
namespace Wi
open Go.Gar
theorem ao(b:AL):(I6 b).1.AB.length<=255:=by
 unfold I6;split
 .exact zi _
 split
 .exact zi _
 .rename_i m r h1;split
  .exact zi _
  .rename_i m' r' h2;have h3:=(Sw h2 (by rw[(K8 h1).2.2];exact zi _)).1;split
   .exact h3
   .exact zi _
theorem bM(b:AL):(Bc b).1.AB.length<=255:=by
 unfold Bc;split
 .exact ao _
 .exact zi _
end Wi
end Go.Proofs.YtamjpnmjpponpaaGreatDoor
