/- Part 46 of a proof. Conditions: those that its theorems state. -/
import Derived.Test.YtamjpnmjpponpaaGreatDoorC44
import Derived.Test.YtamjpnmjpponpaaGreatDoorC45
set_option linter.unusedSimpArgs false
set_option linter.unusedVariables false
set_option maxHeartbeats 40000000
set_option maxRecDepth 4000
namespace Go.Proofs.YtamjpnmjpponpaaGreatDoor
namespace Nd
open Go.Gar
open Wi (AF BV B7 Cp Bc)
abbrev LD:BF:=[0,1,2,3,4,5,6,15]
abbrev LF:BF:=[0,1,2,3,6,7,8,9,10,11,19,35]
theorem CW.len{c:CS}(h:CW c):c.nodes.length<=12/\c.A6.length<=4/\c.gone.length<=1000/\c.bag.grams.length<=400:=by
 have hb:=h.n.b;unfold Fj at hb;simp only[zO,zW]at hb;exact⟨h.n.n,hb.2.1,h.n.gl,h.b.n⟩
abbrev cC(c:CS):z6:=cB c++[.c [.ptr 0 0 5]]
theorem kr(c:CS)(s:Step)(h:CW c):yT 104 [.d s.d,.ptr 3 0 1] (cC c) (.yO ((KW c s.a).2)) (cC (KW c s.a).1):=by
 have hl:=h.len;have c1:=Hx c.nodes s.a om;rw[GN]at c1;unfold KW;refine zC AE Tryz.func104 ?_;unfold Step.d Step.A4
 cases hi:Cx c.nodes s.a with
 |none=>
  rw[hi]at c1;dsimp only at c1|-;simp only[zY,zZ];refine Ax LD ?_ (BJ [1] c1);exact Bh
 |some i=>
  rw[hi]at c1;obtain⟨n,h1,h2,h3,_⟩:=h.node hi;have hlt:=(zS.1 h1).1;have c2:=sW n h3;obtain⟨t1,_,_,_,_,t2,t3⟩:=eR h3;dsimp only at c1|-;rw[h2];generalize Gz n=r at *;obtain⟨m,g⟩:=r;dsimp only at c2 t1 t2 t3|-;have d1:=Km (Yf c i m) g h.b om (Jt t2);have hst:=Li m i c.nodes hlt;have f1:decide ((i:Int)<0)=false:=zQ om;generalize Ii (Yf c i m) g=c' at *;dsimp only[cB,cX,Yf]at d1;rw[List.length_set]at d1;simp only[zY,zZ];have hsl:=LB h1;unfold AA.d at c2;rw[<-hsl,show m.A4=nX m from rfl]at c2;dsimp only[nX]at c2 hst;have ix1:=h1;refine Cd LD ?_ (AK f1) (BJ [1] c1) [] [4];clear ix1;have ix1:=h1;refine AO LD ?_ (AK @c2) [] [5];clear ix1;refine Aj LD ?_ (AK hst) [] [6];refine Ax LD ?_ (BJ [0,1,2] d1);exact Bh
theorem br(c:CS)(p AR:Int)(x:AS)(h:CW c)(hx:x.AI.length<=big):yT 101 [.yO p,.yQ AR,.d x.d,.ptr 3 0 1] (cC c) (.yO ((Jk c p AR x).2)) (cC (Jk c p AR x).1):=by
 have hl:=h.len;have c1:=Hx c.nodes p om;rw[GN]at c1;unfold Jk;refine zC AE Tryz.func101 ?_
 cases hi:Cx c.nodes p with
 |none=>
  rw[hi]at c1;unfold AS.d AS.A4;dsimp only at c1|-;simp only[zY,zZ];refine Ax LF ?_ (BJ [1] c1);exact Bh
 |some i=>
  rw[hi]at c1;obtain⟨n,h1,h2,h3,_⟩:=h.node hi;have hlt:=(zS.1 h1).1;have c2:=uR n AR x h3 hx;obtain⟨t1,_,t2,t3,_⟩:=kB h3 AR x hx;dsimp only at c1|-;rw[h2];generalize Jl n AR x=r at *;obtain⟨⟨m,g⟩,e⟩:=r;dsimp only at c2 t1 t2 t3|-;have d1:=Km (Yf c i m) g h.b om (Jt t2);have hst:=Li m i c.nodes hlt;have f1:decide ((i:Int)<0)=false:=zQ om;generalize Ii (Yf c i m) g=c' at *;dsimp only[cB,cX,Yf]at d1;rw[List.length_set]at d1;simp only[zY,zZ];have hsl:=LB h1;unfold AA.d at c2;rw[<-hsl,show m.A4=nX m from rfl]at c2;dsimp only[nX]at c2 hst;unfold AS.d AS.A4 at*
  by_cases he:e=0
  .subst he;rw[zn rfl];refine Cd LF ?_ (AK f1) (BJ [1] c1) [] [4];have nS:=q0r
   repeat'(first|((with_reducible refine sg ?_);first|with_reducible rfl|((with_reducible refine Na ?_);first|kernel_rfl|rfl|(simp[Fp,IL,nS];done))|with_reducible refine Mb ?_ ?_|with_reducible exact q1K _|with_reducible exact DL _|((with_reducible refine zU ?_);first|omega|(simp only[IK,nS];omega))|decide|(simp[IK,slc,Cs,D.one,ER,AV.one,nS];done)|(simp[IK,nS];omega))|((with_reducible refine g0 ?_);first|(refine Er rfl ?_;refine el AE rfl rfl rfl rfl ?_)|(refine NG rfl ?_;refine q7 AE rfl rfl rfl rfl rfl (q0V _) (EF h1) ?_)|refine Xq AE rfl rfl rfl rfl ?_ ?_|refine Xn [0,1,2,3,6,7,8,9,10,11,19,35] rfl ?_|refine XF (c2) rfl rfl rfl rfl ?_|refine Xa AE rfl rfl rfl rfl rfl ?_ ?_|refine Xw AE rfl rfl rfl rfl ?_ ?_)|((with_reducible refine t8 ?_);first|(refine IS rfl ?_;refine so AE rfl rfl (fun _=>rfl) rfl rfl ?_)|(refine NF rfl ?_;refine qB AE rfl rfl (fun _=>rfl) rfl rfl rfl (q0V _) (EF h1) ?_)|refine Yp AE rfl rfl (fun _=>rfl) rfl rfl ?_ ?_|refine Yq rfl rfl rfl rfl rfl ?_ ?_|refine Ys rfl rfl rfl rfl ?_|refine YF (c2) rfl rfl rfl rfl rfl ?_|refine Ya AE rfl rfl rfl rfl rfl rfl ?_ ?_|refine Yw AE rfl rfl rfl rfl rfl ?_ ?_|refine Yn [0,1,2,3,6,7,8,9,10,11,19,35] [(0,14),(1,14),(2,14),(3,14),(5,14),(6,14),(8,14)] mixed AE (by kernel_rfl) (by simp only[Dk];repeat'(first|exact q0r|refine zh ?_ ?_|exact⟨_,rfl,rfl⟩|(refine⟨_,rfl,?_⟩;simp[IK,BP,CC];omega)|rfl)) rfl ?_)|refine IR ?_|refine J6 [6] rfl ?_|refine RF [6] T.get rfl ?_|refine Fi ?_|refine IQ ?_|refine EU ?_|refine Fg ?_|refine Df rfl ?_|refine De rfl ?_|(refine FJ rfl (fun hc=> ?_) (fun hc=> ?_)<;>(try simp only[Ma]at hc)<;>(try(exfalso;omega))))
   refine Aj LF ?_ (AK hst) [] [7];refine Ax LF ?_ (BJ [0,1,2] d1);exact Bh
  .have f2:=eq_false' he;rw[zx he];refine Cd LF ?_ (AK f1) (BJ [1] c1) [] [4];have nS:=f2
   repeat'(first|((with_reducible refine sg ?_);first|with_reducible rfl|((with_reducible refine Na ?_);first|kernel_rfl|rfl|(simp[Fp,IL,nS];done))|with_reducible refine Mb ?_ ?_|with_reducible exact q1K _|with_reducible exact DL _|((with_reducible refine zU ?_);first|omega|(simp only[IK,nS];omega))|decide|(simp[IK,slc,Cs,D.one,ER,AV.one,nS];done)|(simp[IK,nS];omega))|((with_reducible refine g0 ?_);first|(refine Er rfl ?_;refine el AE rfl rfl rfl rfl ?_)|(refine NG rfl ?_;refine q7 AE rfl rfl rfl rfl rfl (q0V _) (EF h1) ?_)|refine Xq AE rfl rfl rfl rfl ?_ ?_|refine Xn [0,1,2,3,6,7,8,9,10,11,19,35] rfl ?_|refine XF (c2) rfl rfl rfl rfl ?_|refine Xa AE rfl rfl rfl rfl rfl ?_ ?_|refine Xw AE rfl rfl rfl rfl ?_ ?_)|((with_reducible refine t8 ?_);first|(refine IS rfl ?_;refine so AE rfl rfl (fun _=>rfl) rfl rfl ?_)|(refine NF rfl ?_;refine qB AE rfl rfl (fun _=>rfl) rfl rfl rfl (q0V _) (EF h1) ?_)|refine Yp AE rfl rfl (fun _=>rfl) rfl rfl ?_ ?_|refine Yq rfl rfl rfl rfl rfl ?_ ?_|refine Ys rfl rfl rfl rfl ?_|refine YF (c2) rfl rfl rfl rfl rfl ?_|refine Ya AE rfl rfl rfl rfl rfl rfl ?_ ?_|refine Yw AE rfl rfl rfl rfl rfl ?_ ?_|refine Yn [0,1,2,3,6,7,8,9,10,11,19,35] [(0,14),(1,14),(2,14),(3,14),(5,14),(6,14),(8,14)] mixed AE (by kernel_rfl) (by simp only[Dk];repeat'(first|exact q0r|refine zh ?_ ?_|exact⟨_,rfl,rfl⟩|(refine⟨_,rfl,?_⟩;simp[IK,BP,CC];omega)|rfl)) rfl ?_)|refine IR ?_|refine Fh ?_|refine bc T.get ?_|refine Fi ?_|refine IQ ?_|refine EU ?_|refine Fg ?_|refine Df rfl ?_|refine De rfl ?_|(refine FJ rfl (fun hc=> ?_) (fun hc=> ?_)<;>(try simp only[Ma]at hc)<;>(try(exfalso;omega))))
   exact Bh
abbrev cA(c:CS):z6:=cB c++[.c [.ptr 0 0 5],.c [.fn (.func 101) [] [.ptr 3 0 1]]]
theorem qX(c:CS)(s:Step)(h:CW c)(hx:s.AC.AI.length<=big):yT 106 [.d s.d,.ptr 4 0 1] (cA c) (.yO ((Jk c s.a 2 s.AC).2)) (cA (Jk c s.a 2 s.AC).1):=by
 have d1:=br c s.a 2 s.AC h hx;generalize Jk c s.a 2 s.AC=r at *;refine zC AE Tryz.func106 ?_;unfold AS.d AS.A4 at d1;unfold Step.d Step.A4;simp only[zY,zZ]at *;refine Ax [0,1,2,3] ?_ (BJ [0,1,2,3] d1);exact Bh
theorem qV(c:CS)(s:Step)(h:CW c)(hx:s.AC.AI.length<=big):yT 107 [.d s.d,.ptr 4 0 1] (cA c) (.yO ((Jk c s.a 3 ⟨s.AC.AI,0,0,false⟩).2)) (cA (Jk c s.a 3 ⟨s.AC.AI,0,0,false⟩).1):=by
 have d1:=br c s.a 3 ⟨s.AC.AI,0,0,false⟩ h hx;generalize Jk c s.a 3 ⟨s.AC.AI,0,0,false⟩=r at *;refine zC AE Tryz.func107 ?_;unfold AS.d AS.A4 at d1;unfold Step.d Step.A4;simp only[zY,zZ]at *;refine Ax [0,1,2,3] ?_ (BJ [0,1,2,3] d1);exact Bh
abbrev E6:BF:=[0,1,2,3,4,5,6,7,8,9,22,35]
theorem BB.sm{b:Bg.Du}(h:BB b):Bg.small b.grams:=fun g hg=>by have:=h.s g hg;omega
abbrev cT(c:CS):z6:=cB c++[.c [.ptr 0 0 5],.c [.fn (.func 108) [] [.ptr 3 0 1]]]
theorem Ox(c:CS)(b:Bg.Du)(e:Int):yT 108 [.d b.d,.yO e,.ptr 3 0 1] (cC c) (.yO ((Iw c (b,e)).2)) (cC (Iw c (b,e)).1):=by
 refine zC AE Tryz.func108 ?_;unfold Iw Bg.Du.d;dsimp only;simp only[zY,zZ]
 by_cases he:e=0
 .subst he;rw[zn rfl];refine A9 [0,1,2,3,5,7] ?_;exact Bh
 .have f1:=eq_false' he;rw[zx he];refine Aj [0,1,2,3,5,7] ?_ (AK f1);exact Bh
theorem kZ(c:CS)(s:Step)(h:CW c):yT 112 [.d s.d,.ptr 4 0 1,.ptr 3 0 1] (cT c) (.yO ((Iw c (Bg.KQ c.bag s.a)).2)) (cT (Iw c (Bg.KQ c.bag s.a)).1):=by
 have hl:=h.len;have c1:=Bg.qZ c.bag s.a om h.b.sm;generalize Bg.KQ c.bag s.a=p at *;obtain⟨b,e⟩:=p;have d1:=Ox c b e;generalize Iw c (b,e)=r at *;refine zC AE Tryz.func112 ?_;unfold Step.d Step.A4;unfold Bg.Du.d at *;dsimp only at c1;simp only[zY,zZ]at *;refine B6 [0,1,2,3,4] ?_ (AK @c1) (BJ [0,1,2,3] d1);exact Bh
theorem fa(c:CS)(s:Step)(h:CW c):yT 114 [.d s.d,.ptr 4 0 1,.ptr 3 0 1] (cT c) (.yO ((Iw c (Bg.HD c.bag s.a)).2)) (cT (Iw c (Bg.HD c.bag s.a)).1):=by
 have hl:=h.len;have c1:=Bg.pA c.bag s.a om h.b.sm;generalize Bg.HD c.bag s.a=p at *;obtain⟨b,e⟩:=p;have d1:=Ox c b e;generalize Iw c (b,e)=r at *;refine zC AE Tryz.func114 ?_;unfold Step.d Step.A4;unfold Bg.Du.d at *;dsimp only at c1;simp only[zY,zZ]at *;refine B6 [0,1,2,3,4] ?_ (AK @c1) (BJ [0,1,2,3] d1);exact Bh
theorem ka(c:CS)(s:Step)(h:CW c):yT 116 [.d s.d,.ptr 4 0 1,.ptr 3 0 1] (cT c) (.yO ((Pw c s).2)) (cT (Pw c s).1):=by
 have hl:=h.len;refine zC AE Tryz.func116 ?_;unfold Pw Step.d Step.A4
 by_cases hc:0<=s.c/\s.c<=255
 .rw[zn hc];have f1:decide (s.c<0)=false:=zQ om;have f2:decide (s.c>255)=false:=zQ om;have f3:s.c%256=s.c:=om
  have c1:=Bg.r9 c.bag s.a s.b s.c om h.b.sm;generalize Bg.SH c.bag s.a s.b s.c=p at *;obtain⟨b,e⟩:=p;have d1:=Ox c b e;generalize Iw c (b,e)=r at *;unfold Bg.Du.d at *;dsimp only at c1;simp only[zY,zZ]at *;refine By [0,1,2,3,4,12] ?_ (CP f1 f2 f3) (AK @c1) (BJ [0,1,2,3] d1);exact Bh
 .rw[zx hc];simp only[zY,zZ]at*
  by_cases h0:s.c<0
  .have f1:decide (s.c<0)=true:=zU h0;refine Aj [0,1,2,3,4,12] ?_ (AK f1);exact Bh
  .have f1:decide (s.c<0)=false:=zQ h0;have f2:decide (s.c>255)=true:=zU om;refine Aj [0,1,2,3,4,12] ?_ (Au f1 f2);exact Bh
theorem qW(c:CS)(s:Step)(h:CW c):yT 118 [.d s.d,.ptr 3 0 1] (cC c) (.yO ((Ta c s).2)) (cC (Ta c s).1):=by
 have hl:=h.len;have c1:=Gq s.a;refine zC AE Tryz.func118 ?_;unfold Ta Step.d Step.A4;simp only[zY,zZ]at*
 cases hp:BV s.a with
 |false=>
  rw[hp]at c1;rw[zx (fun e=>by cases e.1)];refine AO [0,1,2,3,13] ?_ (AK @c1);exact Bh
 |true=>
  rw[hp]at c1
  by_cases hb:s.bytes.length<=120
  .have f1:decide ((s.bytes.length:Int)>120)=false:=zQ om;rw[zn ⟨rfl,hb⟩];have d1:=Km c [⟨s.a,s.bytes,false⟩] h.b sm (fun g hg=>by rw[q0e.1 hg];dsimp only;omega);generalize Ii c [⟨s.a,s.bytes,false⟩]=c' at *;unfold Ab at d1;simp only[List.map_cons,List.map_nil,B0.A4]at d1;refine By [0,1,2,3,13] ?_ (AK f1) (AK @c1) (BJ [0,1,2] d1);exact Bh
  .have f1:decide ((s.bytes.length:Int)>120)=true:=zU om;rw[zx (fun e=>hb e.2)];refine AJ [0,1,2,3,13] ?_ (AK f1) (AK @c1);exact Bh
theorem Wu(c:CS)(s:Step)(h:CW c)(ha:c.bag.Kz s.a=false):yT 109 [.d s.d,.ptr 3 0 1] (cC c) (.yO 2) (cC c):=by
 have hl:=h.len;have c1:=Bg.Io c.bag s.a om h.b.sm;unfold Bg.takeB at c1;rw[ha]at c1;simp only[q0E,q0U]at c1;refine zC AE Tryz.func109 ?_;unfold Step.d Step.A4;unfold Bg.Du.d B0.d B0.A4 Bg.IF at c1;simp only[zY,zZ]at *;refine A9 E6 ?_ [] [1];apply Uh (E:=T.get) 11 12 5 6 mixed rfl (by simp(decide:=true) [Bj,AM.ok,AV.oks,AV.ok])
 case h1=>
  refine AO E6 ?_ (AK @c1) [(0,11),(1,11),(2,11),(3,11),(4,11),(5,11),(0,12),(1,12),(2,12),(3,12),(4,12),(5,12)];exact⟨rfl,.inl rfl⟩
 case h2=>
  refine AO E6 ?_ (AK @c1) [(0,11),(1,11),(2,11),(3,11),(4,11),(5,11),(0,12),(1,12),(2,12),(3,12),(4,12),(5,12)];exact⟨rfl,.inr rfl⟩
 case hab=>rfl
 case hQ=>
  refine A9 E6 ?_;exact Bh
theorem Wt(c:CS)(s:Step)(h:CW c):yT 109 [.d s.d,.ptr 3 0 1] (cC c) (.yO ((Co c s.a).2)) (cC (Co c s.a).1):=by
 unfold Co
 cases ha:c.bag.Kz s.a with
 |false=>
  rw[zx (by decide)];exact Wu c s h ha
 |true=>
 rw[zn rfl];have hl:=h.len;have c1:=Bg.Io c.bag s.a om h.b.sm;unfold Bg.takeB at c1;rw[ha]at c1;simp only[q0X]at c1;have hbb:=Rl h.b s.a.toNat c.bag.lost
 have hg:(c.bag.grams.getD s.a.toNat Bg.IF).by_.length<=120:=by
  obtain⟨k,e,hk⟩:=Bg.JJ ha;obtain⟨x,hx⟩:=Ah hk;rw[e,q1Y,zo,hx];exact h.b.s x (q00 hx)
 generalize c.bag.grams.getD s.a.toNat Bg.IF=g at *;generalize hb:(⟨c.bag.grams.eraseIdx s.a.toNat,c.bag.lost⟩:Bg.Du)=b at *;obtain⟨gt,gb,gh⟩:=g;dsimp only at hg;have c2:=Hx c.nodes gt om;rw[GN]at c2;unfold mI;refine zC AE Tryz.func109 ?_;unfold Step.d Step.A4;unfold Bg.Du.d B0.d B0.A4 at c1;dsimp only;simp only[zY,zZ]at *;clear hb ha;refine A9 E6 ?_ [] [1];apply Uh (E:=T.get) 11 12 5 6 mixed rfl (by simp(decide:=true) [Bj,AM.ok,AV.oks,AV.ok])
 case h1=>
  refine AO E6 ?_ (AK @c1) [(0,11),(1,11),(2,11),(3,11),(4,11),(5,11),(0,12),(1,12),(2,12),(3,12),(4,12),(5,12)];exact⟨rfl,.inl rfl⟩
 case h2=>
  refine AO E6 ?_ (AK @c1) [(0,11),(1,11),(2,11),(3,11),(4,11),(5,11),(0,12),(1,12),(2,12),(3,12),(4,12),(5,12)];exact⟨rfl,.inr rfl⟩
 case hab=>rfl
 case hQ=>
 refine A9 E6 ?_ [] [5]
 cases hi:Cx c.nodes gt with
 |none=>
  rw[hi]at c2;dsimp only at c2;refine Ax E6 ?_ (BJ [1] c2) [] [6];have wr:Lv [41]:=trivial;refine A9 E6 ?_;clear wr;exact Bh
 |some i=>
  rw[hi]at c2;obtain⟨n,h1,h2,h3,_⟩:=h.node hi;have hlt:=(zS.1 h1).1;have c3:=Io n gb h3 om;obtain⟨t1,_,_,_,t2,t3⟩:=eL h3 gb;dsimp only at c2|-;rw[h2];generalize Im n gb=r at *;obtain⟨m,g⟩:=r;dsimp only at c3 t1 t2 t3|-;have d1:=Km ⟨c.nodes.set i m,c.gone,c.A6,b⟩ g hbb om (Jt t2);have hst:=Li m i c.nodes hlt;have f1:decide ((i:Int)<0)=false:=zQ om;generalize Ii ⟨c.nodes.set i m,c.gone,c.A6,b⟩ g=c' at *;dsimp only[cB,cX]at d1;rw[List.length_set]at d1;have hsl:=LB h1;unfold AA.d at c3;rw[<-hsl,show m.A4=nX m from rfl]at c3;dsimp only[nX]at c3 hst;refine Cd E6 ?_ (AK f1) (BJ [1] c2) [] [9];have nS:=q0r
  repeat'(first|((with_reducible refine sg ?_);first|with_reducible rfl|((with_reducible refine Na ?_);first|kernel_rfl|rfl|(simp[Fp,IL,nS];done))|with_reducible refine Mb ?_ ?_|with_reducible exact q1K _|with_reducible exact DL _|((with_reducible refine zU ?_);first|omega|(simp only[IK,nS];omega))|decide|(simp[IK,slc,Cs,D.one,ER,AV.one,nS];done)|(simp[IK,nS];omega))|((with_reducible refine g0 ?_);first|(refine Er rfl ?_;refine el AE rfl rfl rfl rfl ?_)|(refine NG rfl ?_;refine q7 AE rfl rfl rfl rfl rfl (q0V _) (EF h1) ?_)|refine Xq AE rfl rfl rfl rfl ?_ ?_|refine Xn [0,1,2,3,4,5,6,7,8,9,22,35] rfl ?_|refine XF (c3) rfl rfl rfl rfl ?_|refine Xa AE rfl rfl rfl rfl rfl ?_ ?_|refine Xw AE rfl rfl rfl rfl ?_ ?_)|((with_reducible refine t8 ?_);first|(refine IS rfl ?_;refine so AE rfl rfl (fun _=>rfl) rfl rfl ?_)|(refine NF rfl ?_;refine qB AE rfl rfl (fun _=>rfl) rfl rfl rfl (q0V _) (EF h1) ?_)|refine Yp AE rfl rfl (fun _=>rfl) rfl rfl ?_ ?_|refine Yq rfl rfl rfl rfl rfl ?_ ?_|refine Ys rfl rfl rfl rfl ?_|refine YF (c3) rfl rfl rfl rfl rfl ?_|refine Ya AE rfl rfl rfl rfl rfl rfl ?_ ?_|refine Yw AE rfl rfl rfl rfl rfl ?_ ?_|refine Yn [0,1,2,3,4,5,6,7,8,9,22,35] [(0,13),(1,13),(2,13),(3,13),(5,13),(6,13),(7,13),(8,13)] mixed AE (by kernel_rfl) (by simp only[Dk];repeat'(first|exact q0r|refine zh ?_ ?_|exact⟨_,rfl,rfl⟩|(refine⟨_,rfl,?_⟩;simp[IK,BP,CC];omega)|rfl)) rfl ?_)|refine IR ?_|refine J6 [10] rfl ?_|refine RF [10] T.get rfl ?_|refine Fi ?_|refine IQ ?_|refine EU ?_|refine Fg ?_|refine Df rfl ?_|refine De rfl ?_|(refine FJ rfl (fun hc=> ?_) (fun hc=> ?_)<;>(try simp only[Ma]at hc)<;>(try(exfalso;omega))))
  refine Aj E6 ?_ (AK hst) [] [11];refine Ax E6 ?_ (BJ [0,1,2] d1);exact Bh
abbrev OK:BF:=[0,2,3,4,6,7,8,11,16,17,18,19,29]
abbrev H4:BF:=[0,1,2,3,5,18,19,20]
theorem Jm(A6:Ai)(hl:A6.length<=1000):yS 7 [.is A6] (.tup [(newS A6).1.c.d,.yX (newS A6).2]):=by
 have c1:=MV A6 om;have c2:=LR A6 om;rw[show(decide (2<=A6.length)&&(decide (A6.length<=4)&&Ti A6))=Fj A6 from rfl]at c1;refine zF AE Tryz.func7 ?_
 cases hq:Fj A6 with
 |false=>
  rw[hq]at c1;have hT:newS A6=(⟨[],[],[],⟨[],0⟩⟩,2):=by unfold newS;rw[hq];rfl
  rw[hT];unfold CS.c;refine AO OK ?_ (AK @c1);refine⟨_,_,rfl,rfl,?_⟩;simp[LL,BP,Bl,BM,D3.d,D3.A4,Dv]
 |true=>
 rw[hq]at c1;have hT:newS A6=(⟨A6.map fun p=>(EA p A6).1,[],A6,⟨[],0⟩⟩,0):=zn hq;rw[hT]
 have hpl:∀p∈A6,BV p=true:=by
  unfold Fj at hq;simp only[zO]at hq;exact(O2.1 hq.2.2).1
 unfold CS.c;refine AO OK ?_ (Au @c1 @c2);refine BG (A8.ES 1 0 (.sl 76 []) rfl rfl rfl rfl (by simp[BM])) sm ?_;refine BG (A8.Ux 1 1 (.is []) rfl rfl rfl rfl trivial) sm ?_;refine BG (A8.Ux 1 3 (.sl 3 []) rfl rfl rfl rfl (by simp[BM])) sm ?_;obtain⟨Lf,hLf⟩:∃Lf:Nat->List AA,Lf=fun k=>(A6.take k).map fun p=>(EA p A6).1:=⟨_,rfl⟩
 have hL0:Lf 0=[]:=by rw[hLf];rfl
 have hLl:∀k,(Lf k).length<=k:=fun k=>by rw[hLf];simp only[q08];exact q1T _ _
 have hLe:A6.map (fun p=>(EA p A6).1)=Lf A6.length:=by rw[hLf];simp only[q06]
 have hLs:∀k x,A6[k]? =some x->Lf (k+1)=Lf k++[(EA x A6).1]:=fun k x hx=>by rw[hLf];simp only[AY hx,q0f,List.map_cons,List.map_nil]
 rw[hLe];clear hLf hLe hT;refine CM (fun k=>k<=A6.length) (fun k:Nat=>[(18,.yO k)]) (fun k=>[(1,.c [.sl 2 (Lf k).length 76,.yV ([]),.yV A6,.d (.sl 3 []),.yO 0]),(2,.a (Ak (Lf k)))]) (fun k=>A6.length-k) 0 (zi _) (fun _=>rfl) (fun _=>rfl) ?_ ?_
 .rw[hL0];exact A8.ck rfl
 intro k hk;have htl:=hLl k
 by_cases hkl:k<A6.length
 .obtain⟨x,hx⟩:=Ah hkl;have gx:=C5 hx;have c3:=dV x A6 hl;have he:=(Sk (hpl x (q00 hx)) hq).1;have hm:=hLs k x hx;generalize EA x A6=nn at *;obtain⟨n,e⟩:=nn;dsimp only at he hm;subst he;have hN:Ak (Lf (k+1))= .sl 76 ((Lf k).map AA.A4++[nX n]):=by rw[hm];unfold Ak;rw[q0f];rfl
  have hN2:(Lf (k+1)).length=(Lf k).length+1:=by rw[hm];simp
  unfold AA.d at c3;rw[show n.A4=nX n from rfl]at c3;dsimp only[nX]at c3;refine AJ OK ?_ (AK gx) (AK @c3);with_reducible repeat' first|constructor|intro hc
  refine⟨k+1,hkl,om,zN _,?_⟩;exact(have nC:=zh hN hN2;A8.cn rfl)
 .have e:k=A6.length:=om
  subst e;refine A9 OK ?_;with_reducible repeat' first|constructor|intro hc
  refine⟨_,_,rfl,rfl,?_⟩;simp[LL,BP,Bl,BM,D3.d,D3.A4,Dv]
theorem J7(c:CS)(h:CW c):yT 17 [.d c.c.d] [] (.ag (cX c 4 2)) [.gone,.c (cX c 4 2),.a (.is c.gone),.gone,.a (Ak c.nodes)]:=by
 have hl:=h.len;have hnb:=h.n.nb;have d1:=R6 c.gone om;have c1:=LR c.A6 om;have c2:=Bg.K6 c.bag om (BB.sm h.b);obtain⟨l,gone,A6,bag⟩:=c;obtain⟨grams,lost⟩:=bag;dsimp only at *;clear h;refine zC AE Tryz.func17 ?_;unfold CS.c D3.d D3.A4;unfold Bg.Du.d at c2;dsimp only;refine A9 H4 ?_ [] [1];apply Uh (E:=T.get) 2 10 2 3 mixed rfl (by simp(decide:=true) [Bj,AM.ok,AV.oks,AV.ok])
 case h1=>
  refine B6 H4 ?_ (Au @c1 @c2) (BJ [] d1) [(3,2),(4,2),(6,2),(7,2),(0,10),(1,10),(3,10),(4,10),(6,10),(7,10)];exact⟨rfl,.inl rfl⟩
 case h2=>
  refine B6 H4 ?_ (Au @c1 @c2) (BJ [] d1) [(0,2),(1,2),(4,2),(5,2),(7,2),(8,2),(4,3),(5,3),(7,3),(8,3)];exact⟨rfl,.inr rfl⟩
 case hab=>rfl
 case hQ=>
 refine A9 H4 ?_ [] [2];refine BG (A8.ES 3 0 (.sl 76 []) rfl rfl rfl rfl (by simp[BM])) sm ?_;refine Ax H4 ?_ (BJ [] (J9 l));obtain⟨Lf,hLf⟩:∃Lf:Nat->List AA,Lf=fun k=>l.take k:=⟨_,rfl⟩
 have hL0:Lf 0=[]:=by rw[hLf];rfl
 have hLe:Lf l.length=l:=by rw[hLf];exact q06
 have hLl:∀k,k<=l.length->(Lf k).length<=1000:=fun k hk=>by rw[hLf];dsimp only;rw[q0D];omega
 have hLs:∀k x,l[k]? =some x->Lf (k+1)=Lf k++[x]:=fun k x hx=>by rw[hLf];exact AY hx
 clear hLf;refine zG (K:=fun r _ H'=>H'=[.c [.d (Ak l),.yV gone,.yV A6,.d (.sl 3 (grams.map B0.A4)),.yO lost],.c [.e0,.e0,.e0,.e0,.yO 0],.a (.is gone),.c [.sl 4 l.length 76,.sl 2 gone.length 1,.yV A6,.d (.sl 3 (grams.map B0.A4)),.yO lost],.a (Ak l),.c [.d (Ak l)],.lp r]) ?_ ?_
 .intro r hr;have hk:=hr.ok (k:=6) rfl;refine zT AE Tryz.func63 ?_;refine A9 [0,1,3,5,6,7,15] ?_;refine CM (fun j:Nat=>j<=l.length) (fun j:Nat=>[(6,.yO j)]) (fun j=>[(4,.a (Ak (Lf j))),(3,.c [.sl 4 (Lf j).length 76,.sl 2 gone.length 1,.yV A6,.d (.sl 3 (grams.map B0.A4)),.yO lost])]) (fun j=>l.length-j) 0 (zi _) (fun _=>rfl) (fun _=>rfl) ?_ ?_
  .rw[hL0];exact A8.ck rfl
  intro j hj;have hjt:(Lf j).length<=1000:=hLl j hj
  by_cases hjl:j<l.length
  .obtain⟨x,hx⟩:=Ah hjl;have c3:=BN x (hnb x (q00 hx)).1.FG;have hn:=hLs j x hx;have hN:Ak (Lf (j+1))= .sl 76 ((Lf j).map AA.A4++[nX x]):=by rw[hn];unfold Ak;rw[q0f];rfl
   have hN2:(Lf (j+1)).length=(Lf j).length+1:=by rw[hn];simp
   unfold AA.d at c3;rw[show x.A4=nX x from rfl]at c3;dsimp only[nX]at c3
   have hY:YT Tryz.prog 6 [.yO j,.dp (nX x)] [.c [.d (Ak l),.yV gone,.yV A6,.d (.sl 3 (grams.map B0.A4)),.yO lost],.c [.e0,.e0,.e0,.e0,.yO 0],.a (.is gone),.c [.sl 4 (Lf j).length 76,.sl 2 gone.length 1,.yV A6,.d (.sl 3 (grams.map B0.A4)),.yO lost],.a (Ak (Lf j)),.c [.d (Ak l)],.lp r] fun v K=>v= .yP true/\K=[.c [.d (Ak l),.yV gone,.yV A6,.d (.sl 3 (grams.map B0.A4)),.yO lost],.c [.e0,.e0,.e0,.e0,.yO 0],.a (.is gone),.c [.sl 4 (Lf (j+1)).length 76,.sl 2 gone.length 1,.yV A6,.d (.sl 3 (grams.map B0.A4)),.yO lost],.a (Ak (Lf (j+1))),.c [.d (Ak l)],.lp r]:=by
    refine Ar hr rfl rfl rfl ?_;unfold nX;refine A9 H4 ?_;refine zR ?_;refine AO H4 ?_ (AK @c3);refine⟨⟨[],[.c [.d (Ak l),.yV gone,.yV A6,.d (.sl 3 (grams.map B0.A4)),.yO lost],.c [.e0,.e0,.e0,.e0,.yO 0],.a (.is gone),.c [.sl 4 (Lf (j+1)).length 76,.sl 2 gone.length 1,.yV A6,.d (.sl 3 (grams.map B0.A4)),.yO lost],.a (Ak (Lf (j+1))),.c [.d (Ak l)],.lp r.busy],_⟩,(have nC:=zh hN hN2;A8.cn rfl),zN _,rfl,rfl,rfl⟩
   unfold nX at hY;have ix1:=hx;have q1:=@hY;refine A9 [0,1,3,5,6,7,15] ?_;clear q1 ix1;with_reducible repeat' first|constructor|intro hc
   refine⟨j+1,hjl,om,zN _,?_⟩;exact A8.ck rfl
  .have e:j=l.length:=om
   subst e;rw[hLe];refine A9 [0,1,3,5,6,7,15] ?_;with_reducible repeat' first|constructor|intro hc
   exact⟨_,A8.refl _,zN _,_,_,rfl,rfl,rfl⟩
 .rintro r hr x H' rfl;refine .inl ⟨rfl,?_⟩;refine A9 H4 ?_;exact Bh
abbrev FE:BF:=[0,1,2,5,6,30,31]
abbrev Fz:BF:=[0,1,2,3,4,5,6,7,38,50,55,56,57,65]
abbrev OJ:BF:=[0,1,3,5,6,7,15]
theorem fU(l:List AA):yT 33 [.sl 0 l.length 76] [.a (Ak l)] (.fn (.func 63) [] [.ptr 1 0 1]) [.a (Ak l),.c [.sl 0 l.length 76]]:=by
 refine zC AE Tryz.func33 ?_;refine A9 [0,1,2] ?_;exact Bh
theorem NP(l:Ai)(p:Int)(hl:l.length<=100000):yT 120 [.sl 0 l.length 1,.yO p] [.a (.is l)] (.yP (decide (p∈l))) [.a (.is l)]:=
 Fn.read (Eb l p om) rfl (by simp[Dv,CG,Ca,C7,BP])
abbrev gM(c:CS):z6:=[.c (cX c 4 2),.gone,.a (.is c.gone),.c [.ptr 0 0 5],.a (Ak c.nodes)]
theorem Ww(c:CS)(p:Int)(lv:Bool)(h:CW c)(hg:Cx c.nodes p=none\/p∈c.A6\/c.gone.length>=1000):yT 119 [.yO p,.yP lv,.ptr 3 0 1] (cC c) (.yO 2) (cC c):=by
 have hl:=h.len;have c1:=Hx c.nodes p om;rw[GN]at c1;have c2:=Eb c.A6 p om;refine zC AE Tryz.func119 ?_;simp only[zY,zZ]at*
 cases hi:Cx c.nodes p with
 |none=>
  rw[hi]at c1;dsimp only at c1;refine Ax FE ?_ (BJ [1] c1);exact Bh
 |some i=>
  rw[hi]at c1;dsimp only at c1;have f1:decide ((i:Int)<0)=false:=zQ om
  by_cases hb:p∈c.A6
  .rw[zU hb]at c2;refine By FE ?_ (AK f1) (AK @c2) (BJ [1] c1);exact Bh
  .rw[zQ hb]at c2
   have f2:decide ((c.gone.length:Int)>=1000)=true:=zU (by
    rcases hg with e|e|e
    .rw[hi]at e;cases e
    .exact absurd e hb
    .omega)
   refine By FE ?_ (Au f1 f2) (AK @c2) (BJ [1] c1);exact Bh
theorem Wv(c:CS)(p:Int)(lv:Bool)(i:Nat)(h:CW c)(hi:Cx c.nodes p=some i)(hb:p∉c.A6)(hg:c.gone.length<1000):
  yT 119 [.yO p,.yP lv,.ptr 3 0 1] (cC c) (.yO 0) (gM (FT c p lv).1):=by
 have hl:=h.len;have c1:=Hx c.nodes p om;rw[GN,hi]at c1;have c2:=Eb c.A6 p om;rw[zQ hb]at c2;obtain⟨n,h1,h2,h3,_⟩:=h.node hi;have hlt:=(zS.1 h1).1;have hE:=List.length_eraseIdx_of_lt hlt;have d2:=kw c.nodes i hlt;rw[<-hE]at d2;have f1:decide ((i:Int)<0)=false:=zQ om;have f2:decide ((c.gone.length:Int)>=1000)=false:=zQ om
 have hT:(FT c p lv).1=⟨c.nodes.eraseIdx i,c.gone++[p],c.A6,if lv then Bg.IN c.bag (GL n)else c.bag⟩:=by
  unfold FT;rw[hi];dsimp only;rw[zx (fun e=>e.elim hb (fun e=>om)),h2]
 rw[hT];clear hT;generalize hz:c.nodes.eraseIdx i=rest at *;refine zC AE Tryz.func119 ?_;dsimp only at c1;simp only[zY,zZ]at*
 cases lv with
 |false=>
  rw[zx Bool.false_ne_true];refine By FE ?_ (Au f1 f2) (AK @c2) (BJ [1] c1) [] [6];refine Ax FE ?_ (BJ [1] d2) [(0,8)] [7];refine A9 FE ?_ [(0,7)];exact Bh
 |true=>
  rw[zn rfl];have c3:=mq n h3;have t2:=mt h3
  have d1:=Km c (GL n) h.b (by
   have:=(gV h3).1;have:=(DJ.1 (B2.1 h3.r).2.2.2.2.2.2.1).1
   omega) (Jt t2)
  unfold Ii at d1;generalize Bg.IN c.bag (GL n)=b at *;generalize GL n=g at *;dsimp only[cB,cX]at d1;have hsl:=LB h1;unfold AA.d at c3;rw[<-hsl]at c3;refine By FE ?_ (Au f1 f2) (AK @c2) (BJ [1] c1) [] [5];have ix1:=h1;refine B6 FE ?_ (AK @c3) (BJ [0,1,2] d1) [] [6];clear ix1;refine Ax FE ?_ (BJ [1] d2) [(0,8)] [7];refine A9 FE ?_ [(0,7)];exact Bh
abbrev gJ(c:CS):z6:=[.c (cX c 5 2),.gone,.a (.is c.gone),.c [.ptr 0 0 5],.gone,.a (Ak c.nodes)]
theorem kc(c:CS)(s:Step)(h:CW c)(hj:KR c s.a=false):yT 123 [.d s.d,.ptr 3 0 1] (cC c) (.yO 2) (cC c):=by
 have hl:=h.len;have q0:=Gq s.a;have q1:=Hx c.nodes s.a om;rw[GN]at q1;have q2:=NP c.gone s.a om;unfold KR at hj;rw[UK]at hj;refine zC AE Tryz.func123 ?_;unfold Step.d Step.A4;simp only[zY,zZ]at*
 cases hp:BV s.a with
 |false=>
  rw[hp]at q0;refine AO Fz ?_ (AK @q0);exact Bh
 |true=>
 rw[hp]at q0 hj
 cases hi:Cx c.nodes s.a with
 |some i=>
  rw[hi]at q1;dsimp only at q1;have f1:decide ((i:Int)>=0)=true:=zU om;refine By Fz ?_ (AK f1) (AK @q0) (BJ [1] q1);exact Bh
 |none=>
 rw[hi]at q1 hj;dsimp only at q1
 by_cases hg:s.a∈c.gone
 .rw[zU hg]at q2;refine B6 Fz ?_ (AK @q0) (H0 [1] q1 [2] q2);exact Bh
 .rw[zQ hg]at q2 hj
  have f2:decide ((c.nodes.length:Int)>=12)=true:=zU (by
   simp only[Option.isSome_none,q1p,q0A,q0c]at hj
   omega)
  refine By Fz ?_ (AK f2) (AK @q0) (H0 [1] q1 [2] q2);exact Bh
attribute [local simp] L4
abbrev jH(c:CS)(s:Step)(n:AA)(a:Nat)(r:Lp):z6:=[.c (cX c 1 2),.a (Ak c.nodes),.a (.is c.gone),.c [.ptr 0 0 5],.c [.yQ s.AN,.yO s.a,.yO s.b,.yO s.c,.d (.by s.bytes),.yU s.AC.AI,.yO s.AC.B4,.yO s.AC.AZ,.yP s.AC.gone],.a (.sl 76 []),.c (As n),.c [.yO a],.c [.sl 1 c.nodes.length 76],.lp r]
theorem kb(c:CS)(s:Step)(h:CW c)(hj:KR c s.a=true):yT 123 [.d s.d,.ptr 3 0 1] (cC c) (.yO 0) (gJ (JK c s.a).1):=by
 have hl:=h.len
 have hT:(JK c s.a).1=⟨MI c.nodes (Uo c.nodes s.a c.nodes.length) (EA s.a c.A6).1,c.gone,c.A6,c.bag⟩:=by
  unfold JK;rw[hj];rfl
 rw[hT];clear hT;unfold KR at hj;rw[UK]at hj;simp only[zO,q0h,zW,q0c]at hj;obtain⟨hp,hi,hg,hn⟩:=hj
 have hi:Cx c.nodes s.a=none:=by
  cases e:Cx c.nodes s.a with
  |none=>rfl
  |some i=>rw[e]at hi;cases hi
 have q0:=Gq s.a;have q1:=Hx c.nodes s.a om;rw[GN,hi]at q1;dsimp only at q1;have q2:=NP c.gone s.a om;rw[zQ hg]at q2;rw[hp]at q0;have f2:decide ((c.nodes.length:Int)>=12)=false:=zQ om;have q3:=dV s.a c.A6 om;have he:=(Sk hp h.n.b).1;obtain⟨hat,_,_⟩:=RQ c.nodes s.a c.nodes.length
 have h0:0<c.nodes.length:=by
  have hb:=h.n.b;unfold Fj at hb;simp only[zO,zW]at hb;obtain⟨p,hp⟩:=List.exists_mem_of_length_pos (l:=c.A6) om;have:=List.length_pos_of_mem (h.n.bn p hp);unfold ids at this;rwa [q08]at this
 generalize EA s.a c.A6=nn at *;obtain⟨n,e⟩:=nn;dsimp only at he q3|-;subst he;have q4:=mV c.nodes n (Uo c.nodes s.a c.nodes.length) hat h0 om;have q5:=fU c.nodes;obtain⟨A,hA⟩:∃A:Nat->Nat,A=Uo c.nodes s.a:=⟨_,rfl⟩;have hA0:A 0=0:=by rw[hA];rfl
 have hAs:∀k x,c.nodes[k]? =some x->A (k+1)=if x.A7.id<s.a then k+1 else A k:=fun k x hx=>by
  have:c.nodes.getD k FD=x:=by rw[zo,hx];rfl
  rw[hA];show(if(c.nodes.getD k FD).A7.id<s.a then k+1 else Uo c.nodes s.a k)=_;rw[this]
 rw[<-hA]at q4 hat|-;have hil:(MI c.nodes (A c.nodes.length) n).length=c.nodes.length+1:=by unfold MI;simp only[q04,q02,q0D,q1H];omega
 rw[show c.nodes.take (A c.nodes.length)++n::c.nodes.drop (A c.nodes.length)=MI c.nodes (A c.nodes.length) n from rfl]at q4;rw[<-hil]at q4;generalize hz:MI c.nodes (A c.nodes.length) n=rest at *;refine zC AE Tryz.func123 ?_;unfold Step.d Step.A4;unfold AA.d AA.A4 AG.A4 Calls.A4 B9.A4 at q3;simp only[zY,zZ]at *;clear hA hz hi hp hg;refine A9 Fz ?_ [] [1];refine BG (A8.aNew 76) sm ?_;refine By Fz ?_ (AK f2) (Au @q0 @q3) (WA [1] q1 [2] q2 [1] q5);refine zG (K:=fun r _ H'=>H'=jH c s n (A c.nodes.length) r) ?_ ?_
 .intro r hr;have hk:=hr.ok (k:=9) rfl;refine zT AE Tryz.func63 ?_;refine A9 OJ ?_;refine CM (fun k:Nat=>k<=c.nodes.length) (fun k:Nat=>[(6,.yO k)]) (fun k=>[(7,.c [.yO (A k)])]) (fun k=>c.nodes.length-k) 0 (zi _) (fun _=>rfl) (fun _=>rfl) ?_ ?_
  .rw[hA0];exact A8.ck rfl
  intro k hkk
  by_cases hkl:k<c.nodes.length
  .obtain⟨x,hx⟩:=Ah hkl;have ha:=hAs k x hx
   have hgd:(slc (Ak c.nodes)).getD (k*76) D.np= .yX x.A7.id:=by
    have hsl:=LB hx;have h1:=congrArg (fun l=>l.head?) hsl;rw[zo];simp only[List.head?_take,List.head?_drop]at h1;rw[zx (by decide)]at h1;rw[h1];rfl
   by_cases hc:x.A7.id<s.a
   .rw[zn hc]at ha;have f1:decide (x.A7.id<s.a)=true:=zU hc
    have hY:YT Tryz.prog 9 [.yO k,.ep 1 k 0 c.nodes.length 76] (jH c s n (A k) r) fun v K=>v= .yP true/\K=jH c s n (A (k+1)) r:=by
     rw[ha];refine Ar hr rfl rfl rfl ?_;refine A9 Fz ?_;refine zR ?_;have nS:=zh hgd f1
     repeat'(first|((with_reducible refine sg ?_);first|with_reducible rfl|((with_reducible refine Na ?_);first|kernel_rfl|rfl|(simp[Fp,IL,nS];done))|with_reducible refine Mb ?_ ?_|with_reducible exact q1K _|with_reducible exact DL _|((with_reducible refine zU ?_);first|omega|(simp only[IK,nS];omega))|decide|(simp[IK,slc,Cs,D.one,ER,AV.one,nS];done)|(simp[IK,nS];omega))|((with_reducible refine g0 ?_);first|(refine Er rfl ?_;refine el AE rfl rfl rfl rfl ?_)|(refine NG rfl ?_;refine q7 AE rfl rfl rfl rfl rfl (q0V _) (EF hx) ?_)|refine Xq AE rfl rfl rfl rfl ?_ ?_|refine Xn [0,1,2,3,4,5,6,7,38,50,55,56,57,65] rfl ?_|refine Xa AE rfl rfl rfl rfl rfl ?_ ?_|refine Xw AE rfl rfl rfl rfl ?_ ?_|refine Xs rfl rfl rfl ?_|(refine RJ rfl rfl (fun hc=> ?_) (fun hc=> ?_)<;>(fail_if_success (with_reducible first|exact tF hc|exact fT hc))<;>(try simp only[Ma]at hc)<;>(try(exfalso;omega))))|((with_reducible refine t8 ?_);first|(refine IS rfl ?_;refine so AE rfl rfl (fun _=>rfl) rfl rfl ?_)|(refine NF rfl ?_;refine qB AE rfl rfl (fun _=>rfl) rfl rfl rfl (q0V _) (EF hx) ?_)|refine Yp AE rfl rfl (fun _=>rfl) rfl rfl ?_ ?_|refine Yq rfl rfl rfl rfl rfl ?_ ?_|refine Ys rfl rfl rfl rfl ?_|refine Ya AE rfl rfl rfl rfl rfl rfl ?_ ?_|refine Yw AE rfl rfl rfl rfl rfl ?_ ?_|refine Yn [0,1,2,3,4,5,6,7,38,50,55,56,57,65] [] mixed AE (by kernel_rfl) q0r rfl ?_|(refine RL rfl rfl (fun hc=> ?_) (fun hc=> ?_)<;>(fail_if_success (with_reducible first|exact tF hc|exact fT hc))<;>(try simp only[Ma]at hc)<;>(try(exfalso;omega))))|refine IR ?_|refine Fh ?_|refine bc T.get ?_|refine Fi ?_|refine IQ ?_|refine EU ?_|refine Fg ?_|refine QR 3 ?_|refine RG ?_|refine NE ?_|refine Df rfl ?_|refine De rfl ?_|(refine FJ rfl (fun hc=> ?_) (fun hc=> ?_)<;>(try simp only[Ma]at hc)<;>(try(exfalso;omega))))
     exact⟨⟨[],jH c s n (k+1) r.busy,_⟩,(A8.ck rfl),zN _,rfl,rfl,rfl⟩
    have ix1:=hx;have q1:=@hY;refine A9 OJ ?_;clear q1 ix1;with_reducible repeat' first|constructor|intro hc
    refine⟨k+1,hkl,om,zN _,?_⟩;exact A8.ck rfl
   .rw[zx hc]at ha;have f1:decide (x.A7.id<s.a)=false:=zQ hc
    have hY:YT Tryz.prog 9 [.yO k,.ep 1 k 0 c.nodes.length 76] (jH c s n (A k) r) fun v K=>v= .yP true/\K=jH c s n (A k) r:=by
     refine Ar hr rfl rfl rfl ?_;refine A9 Fz ?_;refine zR ?_;have nS:=zh hgd f1
     repeat'(first|((with_reducible refine sg ?_);first|with_reducible rfl|((with_reducible refine Na ?_);first|kernel_rfl|rfl|(simp[Fp,IL,nS];done))|with_reducible refine Mb ?_ ?_|with_reducible exact q1K _|with_reducible exact DL _|((with_reducible refine zU ?_);first|omega|(simp only[IK,nS];omega))|decide|(simp[IK,slc,Cs,D.one,ER,AV.one,nS];done)|(simp[IK,nS];omega))|((with_reducible refine g0 ?_);first|(refine Er rfl ?_;refine el AE rfl rfl rfl rfl ?_)|(refine NG rfl ?_;refine q7 AE rfl rfl rfl rfl rfl (q0V _) (EF hx) ?_)|refine Xq AE rfl rfl rfl rfl ?_ ?_|refine Xn [0,1,2,3,4,5,6,7,38,50,55,56,57,65] rfl ?_|refine Xa AE rfl rfl rfl rfl rfl ?_ ?_|refine Xw AE rfl rfl rfl rfl ?_ ?_|refine Xs rfl rfl rfl ?_|(refine RJ rfl rfl (fun hc=> ?_) (fun hc=> ?_)<;>(fail_if_success (with_reducible first|exact tF hc|exact fT hc))<;>(try simp only[Ma]at hc)<;>(try(exfalso;omega))))|((with_reducible refine t8 ?_);first|(refine IS rfl ?_;refine so AE rfl rfl (fun _=>rfl) rfl rfl ?_)|(refine NF rfl ?_;refine qB AE rfl rfl (fun _=>rfl) rfl rfl rfl (q0V _) (EF hx) ?_)|refine Yp AE rfl rfl (fun _=>rfl) rfl rfl ?_ ?_|refine Yq rfl rfl rfl rfl rfl ?_ ?_|refine Ys rfl rfl rfl rfl ?_|refine Ya AE rfl rfl rfl rfl rfl rfl ?_ ?_|refine Yw AE rfl rfl rfl rfl rfl ?_ ?_|refine Yn [0,1,2,3,4,5,6,7,38,50,55,56,57,65] [] mixed AE (by kernel_rfl) q0r rfl ?_|(refine RL rfl rfl (fun hc=> ?_) (fun hc=> ?_)<;>(fail_if_success (with_reducible first|exact tF hc|exact fT hc))<;>(try simp only[Ma]at hc)<;>(try(exfalso;omega))))|refine IR ?_|refine Fh ?_|refine bc T.get ?_|refine Fi ?_|refine IQ ?_|refine EU ?_|refine Fg ?_|refine QR 3 ?_|refine RG ?_|refine NE ?_|refine Df rfl ?_|refine De rfl ?_|(refine FJ rfl (fun hc=> ?_) (fun hc=> ?_)<;>(try simp only[Ma]at hc)<;>(try(exfalso;omega))))
     exact⟨⟨[],jH c s n (A k) r.busy,_⟩,(A8.ck rfl),zN _,rfl,rfl,rfl⟩
    have ix1:=hx;have q1:=@hY;refine A9 OJ ?_;clear q1 ix1;with_reducible repeat' first|constructor|intro hc
    refine⟨k+1,hkl,om,zN _,?_⟩;exact(have nC:=ha;A8.cn rfl)
  .have e:k=c.nodes.length:=om
   subst e;refine A9 OJ ?_;with_reducible repeat' first|constructor|intro hc
   exact⟨_,A8.refl _,zN _,_,_,rfl,rfl,rfl⟩
 .rintro r hr x H' rfl;refine .inl ⟨rfl,?_⟩;have ow:Lv [75]:=trivial;refine Ax Fz ?_ (BJ [1,10,5] q4) [(0,7),(1,7),(2,7),(3,7),(4,7),(5,7),(0,8)];clear ow;exact Bh
abbrev cM(c:CS):z6:=cB c++[.c [.ptr 0 0 5],.c [.fn (.func 119) [] [.ptr 3 0 1]]]
abbrev gK(c:CS):z6:=[.c (cX c 6 2),.gone,.a (.is c.gone),.c [.ptr 0 0 5],.c [.fn (.func 119) [] [.ptr 3 0 1]],.gone,.a (Ak c.nodes)]
theorem ko(c:CS)(s:Step)(h:CW c)(hg:Cx c.nodes s.a=none\/s.a∈c.A6\/c.gone.length>=1000):yT 125 [.d s.d,.ptr 4 0 1] (cM c) (.yO 2) (cM c):=by
 have d1:=Ww c s.a false h hg;refine zC AE Tryz.func125 ?_;unfold Step.d Step.A4;simp only[zY,zZ]at *;refine Ax [0,1,2,3] ?_ (BJ [0,1,2,3] d1);exact Bh
theorem fX(c:CS)(s:Step)(h:CW c)(hg:Cx c.nodes s.a=none\/s.a∈c.A6\/c.gone.length>=1000):yT 126 [.d s.d,.ptr 4 0 1] (cM c) (.yO 2) (cM c):=by
 have d1:=Ww c s.a true h hg;refine zC AE Tryz.func126 ?_;unfold Step.d Step.A4;simp only[zY,zZ]at *;refine Ax [0,1,2,3] ?_ (BJ [0,1,2,3] d1);exact Bh
theorem kl(c:CS)(s:Step)(i:Nat)(h:CW c)(hi:Cx c.nodes s.a=some i)(hb:s.a∉c.A6)(hg:c.gone.length<1000):yT 125 [.d s.d,.ptr 4 0 1] (cM c) (.yO 0) (gK (FT c s.a false).1):=by
 have d1:=Wv c s.a false i h hi hb hg;generalize(FT c s.a false).1=c' at *;refine zC AE Tryz.func125 ?_;unfold Step.d Step.A4;simp only[zY,zZ]at *;refine Ax [0,1,2,3] ?_ (BJ [0,1,2,3] d1);exact Bh
theorem fW(c:CS)(s:Step)(i:Nat)(h:CW c)(hi:Cx c.nodes s.a=some i)(hb:s.a∉c.A6)(hg:c.gone.length<1000):yT 126 [.d s.d,.ptr 4 0 1] (cM c) (.yO 0) (gK (FT c s.a true).1):=by
 have d1:=Wv c s.a true i h hi hb hg;generalize(FT c s.a true).1=c' at *;refine zC AE Tryz.func126 ?_;unfold Step.d Step.A4;simp only[zY,zZ]at *;refine Ax [0,1,2,3] ?_ (BJ [0,1,2,3] d1);exact Bh
abbrev DR:BF:=[0,1,2,3,4,5,14]
abbrev mH(c:CS):z6:=[.c (cX c 13 2),.gone,.a (.is c.gone)]++cK++[.gone,.gone,.a (Ak c.nodes)]
theorem MQ(c:CS)(s:Step)(h:CW c)(hk:s.AN=1):yT 46 [.d s.d,.ptr 4 0 1] (cB c++cK) (.yO ((KW c s.a).2)) (cB (KW c s.a).1++cK):=by
 have d1:=kr c s h;generalize KW c s.a=r at *;obtain⟨k,a,b,e,y,it⟩:=s;dsimp only at hk;subst hk;refine zC AE Tryz.func46 ?_;unfold Step.d Step.A4 at *;simp only[zY,zZ]at *;refine Ax DR ?_ (BJ [0,1,2,5] d1);exact Bh
theorem Uw(c:CS)(s:Step)(h:CW c)(hk:s.AN=10)(hx:s.AC.AI.length<=big):yT 46 [.d s.d,.ptr 4 0 1] (cB c++cK) (.yO ((Jk c s.a 2 s.AC).2)) (cB (Jk c s.a 2 s.AC).1++cK):=by
 have d1:=qX c s h hx;generalize Jk c s.a 2 s.AC=r at *;obtain⟨k,a,b,e,y,it⟩:=s;dsimp only at hk;subst hk;refine zC AE Tryz.func46 ?_;unfold Step.d Step.A4 at *;simp only[zY,zZ]at *;refine Ax DR ?_ (BJ [0,1,2,5,6] d1);exact Bh
theorem Uv(c:CS)(s:Step)(h:CW c)(hk:s.AN=11)(hx:s.AC.AI.length<=big):yT 46 [.d s.d,.ptr 4 0 1] (cB c++cK) (.yO ((Jk c s.a 3 ⟨s.AC.AI,0,0,false⟩).2)) (cB (Jk c s.a 3 ⟨s.AC.AI,0,0,false⟩).1++cK):=by
 have d1:=qV c s h hx;generalize Jk c s.a 3 ⟨s.AC.AI,0,0,false⟩=r at *;obtain⟨k,a,b,e,y,it⟩:=s;dsimp only at hk;subst hk;refine zC AE Tryz.func46 ?_;unfold Step.d Step.A4 at *;simp only[zY,zZ]at *;refine Ax DR ?_ (BJ [0,1,2,5,6] d1);exact Bh
theorem GG(c:CS)(s:Step)(h:CW c)(hk:s.AN=2):yT 46 [.d s.d,.ptr 4 0 1] (cB c++cK) (.yO ((Co c s.a).2)) (cB (Co c s.a).1++cK):=by
 have d1:=Wt c s h;generalize Co c s.a=r at *;obtain⟨k,a,b,e,y,it⟩:=s;dsimp only at hk;subst hk;refine zC AE Tryz.func46 ?_;unfold Step.d Step.A4 at *;simp only[zY,zZ]at *;refine Ax DR ?_ (BJ [0,1,2,7] d1);exact Bh
theorem TW(c:CS)(s:Step)(h:CW c)(hk:s.AN=3):yT 46 [.d s.d,.ptr 4 0 1] (cB c++cK) (.yO ((Iw c (Bg.KQ c.bag s.a)).2)) (cB (Iw c (Bg.KQ c.bag s.a)).1++cK):=by
 have d1:=kZ c s h;generalize Iw c (Bg.KQ c.bag s.a)=r at *;obtain⟨k,a,b,e,y,it⟩:=s;dsimp only at hk;subst hk;refine zC AE Tryz.func46 ?_;unfold Step.d Step.A4 at *;simp only[zY,zZ]at *;refine Ax DR ?_ (BJ [0,1,2,7,8] d1);exact Bh
theorem Ri(c:CS)(s:Step)(h:CW c)(hk:s.AN=4):yT 46 [.d s.d,.ptr 4 0 1] (cB c++cK) (.yO ((Iw c (Bg.HD c.bag s.a)).2)) (cB (Iw c (Bg.HD c.bag s.a)).1++cK):=by
 have d1:=fa c s h;generalize Iw c (Bg.HD c.bag s.a)=r at *;obtain⟨k,a,b,e,y,it⟩:=s;dsimp only at hk;subst hk;refine zC AE Tryz.func46 ?_;unfold Step.d Step.A4 at *;simp only[zY,zZ]at *;refine Ax DR ?_ (BJ [0,1,2,7,8] d1);exact Bh
theorem TX(c:CS)(s:Step)(h:CW c)(hk:s.AN=5):yT 46 [.d s.d,.ptr 4 0 1] (cB c++cK) (.yO ((Pw c s).2)) (cB (Pw c s).1++cK):=by
 have d1:=ka c s h;generalize Pw c s=r at *;obtain⟨k,a,b,e,y,it⟩:=s;dsimp only at hk;subst hk;refine zC AE Tryz.func46 ?_;unfold Step.d Step.A4 at *;simp only[zY,zZ]at *;refine Ax DR ?_ (BJ [0,1,2,7,8] d1);exact Bh
theorem QG(c:CS)(s:Step)(h:CW c)(hk:s.AN=6):yT 46 [.d s.d,.ptr 4 0 1] (cB c++cK) (.yO ((Ta c s).2)) (cB (Ta c s).1++cK):=by
 have d1:=qW c s h;generalize Ta c s=r at *;obtain⟨k,a,b,e,y,it⟩:=s;dsimp only at hk;subst hk;refine zC AE Tryz.func46 ?_;unfold Step.d Step.A4 at *;simp only[zY,zZ]at *;refine Ax DR ?_ (BJ [0,1,2,7] d1);exact Bh
theorem QH(c:CS)(s:Step)(h:CW c)(hk:s.AN=7)(hj:KR c s.a=false):yT 46 [.d s.d,.ptr 4 0 1] (cB c++cK) (.yO 2) (cB c++cK):=by
 have d1:=kc c s h hj;obtain⟨k,a,b,e,y,it⟩:=s;dsimp only at hk;subst hk;refine zC AE Tryz.func46 ?_;unfold Step.d Step.A4 at *;simp only[zY,zZ]at *;refine Ax DR ?_ (BJ [0,1,2,9] d1);exact Bh
theorem QI(c:CS)(s:Step)(h:CW c)(hk:s.AN=8)(hg:Cx c.nodes s.a=none\/s.a∈c.A6\/c.gone.length>=1000):yT 46 [.d s.d,.ptr 4 0 1] (cB c++cK) (.yO 2) (cB c++cK):=by
 have d1:=ko c s h hg;obtain⟨k,a,b,e,y,it⟩:=s;dsimp only at hk;subst hk;refine zC AE Tryz.func46 ?_;unfold Step.d Step.A4 at *;simp only[zY,zZ]at *;refine Ax DR ?_ (BJ [0,1,2,9,10] d1);exact Bh
theorem Ow(c:CS)(s:Step)(h:CW c)(hk:s.AN=9)(hg:Cx c.nodes s.a=none\/s.a∈c.A6\/c.gone.length>=1000):yT 46 [.d s.d,.ptr 4 0 1] (cB c++cK) (.yO 2) (cB c++cK):=by
 have d1:=fX c s h hg;obtain⟨k,a,b,e,y,it⟩:=s;dsimp only at hk;subst hk;refine zC AE Tryz.func46 ?_;unfold Step.d Step.A4 at *;simp only[zY,zZ]at *;refine Ax DR ?_ (BJ [0,1,2,9,10] d1);exact Bh
theorem MO(c:CS)(s:Step)(h:CW c)(hk:s.AN=7)(hj:KR c s.a=true):yT 46 [.d s.d,.ptr 4 0 1] (cB c++cK) (.yO 0) (mH (JK c s.a).1):=by
 have d1:=kb c s h hj;generalize(JK c s.a).1=c' at *;obtain⟨k,a,b,e,y,it⟩:=s;dsimp only at hk;subst hk;refine zC AE Tryz.func46 ?_;unfold Step.d Step.A4 at *;simp only[zY,zZ]at *;refine Ax DR ?_ (BJ [0,1,2,9] d1);exact Bh
theorem MP(c:CS)(s:Step)(i:Nat)(h:CW c)(hk:s.AN=8)(hi:Cx c.nodes s.a=some i)(hb:s.a∉c.A6)(hg:c.gone.length<1000):yT 46 [.d s.d,.ptr 4 0 1] (cB c++cK) (.yO 0) (mH (FT c s.a false).1):=by
 have d1:=kl c s i h hi hb hg;generalize(FT c s.a false).1=c' at *;obtain⟨k,a,b,e,y,it⟩:=s;dsimp only at hk;subst hk;refine zC AE Tryz.func46 ?_;unfold Step.d Step.A4 at *;simp only[zY,zZ]at *;refine Ax DR ?_ (BJ [0,1,2,9,10] d1);exact Bh
theorem Rf(c:CS)(s:Step)(i:Nat)(h:CW c)(hk:s.AN=9)(hi:Cx c.nodes s.a=some i)(hb:s.a∉c.A6)(hg:c.gone.length<1000):yT 46 [.d s.d,.ptr 4 0 1] (cB c++cK) (.yO 0) (mH (FT c s.a true).1):=by
 have d1:=fW c s i h hi hb hg;generalize(FT c s.a true).1=c' at *;obtain⟨k,a,b,e,y,it⟩:=s;dsimp only at hk;subst hk;refine zC AE Tryz.func46 ?_;unfold Step.d Step.A4 at *;simp only[zY,zZ]at *;refine Ax DR ?_ (BJ [0,1,2,9,10] d1);exact Bh
theorem Rh(c:CS)(s:Step)(hk:s.AN<1\/11<s.AN):yT 46 [.d s.d,.ptr 4 0 1] (cB c++cK) (.yO 2) (cB c++cK):=by
 have hn:Ke s.AN [1,10,11,2,3,4,5,6,7,8,9]=true:=by
  simp only[Ke,zO,q0h,beq_eq_false_iff_ne,ne_eq];refine⟨?_,?_,?_,?_,?_,?_,?_,?_,?_,?_,?_,trivial⟩<;>omega
 refine zC AE Tryz.func46 ?_;unfold Step.d Step.A4 at *;simp only[zY,zZ]at *;have lk1:=hn;refine A9 DR ?_;clear lk1;exact Bh
end Nd
end Go.Proofs.YtamjpnmjpponpaaGreatDoor
