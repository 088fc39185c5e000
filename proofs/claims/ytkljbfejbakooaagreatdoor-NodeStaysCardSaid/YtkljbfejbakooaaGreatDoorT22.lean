/- Part 22 of a proof. Conditions: those that its theorems state. -/
import Derived.Test.YtkljbfejbakooaaGreatDoorT17
import Derived.Test.YtkljbfejbakooaaGreatDoorT20
set_option linter.unusedSimpArgs false
set_option linter.unusedVariables false
set_option maxHeartbeats 40000000
set_option maxRecDepth 4000
namespace Go.Proofs.YtkljbfejbakooaaGreatDoor
namespace Nd
open Go.Gar
open Wi (AC Bp BE AN Bc mC)
abbrev D4:Aw:=[0,1,2,3,4,5,6,9,12,13,14,15,22,23,31,32,52,55,73]
abbrev FX:Aw:=[0,1,2,5,6,7,8,9,17]
theorem JK(BQ:Int)(l:List AC):xC 209 [.wz BQ,.d (Ap l)] [] (.fn (.func 290) [] [.ptr 1 0 1,.ptr 0 0 1]) [.c [.wz BQ],.c [.d (Ap l)]]:=by
 refine zD AF Tryz.func209 ?_;refine wd [0,1,2,3,4] [] A4 A4 ?_;exact⟨_,(A6.ck rfl),xQ _,_,_,rfl,rfl,rfl,rfl⟩
abbrev mX(x:AC):xD:=[.wz x.AR,.wo x.Aa,.wo x.As,.wo x.dst,.wo x.AH,.wu x.B4,.wu x.done,.wo x.AT,.wo x.AG,.xG x.A8,.xE x.A9.AH,.wo x.A9.B2,.wo x.A9.AZ,.wu x.A9.gone,.wo x.AQ]
abbrev Bm(w:Int)(l:List AC):List (AC×Int):=l.map fun m=>(m,w)
theorem GA(n:AA)(x:D)(k:Nat)(h:k=BK x):AI.Fu 5 x (.c (hC n (.sl 5 k 16)))= .c (hC n (.d x)):=by
 have e:AV.Fu 5 x (.sl 5 k 16)= .d x:=by simp[AV.Fu,h]
 show AI.c (AV.Hd 5 x (hC n (.sl 5 k 16)))=_;rw[Kr];show AI.c (hC n (AV.Fu 5 x (.sl 5 k 16)))=AI.c (hC n (.d x));rw[e]
abbrev gH(n:AA)(j:An)(w:Int)(l:List AC)(a:List (AC×Int)):xS:=[.c (hC n (.sl 5 a.length 16)),.c [.ptr 0 0 77],.c (JL j (.xG j.left)),.c [.wz w],.c [.d (Ap l)],.a (Ab a)]
theorem sj(n:AA)(j:An)(ended:Bool)(l:List AC)(hl:l.length<=100000)(hn:n.keep.length<=1048576)(hs:0<=j.A9.AH.length)(k:List AK)(i:An)(hT:EK n.keep j=(k,i)):xC 132 [.ptr 0 0 77,.wz 6,.wu ended,.d j.d,.d (Ap l),.wu true] [.c (hC n .e0)] (.tup []) [.c (hC {n with keep:=k,Ai:=i} (.d (Ab (Bm 6 l))))]:=by
 have c1:=II n;have c3:=JK 6 l;have c2:=Vp n j hn hs;rw[hT]at c2;dsimp only at c2;refine zD AF Tryz.func132 ?_;obtain⟨N,hN⟩:∃N:AA,N={n with keep:=k,Ai:=i}:=⟨_,rfl⟩;rw[<-hN];unfold hC An.d An.A0 at *;have d1:=Ds.mk [0] (c1);have d2:=Ds.mk [0,2] (c2);have d3:=Ds.mk [] (c3);refine wd D4 [] A4 A4 ?_;clear d3 d2 d1;refine BC (A6.EO 0 76 (.sl 16 []) rfl rfl rfl rfl (by simp[B0])) sm ?_;refine zG (K:=fun r _ H'=>H'=gH N i 6 l (Bm 6 l)++[.lp r]) ?_ ?_
 .intro r hr;have hk:=hr.ok (k:=6) rfl
  have hY:∀(x:AC)(a:List (AC×Int)),a.length<=1000000->YT Tryz.prog 6 [.d (.agg (DC (x,6)))] (gH N i 6 l a++[.lp r,.c (mX x)]) fun v K=>v= .wu true/\K=gH N i 6 l (a++[(x,6)])++[.lp r,.c (mX x)]:=by
   intro x a ha;refine BD hr rfl rfl rfl ?_;unfold DC mX;unfold gH hC;simp only[xX,xY];refine wd D4 [] A4 A4 ?_;refine zR ?_;refine wd D4 [] A4 A4 ?_ [(0,6),(1,6),(2,6),(3,6),(4,6),(0,7)];refine⟨⟨[],[.c (hC N (.sl 5 (a++[(x,6)]).length 16)),.c [.ptr 0 0 77],.c (JL i (.xG i.left)),.c [.wz 6],.c [.d (Ap l)],.a (Ab (a++[(x,6)])),.lp r.busy,.c (mX x)],_⟩,(have nC:=xU @Ab.eq_1 @DC.eq_1;A6.cn rfl),xH _,rfl,rfl,rfl⟩
  refine zT AF Tryz.func290 ?_;refine wd FX [] A4 A4 ?_;refine Ct (fun k:Nat=>k<=l.length) (fun k:Nat=>[(8,.wo k)]) (fun k=>[(0,.c (hC N (.sl 5 (Bm 6 (l.take k)).length 16))),(5,.a (Ab (Bm 6 (l.take k))))]) (fun k=>l.length-k) 0 (xQ _) (fun _=>rfl) (fun _=>rfl) ?_ ?_
  .subst hN;exact A6.ck rfl
  intro k0 hk0
  by_cases hkl:k0<l.length
  .obtain⟨x,hx⟩:=BB hkl;have hy:=hY x (Bm 6 (l.take k0)) (by rw[yS,yM];omega)
   have e1:Bm 6 (l.take k0)++[(x,6)]=Bm 6 (l.take (k0+1)):=by
    rw[Au hx];simp[Bm]
   rw[e1]at hy;unfold gH DC mX at hy;simp only[xX,xY]at hy;have ix1:=hx;have q1:=@hy;refine wd FX [] A4 A4 ?_;clear q1 ix1;with_reducible repeat' first|constructor|intro hc
   refine⟨k0+1,hkl,om,xH _,?_⟩;exact A6.ck rfl
  .have e:k0=l.length:=om
   subst e;rw[yD];refine wd FX [] A4 A4 ?_;with_reducible repeat' first|constructor|intro hc
   exact⟨_,A6.refl _,xH _,_,_,rfl,rfl,rfl⟩
 .rintro r hr x H' rfl;refine .inl ⟨rfl,?_⟩;refine wd D4 [9] A4 A4 ?_;unfold gH;simp only[xX,xY];refine BC (A6.freeze 5 (x:=Ab (Bm 6 l)) rfl) (by rw[E5];exact xH _) ?_;unfold hC at *;simp only[KS,EP];simp only[AI.Fu,AV.Fu,AV.Hd,KU,Nat.reduceEqDiff,Nat.reduceAdd,decide_true,q0M,BK,xw,yI,yS,yG,yC,reduceCtorEq];refine wd D4 [] A4 A4 ?_;exact⟨⟨[],[.c (hC N (.d (Ab (Bm 6 l))))],_⟩,A6.cut rfl trivial ⟨.inr (GA N (Ab (Bm 6 l)) _ (by simp[BK])).symm,trivial⟩ rfl rfl,xA,_,_,rfl,rfl,rfl,rfl⟩
theorem si(n:AA)(j:An)(ended:Bool)(l:List AC)(hl:l.length<=100000):xC 132 [.ptr 0 0 77,.wz 6,.wu ended,.d j.d,.d (Ap l),.wu false] [.c (hC n .e0)] (.tup []) [.c (hC {n with Ai:=j} (.d (Ab (Bm 6 l))))]:=by
 have c1:=II n;have c3:=JK 6 l;refine zD AF Tryz.func132 ?_;obtain⟨N,hN⟩:∃N:AA,N={n with Ai:=j}:=⟨_,rfl⟩;rw[<-hN];unfold hC An.d An.A0 at *;have d1:=Ds.mk [0] (c1);have d2:=Ds.mk [] (c3);refine wd D4 [] A4 A4 ?_;clear d2 d1;refine BC (A6.EO 0 76 (.sl 16 []) rfl rfl rfl rfl (by simp[B0])) sm ?_;refine zG (K:=fun r _ H'=>H'=gH N j 6 l (Bm 6 l)++[.lp r]) ?_ ?_
 .intro r hr;have hk:=hr.ok (k:=6) rfl
  have hY:∀(x:AC)(a:List (AC×Int)),a.length<=1000000->YT Tryz.prog 6 [.d (.agg (DC (x,6)))] (gH N j 6 l a++[.lp r,.c (mX x)]) fun v K=>v= .wu true/\K=gH N j 6 l (a++[(x,6)])++[.lp r,.c (mX x)]:=by
   intro x a ha;refine BD hr rfl rfl rfl ?_;unfold DC mX;unfold gH hC;simp only[xX,xY];refine wd D4 [] A4 A4 ?_;refine zR ?_;refine wd D4 [] A4 A4 ?_ [(0,6),(1,6),(2,6),(3,6),(4,6),(0,7)];refine⟨⟨[],[.c (hC N (.sl 5 (a++[(x,6)]).length 16)),.c [.ptr 0 0 77],.c (JL j (.xG j.left)),.c [.wz 6],.c [.d (Ap l)],.a (Ab (a++[(x,6)])),.lp r.busy,.c (mX x)],_⟩,(have nC:=xU @Ab.eq_1 @DC.eq_1;A6.cn rfl),xH _,rfl,rfl,rfl⟩
  refine zT AF Tryz.func290 ?_;refine wd FX [] A4 A4 ?_;refine Ct (fun k:Nat=>k<=l.length) (fun k:Nat=>[(8,.wo k)]) (fun k=>[(0,.c (hC N (.sl 5 (Bm 6 (l.take k)).length 16))),(5,.a (Ab (Bm 6 (l.take k))))]) (fun k=>l.length-k) 0 (xQ _) (fun _=>rfl) (fun _=>rfl) ?_ ?_
  .subst hN;exact A6.ck rfl
  intro k0 hk0
  by_cases hkl:k0<l.length
  .obtain⟨x,hx⟩:=BB hkl;have hy:=hY x (Bm 6 (l.take k0)) (by rw[yS,yM];omega)
   have e1:Bm 6 (l.take k0)++[(x,6)]=Bm 6 (l.take (k0+1)):=by
    rw[Au hx];simp[Bm]
   rw[e1]at hy;unfold gH DC mX at hy;simp only[xX,xY]at hy;have ix1:=hx;have q1:=@hy;refine wd FX [] A4 A4 ?_;clear q1 ix1;with_reducible repeat' first|constructor|intro hc
   refine⟨k0+1,hkl,om,xH _,?_⟩;exact A6.ck rfl
  .have e:k0=l.length:=om
   subst e;rw[yD];refine wd FX [] A4 A4 ?_;with_reducible repeat' first|constructor|intro hc
   exact⟨_,A6.refl _,xH _,_,_,rfl,rfl,rfl⟩
 .rintro r hr x H' rfl;refine .inl ⟨rfl,?_⟩;refine wd D4 [9] A4 A4 ?_;unfold gH;simp only[xX,xY];refine BC (A6.freeze 5 (x:=Ab (Bm 6 l)) rfl) (by rw[E5];exact xH _) ?_;unfold hC at *;simp only[KS,EP];simp only[AI.Fu,AV.Fu,AV.Hd,KU,Nat.reduceEqDiff,Nat.reduceAdd,decide_true,q0M,BK,xw,yI,yS,yG,yC,reduceCtorEq];refine wd D4 [] A4 A4 ?_;exact⟨⟨[],[.c (hC N (.d (Ab (Bm 6 l))))],_⟩,A6.cut rfl trivial ⟨.inr (GA N (Ab (Bm 6 l)) _ (by simp[BK])).symm,trivial⟩ rfl rfl,xA,_,_,rfl,rfl,rfl,rfl⟩
theorem so(n:AA)(j:An)(ended:Bool)(l:List AC)(hl:l.length<=100000)(hn:n.keep.length<=1048576)(hs:0<=j.A9.AH.length)(k:List AK)(i:An)(hT:EK n.keep j=(k,i)):xC 132 [.ptr 0 0 77,.wz 7,.wu ended,.d j.d,.d (Ap l),.wu true] [.c (hC n .e0)] (.tup []) [.c (hC {n with keep:=k,Ah:=i} (.d (Ab (Bm 7 l))))]:=by
 have c1:=IJ n;have c3:=JK 7 l;have c2:=Vp n j hn hs;rw[hT]at c2;dsimp only at c2;refine zD AF Tryz.func132 ?_;obtain⟨N,hN⟩:∃N:AA,N={n with keep:=k,Ah:=i}:=⟨_,rfl⟩;rw[<-hN];unfold hC An.d An.A0 at *;have d1:=Ds.mk [0] (c1);have d2:=Ds.mk [0,2] (c2);have d3:=Ds.mk [] (c3);refine wd D4 [] A4 A4 ?_;clear d3 d2 d1;refine BC (A6.EO 0 76 (.sl 16 []) rfl rfl rfl rfl (by simp[B0])) sm ?_;refine zG (K:=fun r _ H'=>H'=gH N i 7 l (Bm 7 l)++[.lp r]) ?_ ?_
 .intro r hr;have hk:=hr.ok (k:=6) rfl
  have hY:∀(x:AC)(a:List (AC×Int)),a.length<=1000000->YT Tryz.prog 6 [.d (.agg (DC (x,7)))] (gH N i 7 l a++[.lp r,.c (mX x)]) fun v K=>v= .wu true/\K=gH N i 7 l (a++[(x,7)])++[.lp r,.c (mX x)]:=by
   intro x a ha;refine BD hr rfl rfl rfl ?_;unfold DC mX;unfold gH hC;simp only[xX,xY];refine wd D4 [] A4 A4 ?_;refine zR ?_;refine wd D4 [] A4 A4 ?_ [(0,6),(1,6),(2,6),(3,6),(4,6),(0,7)];refine⟨⟨[],[.c (hC N (.sl 5 (a++[(x,7)]).length 16)),.c [.ptr 0 0 77],.c (JL i (.xG i.left)),.c [.wz 7],.c [.d (Ap l)],.a (Ab (a++[(x,7)])),.lp r.busy,.c (mX x)],_⟩,(have nC:=xU @Ab.eq_1 @DC.eq_1;A6.cn rfl),xH _,rfl,rfl,rfl⟩
  refine zT AF Tryz.func290 ?_;refine wd FX [] A4 A4 ?_;refine Ct (fun k:Nat=>k<=l.length) (fun k:Nat=>[(8,.wo k)]) (fun k=>[(0,.c (hC N (.sl 5 (Bm 7 (l.take k)).length 16))),(5,.a (Ab (Bm 7 (l.take k))))]) (fun k=>l.length-k) 0 (xQ _) (fun _=>rfl) (fun _=>rfl) ?_ ?_
  .subst hN;exact A6.ck rfl
  intro k0 hk0
  by_cases hkl:k0<l.length
  .obtain⟨x,hx⟩:=BB hkl;have hy:=hY x (Bm 7 (l.take k0)) (by rw[yS,yM];omega)
   have e1:Bm 7 (l.take k0)++[(x,7)]=Bm 7 (l.take (k0+1)):=by
    rw[Au hx];simp[Bm]
   rw[e1]at hy;unfold gH DC mX at hy;simp only[xX,xY]at hy;have ix1:=hx;have q1:=@hy;refine wd FX [] A4 A4 ?_;clear q1 ix1;with_reducible repeat' first|constructor|intro hc
   refine⟨k0+1,hkl,om,xH _,?_⟩;exact A6.ck rfl
  .have e:k0=l.length:=om
   subst e;rw[yD];refine wd FX [] A4 A4 ?_;with_reducible repeat' first|constructor|intro hc
   exact⟨_,A6.refl _,xH _,_,_,rfl,rfl,rfl⟩
 .rintro r hr x H' rfl;refine .inl ⟨rfl,?_⟩;refine wd D4 [9] A4 A4 ?_;unfold gH;simp only[xX,xY];refine BC (A6.freeze 5 (x:=Ab (Bm 7 l)) rfl) (by rw[E5];exact xH _) ?_;unfold hC at *;simp only[KS,EP];simp only[AI.Fu,AV.Fu,AV.Hd,KU,Nat.reduceEqDiff,Nat.reduceAdd,decide_true,q0M,BK,xw,yI,yS,yG,yC,reduceCtorEq];refine wd D4 [] A4 A4 ?_;exact⟨⟨[],[.c (hC N (.d (Ab (Bm 7 l))))],_⟩,A6.cut rfl trivial ⟨.inr (GA N (Ab (Bm 7 l)) _ (by simp[BK])).symm,trivial⟩ rfl rfl,xA,_,_,rfl,rfl,rfl,rfl⟩
theorem sk(n:AA)(j:An)(ended:Bool)(l:List AC)(hl:l.length<=100000):xC 132 [.ptr 0 0 77,.wz 7,.wu ended,.d j.d,.d (Ap l),.wu false] [.c (hC n .e0)] (.tup []) [.c (hC {n with Ah:=j} (.d (Ab (Bm 7 l))))]:=by
 have c1:=IJ n;have c3:=JK 7 l;refine zD AF Tryz.func132 ?_;obtain⟨N,hN⟩:∃N:AA,N={n with Ah:=j}:=⟨_,rfl⟩;rw[<-hN];unfold hC An.d An.A0 at *;have d1:=Ds.mk [0] (c1);have d2:=Ds.mk [] (c3);refine wd D4 [] A4 A4 ?_;clear d2 d1;refine BC (A6.EO 0 76 (.sl 16 []) rfl rfl rfl rfl (by simp[B0])) sm ?_;refine zG (K:=fun r _ H'=>H'=gH N j 7 l (Bm 7 l)++[.lp r]) ?_ ?_
 .intro r hr;have hk:=hr.ok (k:=6) rfl
  have hY:∀(x:AC)(a:List (AC×Int)),a.length<=1000000->YT Tryz.prog 6 [.d (.agg (DC (x,7)))] (gH N j 7 l a++[.lp r,.c (mX x)]) fun v K=>v= .wu true/\K=gH N j 7 l (a++[(x,7)])++[.lp r,.c (mX x)]:=by
   intro x a ha;refine BD hr rfl rfl rfl ?_;unfold DC mX;unfold gH hC;simp only[xX,xY];refine wd D4 [] A4 A4 ?_;refine zR ?_;refine wd D4 [] A4 A4 ?_ [(0,6),(1,6),(2,6),(3,6),(4,6),(0,7)];refine⟨⟨[],[.c (hC N (.sl 5 (a++[(x,7)]).length 16)),.c [.ptr 0 0 77],.c (JL j (.xG j.left)),.c [.wz 7],.c [.d (Ap l)],.a (Ab (a++[(x,7)])),.lp r.busy,.c (mX x)],_⟩,(have nC:=xU @Ab.eq_1 @DC.eq_1;A6.cn rfl),xH _,rfl,rfl,rfl⟩
  refine zT AF Tryz.func290 ?_;refine wd FX [] A4 A4 ?_;refine Ct (fun k:Nat=>k<=l.length) (fun k:Nat=>[(8,.wo k)]) (fun k=>[(0,.c (hC N (.sl 5 (Bm 7 (l.take k)).length 16))),(5,.a (Ab (Bm 7 (l.take k))))]) (fun k=>l.length-k) 0 (xQ _) (fun _=>rfl) (fun _=>rfl) ?_ ?_
  .subst hN;exact A6.ck rfl
  intro k0 hk0
  by_cases hkl:k0<l.length
  .obtain⟨x,hx⟩:=BB hkl;have hy:=hY x (Bm 7 (l.take k0)) (by rw[yS,yM];omega)
   have e1:Bm 7 (l.take k0)++[(x,7)]=Bm 7 (l.take (k0+1)):=by
    rw[Au hx];simp[Bm]
   rw[e1]at hy;unfold gH DC mX at hy;simp only[xX,xY]at hy;have ix1:=hx;have q1:=@hy;refine wd FX [] A4 A4 ?_;clear q1 ix1;with_reducible repeat' first|constructor|intro hc
   refine⟨k0+1,hkl,om,xH _,?_⟩;exact A6.ck rfl
  .have e:k0=l.length:=om
   subst e;rw[yD];refine wd FX [] A4 A4 ?_;with_reducible repeat' first|constructor|intro hc
   exact⟨_,A6.refl _,xH _,_,_,rfl,rfl,rfl⟩
 .rintro r hr x H' rfl;refine .inl ⟨rfl,?_⟩;refine wd D4 [9] A4 A4 ?_;unfold gH;simp only[xX,xY];refine BC (A6.freeze 5 (x:=Ab (Bm 7 l)) rfl) (by rw[E5];exact xH _) ?_;unfold hC at *;simp only[KS,EP];simp only[AI.Fu,AV.Fu,AV.Hd,KU,Nat.reduceEqDiff,Nat.reduceAdd,decide_true,q0M,BK,xw,yI,yS,yG,yC,reduceCtorEq];refine wd D4 [] A4 A4 ?_;exact⟨⟨[],[.c (hC N (.d (Ab (Bm 7 l))))],_⟩,A6.cut rfl trivial ⟨.inr (GA N (Ab (Bm 7 l)) _ (by simp[BK])).symm,trivial⟩ rfl rfl,xA,_,_,rfl,rfl,rfl,rfl⟩
abbrev D5:Aw:=[0,1,2,3,4,5,6,9,12,13,14,15,22,23,31,32,52,55,73]
abbrev Lz:Aw:=[0,1,2,5,6,7,8,9,17]
theorem sf(n:AA)(j:An)(ended:Bool)(l:List AC)(hl:l.length<=100000)(hx0:0<=n.next)(hx1:n.next<16)(hb1:n.A7.AB.length<=1000)(hb2:n.A7.A8.length<=1000)(hn:n.keep.length<=1048576)(hs:0<=j.A9.AH.length)(k:List AK)(i:An)(hT:EK n.keep j=(k,i)):xC 132 [.ptr 0 0 77,.wz 5,.wu ended,.d j.d,.d (Ap l),.wu true] [.c (hC n .e0)] (.tup []) [.c (hC (if ended=false/\i.A5=5 then FF {n with keep:=k,AP:=i}else{n with keep:=k,AP:=i}) (.d (Ab (Bm 5 l))))]:=by
 have c1:=IH n;have c3:=JK 5 l;have c2:=Vp n j hn hs;rw[hT]at c2;dsimp only at c2;refine zD AF Tryz.func132 ?_;obtain⟨N,hN⟩:∃N:AA,N={n with keep:=k,AP:=i}:=⟨_,rfl⟩;rw[<-hN];unfold hC An.d An.A0 at *;have d1:=Ds.mk [0] (c1);have d2:=Ds.mk [0,2] (c2);have d3:=Ds.mk [] (c3);refine wd D5 [] A4 A4 ?_;clear d3 d2 d1;refine BC (A6.EO 0 76 (.sl 16 []) rfl rfl rfl rfl (by simp[B0])) sm ?_;refine zG (K:=fun r _ H'=>H'=gH N i 5 l (Bm 5 l)++[.lp r]) ?_ ?_
 .intro r hr;have hk:=hr.ok (k:=6) rfl
  have hY:∀(x:AC)(a:List (AC×Int)),a.length<=1000000->YT Tryz.prog 6 [.d (.agg (DC (x,5)))] (gH N i 5 l a++[.lp r,.c (mX x)]) fun v K=>v= .wu true/\K=gH N i 5 l (a++[(x,5)])++[.lp r,.c (mX x)]:=by
   intro x a ha;refine BD hr rfl rfl rfl ?_;unfold DC mX;unfold gH hC;simp only[xX,xY];refine wd D5 [] A4 A4 ?_;refine zR ?_;refine wd D5 [] A4 A4 ?_ [(0,6),(1,6),(2,6),(3,6),(4,6),(0,7)];refine⟨⟨[],[.c (hC N (.sl 5 (a++[(x,5)]).length 16)),.c [.ptr 0 0 77],.c (JL i (.xG i.left)),.c [.wz 5],.c [.d (Ap l)],.a (Ab (a++[(x,5)])),.lp r.busy,.c (mX x)],_⟩,(have nC:=xU @Ab.eq_1 @DC.eq_1;A6.cn rfl),xH _,rfl,rfl,rfl⟩
  refine zT AF Tryz.func290 ?_;refine wd Lz [] A4 A4 ?_;refine Ct (fun k:Nat=>k<=l.length) (fun k:Nat=>[(8,.wo k)]) (fun k=>[(0,.c (hC N (.sl 5 (Bm 5 (l.take k)).length 16))),(5,.a (Ab (Bm 5 (l.take k))))]) (fun k=>l.length-k) 0 (xQ _) (fun _=>rfl) (fun _=>rfl) ?_ ?_
  .subst hN;exact A6.ck rfl
  intro k0 hk0
  by_cases hkl:k0<l.length
  .obtain⟨x,hx⟩:=BB hkl;have hy:=hY x (Bm 5 (l.take k0)) (by rw[yS,yM];omega)
   have e1:Bm 5 (l.take k0)++[(x,5)]=Bm 5 (l.take (k0+1)):=by
    rw[Au hx];simp[Bm]
   rw[e1]at hy;unfold gH DC mX at hy;simp only[xX,xY]at hy;have ix1:=hx;have q1:=@hy;refine wd Lz [] A4 A4 ?_;clear q1 ix1;with_reducible repeat' first|constructor|intro hc
   refine⟨k0+1,hkl,om,xH _,?_⟩;exact A6.ck rfl
  .have e:k0=l.length:=om
   subst e;rw[yD];refine wd Lz [] A4 A4 ?_;with_reducible repeat' first|constructor|intro hc
   exact⟨_,A6.refl _,xH _,_,_,rfl,rfl,rfl⟩
 .rintro r hr x H' rfl;refine .inl ⟨rfl,?_⟩;unfold gH hC;simp only[xX,xY];have hv:=bc n.A7 n.next i.AO hb1 hb2;unfold AD.d AD.A0 at hv;subst hN;dsimp only
  cases ended with
  |true=>
   refine wd D5 [] A4 A4 ?_;exact⟨⟨[],[.c (hC {n with keep:=k,AP:=i} (.d (Ab (Bm 5 l))))],_⟩,A6.trans' (A6.freeze 5 (x:=Ab (Bm 5 l)) rfl) (A6.cut rfl trivial ⟨.inr (GA {n with keep:=k,AP:=i} (Ab (Bm 5 l)) _ (by simp[BK])).symm,trivial⟩ rfl rfl) xA,xA,_,_,rfl,rfl,rfl,rfl⟩
  |false=>
   by_cases h5:i.A5=5
   .have f5:=AS h5;rw[if_pos ⟨rfl,h5⟩]
    by_cases hc:i.AQ=0
    .have fc:=AS hc
     have hg:FF {n with keep:=k,AP:=i}={ {n with keep:=k,AP:=i}with A7:=(JG n.A7 n.next i.AO).1,next:=(n.next+1).tmod 16}:=by
      unfold FF;dsimp only;rw[if_pos hc]
     rw[hg]
     have hq:(JG n.A7 n.next i.AO).2=0\/((JG n.A7 n.next i.AO).1=n.A7/\(JG n.A7 n.next i.AO).2=2):=by
      unfold JG;split
      .exact .inl rfl
      .exact .inr ⟨rfl,rfl⟩
     generalize JG n.A7 n.next i.AO=q at *;obtain⟨qv,qe⟩:=q;dsimp only at hv hq|-;rcases hq with rfl|⟨rfl,rfl⟩
     .refine wd D5 [12] (Ax f5 fc) (AM @hv) ?_ [(0,16),(1,16),(2,16),(3,16),(4,16),(5,16),(6,16),(7,16),(8,16),(9,16),(10,16),(11,16),(15,17)];with_reducible repeat' first|constructor|intro hc
      refine wd D5 [] A4 A4 ?_;exact⟨⟨[],[.c (hC { {n with keep:=k,AP:=i}with A7:=qv,next:=(n.next+1).tmod 16} (.d (Ab (Bm 5 l))))],_⟩,A6.trans' (A6.freeze 5 (x:=Ab (Bm 5 l)) rfl) (A6.cut rfl trivial ⟨.inr (GA { {n with keep:=k,AP:=i}with A7:=qv,next:=(n.next+1).tmod 16} (Ab (Bm 5 l)) _ (by simp[BK])).symm,trivial⟩ rfl rfl) xA,xA,_,_,rfl,rfl,rfl,rfl⟩
     .refine wd D5 [12] (Ax f5 fc) (AM @hv) ?_ [(0,16),(1,16),(2,16),(3,16),(4,16),(5,16),(6,16),(7,16),(8,16),(9,16),(10,16),(11,16),(15,17)];with_reducible repeat' first|constructor|intro hc
      refine wd D5 [] A4 A4 ?_;exact⟨⟨[],[.c (hC { {n with keep:=k,AP:=i}with next:=(n.next+1).tmod 16} (.d (Ab (Bm 5 l))))],_⟩,A6.trans' (A6.freeze 5 (x:=Ab (Bm 5 l)) rfl) (A6.cut rfl trivial ⟨.inr (GA { {n with keep:=k,AP:=i}with next:=(n.next+1).tmod 16} (Ab (Bm 5 l)) _ (by simp[BK])).symm,trivial⟩ rfl rfl) xA,xA,_,_,rfl,rfl,rfl,rfl⟩
    .have fc:=eq_false' hc
     have hg:FF {n with keep:=k,AP:=i}={ {n with keep:=k,AP:=i}with next:=(n.next+1).tmod 16}:=by
      unfold FF;dsimp only;rw[if_neg hc]
     rw[hg];dsimp only;refine wd D5 [] (Ax f5 fc) A4 ?_;with_reducible repeat' first|constructor|intro hc
     exact⟨⟨[],[.c (hC { {n with keep:=k,AP:=i}with next:=(n.next+1).tmod 16} (.d (Ab (Bm 5 l))))],_⟩,A6.trans' (A6.freeze 5 (x:=Ab (Bm 5 l)) rfl) (A6.cut rfl trivial ⟨.inr (GA { {n with keep:=k,AP:=i}with next:=(n.next+1).tmod 16} (Ab (Bm 5 l)) _ (by simp[BK])).symm,trivial⟩ rfl rfl) xA,xA,_,_,rfl,rfl,rfl,rfl⟩
   .have f5:=eq_false' h5;rw[if_neg (fun h=>h5 h.2)];refine wd D5 [] (AM f5) A4 ?_;with_reducible repeat' first|constructor|intro hc
    exact⟨⟨[],[.c (hC {n with keep:=k,AP:=i} (.d (Ab (Bm 5 l))))],_⟩,A6.trans' (A6.freeze 5 (x:=Ab (Bm 5 l)) rfl) (A6.cut rfl trivial ⟨.inr (GA {n with keep:=k,AP:=i} (Ab (Bm 5 l)) _ (by simp[BK])).symm,trivial⟩ rfl rfl) xA,xA,_,_,rfl,rfl,rfl,rfl⟩
theorem sd(n:AA)(j:An)(ended:Bool)(l:List AC)(hl:l.length<=100000)(hx0:0<=n.next)(hx1:n.next<16)(hb1:n.A7.AB.length<=1000)(hb2:n.A7.A8.length<=1000):xC 132 [.ptr 0 0 77,.wz 5,.wu ended,.d j.d,.d (Ap l),.wu false] [.c (hC n .e0)] (.tup []) [.c (hC (if ended=false/\j.A5=5 then FF {n with AP:=j}else{n with AP:=j}) (.d (Ab (Bm 5 l))))]:=by
 have c1:=IH n;have c3:=JK 5 l;refine zD AF Tryz.func132 ?_;obtain⟨N,hN⟩:∃N:AA,N={n with AP:=j}:=⟨_,rfl⟩;rw[<-hN];unfold hC An.d An.A0 at *;have d1:=Ds.mk [0] (c1);have d2:=Ds.mk [] (c3);refine wd D5 [] A4 A4 ?_;clear d2 d1;refine BC (A6.EO 0 76 (.sl 16 []) rfl rfl rfl rfl (by simp[B0])) sm ?_;refine zG (K:=fun r _ H'=>H'=gH N j 5 l (Bm 5 l)++[.lp r]) ?_ ?_
 .intro r hr;have hk:=hr.ok (k:=6) rfl
  have hY:∀(x:AC)(a:List (AC×Int)),a.length<=1000000->YT Tryz.prog 6 [.d (.agg (DC (x,5)))] (gH N j 5 l a++[.lp r,.c (mX x)]) fun v K=>v= .wu true/\K=gH N j 5 l (a++[(x,5)])++[.lp r,.c (mX x)]:=by
   intro x a ha;refine BD hr rfl rfl rfl ?_;unfold DC mX;unfold gH hC;simp only[xX,xY];refine wd D5 [] A4 A4 ?_;refine zR ?_;refine wd D5 [] A4 A4 ?_ [(0,6),(1,6),(2,6),(3,6),(4,6),(0,7)];refine⟨⟨[],[.c (hC N (.sl 5 (a++[(x,5)]).length 16)),.c [.ptr 0 0 77],.c (JL j (.xG j.left)),.c [.wz 5],.c [.d (Ap l)],.a (Ab (a++[(x,5)])),.lp r.busy,.c (mX x)],_⟩,(have nC:=xU @Ab.eq_1 @DC.eq_1;A6.cn rfl),xH _,rfl,rfl,rfl⟩
  refine zT AF Tryz.func290 ?_;refine wd Lz [] A4 A4 ?_;refine Ct (fun k:Nat=>k<=l.length) (fun k:Nat=>[(8,.wo k)]) (fun k=>[(0,.c (hC N (.sl 5 (Bm 5 (l.take k)).length 16))),(5,.a (Ab (Bm 5 (l.take k))))]) (fun k=>l.length-k) 0 (xQ _) (fun _=>rfl) (fun _=>rfl) ?_ ?_
  .subst hN;exact A6.ck rfl
  intro k0 hk0
  by_cases hkl:k0<l.length
  .obtain⟨x,hx⟩:=BB hkl;have hy:=hY x (Bm 5 (l.take k0)) (by rw[yS,yM];omega)
   have e1:Bm 5 (l.take k0)++[(x,5)]=Bm 5 (l.take (k0+1)):=by
    rw[Au hx];simp[Bm]
   rw[e1]at hy;unfold gH DC mX at hy;simp only[xX,xY]at hy;have ix1:=hx;have q1:=@hy;refine wd Lz [] A4 A4 ?_;clear q1 ix1;with_reducible repeat' first|constructor|intro hc
   refine⟨k0+1,hkl,om,xH _,?_⟩;exact A6.ck rfl
  .have e:k0=l.length:=om
   subst e;rw[yD];refine wd Lz [] A4 A4 ?_;with_reducible repeat' first|constructor|intro hc
   exact⟨_,A6.refl _,xH _,_,_,rfl,rfl,rfl⟩
 .rintro r hr x H' rfl;refine .inl ⟨rfl,?_⟩;unfold gH hC;simp only[xX,xY];have hv:=bc n.A7 n.next j.AO hb1 hb2;unfold AD.d AD.A0 at hv;subst hN;dsimp only
  cases ended with
  |true=>
   refine wd D5 [] A4 A4 ?_;exact⟨⟨[],[.c (hC {n with AP:=j} (.d (Ab (Bm 5 l))))],_⟩,A6.trans' (A6.freeze 5 (x:=Ab (Bm 5 l)) rfl) (A6.cut rfl trivial ⟨.inr (GA {n with AP:=j} (Ab (Bm 5 l)) _ (by simp[BK])).symm,trivial⟩ rfl rfl) xA,xA,_,_,rfl,rfl,rfl,rfl⟩
  |false=>
   by_cases h5:j.A5=5
   .have f5:=AS h5;rw[if_pos ⟨rfl,h5⟩]
    by_cases hc:j.AQ=0
    .have fc:=AS hc
     have hg:FF {n with AP:=j}={ {n with AP:=j}with A7:=(JG n.A7 n.next j.AO).1,next:=(n.next+1).tmod 16}:=by
      unfold FF;dsimp only;rw[if_pos hc]
     rw[hg]
     have hq:(JG n.A7 n.next j.AO).2=0\/((JG n.A7 n.next j.AO).1=n.A7/\(JG n.A7 n.next j.AO).2=2):=by
      unfold JG;split
      .exact .inl rfl
      .exact .inr ⟨rfl,rfl⟩
     generalize JG n.A7 n.next j.AO=q at *;obtain⟨qv,qe⟩:=q;dsimp only at hv hq|-;rcases hq with rfl|⟨rfl,rfl⟩
     .refine wd D5 [12] (Ax f5 fc) (AM @hv) ?_ [(0,16),(1,16),(2,16),(3,16),(4,16),(5,16),(6,16),(7,16),(8,16),(9,16),(10,16),(11,16),(15,17)];with_reducible repeat' first|constructor|intro hc
      refine wd D5 [] A4 A4 ?_;exact⟨⟨[],[.c (hC { {n with AP:=j}with A7:=qv,next:=(n.next+1).tmod 16} (.d (Ab (Bm 5 l))))],_⟩,A6.trans' (A6.freeze 5 (x:=Ab (Bm 5 l)) rfl) (A6.cut rfl trivial ⟨.inr (GA { {n with AP:=j}with A7:=qv,next:=(n.next+1).tmod 16} (Ab (Bm 5 l)) _ (by simp[BK])).symm,trivial⟩ rfl rfl) xA,xA,_,_,rfl,rfl,rfl,rfl⟩
     .refine wd D5 [12] (Ax f5 fc) (AM @hv) ?_ [(0,16),(1,16),(2,16),(3,16),(4,16),(5,16),(6,16),(7,16),(8,16),(9,16),(10,16),(11,16),(15,17)];with_reducible repeat' first|constructor|intro hc
      refine wd D5 [] A4 A4 ?_;exact⟨⟨[],[.c (hC { {n with AP:=j}with next:=(n.next+1).tmod 16} (.d (Ab (Bm 5 l))))],_⟩,A6.trans' (A6.freeze 5 (x:=Ab (Bm 5 l)) rfl) (A6.cut rfl trivial ⟨.inr (GA { {n with AP:=j}with next:=(n.next+1).tmod 16} (Ab (Bm 5 l)) _ (by simp[BK])).symm,trivial⟩ rfl rfl) xA,xA,_,_,rfl,rfl,rfl,rfl⟩
    .have fc:=eq_false' hc
     have hg:FF {n with AP:=j}={ {n with AP:=j}with next:=(n.next+1).tmod 16}:=by
      unfold FF;dsimp only;rw[if_neg hc]
     rw[hg];dsimp only;refine wd D5 [] (Ax f5 fc) A4 ?_;with_reducible repeat' first|constructor|intro hc
     exact⟨⟨[],[.c (hC { {n with AP:=j}with next:=(n.next+1).tmod 16} (.d (Ab (Bm 5 l))))],_⟩,A6.trans' (A6.freeze 5 (x:=Ab (Bm 5 l)) rfl) (A6.cut rfl trivial ⟨.inr (GA { {n with AP:=j}with next:=(n.next+1).tmod 16} (Ab (Bm 5 l)) _ (by simp[BK])).symm,trivial⟩ rfl rfl) xA,xA,_,_,rfl,rfl,rfl,rfl⟩
   .have f5:=eq_false' h5;rw[if_neg (fun h=>h5 h.2)];refine wd D5 [] (AM f5) A4 ?_;with_reducible repeat' first|constructor|intro hc
    exact⟨⟨[],[.c (hC {n with AP:=j} (.d (Ab (Bm 5 l))))],_⟩,A6.trans' (A6.freeze 5 (x:=Ab (Bm 5 l)) rfl) (A6.cut rfl trivial ⟨.inr (GA {n with AP:=j} (Ab (Bm 5 l)) _ (by simp[BK])).symm,trivial⟩ rfl rfl) xA,xA,_,_,rfl,rfl,rfl,rfl⟩
theorem LZ(n:AA)(w:Int)(ended:Bool)(c:JC)(hw:w=5\/w=6\/w=7)(hl:c.BN.length<=100000)(hx0:0<=n.next)(hx1:n.next<16)(hb1:n.A7.AB.length<=1000)(hb2:n.A7.A8.length<=1000)(hn:n.keep.length<=1048576)(hs:0<=c.job.A9.AH.length):xC 132 [.ptr 0 0 77,.wz w,.wu ended,.d c.job.d,.d (Ap c.BN),.wu c.own] [.c (hC n .e0)] (.tup []) [.c (hC (B6 n w ended c).1 (.d (Ab (B6 n w ended c).2)))]:=by
 obtain⟨j,l,own⟩:=c;dsimp only at hl hs|-
 cases own with
 |true=>
  obtain⟨k,i,hT⟩:∃k i,EK n.keep j=(k,i):=⟨_,_,rfl⟩;rcases hw with rfl|rfl|rfl
  .have:=sf n j ended l hl hx0 hx1 hb1 hb2 hn hs k i hT
   by_cases hE:ended=false/\i.A5=5
   .rw[if_pos hE]at this;unfold B6;simp only[yG,hT];rw[if_pos (show True/\ended=false/\i.A5=5 from⟨trivial,hE⟩)];exact this
   .rw[if_neg hE]at this;unfold B6;simp only[yG,hT];rw[if_neg (show ¬(True/\ended=false/\i.A5=5)from fun h=>hE h.2)];exact this
  .have:=sj n j ended l hl hn hs k i hT;unfold B6;simp only[yG,hT];rw[if_neg (fun h=>absurd h.1 (by decide))];exact this
  .have:=so n j ended l hl hn hs k i hT;unfold B6;simp only[yG,hT];rw[if_neg (fun h=>absurd h.1 (by decide))];exact this
 |false=>
  rcases hw with rfl|rfl|rfl
  .have:=sd n j ended l hl hx0 hx1 hb1 hb2
   by_cases hE:ended=false/\j.A5=5
   .rw[if_pos hE]at this;unfold B6;simp only[yJ,yC];rw[if_pos (show True/\ended=false/\j.A5=5 from⟨trivial,hE⟩)];exact this
   .rw[if_neg hE]at this;unfold B6;simp only[yJ,yC];rw[if_neg (show ¬(True/\ended=false/\j.A5=5)from fun h=>hE h.2)];exact this
  .have:=si n j ended l hl;unfold B6;simp only[yJ,yC];rw[if_neg (fun h=>absurd h.1 (by decide))];exact this
  .have:=sk n j ended l hl;unfold B6;simp only[yJ,yC];rw[if_neg (fun h=>absurd h.1 (by decide))];exact this
abbrev M0:Aw:=[0,1,2,3,4,5,9,10,11,12,13,14,15,27]
theorem ZI(n:AA)(h:Fe n)(AL AT:Int)(x:AK)(hr:Av n=false):xB 52 [n.d,.i .u8 5,.i .u8 AL,.i .i64 AT,x.d] (.tup [n.d,Ab []]):=by
 have cO:=Ay n h;have cS:=IH n;have cR:=Ar n h;rw[hr]at cR;refine zF AF Tryz.func52 ?_;unfold AA.d AA.A0 AD.A0 Calls.A0 An.A0 AK.d AK.A0 at *;unfold hC at cS;have d1:=Ds.mk [3] (cS);refine wd M0 [] A4 (Ax @cO @cR) ?_ [(2,4),(3,4)] true;clear d1;exact zE
theorem ZL(n:AA)(h:Fe n)(AL AT:Int)(x:AK)(hr:Av n=true)(hx0:0<=n.next)(hx1:n.next<16)(hs:x.AH.length<=9223372036854775807)(ha:(Ep n.A7 AL AT x).BN.length<=100000)(hk:0<=(Ep n.A7 AL AT x).job.A9.AH.length):xB 52 [n.d,.i .u8 5,.i .u8 AL,.i .i64 AT,x.d] (.tup [(B6 n 5 false (Ep n.A7 AL AT x)).1.d,Ab (B6 n 5 false (Ep n.A7 AL AT x)).2]):=by
 have cO:=Ay n h;have cS:=IH n;have cR:=Ar n h;rw[hr]at cR;have cB:=Oo n.A7 AL AT x h.vb h.vl hs;have cG:=LZ n 5 false (Ep n.A7 AL AT x) (by decide) ha hx0 hx1 h.vb h.vl h.kn hk;generalize B6 n 5 false (Ep n.A7 AL AT x)=r at *;generalize Ep n.A7 AL AT x=c at *;refine zF AF Tryz.func52 ?_;unfold AD.d An.d at *;unfold AA.d AA.A0 AD.A0 Calls.A0 An.A0 AK.d AK.A0 at *;unfold hC at cS cG;have d1:=Ds.mk [3] (cS);have d2:=Ds.mk [3] (cG);refine wd M0 [] A4 (Ci @cO @cR @cB) ?_ [(2,4),(3,4)] true;clear d2 d1;exact zE
theorem ZJ(n:AA)(h:Fe n)(AL AT:Int)(x:AK)(hr:Av n=false):xB 52 [n.d,.i .u8 6,.i .u8 AL,.i .i64 AT,x.d] (.tup [n.d,Ab []]):=by
 have cO:=Ay n h;have cS:=II n;have cR:=Ar n h;rw[hr]at cR;refine zF AF Tryz.func52 ?_;unfold AA.d AA.A0 AD.A0 Calls.A0 An.A0 AK.d AK.A0 at *;unfold hC at cS;have d1:=Ds.mk [3] (cS);refine wd M0 [] A4 (Ax @cO @cR) ?_ [(2,4),(3,4)] true;clear d1;exact zE
theorem ZM(n:AA)(h:Fe n)(AL AT:Int)(x:AK)(hr:Av n=true)(hx0:0<=n.next)(hx1:n.next<16)(hs:x.AH.length<=9223372036854775807)(ha:(Ep n.A7 AL AT x).BN.length<=100000)(hk:0<=(Ep n.A7 AL AT x).job.A9.AH.length):xB 52 [n.d,.i .u8 6,.i .u8 AL,.i .i64 AT,x.d] (.tup [(B6 n 6 false (Ep n.A7 AL AT x)).1.d,Ab (B6 n 6 false (Ep n.A7 AL AT x)).2]):=by
 have cO:=Ay n h;have cS:=II n;have cR:=Ar n h;rw[hr]at cR;have cB:=Oo n.A7 AL AT x h.vb h.vl hs;have cG:=LZ n 6 false (Ep n.A7 AL AT x) (by decide) ha hx0 hx1 h.vb h.vl h.kn hk;generalize B6 n 6 false (Ep n.A7 AL AT x)=r at *;generalize Ep n.A7 AL AT x=c at *;refine zF AF Tryz.func52 ?_;unfold AD.d An.d at *;unfold AA.d AA.A0 AD.A0 Calls.A0 An.A0 AK.d AK.A0 at *;unfold hC at cS cG;have d1:=Ds.mk [3] (cS);have d2:=Ds.mk [3] (cG);refine wd M0 [] A4 (Ci @cO @cR @cB) ?_ [(2,4),(3,4)] true;clear d2 d1;exact zE
theorem ZK(n:AA)(h:Fe n)(AL AT:Int)(x:AK)(hr:Av n=false):xB 52 [n.d,.i .u8 7,.i .u8 AL,.i .i64 AT,x.d] (.tup [n.d,Ab []]):=by
 have cO:=Ay n h;have cS:=IJ n;have cR:=Ar n h;rw[hr]at cR;refine zF AF Tryz.func52 ?_;unfold AA.d AA.A0 AD.A0 Calls.A0 An.A0 AK.d AK.A0 at *;unfold hC at cS;have d1:=Ds.mk [3] (cS);refine wd M0 [] A4 (Ax @cO @cR) ?_ [(2,4),(3,4)] true;clear d1;exact zE
theorem ZN(n:AA)(h:Fe n)(AL AT:Int)(x:AK)(hr:Av n=true)(hx0:0<=n.next)(hx1:n.next<16)(hs:x.AH.length<=9223372036854775807)(ha:(Ep n.A7 AL AT x).BN.length<=100000)(hk:0<=(Ep n.A7 AL AT x).job.A9.AH.length):xB 52 [n.d,.i .u8 7,.i .u8 AL,.i .i64 AT,x.d] (.tup [(B6 n 7 false (Ep n.A7 AL AT x)).1.d,Ab (B6 n 7 false (Ep n.A7 AL AT x)).2]):=by
 have cO:=Ay n h;have cS:=IJ n;have cR:=Ar n h;rw[hr]at cR;have cB:=Oo n.A7 AL AT x h.vb h.vl hs;have cG:=LZ n 7 false (Ep n.A7 AL AT x) (by decide) ha hx0 hx1 h.vb h.vl h.kn hk;generalize B6 n 7 false (Ep n.A7 AL AT x)=r at *;generalize Ep n.A7 AL AT x=c at *;refine zF AF Tryz.func52 ?_;unfold AD.d An.d at *;unfold AA.d AA.A0 AD.A0 Calls.A0 An.A0 AK.d AK.A0 at *;unfold hC at cS cG;have d1:=Ds.mk [3] (cS);have d2:=Ds.mk [3] (cG);refine wd M0 [] A4 (Ci @cO @cR @cB) ?_ [(2,4),(3,4)] true;clear d2 d1;exact zE
abbrev Kv:AV:=.fn (.func 128) [] [.ptr 0 0 77,.ptr 1 0 15]
abbrev GC:AV:=.fn (.func 130) [] [.ptr 0 0 77,.ptr 1 0 15]
theorem ZH(n:AA)(m:AC)(w:Int):xC 211 [.wz w,.ptr 3 0 1,.ptr 2 0 1] ([.c (hC n .e0),.c (mX m),.c [.ptr 0 0 77],.c [GC]]) (.fn (.func 212) [] [.ptr 3 0 1,.ptr 4 0 1,.ptr 2 0 1]) ([.c (hC n .e0),.c (mX m),.c [.ptr 0 0 77],.c [GC],.c [.wz w]]):=by
 refine zD AF Tryz.func211 ?_;refine wd [0,1,2,3,4] [] A4 A4 ?_;exact⟨_,(A6.ck rfl),xA,_,_,rfl,rfl,rfl,rfl⟩
abbrev NW:xT:=[(.i .u8 1,Kv),(.i .u8 2,Kv),(.i .u8 3,Kv),(.i .u8 5,.fn (.func 212) [] [.ptr 3 0 1,.ptr 5 0 1,.ptr 2 0 1]),(.i .u8 6,.fn (.func 212) [] [.ptr 3 0 1,.ptr 6 0 1,.ptr 2 0 1]),(.i .u8 7,.fn (.func 212) [] [.ptr 3 0 1,.ptr 7 0 1,.ptr 2 0 1])]
theorem DO(n:AA)(m:AC):xC 133 [.ptr 0 0 77,Kv,GC] ([.c (hC n .e0),.c (mX m)]) (.mp 4) ([.c (hC n .e0),.c (mX m),.c [.ptr 0 0 77],.c [GC],.m NW,.c [.wz 5],.c [.wz 6],.c [.wz 7]]):=by
 have c5:=ZH n m 5;have c6:=ZH n m 6;have c7:=ZH n m 7;refine zD AF Tryz.func133 ?_;have d1:=Ds.mk [0,1,2,3] (c5);have d2:=Ds.mk [0,1,2,3] (c6);have d3:=Ds.mk [0,1,2,3] (c7);refine wd [0,1,2,3,5,6,7] [] A4 A4 ?_;clear d3 d2 d1;exact⟨_,(A6.ck rfl),xA,_,_,rfl,rfl,rfl,rfl⟩
abbrev KT:AV:=.fn (.func 245) [] [.ptr 0 0 77,.ptr 1 0 1]
abbrev Fv:AV:=.fn (.func 247) [] [.ptr 0 0 77,.ptr 1 0 1]
theorem ZZ(n:AA)(d:Int)(w:Int):xC 211 [.wz w,.ptr 3 0 1,.ptr 2 0 1] ([.c (hC n .e0),.c ([.wo d]),.c [.ptr 0 0 77],.c [Fv]]) (.fn (.func 212) [] [.ptr 3 0 1,.ptr 4 0 1,.ptr 2 0 1]) ([.c (hC n .e0),.c ([.wo d]),.c [.ptr 0 0 77],.c [Fv],.c [.wz w]]):=by
 refine zD AF Tryz.func211 ?_;refine wd [0,1,2,3,4] [] A4 A4 ?_;exact⟨_,(A6.ck rfl),xA,_,_,rfl,rfl,rfl,rfl⟩
abbrev Mk:xT:=[(.i .u8 1,KT),(.i .u8 2,KT),(.i .u8 3,KT),(.i .u8 5,.fn (.func 212) [] [.ptr 3 0 1,.ptr 5 0 1,.ptr 2 0 1]),(.i .u8 6,.fn (.func 212) [] [.ptr 3 0 1,.ptr 6 0 1,.ptr 2 0 1]),(.i .u8 7,.fn (.func 212) [] [.ptr 3 0 1,.ptr 7 0 1,.ptr 2 0 1])]
theorem D1(n:AA)(d:Int):xC 133 [.ptr 0 0 77,KT,Fv] ([.c (hC n .e0),.c ([.wo d])]) (.mp 4) ([.c (hC n .e0),.c ([.wo d]),.c [.ptr 0 0 77],.c [Fv],.m Mk,.c [.wz 5],.c [.wz 6],.c [.wz 7]]):=by
 have c5:=ZZ n d 5;have c6:=ZZ n d 6;have c7:=ZZ n d 7;refine zD AF Tryz.func133 ?_;have d1:=Ds.mk [0,1,2,3] (c5);have d2:=Ds.mk [0,1,2,3] (c6);have d3:=Ds.mk [0,1,2,3] (c7);refine wd [0,1,2,3,5,6,7] [] A4 A4 ?_;clear d3 d2 d1;exact⟨_,(A6.ck rfl),xA,_,_,rfl,rfl,rfl,rfl⟩
abbrev Kj:AV:=.fn (.func 232) [] [.ptr 0 0 77]
abbrev Fz:AV:=.fn (.func 233) [] [.ptr 0 0 77]
theorem Yr(n:AA)  (w:Int):xC 211 [.wz w,.ptr 2 0 1,.ptr 1 0 1] ([.c (hC n .e0),.c [.ptr 0 0 77],.c [Fz]]) (.fn (.func 212) [] [.ptr 2 0 1,.ptr 3 0 1,.ptr 1 0 1]) ([.c (hC n .e0),.c [.ptr 0 0 77],.c [Fz],.c [.wz w]]):=by
 refine zD AF Tryz.func211 ?_;refine wd [0,1,2,3,4] [] A4 A4 ?_;exact⟨_,(A6.ck rfl),xA,_,_,rfl,rfl,rfl,rfl⟩
abbrev NE:xT:=[(.i .u8 1,Kj),(.i .u8 2,Kj),(.i .u8 3,Kj),(.i .u8 5,.fn (.func 212) [] [.ptr 2 0 1,.ptr 4 0 1,.ptr 1 0 1]),(.i .u8 6,.fn (.func 212) [] [.ptr 2 0 1,.ptr 5 0 1,.ptr 1 0 1]),(.i .u8 7,.fn (.func 212) [] [.ptr 2 0 1,.ptr 6 0 1,.ptr 1 0 1])]
theorem DN(n:AA)  :xC 133 [.ptr 0 0 77,Kj,Fz] ([.c (hC n .e0)]) (.mp 3) ([.c (hC n .e0),.c [.ptr 0 0 77],.c [Fz],.m NE,.c [.wz 5],.c [.wz 6],.c [.wz 7]]):=by
 have c5:=Yr n  5;have c6:=Yr n  6;have c7:=Yr n  7;refine zD AF Tryz.func133 ?_;have d1:=Ds.mk [0,1,2] (c5);have d2:=Ds.mk [0,1,2] (c6);have d3:=Ds.mk [0,1,2] (c7);refine wd [0,1,2,3,5,6,7] [] A4 A4 ?_;clear d3 d2 d1;exact⟨_,(A6.ck rfl),xA,_,_,rfl,rfl,rfl,rfl⟩
end Nd
end Go.Proofs.YtkljbfejbakooaaGreatDoor
namespace Go.Proofs.YtkljbfejbakooaaGreatDoor
namespace Wi
open Go.Gar
def S9(k:Int):Nat:=if k=4 then 261 else if k=5 then 263 else if k=6 then 265 else if k=7 then 267 else if k=10 then 269 else if k=11 then 270 else 271
theorem pX(m:AC)(b:AJ)(hb:b.length<70368744177664)(h:HG m b=none):MY Tryz.prog (S9 m.AR) [.ptr 0 0 1,.ptr 1 0 1] (gH m b) (pF 12) gX:=by
 unfold HG at h;unfold S9
 by_cases h4:m.AR=4
 .rw[if_pos h4]at h|-;split at h
  .rename_i h1;exact tW m b hb h1
  .rename_i n b1 h1;split at h
   .rename_i h2;exact tX m b hb n b1 h1 h2
   .cases h
 rw[if_neg h4]at h|-
 by_cases h5:m.AR=5
 .rw[if_pos h5]at h|-;split at h
  .rename_i h1;exact tY m b hb h1
  .cases h
 rw[if_neg h5]at h|-
 by_cases h6:m.AR=6
 .rw[if_pos h6]at h|-;split at h
  .rename_i h1;exact tZ m b hb h1
  .cases h
 rw[if_neg h6]at h|-
 by_cases h7:m.AR=7
 .rw[if_pos h7]at h|-;split at h
  .rename_i h1;exact ta m b hb h1
  .rename_i n b1 h1;split at h
   .rename_i h2;exact tc m b hb n b1 h1 h2
   .cases h
 rw[if_neg h7]at h|-
 by_cases h10:m.AR=10
 .rw[if_pos h10]at h|-;split at h
  .rename_i h1;exact td m b hb h1
  .rename_i n b1 h1;split at h
   .rename_i h2;exact te m b hb n b1 h1 h2
   .cases h
 rw[if_neg h10]at h|-
 by_cases h11:m.AR=11
 .rw[if_pos h11]at h|-;split at h
  .rename_i h1;exact tf m b hb h1
  .cases h
 rw[if_neg h11]at h|-;split at h
 .split at h
  .rename_i h1;exact tg m b hb h1
  .rename_i n b1 h1;split at h
   .rename_i hn;subst hn;split at h
    .rename_i h2;exact tj m b hb b1 h1 h2
    .cases h
   .cases h
 .cases h
def special(k:Int):Prop:=k=4\/k=5\/k=6\/k=7\/k=10\/k=11\/k=12
theorem cU(m:AC)(b:AJ)(hb:b.length<70368744177664)(m':AC)(r:AJ)(h:HG m b=some (m',r))(hs:special m.AR):xC (S9 m.AR) [.ptr 0 0 1,.ptr 1 0 1] (gH m b) (.tup []) (gH m' r):=by
 unfold HG at h;unfold S9
 by_cases h4:m.AR=4
 .rw[if_pos h4]at h|-;split at h
  .cases h
  .rename_i n b1 h1;split at h
   .cases h
   .rename_i g b2 h2;cases h;exact wB m b hb n b1 h1 g _ h2
 rw[if_neg h4]at h|-
 by_cases h5:m.AR=5
 .rw[if_pos h5]at h|-;split at h
  .cases h
  .rename_i x b1 h1;cases h;exact wC m b hb x _ h1
 rw[if_neg h5]at h|-
 by_cases h6:m.AR=6
 .rw[if_pos h6]at h|-;split at h
  .cases h
  .rename_i s b1 h1;cases h;exact wD m b hb s _ h1
 rw[if_neg h6]at h|-
 by_cases h7:m.AR=7
 .rw[if_pos h7]at h|-;split at h
  .cases h
  .rename_i n b1 h1;split at h
   .cases h
   .rename_i l b2 h2;cases h;exact wE m b hb n b1 h1 l _ h2
 rw[if_neg h7]at h|-
 by_cases h10:m.AR=10
 .rw[if_pos h10]at h|-;split at h
  .cases h
  .rename_i n b1 h1;split at h
   .cases h
   .rename_i g b2 h2;cases h;exact wF m b hb n b1 h1 g _ h2
 rw[if_neg h10]at h|-
 by_cases h11:m.AR=11
 .rw[if_pos h11]at h|-;split at h
  .cases h
  .rename_i n b1 h1;cases h;exact wG m b hb n _ h1
 rw[if_neg h11]at h|-;have h12:m.AR=12:=by unfold special at hs;omega
 rw[if_pos h12]at h;split at h
 .cases h
 .rename_i n b1 h1;split at h
  .rename_i hn;subst hn;split at h
   .cases h
   .rename_i x b2 h2;cases h;exact tk m b hb b1 h1 x _ h2
  .rename_i hn;cases h;exact wI m b hb n _ h1 hn
theorem L6(m:AC)(b:AJ)(hs:¬special m.AR):HG m b=some (m,b):=by
 unfold special at hs;unfold HG;rw[if_neg om,if_neg om,if_neg om,if_neg om,if_neg om,if_neg om,if_neg om]
def Zg:xT:=[(.i .u8 4,.fn (.func 261) [] [.ptr 3 0 1,.ptr 2 0 1]),(.i .u8 5,.fn (.func 263) [] [.ptr 3 0 1,.ptr 2 0 1]),(.i .u8 6,.fn (.func 265) [] [.ptr 3 0 1,.ptr 2 0 1]),(.i .u8 7,.fn (.func 267) [] [.ptr 3 0 1,.ptr 2 0 1]),
 (.i .u8 10,.fn (.func 269) [] [.ptr 3 0 1,.ptr 2 0 1]),(.i .u8 11,.fn (.func 270) [] [.ptr 3 0 1,.ptr 2 0 1]),(.i .u8 12,.fn (.func 271) [] [.ptr 3 0 1,.ptr 2 0 1])]
theorem PG(m:AC)(b:AJ):xC 182 [.ptr 0 0 15,.ptr 1 0 1] [.c (mC m),.c [.d (.by b)]] (.mp 4) [.c (mC m),.c [.d (.by b)],.c [.ptr 0 0 15],.c [.ptr 1 0 1],.m Zg]:=by
 refine zD AF Tryz.func182 ?_;unfold Zg mC;refine wd [0,1,2,3,4] [] A4 A4 ?_;exact⟨_,A6.refl _,xA,_,_,rfl,rfl,rfl,rfl⟩
theorem TI(H:xS):OO Tryz.prog 179 [.ptr 0 0 15,.ptr 1 0 1] H .returning H:=by
 refine LN Tryz.func179 rfl rfl xA fun c0 cs hu=> ?_;refine Kf (LP ?_)
 refine o5 rfl rfl rfl rfl (.inl ⟨by simp[recoverD,hu],rfl,rfl⟩) ?_;refine Sq AF rfl rfl rfl rfl ?_ rfl;refine Q9 ?_;refine Kf (GR ?_);refine Kq AF rfl rfl rfl rfl ?_ rfl;refine Kn AF rfl rfl rfl rfl ?_;refine EM ?_;refine Q6 rfl (ax ?_);exact⟨.returning,by rw[<-hu],rfl,_,A6.refl _,xH _,rfl⟩
def zC:xD:=[.wz 0,.wo 0,.wo 0,.wo 0,.wo 0,.wu false,.wu false,.wo 0,.wo 0,.e0,.xE ([]),.wo 0,.wo 0,.wu false,.wo 0]
theorem GQ(c0 c1 c2 c3 c4 c5 c6 c7 c8 c9 c10 c11 c12 c13 c14 y:AV)(R:xS)(n:Int):OO Tryz.prog 179 [.ptr 0 0 15,.ptr 1 0 1] (.c [c0,c1,c2,c3,c4,c5,c6,c7,c8,c9,c10,c11,c12,c13,c14]:: .c [y]::R) (.panicking (pF n)) (.c zC:: .c [.wo n]::R):=by
 have hc:=WZ n 12;refine LN Tryz.func179 rfl rfl xA fun c0 cs hu=> ?_
 refine Kf (LP ?_);refine o5 (cs':={c0 with mode:=.panicking [{v:=.iface 224 (.agg #[.int .i64 n]),recovered:=true}]}::cs) rfl rfl rfl rfl (.inr ⟨224,.agg #[.int .i64 n],by simp[recoverD,hu,pF],rfl⟩) ?_;refine Sq AF rfl rfl rfl rfl ?_ rfl;refine Q9 ?_;refine Kf (GR ?_);refine Kq AF rfl rfl rfl rfl ?_ rfl;refine Kn AF rfl rfl rfl rfl ?_;refine EM ?_;refine Q6 rfl (GR ?_);refine Kq AF rfl rfl rfl rfl ?_ rfl;refine Kq AF rfl rfl rfl rfl ?_ rfl;refine KF hc rfl rfl rfl rfl (by simp[MO,EE,Cq]) rfl rfl ?_;refine Kw AF rfl rfl rfl rfl ?_ rfl;refine Kw AF rfl rfl rfl rfl ?_ rfl;refine EM ?_;exact⟨_,rfl,rfl,_,A6.refl _,xH _,rfl⟩
end Wi
end Go.Proofs.YtkljbfejbakooaaGreatDoor
