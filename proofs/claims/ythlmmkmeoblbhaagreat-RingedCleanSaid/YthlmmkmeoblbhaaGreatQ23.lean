/- Part 23 of a proof. Conditions: those that its theorems state. -/
import Derived.Test.YthlmmkmeoblbhaaGreatQ19
import Derived.Test.YthlmmkmeoblbhaaGreatQ20
set_option linter.unusedSimpArgs false
set_option linter.unusedVariables false
set_option linter.unnecessarySimpa false
set_option maxHeartbeats 40000000
set_option maxRecDepth 4000
namespace Go.Proofs.YthlmmkmeoblbhaaGreat
namespace Nd
open Go.Gar
open Wi (AE BE Ay AU C2)
abbrev JD:BK:=[0,1,2,3,6,7,8,9,10,11,15,20,22,35,66]
abbrev RG:BK:=[0,1,2,3,6,7,9,27,36]
abbrev XA:BK:=[0,1,2,3,4,5,6,42,50]
abbrev RH:BK:=[0,1,2,3,4,16,24]
def Kx(id k p q:Int):Int:=if decide (q>=0)&&(Dt id q k&&decide (An id q>An id p))then q else p
theorem fold_congr{g h:Int->Int->Int}:∀(l:Ao)(s:Int),(∀q∈l,∀s,g s q=h s q)->l.foldl g s=l.foldl h s
 |[],_,_=>rfl
 |a::r,s,hq=>by
  rw[q0c,q0c,hq a (q02 ..),fold_congr r _ fun q hm=>hq q (q05 _ hm)]
variable {v:AB}
theorem lH(hv:AZ v=true):∀q∈Hy v.f,Eu v.id q=true:=by
 obtain⟨_,_,_,_,h5⟩:=Bz hv;exact q0I.1 h5
theorem qi(hv:AZ v=true)(k:Int):(v.A8++Hy v.f).foldl (Kx v.id k) (FJ v)=(vh v).foldl (WJ v.id k) (FJ v):=by
 obtain⟨_,_,h3,_,_⟩:=Bz hv;unfold CB at h3;rw[yU]at h3;have hl:=(ZB _ _ _ h3.2).1;have e0:WJ v.id k (FJ v) (FJ v)=FJ v:=by unfold WJ;split<;>rfl
 unfold vh;rw[q0c,e0,q19,q19,fold_filter]
 rw[fold_congr (g:=Kx v.id k) (h:=WJ v.id k) v.A8 _ fun q hq s=>by
  have:=(Cq (hl q hq).1).1;unfold Kx WJ
  rw[yX (show q>=0 from this),zy]]
 refine fold_congr _ _ fun q hq s=> ?_;unfold Kx
 by_cases e:q= -1
 .subst e;rfl
 .have:=(Cq (Yh (lH hv q hq) e)).1;have e1:(q != -1)=true:=by simpa using e
  rw[yX (show q>=0 from this),zy,e1];rfl
theorem eP(hv:AZ v=true)(k:Int)(BX:Bool)(hk:i64 k):yA 264 [v.d,.yE k,.b BX] (.tup [.yE (F4 v k BX).1,.b (F4 v k BX).2]):=by
 have c1:=Yy hv;have rv:=Lb hv;have hfp:=(Nx hv).1;have hfi:=DW hfp;have hpl:=Cq hfp;have c2:=ZE v.id k (FJ v) rv.id hk hfi;have hT:F4 v k BX=if Ko v.id k (FJ v)=true then(FJ v,true)else if BX=true then(FJ v,false)else((vh v).foldl (WJ v.id k) (FJ v),false):=by unfold F4;rw[zN hv]
 rw[<-qi hv]at hT
 have hq:∀q∈v.A8++Hy v.f,i64 q:=fun q hq=>by
  rcases q04.1 hq with hq|hq
  .exact rv.l q hq
  .exact eD (lH hv q hq)
 have hid:=rv.id;have hll:=rv.n;clear rv hfp;generalize F4 v k BX=R at *;generalize FJ v=fi at *;generalize Ko v.id k fi=up at *;have f0:decide (fi<0)=false:=yY om;obtain⟨id,A2,A8,AO,f⟩:=v;refine zF AK Tryz.func264 ?_;unfold AB.d AB.A1 at *;dsimp only at*
 cases up with
 |true=>
  replace hT:R=(fi,true):=hT;subst hT;refine AD JD ?_ (AQ f0) (B1 @c1 @c2);with_reducible repeat' first|constructor|intro hc
  exact zE
 |false=>
 cases BX with
 |true=>
  replace hT:R=(fi,false):=hT;subst hT;refine AD JD ?_ (AQ f0) (B1 @c1 @c2);with_reducible repeat' first|constructor|intro hc
  exact zE
 |false=>
 replace hT:R=((A8++Hy f).foldl (Kx id k) fi,false):=hT;obtain⟨al,hal⟩:∃al,al=A8++Hy f:=⟨_,rfl⟩;rw[<-hal]at hT hq;have hlen:al.length=A8.length+16:=by rw[hal,yw];rfl
 unfold Hy at hal;replace hal:=hal.symm;have ow:Lv [25,28]:=trivial;refine AD JD ?_ (AQ f0) (B1 @c1 @c2) [(1,0),(2,0),(4,0),(5,0),(4,3),(5,3)];clear ow;with_reducible repeat' first|constructor|intro hc
 rw[show([]:Ao)++A8=A8 from rfl,hal];refine Av (A5.freeze 1 (x:=.is al) rfl) (by rw[Dq];exact yV _) ?_;simp only[NE,Eg,AF.FK,AV.FK,AV.F3,LO,Nat.reduceEqDiff,Nat.reduceAdd,decide_true,q1J,B3,zx,zo,reduceCtorEq];refine BA (fun j=>j<=al.length/\i64 ((al.take j).foldl (Kx id k) fi)) (fun j:Nat=>[(9,.y5 ((al.take j).foldl (Kx id k) fi)),(11,.y5 j)]) (fun j=>al.length-j) 0 ⟨yx _,hfi⟩ (fun _=>rfl) ?_ ?_
 .exact A5.ck rfl
 rintro j ⟨hj,hpi⟩
 by_cases hjl:j<al.length
 .obtain⟨q,hx⟩:=AS hjl;have gq:=BQ hx;have hqi:=hq q (zM hx);have hn:(al.take (j+1)).foldl (Kx id k) fi=Kx id k ((al.take j).foldl (Kx id k) fi) q:=by rw[AM hx,q19];rfl
  have f1:decide ((j:Int)<(al.length:Int))=true:=yX om;generalize(al.take j).foldl (Kx id k) fi=p at *;have c3:=cK id q k hid hqi hk;have c4:=J5 id q hid hqi;have c5:=J5 id p hid hpi;have hP:i64 (Kx id k p q):=by unfold Kx;split<;>assumption
  have hR:Kx id k p q=if decide (q>=0)&&(Dt id q k&&decide (An id q>An id p))then q else p:=rfl
  rw[<-hn]at hR hP;generalize Dt id q k=bt at *;generalize An id q=f1' at *;generalize An id p=f2' at*
  by_cases h1:q>=0
  .have f2:decide (q>=0)=true:=yX h1;rw[f2,zy]at hR
   cases bt with
   |false=>
    replace hR:(al.take (j+1)).foldl (Kx id k) fi=p:=hR;refine AD JD ?_ (DO f1 gq f2) (AQ @c3);with_reducible repeat' first|constructor|intro hc
    refine⟨j+1,⟨hjl,hP⟩,om,yV _,?_⟩;exact(have nC:=hR;A5.cn rfl)
   |true=>
    rw[zy]at hR
    by_cases h2:f1'>f2'
    .have f3:decide (f1'>f2')=true:=yX h2;rw[f3]at hR;replace hR:(al.take (j+1)).foldl (Kx id k) fi=q:=hR;refine AD JD ?_ (Hc f1 gq f2 f3) (DO @c3 @c4 @c5);with_reducible repeat' first|constructor|intro hc
     refine⟨j+1,⟨hjl,hP⟩,om,yV _,?_⟩;exact(have nC:=hR;A5.cn rfl)
    .have f3:decide (f1'>f2')=false:=yY h2;rw[f3]at hR;replace hR:(al.take (j+1)).foldl (Kx id k) fi=p:=hR;refine AD JD ?_ (Hc f1 gq f2 f3) (DO @c3 @c4 @c5);with_reducible repeat' first|constructor|intro hc
     refine⟨j+1,⟨hjl,hP⟩,om,yV _,?_⟩;exact(have nC:=hR;A5.cn rfl)
  .have f2:decide (q>=0)=false:=yY h1;rw[f2,q0Z]at hR;replace hR:(al.take (j+1)).foldl (Kx id k) fi=p:=hR;refine Ae JD ?_ (DO f1 gq f2);with_reducible repeat' first|constructor|intro hc
   refine⟨j+1,⟨hjl,hP⟩,om,yV _,?_⟩;exact(have nC:=hR;A5.cn rfl)
 .have e:j=al.length:=om
  subst e;have f1:decide ((al.length:Int)<(al.length:Int))=false:=yY om;rw[zU];subst hT;refine Ae JD ?_ (AQ f1);with_reducible repeat' first|constructor|intro hc
  exact zE
theorem bH{m:AE}(hv:AZ v=true)(hm:m.A8.length<9223372036854775807):yA 205 [v.d,m.d] (Sl v m).d:=by
 have c1:=OV hv;have c2:=Wi.EH m hm;have c3:=ZD m;have hT:Sl v m=if decide (m.AG=4)&&(decide (m.dst=v.id)&&m.right)then{Jo m with AY:=(F4 v m.AH m.BX).1,done:=(F4 v m.AH m.BX).2}else AU:=by unfold Sl;rw[hv];rfl
 have hk:m.right=true->m.AG=4->i64 m.AH:=fun h e=>by
  have hh:=Pq h;unfold AE.has at hh;rw[zN e]at hh;exact DW (by rw[CU];exact hh)
 by_cases hc:m.AG=4/\m.dst=v.id/\m.right=true
 .obtain⟨h1,h2,h3⟩:=hc;have c4:=eP hv m.AH m.BX (hk h3 h1);rw[h3,yX h1,yX h2]at hT;replace hT:Sl v m={Jo m with AY:=(F4 v m.AH m.BX).1,done:=(F4 v m.AH m.BX).2}:=hT;rw[hT];rw[h3]at c2;have f1:=BJ h1;have f2:=BJ h2;generalize F4 v m.AH m.BX=r at *;generalize Jo m=t at *;obtain⟨p,ow⟩:=r;clear hT hk;obtain⟨id,A2,A8,AO,f⟩:=v;refine zF AK Tryz.func205 ?_;unfold AB.d AB.A1 Wi.AE.d Wi.AE.A1 at *;dsimp only at *;refine AD [0,1,2,3,4,5,25] ?_ (B1 f1 f2) (Hc @c1 @c2 @c3 @c4);with_reducible repeat' first|constructor|intro hc
  exact zE
 .have hT:Sl v m=AU:=by
   rw[hT,zO];rw[yU,yU,yc,yc];exact hc
  rw[hT];clear hT hk;generalize m.right=r at *;obtain⟨id,A2,A8,AO,f⟩:=v;refine zF AK Tryz.func205 ?_;unfold AB.d AB.A1 Wi.AE.d Wi.AE.A1 at *;dsimp only at *;refine AP [0,1,2,3,4,5,25] ?_ (B1 @c1 @c2);with_reducible repeat' first|constructor|intro hc
  all_goals first
   |(exfalso;clear c1 c2 c3;grind)
   |(refine⟨_,_,rfl,rfl,?_⟩;simp[E5,B3,B8,Aq,AU,AN])
theorem nR(hv:AZ v=true)(i:Int):yA 287 [v.d,.yE i] (.tup [.yE (if 0<=i/\i<16 then WF v.id i else 0),.yE (if 0<=i/\i<16 then 0 else 2)]):=by
 have c1:=OV hv;have c2:=Ta v.id i (Lb hv).id;generalize WF v.id i=s at *;obtain⟨id,A2,A8,AO,f⟩:=v;refine zF AK Tryz.func287 ?_;unfold AB.d AB.A1 at *;dsimp only at*
 by_cases h1:i<0
 .have f1:decide (i<0)=true:=yX h1;rw[zO om,zO om];refine AD [0,1,2,4,5,16] ?_ (AQ f1) (AQ @c1);with_reducible repeat' first|constructor|intro hc
  exact zE
 .have f1:decide (i<0)=false:=yY h1
  by_cases h2:i>=16
  .have f2:decide (i>=16)=true:=yX h2;rw[zO om,zO om];refine AD [0,1,2,4,5,16] ?_ (B1 f1 f2) (AQ @c1);with_reducible repeat' first|constructor|intro hc
   exact zE
  .have f2:decide (i>=16)=false:=yY h2;rw[zN om,zN om];refine AD [0,1,2,4,5,16] ?_ (B1 f1 f2) (B1 @c1 @c2);with_reducible repeat' first|constructor|intro hc
   exact zE
theorem uV(a i:Int):i64 (WF a i):=by
 unfold WF i64;have h1:=Gr (C9 a+2^i.toNat);have h2:=Gr a;split<;>omega
theorem nr(hv:AZ v=true){i:Int}(hi:0<=i/\i<16):yA 252 [v.d,.yE i] (.tup [.yE (if Ko v.id (WF v.id i) (FJ v)then FJ v else 0),.b (Ko v.id (WF v.id i) (FJ v))]):=by
 have c1:=nR hv i;rw[zN hi,zN hi]at c1;have c2:=Yy hv;have c3:=ZE v.id (WF v.id i) (FJ v) (Lb hv).id (uV _ _) (DW (Nx hv).1);generalize Ko v.id (WF v.id i) (FJ v)=up at *;generalize WF v.id i=s at *;generalize FJ v=fi at *;obtain⟨id,A2,A8,AO,f⟩:=v;refine zF AK Tryz.func252 ?_;unfold AB.d AB.A1 at *;dsimp only at*
 cases up with
 |true=>
  refine AP [0,1,2,4,5,6,7,24] ?_ (DO @c1 @c2 @c3);with_reducible repeat' first|constructor|intro hc
  exact zE
 |false=>
  refine AP [0,1,2,4,5,6,7,24] ?_ (DO @c1 @c2 @c3);with_reducible repeat' first|constructor|intro hc
  exact zE
theorem s5(hv:AZ v=true){i:Int}(p:Int)(hi:0<=i/\i<16):yA 258 [v.d,.yE i,.yE p] (.tup [(UB v i p).1.d,.yE (UB v i p).2]):=by
 have c1:=nh hv;have c2:=nR hv i;rw[zN hi,zN hi]at c2
 have hT:UB v i p=if BG p=true then(⟨v.id,v.A2,v.A8,v.AO,L0 v.f i.toNat (if p=v.id then -1 else p)⟩,0)else(v,2):=by
  unfold UB;rw[yX hi.1,yX hi.2,hv];rfl
 rw[hT];clear hT;generalize WF v.id i=s at *;obtain⟨id,A2,A8,AO,f⟩:=v;refine zF AK Tryz.func258 ?_;unfold AB.d AB.A1 at *;dsimp only at*
 by_cases hp:BG p=true
 .rw[hp];have hq:=Cq hp;have f1:decide (p<0)=false:=yY om;have f2:decide (p>=65536)=false:=yY om;have:i=0\/i=1\/i=2\/i=3\/i=4\/i=5\/i=6\/i=7\/i=8\/i=9\/i=10\/i=11\/i=12\/i=13\/i=14\/i=15:=om
  clear hi hp hq
  by_cases he:p=id
  .have f3:=B6 he;rw[zN he];rcases this with rfl|rfl|rfl|rfl|rfl|rfl|rfl|rfl|rfl|rfl|rfl|rfl|rfl|rfl|rfl|rfl
   all_goals
    refine AD RG ?_ (DO f1 f2 f3) (B1 @c1 @c2);with_reducible repeat' first|constructor|intro hc
    exact BO @L0.eq_1
  .have f3:=eq_false' he;rw[zO he];rcases this with rfl|rfl|rfl|rfl|rfl|rfl|rfl|rfl|rfl|rfl|rfl|rfl|rfl|rfl|rfl|rfl
   all_goals
    refine AD RG ?_ (DO f1 f2 f3) (B1 @c1 @c2);with_reducible repeat' first|constructor|intro hc
    exact BO @L0.eq_1
 .rw[zO hp];have hn:¬(0<=p/\p<65536):=by simpa[BG]using hp
  by_cases h0:p<0
  .have f1:decide (p<0)=true:=yX h0;refine AD RG ?_ (AQ f1) (B1 @c1 @c2);with_reducible repeat' first|constructor|intro hc
   exact zE
  .have f1:decide (p<0)=false:=yY h0;have f2:decide (p>=65536)=true:=yX om;refine AD RG ?_ (B1 f1 f2) (B1 @c1 @c2);with_reducible repeat' first|constructor|intro hc
   exact zE
theorem VN(l:CM):yA 304 [l.d] (.b (Ec l)):=by
 have hT:Ec l=((BG l.AH&&BG l.Ck&&decide (0<=l.Cs)&&decide (l.Cs<=41))&&(if l.Cs>40 then decide (l.Ab=211)&& !l.Dz else decide (l.Ab=0))):=rfl;unfold BG at hT;generalize Ec l=R at *;refine zF AK Tryz.func304 ?_;unfold CM.d CM.A1;refine A9 [0,1,2,30,33] ?_;with_reducible repeat' first|constructor|intro hc
 all_goals(refine⟨_,_,rfl,rfl,?_⟩;simp only[E5];refine congrArg D.b ?_;rw[hT];clear hT;grind)
theorem VM(l:CM):yA 305 [l.d] (.b (lookO l)):=by
 refine zF AK Tryz.func305 ?_;unfold CM.d CM.A1 lookO;refine A9 [0,1,2] ?_;with_reducible repeat' first|constructor|intro hc
 all_goals(refine⟨_,_,rfl,rfl,?_⟩;simp only[E5];refine congrArg D.b ?_;grind)
theorem bP(hv:AZ v=true)(l:CM)(p:Int)(ow:Bool)(hk:i64 l.AH):yA 290 [v.d,l.d,.yE p,.b ow] (CM.d ⟨l.AH,(if p=v.id/\ow=false then F4 v l.AH l.BX else(p,ow)).1,l.Cs,l.BX,(if p=v.id/\ow=false then F4 v l.AH l.BX else(p,ow)).2,l.Ab⟩):=by
 have c1:=eP hv l.AH l.BX hk;generalize F4 v l.AH l.BX=r at *;obtain⟨q,o⟩:=r;obtain⟨id,A2,A8,AO,f⟩:=v;refine zF AK Tryz.func290 ?_;unfold AB.d AB.A1 CM.d CM.A1 at *;dsimp only at*
 by_cases h:p=id
 .have f1:=B6 h
  cases ow with
  |false=>
   rw[zN ⟨h,rfl⟩];refine AD [0,1,2,3,4,5,8,16] ?_ (AQ f1) (AQ @c1);with_reducible repeat' first|constructor|intro hc
   exact zE
  |true=>
   rw[zO (fun e=>by cases e.2)];refine Ae [0,1,2,3,4,5,8,16] ?_ (AQ f1);with_reducible repeat' first|constructor|intro hc
   exact zE
 .have f1:=eq_false' h;rw[zO (fun e=>h e.1)];refine Ae [0,1,2,3,4,5,8,16] ?_ (AQ f1);with_reducible repeat' first|constructor|intro hc
  exact zE
theorem rt(hv:AZ v=true)(AH:Int)(hk:i64 AH):yA 256 [v.d,.yE AH] (ZY v AH).d:=by
 have c1:=OV hv;have c2:=C1 AH hk;have c3:=bP hv ⟨C9 AH,0,0,false,false,0⟩ v.id false (by have:=Gr AH;unfold i64;dsimp only;omega);have hT:ZY v AH=⟨C9 AH,(F4 v (C9 AH) false).1,0,false,(F4 v (C9 AH) false).2,0⟩:=by unfold ZY;rw[zN hv]
 rw[zN ⟨rfl,rfl⟩]at c3;rw[hT];generalize F4 v (C9 AH) false=r at *;generalize C9 AH=k at *;obtain⟨id,A2,A8,AO,f⟩:=v;refine zF AK Tryz.func256 ?_;unfold AB.d AB.A1 CM.d CM.A1 at *;dsimp only at *;refine AP [0,1,2,4,7] ?_ (DO @c1 @c2 @c3);with_reducible repeat' first|constructor|intro hc
 exact zE
theorem Ux{l:CM}(h:Ec l=true):i64 l.AH/\0<=l.Cs/\l.Cs<=41:=by
 unfold Ec at h;simp only[yU,yc]at h;exact⟨DW h.1.1.1.1,h.1.1.2,h.1.2⟩
theorem rx(hv:AZ v=true)(l:CM)(m:AE)(hm:m.A8.length<9223372036854775807):yA 271 [v.d,l.d,m.d] (P4 v l m).d:=by
 have c1:=OV hv;have c2:=VN l;have c3:=VM l;have c4:=Wi.EH m hm;have hT:P4 v l m=if Ec l&& !lookO l then(if Tz v l m then(if l.Cs+1>40 then PU l else⟨l.AH,(pJ v l m).1,l.Cs+1,l.BX,(pJ v l m).2,l.Ab⟩)else l)else l:=by unfold P4;rw[hv,zy]
 have hU:Tz v l m=(decide (m.AG=10)&&(decide (m.Ax=l.Ck)&&(decide (m.dst=v.id)&&m.right))):=rfl
 by_cases hc:(Ec l=true/\lookO l=false)/\Tz v l m=true
 .obtain⟨⟨h1,h2⟩,h3⟩:=hc;obtain⟨hk,hp0,hp1⟩:=Ux h1;rw[h1,h2,h3]at hT;replace hT:P4 v l m=if l.Cs+1>40 then PU l else⟨l.AH,(pJ v l m).1,l.Cs+1,l.BX,(pJ v l m).2,l.Ab⟩:=hT;rw[h3]at hU;replace hU:=hU.symm;simp only[yU,yc]at hU;obtain⟨u1,u2,u3,u4⟩:=hU;rw[h1]at c2;rw[h2]at c3;rw[u4]at c4;have f1:=BJ u1;have f2:=BJ u2;have f3:=BJ u3
  by_cases h4:l.Cs+1>40
  .have f4:decide (l.Cs+1>40)=true:=yX h4;rw[zN h4]at hT;rw[hT];have hd:PU l=⟨l.AH,l.Ck,l.Cs+1,l.BX,l.Dz,211⟩:=by unfold PU;rw[zN h4]
   rw[hd];clear hT hd h1 h2 h3;obtain⟨id,A2,A8,AO,f⟩:=v;refine zF AK Tryz.func271 ?_;unfold AB.d AB.A1 CM.d CM.A1 Wi.AE.d Wi.AE.A1 at *;dsimp only at *;refine AD XA ?_ (Hc f1 f2 f3 f4) (Hc @c1 @c2 @c3 @c4);with_reducible repeat' first|constructor|intro hc
   exact zE
  .have f4:decide (l.Cs+1>40)=false:=yY h4;rw[zO h4]at hT;rw[hT];have c5:=bP hv ⟨l.AH,l.Ck,l.Cs+1,l.BX,l.Dz,l.Ab⟩ m.AY m.done hk;dsimp only at c5;rw[show(if m.AY=v.id/\m.done=false then F4 v l.AH l.BX else(m.AY,m.done))=pJ v l m from rfl]at c5;generalize pJ v l m=r at *;clear hT h1 h2 h3;obtain⟨id,A2,A8,AO,f⟩:=v;refine zF AK Tryz.func271 ?_;unfold AB.d AB.A1 CM.d CM.A1 Wi.AE.d Wi.AE.A1 at *;dsimp only at *;refine AD XA ?_ (Hc f1 f2 f3 f4) (Ll @c1 @c2 @c3 @c4 @c5);with_reducible repeat' first|constructor|intro hc
   exact zE
 .have hT:P4 v l m=l:=by
   rw[hT];split
   .rename_i h;rw[yU,q0H]at h;rw[zO (fun e=>hc ⟨h,e⟩)]
   .rfl
  rw[hT];rw[hU]at hc;clear hT hU;generalize Ec l=b1 at *;generalize lookO l=b2 at *;generalize m.right=b3 at *;obtain⟨id,A2,A8,AO,f⟩:=v;refine zF AK Tryz.func271 ?_;unfold AB.d AB.A1 CM.d CM.A1 Wi.AE.d Wi.AE.A1 at *;dsimp only at *;refine AP XA ?_ (Hc @c1 @c2 @c3 @c4);with_reducible repeat' first|constructor|intro hc
  all_goals first
   |(exfalso;clear c1 c2 c3 c4;grind)
   |(refine⟨_,_,rfl,rfl,?_⟩;simp[E5,B3,B8,Aq,CM.d])
theorem ru(hv:AZ v=true)(l:CM):yA 285 [v.d,l.d] (ZZ v l).d:=by
 have c1:=OV hv;have c2:=VN l;have c3:=VM l;have hT:ZZ v l=if Ec l&& !lookO l then(if l.Cs+1>40 then PU l else⟨l.AH,(F4 v l.AH true).1,l.Cs+1,true,(F4 v l.AH true).2,l.Ab⟩)else l:=by unfold ZZ;rw[hv,zy]
 cases h1:Ec l with
 |false=>
  rw[h1]at c2 hT;replace hT:ZZ v l=l:=hT;rw[hT];clear hT;obtain⟨id,A2,A8,AO,f⟩:=v;refine zF AK Tryz.func285 ?_;unfold AB.d AB.A1 CM.d CM.A1 at *;dsimp only at *;refine AP RH ?_ (B1 @c1 @c2);with_reducible repeat' first|constructor|intro hc
  exact zE
 |true=>
 rw[h1]at c2 hT
 cases h2:lookO l with
 |true=>
  rw[h2]at c3 hT;replace hT:ZZ v l=l:=hT;rw[hT];clear hT;obtain⟨id,A2,A8,AO,f⟩:=v;refine zF AK Tryz.func285 ?_;unfold AB.d AB.A1 CM.d CM.A1 at *;dsimp only at *;refine AP RH ?_ (DO @c1 @c2 @c3);with_reducible repeat' first|constructor|intro hc
  exact zE
 |false=>
 rw[h2]at c3 hT;replace hT:ZZ v l=if l.Cs+1>40 then PU l else⟨l.AH,(F4 v l.AH true).1,l.Cs+1,true,(F4 v l.AH true).2,l.Ab⟩:=hT
 obtain⟨hk,hp0,hp1⟩:=Ux h1;clear h1 h2
 by_cases h4:l.Cs+1>40
 .have f4:decide (l.Cs+1>40)=true:=yX h4;rw[zN h4]at hT;have hd:PU l=⟨l.AH,l.Ck,l.Cs+1,l.BX,l.Dz,211⟩:=by unfold PU;rw[zN h4]
  rw[hT,hd];clear hT hd;obtain⟨id,A2,A8,AO,f⟩:=v;refine zF AK Tryz.func285 ?_;unfold AB.d AB.A1 CM.d CM.A1 at *;dsimp only at *;refine AD RH ?_ (AQ f4) (DO @c1 @c2 @c3);with_reducible repeat' first|constructor|intro hc
  exact zE
 .have f4:decide (l.Cs+1>40)=false:=yY h4;rw[zO h4]at hT;rw[hT];have c5:=bP hv ⟨l.AH,l.Ck,l.Cs+1,true,l.Dz,l.Ab⟩ v.id false hk;rw[zN ⟨rfl,rfl⟩]at c5;dsimp only at c5;generalize F4 v l.AH true=r at *;clear hT;obtain⟨id,A2,A8,AO,f⟩:=v;refine zF AK Tryz.func285 ?_;unfold AB.d AB.A1 CM.d CM.A1 at *;dsimp only at *;refine AD RH ?_ (AQ f4) (Hc @c1 @c2 @c3 @c5);with_reducible repeat' first|constructor|intro hc
  exact zE
abbrev MV:BK:=[0,1,2,4,5,6,7,8,9,14,21,23,31]
abbrev RJ:BK:=[0,1,2,6,7,8,12,30]
abbrev XB:BK:=[0,1,4,5,6,7,8,10,16,40,47]
abbrev Ox:BK:=[0,1,2,3,4,5,6,10,11,12,17,28,58]
variable {A2 A8:Ao}{f:Nat->Int}
theorem fi_f{id AO:Int}{g:Nat->Int}(h:AZ ⟨id,A2,A8,AO,f⟩=true)(k:AZ ⟨id,A2,A8,AO,g⟩=true):FJ ⟨id,A2,A8,AO,f⟩=FJ ⟨id,A2,A8,AO,g⟩:=by
 unfold FJ;rw[zN h,zN k]
theorem ia{id AO:Int}(h:AZ ⟨id,A2,A8,AO,f⟩=true)(i:Nat){p:Int}(hp:Eu id p=true):AZ ⟨id,A2,A8,AO,L0 f i p⟩=true:=by
 obtain⟨h1,h2,h3,h4,h5⟩:=Bz h;refine Jk h1 h2 h3 h4 ?_;have h6:=O1.1 h5;refine O1.2 fun j hj=> ?_
 show Eu id (L0 f i p j)=true;unfold L0;split
 .exact hp
 .exact h6 j hj
theorem oA(hv:AZ v=true)(i:Int):yA 193 [v.d,.yE i] (.tup [(walkT v i).1.d,.yE (walkT v i).2.1,.yE (walkT v i).2.2.1,.b (walkT v i).2.2.2]):=by
 have c1:=nh hv;have c2:=OV hv;have hfi:=Nx hv
 have hT:∀i0:Nat,i0=(if 0<=i/\i<16 then i.toNat else 0)->walkT v i=match Gd v (16-i0) i0 v.f with|(f,none)=>({v with f:=f},0,0,false)|(f,some k)=>({v with f:=f},k,WF v.id k,true):=fun i0 e=>by unfold walkT;rw[zN hv,e];rfl
 generalize walkT v i=R at *;obtain⟨id,A2,A8,AO,f0⟩:=v;dsimp only at *;have hstep:∀(k i:Nat)(f:Nat->Int),Gd ⟨id,A2,A8,AO,f0⟩ (k+1) i f=if Ko id (WF id i) (FJ ⟨id,A2,A8,AO,f0⟩)then Gd ⟨id,A2,A8,AO,f0⟩ k (i+1) (L0 f i (if FJ ⟨id,A2,A8,AO,f0⟩=id then -1 else FJ ⟨id,A2,A8,AO,f0⟩))else(f,some i):=fun k i f=>by rw[Gd]
 rw[zO hfi.2]at hstep;refine zF AK Tryz.func193 ?_;unfold AB.d AB.A1 at *;dsimp only at*
 by_cases hi:0<=i/\i<16
 case' pos=>
  obtain⟨i0,rfl⟩:∃n:Nat,i=n:=⟨i.toNat,om⟩;have h16:i0<16:=om
  have hR:=hT i0 (by rw[zN hi];omega);have f1:decide ((i0:Int)<0)=false:=yY om;have f2:decide ((i0:Int)>=16)=false:=yY om;refine AD MV ?_ (B1 f1 f2) (B1 @c1 @c2);with_reducible repeat' first|constructor|intro hc
 case' neg=>
  obtain⟨i0,h00⟩:∃n:Nat,n=0:=⟨0,rfl⟩;have h16:i0<16:=om
  have hR:=hT i0 (by rw[zO hi,h00])
  have hg:decide (i<0)=true\/(decide (i<0)=false/\decide (i>=16)=true):=by
   by_cases h:i<0
   .exact .inl (yX h)
   .exact .inr ⟨yY h,yX om⟩
  rcases hg with f1|⟨f1,f2⟩
  case' inl=>
   refine AD MV ?_ (AQ f1) (B1 @c1 @c2);with_reducible repeat' first|constructor|intro hc
  case' inr=>
   refine AD MV ?_ (B1 f1 f2) (B1 @c1 @c2);with_reducible repeat' first|constructor|intro hc
 all_goals
  clear c1 c2 hT f1;refine CO (fun x:Nat×(Nat->Int)=>x.1<=16/\AZ ⟨id,A2,A8,AO,x.2⟩=true/\Gd ⟨id,A2,A8,AO,f0⟩ (16-x.1) x.1 x.2=Gd ⟨id,A2,A8,AO,f0⟩ (16-i0) i0 f0) (fun x=>[(1,.y5 x.1)]) (fun x=>[(0,.c (vC id A2 A8 AO x.2))]) (fun x=>16-x.1) (i0,f0) ⟨om,hv,rfl⟩ (fun _=>rfl) (fun _=>rfl) ?_ ?_
  .exact A5.cut rfl (by repeat'(first|exact zi|refine yg (by(first|rfl|((with_reducible_and_instances refine congrArg (fun z=>some (AV.d (D.i _ z))) ?_);omega)|(refine congrArg (fun z=>some (AV.d (D.i _ z))) (?_:(_:Int)=_);omega)|(refine congrArg some ?_;simp only[vC,h00];done)|(refine congrArg some ?_;simp[vC,h00];done))) ?_)) (by repeat'(first|exact zi|refine yg (q0D rfl) ?_|refine yg (q0w ⟨rfl,rfl⟩) ?_|refine yg (q0D (by simp only[vC,h00])) ?_|refine yg (q0D (by simp[vC,h00])) ?_)) (by first|rfl|(simp(decide:=true) [Ai,AF.ok,AV.oks,AV.ok,hk];done)) rfl
  rintro⟨i,f⟩ ⟨hi16,hvf,hw⟩;dsimp only at hi16 hvf hw|-;rw[<-hw]at hR;unfold vC
  by_cases hlt:i<16
  .have c3:=nr hvf (i:=i) om;rw[fi_f hvf hv]at c3;have hs:=hstep (15-i) i f;rw[show 15-i+1=16-i by omega]at hs;dsimp only at c3
   cases hu:Ko id (WF id i) (FJ ⟨id,A2,A8,AO,f0⟩)with
   |true=>
    rw[hu]at c3 hs;simp only[zx]at c3 hs;have hvs:=ia hvf i (p:=FJ ⟨id,A2,A8,AO,f0⟩) (by unfold Eu;rw[hfi.1,yX hfi.2];simp);have hnext:(i+1<=16/\AZ ⟨id,A2,A8,AO,L0 f i (FJ ⟨id,A2,A8,AO,f0⟩)⟩=true/\Gd ⟨id,A2,A8,AO,f0⟩ (16-(i+1)) (i+1) (L0 f i (FJ ⟨id,A2,A8,AO,f0⟩))=Gd ⟨id,A2,A8,AO,f0⟩ (16-i0) i0 f0)/\16-(i+1)<16-i:=⟨⟨om,hvs,by rw[show 16-(i+1)=15-i by omega,<-hs];exact hw⟩,om⟩;clear hstep hR hs hw hvs;generalize FJ ⟨id,A2,A8,AO,f0⟩=p at *;unfold AB.d AB.A1 at c3;have hl:=YO hlt;rcases hl with rfl|rfl|rfl|rfl|rfl|rfl|rfl|rfl|rfl|rfl|rfl|rfl|rfl|rfl|rfl|rfl
    all_goals
     refine AP MV ?_ (AQ @c3);with_reducible repeat' first|constructor|intro hc
     refine⟨(_,_),hnext.1,hnext.2,yV _,?_⟩;exact A5.cut rfl (by repeat'(first|exact zi|refine yg (by(first|rfl|((with_reducible_and_instances refine congrArg (fun z=>some (AV.d (D.i _ z))) ?_);omega)|(refine congrArg (fun z=>some (AV.d (D.i _ z))) (?_:(_:Int)=_);omega)|(refine congrArg some ?_;simp only[L0,vC];done)|(refine congrArg some ?_;simp[L0,vC];done))) ?_)) (by repeat'(first|exact zi|refine yg (q0D rfl) ?_|refine yg (q0w ⟨rfl,rfl⟩) ?_|refine yg (q0D (by simp only[L0,vC])) ?_|refine yg (q0D (by simp[L0,vC])) ?_)) (by first|rfl|(simp(decide:=true) [Ai,AF.ok,AV.oks,AV.ok,hk];done)) rfl
   |false=>
    rw[hu]at c3 hs;replace hs:Gd ⟨id,A2,A8,AO,f0⟩ (16-i) i f=(f,some i):=hs;rw[hs]at hR;subst hR;have c4:=Ta id i (Lb hvf).id;unfold AB.d AB.A1 at c3;have g1:decide ((i:Int)<16)=true:=yX om;refine AD MV ?_ (AQ g1) (B1 @c3 @c4) [(2,6),(3,6)];with_reducible repeat' first|constructor|intro hc
    exact zE
  .have e:i=16:=om
   subst e;rw[show Gd ⟨id,A2,A8,AO,f0⟩ (16-16) 16 f=(f,none)from rfl]at hR;subst hR;refine A9 MV ?_;with_reducible repeat' first|constructor|intro hc
   exact zE
theorem im(l:List Past)(hl:∀x∈l,Co x.AA)(hn:l.length<=1048576):yB 73 [.d (Aw l)] [] (.sl 0 l.length 17) [.a (Aw l)]:=by
 refine zD AK Tryz.func73 ?_;refine A9 [0,2,3,4,5,9] ?_;with_reducible repeat' first|constructor|intro hc
 refine Av (A5.EQ 3 (.sl 17 []) rfl rfl rfl (by simp[Aq])) sm ?_;refine CO (fun k=>k<=l.length) (fun k:Nat=>[(3,.sl 0 (l.take k).length 17),(4,.y5 k)]) (fun k=>[(0,.a (Aw (l.take k)))]) (fun k=>l.length-k) 0 (yx _) (fun _=>rfl) (fun _=>rfl) ?_ ?_
 .exact A5.ck rfl
 intro k hk;have htl:(l.take k).length<=k:=q0Q _ _
 by_cases hkl:k<l.length
 .obtain⟨x,hx⟩:=AS hkl;have c1:=F9 x.AA (hl x (zM hx));have hn:=AM hx;unfold AE.d AE.A1 at c1;have ix1:=hx;refine AP [0,2,3,4,5,9] ?_ (AQ @c1);clear ix1;with_reducible repeat' first|constructor|intro hc
  refine⟨k+1,hkl,om,yV _,?_⟩;exact(have nC:=yg hn (yg @Aw.eq_1 @Past.A1.eq_1);A5.cn rfl)
 .have e:k=l.length:=om
  subst e;rw[zU];refine A9 [0,2,3,4,5,9] ?_;with_reducible repeat' first|constructor|intro hc
  exact vS (A5.ck rfl)
theorem oj{l:List Past}{m:Nat}{y:Past}(hy:l[m]? =some y):(slc (Aw l)).getD (m*17) D.np= .yE y.Ax/\(slc (Aw l)).getD (m*17+1) D.np= .yE y.AW:=by
 have h:=WB (es:=l.map Past.A1) (m:=m) (e:=y.A1) (sz:=17) (by rw[q03,hy];rfl) (fun e he=>by obtain⟨z,_,rfl⟩:=q0q.1 he;rfl);change (((slc (Aw l)).drop (m*17)).take 17)=y.A1 at h
 have h0:∀j,j<17->(slc (Aw l))[m*17+j]? =y.A1[j]?:=fun j hj=>by
  have e:(((slc (Aw l)).drop (m*17)).take 17)[j]? =y.A1[j]?:=by rw[h]
  rw[List.getElem?_take_of_lt hj,q0Y]at e;exact e
 constructor
 .rw[zJ,show m*17=m*17+0 from rfl,h0 0 (by decide)];rfl
 .rw[zJ,h0 1 (by decide)];rfl
abbrev zMA:AV:=.ag [.y8 0,.y5 0,.y5 0,.y5 0,.y5 0,.y7 false,.y7 false,.y5 0,.y5 0,.e0,.yC ([]),.y5 0,.y5 0,.y7 false,.y5 0]
theorem iD(l:List Past)(s c:Int)(hn:l.length<=1048576)(h:l.any (JZ s c)=false):yB 131 [.sl 0 l.length 17,.y5 s,.y5 c] [.a (Aw l)] (.tup [zMA,.y7 false]) [.a (Aw l)]:=by
 refine zC AK Tryz.func131 ?_;unfold zMA;refine A9 RJ ?_;with_reducible repeat' first|constructor|intro hc
 refine BA (fun k=>k<=l.length) (fun k:Nat=>[(8,.y5 k)]) (fun k=>l.length-k) 0 (yx _) (fun _=>rfl) ?_ ?_
 .exact A5.ck rfl
 intro k hk
 by_cases hkl:k<l.length
 .obtain⟨x,hx⟩:=AS hkl;obtain⟨e1,e2⟩:=oj hx;have hp:=q0O.1 h x (zM hx);unfold JZ at hp;have g1:decide ((k:Int)<(l.length:Int))=true:=yX om
  by_cases h1:x.Ax=s
  .have f1:=B6 h1;have f2:=eq_false' (show x.AW≠c from fun e=>hp (by rw[yX h1,yX e];rfl));refine Ae RJ ?_ (Ll g1 e1 e2 f1 f2);with_reducible repeat' first|constructor|intro hc
   refine⟨k+1,hkl,om,yV _,?_⟩;exact A5.ck rfl
  .have f1:=eq_false' h1;refine Ae RJ ?_ (DO g1 e1 f1);with_reducible repeat' first|constructor|intro hc
   refine⟨k+1,hkl,om,yV _,?_⟩;exact A5.ck rfl
 .have e:k=l.length:=om
  subst e;have g1:decide ((l.length:Int)<(l.length:Int))=false:=yY om;refine Ae RJ ?_ (AQ g1);with_reducible repeat' first|constructor|intro hc
  exact EZ
theorem rk(l:List Past)(t:AE)(hl:∀x∈l,Co x.AA)(hn:l.length<=40)(ht:t.right=true)(ha:t.BW=false)(hf:l.any (JZ t.dst t.AW)=false):yA 208 [Aw l,.sl 15 [t.A1]] (Aw (Ha l t)):=by
 have c1:=im l hl om;have c2:=nk t (DZ ht);have c3:=iD l t.dst t.AW om hf
 have hF:(GU l t.dst t.AW).2=false:=by
  have e:l.find? (fun p=>decide (p.Ax=t.dst)&&decide (p.AW=t.AW))=none:=W8 (p:=JZ t.dst t.AW) hf;unfold GU;rw[e]
 have hT:Ha l t=(l++[(⟨t.dst,t.AW,t⟩:Past)]).drop ((l.length+1)-40):=by
  unfold Ha;rw[ht,ha,hF];rfl
 rw[ht,ha]at c2;simp only[Bool.not_false,q0g,zx]at c2;rw[hT];clear hT hF hf;refine zF AK Tryz.func208 ?_;unfold Past.d Past.A1 at c2;unfold AU Wi.AE.d Wi.AE.A1 at *;dsimp only at c2;unfold zMA at c3;have un:No 2:=trivial;refine Fc XB ?_ (AQ @c2) (QZ [] c1 [0] c3) [] [9];clear un;with_reducible repeat' first|constructor|intro hc
 refine Av (A5.freeze 0 (x:=Aw (l++[⟨t.dst,t.AW,t⟩])) (by simp[Aw,Past.A1])) (by rw[Dq];exact yV _) ?_;simp only[NE,Eg,AF.FK,AV.FK,AV.F3,LO,Nat.reduceEqDiff,Nat.reduceAdd,decide_true,q1J,B3,zY,yw,yu,zI,zx,zo,reduceCtorEq]
 by_cases h40:l.length=40
 .have e1:l.length+1-40=1:=om
  rw[e1];have un:No 3:=trivial;refine A9 XB ?_;clear un;with_reducible repeat' first|constructor|intro hc
  all_goals first
   |(exfalso;simp only[yw,q15,zY,yu,zI]at *;omega)
   |(refine⟨_,_,rfl,rfl,?_⟩;simp[E5,B3,B8,Aq,List.map_drop])
 .have e1:l.length+1-40=0:=om
  rw[e1];have un:No 3:=trivial;refine A9 XB ?_;clear un;with_reducible repeat' first|constructor|intro hc
  all_goals first
   |(exfalso;simp only[yw,q15,zY,yu,zI]at *;omega)
   |(refine⟨_,_,rfl,rfl,?_⟩;simp[E5,B3,B8,Aq,List.drop_zero])
theorem iM(c:Calls)(m:AE)(BH now:Int)(h:Bc c=true)(hm:Co m):yA 198 [c.d,m.d,.i .u8 BH,.yE 0,.yE now] (.tup [(Bl c m BH 0 now).1.d,(Bl c m BH 0 now).2.1.d,.yE (Bl c m BH 0 now).2.2]):=by
 obtain⟨⟨a1,a2,a3,a4⟩,a5,_⟩:=Be.1 h;have hp:=Wi.OS.1 a1;obtain⟨id,Ah,l⟩:=c;dsimp only at *;have hl:∀x∈l,Co x.Cl:=fun x hx=>DZ (Ce.1 (a5 x hx)).1
 have c1:=Jh ⟨id,Ah,l⟩ hl (by dsimp only;omega);have c2:=I8 ⟨id,Ah,l⟩ hl (by dsimp only;omega);have c3:=F9 m hm;have c4:=Yx id (Ah+1);have c5:=Tl now;rw[h]at c2;have hT:Bl ⟨id,Ah,l⟩ m BH 0 now=if l.length=16\/Ah=1048576 then(⟨id,Ah,l⟩,AU,100)else if EV now&&(({m with AW:=id*1048576+(Ah+1),Ax:=id}:AE).BW&&({m with AW:=id*1048576+(Ah+1),Ax:=id}:AE).right)then(⟨id,Ah+1,l++[⟨id*1048576+(Ah+1),{m with AW:=id*1048576+(Ah+1),Ax:=id},BH,0,now,1⟩]⟩,{m with AW:=id*1048576+(Ah+1),Ax:=id},0)else(⟨id,Ah,l⟩,AU,2):=by unfold Bl;rw[zN h]
 refine zF AK Tryz.func198 ?_
 by_cases hfull:l.length=16\/Ah=1048576
 .rw[zN hfull]at hT;rw[hT];clear hT;unfold Calls.d Calls.A1 Wi.AE.d Wi.AE.A1 at *;dsimp only at*
  by_cases h16:l.length=16
  .have f1:decide ((l.length:Int)>=16)=true:=yX om;refine AD Ox ?_ (AQ f1) (B1 @c1 @c2);with_reducible repeat' first|constructor|intro hc
   exact BO (yg @AU.eq_1 @AN.eq_1)
  .have f1:decide ((l.length:Int)>=16)=false:=yY om;have f2:decide (Ah>=1048576)=true:=yX om;refine AD Ox ?_ (B1 f1 f2) (B1 @c1 @c2);with_reducible repeat' first|constructor|intro hc
   exact BO (yg @AU.eq_1 @AN.eq_1)
 rw[zO hfull]at hT;have f1:decide ((l.length:Int)>=16)=false:=yY om;have f2:decide (Ah>=1048576)=false:=yY om;have hI:E0 id (Ah+1)=(id*1048576+(Ah+1),0):=by unfold E0;rw[zN ⟨a1,om,om⟩]
 rw[hI]at c4;have hid:(0:Int)<=id*1048576+(Ah+1)/\id*1048576+(Ah+1)<137438953472:=om
 generalize id*1048576+(Ah+1)=cl at *;have hq:Co {m with AW:=cl,Ax:=id}:=hm;have c6:=Wi.EH {m with AW:=cl,Ax:=id} (lm hq);have c7:=Wi.IZ {m with AW:=cl,Ax:=id};have c8:=F9 {m with AW:=cl,Ax:=id} hq
 by_cases hok:EV now=true/\({m with AW:=cl,Ax:=id}:AE).BW=true/\({m with AW:=cl,Ax:=id}:AE).right=true
 .obtain⟨o1,o2,o3⟩:=hok;rw[o1,o2,o3]at hT;simp only[q0g,zx]at hT;rw[hT];rw[o1]at c5;rw[o2]at c7;rw[o3]at c6;clear hT hI;have d1:=iV id Ah l hl om;have d2:=Fn.ownB (args':=[.ag [.y5 id,.y5 Ah,.sl 0 l.length 20]]) (x:=C3 l) c2 rfl (by rw[show AV.F3 0 (C3 l) [.ag [.y5 id,.y5 Ah,.sl 0 l.length 20]]=[.ag [.y5 id,.y5 Ah,.d (C3 l)]]by simp[AV.F3,AV.FK,B3,C3]];exact⟨_,_,rfl,⟨_,rfl,⟨_,_,rfl,rfl,⟨_,_,rfl,rfl,⟨_,_,rfl,rfl,rfl⟩⟩⟩⟩,rfl⟩) (by simp[AV.F3,AV.FK,B3,C3,AV.oks,AV.ok])
  have c9:=Jh ⟨id,Ah+1,l++[⟨cl,{m with AW:=cl,Ax:=id},BH,0,now,1⟩]⟩ (fun x hx=>by
   rcases q04.1 hx with hx|hx
   .exact hl x hx
   .rw[q00.1 hx];exact hq) (by dsimp only;rw[yw];simp;omega)
  unfold Calls.d Calls.A1 Wi.AE.d Wi.AE.A1 at *;dsimp only at *;refine EL Ox ?_ (B1 f1 f2) (Ll @c3 @c4 @c5 @c6 @c7) (QZ [] d1 [6] d2) [] [13];with_reducible repeat' first|constructor|intro hc
  refine Av (A5.freeze 6 (x:=C3 (l++[⟨cl,{m with AW:=cl,Ax:=id},BH,0,now,1⟩])) (by simp[C3,B4.A1])) (by rw[Dq];exact yV _) ?_;simp only[NE,Eg,AF.FK,AV.FK,AV.F3,LO,Nat.reduceEqDiff,Nat.reduceAdd,decide_true,q1J,B3,zY,yw,yu,zI,zx,zo,reduceCtorEq];refine AP Ox ?_ (B1 @c9 @c8);with_reducible repeat' first|constructor|intro hc
  exact zE
 .have hT:Bl ⟨id,Ah,l⟩ m BH 0 now=(⟨id,Ah,l⟩,AU,2):=by
   rw[hT,zO];rw[yU,yU];exact hok
  rw[hT];clear hT hI;generalize({m with AW:=cl,Ax:=id}:AE).BW=b1 at *;generalize({m with AW:=cl,Ax:=id}:AE).right=b2 at *;generalize EV now=b3 at *;unfold Calls.d Calls.A1 Wi.AE.d Wi.AE.A1 at *;dsimp only at *;refine AD Ox ?_ (B1 f1 f2) (jT @c1 @c2 @c3 @c4 @c5 @c6 @c7);with_reducible repeat' first|constructor|intro hc
  all_goals first
   |(exfalso;clear c1 c2 c3 c4 c5 c6 c7 c8;grind)
   |(refine⟨_,_,rfl,rfl,?_⟩;simp[E5,B3,B8,Aq,AU,AN])
end Nd
end Go.Proofs.YthlmmkmeoblbhaaGreat
namespace Go.Proofs.YthlmmkmeoblbhaaGreat
namespace Nd
open Go.Gar
open Wi (AE BE Ay AU C2)
set_option maxRecDepth 8000
abbrev Cj:BK:=[0,1,2,3,4,5,7,10,11,12,14,15,16,17,18,19,31,43,51,64,67,68,72,76,91,94,112,117]
abbrev vk(n:A6):yq:=[.y5 n.A4.id,.yD n.A4.A2,.yD n.A4.A8,.y5 n.A4.AO,.y5 (n.A4.f 0),.y5 (n.A4.f 1),.y5 (n.A4.f 2),.y5 (n.A4.f 3),.y5 (n.A4.f 4),.y5 (n.A4.f 5),.y5 (n.A4.f 6),.y5 (n.A4.f 7),.y5 (n.A4.f 8),.y5 (n.A4.f 9),.y5 (n.A4.f 10),.y5 (n.A4.f 11),.y5 (n.A4.f 12),.y5 (n.A4.f 13),.y5 (n.A4.f 14),.y5 (n.A4.f 15),.y5 n.AJ,.y5 n.AI.id,.y5 n.AI.Ah,.d (C3 n.AI.op),.d (Aw n.BL),.y8 n.A3,.y5 n.BN,.y8 n.Ag.AR,.y8 n.Ag.A3,.y5 n.Ag.Am.AH,.y5 n.Ag.Am.Ck,.y5 n.Ag.Am.Cs,.y7 n.Ag.Am.BX,.y7 n.Ag.Am.Dz,.y5 n.Ag.Am.Ab,.yC n.Ag.AC.AH,.y5 n.Ag.AC.BD,.y5 n.Ag.AC.Aa,.y7 n.Ag.AC.gone,.y5 n.Ag.Ar,.yD n.Ag.left,.y5 n.Ag.Ab,.y8 n.Ak.AR,.y8 n.Ak.A3,.y5 n.Ak.Am.AH,.y5 n.Ak.Am.Ck,.y5 n.Ak.Am.Cs,.y7 n.Ak.Am.BX,.y7 n.Ak.Am.Dz,.y5 n.Ak.Am.Ab,.yC n.Ak.AC.AH,.y5 n.Ak.AC.BD,.y5 n.Ak.AC.Aa,.y7 n.Ak.AC.gone,.y5 n.Ak.Ar,.yD n.Ak.left,.y5 n.Ak.Ab,.y8 n.Aj.AR,.y8 n.Aj.A3,.y5 n.Aj.Am.AH,.y5 n.Aj.Am.Ck,.y5 n.Aj.Am.Cs,.y7 n.Aj.Am.BX,.y7 n.Aj.Am.Dz,.y5 n.Aj.Am.Ab,.yC n.Aj.AC.AH,.y5 n.Aj.AC.BD,.y5 n.Aj.AC.Aa,.y7 n.Aj.AC.gone,.y5 n.Aj.Ar,.yD n.Aj.left,.y5 n.Aj.Ab,.y5 n.next,.yC n.last,.d (Bf n.keep),.y5 n.bad]
abbrev jbC(j:B5):yq:=[.y8 j.AR,.y8 j.A3,.y5 j.Am.AH,.y5 j.Am.Ck,.y5 j.Am.Cs,.y7 j.Am.BX,.y7 j.Am.Dz,.y5 j.Am.Ab,.yC j.AC.AH,.y5 j.AC.BD,.y5 j.AC.Aa,.y7 j.AC.gone,.y5 j.Ar,.yD j.left,.y5 j.Ab]
abbrev y3:yq:=[.y5 0,.e0,.e0,.y5 0,.y5 0,.y5 0,.y5 0,.y5 0,.y5 0,.y5 0,.y5 0,.y5 0,.y5 0,.y5 0,.y5 0,.y5 0,.y5 0,.y5 0,.y5 0,.y5 0,.y5 0,.y5 0,.y5 0,.e0,.e0,.y8 0,.y5 0,.y8 0,.y8 0,.y5 0,.y5 0,.y5 0,.y7 false,.y7 false,.y5 0,.yC ([]),.y5 0,.y5 0,.y7 false,.y5 0,.e0,.y5 0,.y8 0,.y8 0,.y5 0,.y5 0,.y5 0,.y7 false,.y7 false,.y5 0,.yC ([]),.y5 0,.y5 0,.y7 false,.y5 0,.e0,.y5 0,.y8 0,.y8 0,.y5 0,.y5 0,.y5 0,.y7 false,.y7 false,.y5 0,.yC ([]),.y5 0,.y5 0,.y7 false,.y5 0,.e0,.y5 0,.y5 0,.yC ([]),.e0,.y5 0]
def onE(BH:Int)(BW:List AE)(own:Bool):yr:=[(1,.y8 BH),(3,.d (CF BW)),(4,.y7 own),(5,.ptr 0 0 76),(7,.ptr 1 0 15),(10,.ptr 2 0 76),(12,.ptr 3 0 15)]
def mt(n:A6)(j was:B5):yz:=[.c (vk n),.c (jbC j),.c y3,.c (jbC was)]
theorem Z5(n:A6)(BH:Int)(c:JC)(hn:P1 n)(hv:AZ n.A4=true)(hk:CK n.keep=true)(hx:0<=n.next/\n.next<16)(hw:5<=BH/\BH<=7)(hl:c.BW.length<=1000):
  yA 197 [n.d,.i .u8 BH,c.job.d,CF c.BW,.b c.own] (.tup [(Cv n BH (decide ((Bj n BH).A3=5)) c).1.d,Ey (Cv n BH (decide ((Bj n BH).A3=5)) c).2]):=by
 have c1:=LU n hn BH;obtain⟨was,hwas⟩:∃w,w=Bj n BH:=⟨_,rfl⟩;rw[<-hwas]at c1|-;clear hwas;obtain⟨job,BW,own⟩:=c;obtain⟨s1,h1⟩:∃s1:List AL×B5,s1=(if own=true/\job.AR=2 then Df n.keep job else(n.keep,job)):=⟨_,rfl⟩;obtain⟨s,hs⟩:∃s:List AL×B5,s=(if own=true/\s1.2.AR=3 then Df s1.1 s1.2 else s1):=⟨_,rfl⟩
 have hss:(if own then Df n.keep job else(n.keep,job))=s:=by
  rw[hs,h1]
  cases own with
  |false=>simp
  |true=>
   by_cases w2:job.AR=2
   .have e:(Df n.keep job).2.AR=2:=by
     unfold Df;rw[zN w2];dsimp only;split
     .exact w2
     .exact w2
    simp[w2,e]
   .by_cases w3:job.AR=3
    .simp[w2,w3]
    .simp only[w2,w3,and_false,zo,zx];unfold Df;rw[zO w2,zO w3]
 have hk1:CK s1.1=true:=by
  rw[h1];split
  .rename_i hc;unfold Df;rw[zN hc.2];exact OU hk
  .exact hk
 have hG:Cv n BH (decide (was.A3=5)) ⟨job,BW,own⟩=(if BH=5/\was.A3≠5/\s.2.A3=5 then K7 (FL {n with keep:=s.1} BH s.2)else FL {n with keep:=s.1} BH s.2,BW.map fun m=>(m,BH)):=by
  unfold Cv;dsimp only;rw[hss];simp only[zn]
 rw[hG];clear hG hn hss;have c2:=Z8 n.keep job.AC hk;have c3:=Yz s1.1 s1.2.AC.AH hk1;dsimp only at *;generalize hR:(if BH=5/\was.A3≠5/\s.2.A3=5 then K7 (FL {n with keep:=s.1} BH s.2)else FL {n with keep:=s.1} BH s.2)=R at *;refine zF AK Tryz.func197 ?_;unfold B5.d B5.A1 at c1;unfold B5.d B5.A1;unfold A6.d A6.A1 AB.A1 Calls.A1 B5.A1 at *;simp only[zA,zK]at *;refine AP Cj ?_ (AQ @c1) [] [2];with_reducible repeat' first|constructor|intro hc
 refine XN (α:=Unit) (fun _=>True) (fun _=>⟨onE BH BW own,mt {n with keep:=s1.1} s1.2 was,Tryz.f197.ntmps⟩) ?_ ?_
 .unfold onE mt;unfold AL.d AL.A1 at c2
  by_cases ho:own=true/\job.AR=2
  case neg=>
   rw[zO ho]at h1;subst h1
   have ho':own=false\/(own=true/\(job.AR==2)=false):=by
    cases own with
    |false=>exact .inl rfl
    |true=>exact .inr ⟨rfl,eq_false' fun e=>ho ⟨rfl,e⟩⟩
   rcases ho' with rfl|⟨rfl,f1⟩
   case' inl=>
    refine A9 Cj ?_;with_reducible repeat' first|constructor|intro hc
   case' inr=>
    refine Ae Cj ?_ (AQ f1);with_reducible repeat' first|constructor|intro hc
   all_goals exact⟨(),trivial,yV _,(A5.ck rfl)⟩
  case pos=>
   rw[zN ho]at h1;obtain⟨rfl,h2⟩:=ho;have f1:=B6 h2;unfold Df at h1;rw[zN h2]at h1;generalize Fj n.keep job.AC=r at *;obtain⟨k',e⟩:=r;dsimp only at*
   by_cases he:e=0
   case' pos=>
    have f2:=BJ he;rw[zO (show ¬e≠0 from fun h=>h he)]at h1;subst h1;refine AD Cj ?_ (B1 f1 f2) (AQ @c2);with_reducible repeat' first|constructor|intro hc
   case' neg=>
    have f2:=Bp he;rw[zN he]at h1;subst h1;refine AD Cj ?_ (B1 f1 f2) (AQ @c2);with_reducible repeat' first|constructor|intro hc
   all_goals exact⟨(),trivial,yV _,(A5.ck rfl)⟩
 intro _ _;clear c1 c2 h1 hk1 hk;obtain⟨k1,j1⟩:=s1;dsimp only at *;unfold onE mt;refine A9 Cj ?_ [] [7];with_reducible repeat' first|constructor|intro hc
 refine XN (α:=Unit) (fun _=>True) (fun _=>⟨onE BH BW own,mt {n with keep:=s.1} s.2 was++[.gone],Tryz.f197.ntmps⟩) ?_ ?_
 .by_cases ho:own=true/\j1.AR=3
  case neg=>
   rw[zO ho]at hs;subst hs
   have ho':own=false\/(own=true/\(j1.AR==3)=false):=by
    cases own with
    |false=>exact .inl rfl
    |true=>exact .inr ⟨rfl,eq_false' fun e=>ho ⟨rfl,e⟩⟩
   rcases ho' with rfl|⟨rfl,f1⟩
   case' inl=>
    refine A9 Cj ?_;with_reducible repeat' first|constructor|intro hc
   case' inr=>
    refine Ae Cj ?_ (AQ f1);with_reducible repeat' first|constructor|intro hc
   all_goals exact⟨(),trivial,y9,A5.pad.trans' ((A5.ck rfl)) (yV _)⟩
  case pos=>
   rw[zN ho]at hs;obtain⟨rfl,h3⟩:=ho;have f1:=B6 h3;unfold Df at hs;rw[zO om,zN h3]at hs;generalize Et k1 j1.AC.AH=r at *;obtain⟨x',e⟩:=r;unfold AL.d AL.A1 at c3;dsimp only at*
   by_cases he:e=0
   case' pos=>
    have f2:=B6 he;rw[zN he]at hs;subst hs;subst he;refine AD Cj ?_ (AQ f1) (AQ @c3);with_reducible repeat' first|constructor|intro hc
   case' neg=>
    have f2:=eq_false' he;rw[zO he]at hs;subst hs;refine AD Cj ?_ (B1 f1 f2) (AQ @c3);with_reducible repeat' first|constructor|intro hc
   all_goals exact⟨(),trivial,yV _,(A5.ck rfl)⟩
 intro _ _;clear c3 hs;obtain⟨k2,j2⟩:=s;dsimp only at *;obtain⟨n1,hn1⟩:∃n1,n1=FL {n with keep:=k2} BH j2:=⟨_,rfl⟩;rw[<-hn1]at hR
 have hv1:n1.A4=n.A4/\n1.next=n.next:=by
  rw[hn1];unfold FL
  repeat' split
  all_goals exact⟨rfl,rfl⟩
 have hf1:BH=5->n1.Ag=j2:=fun h=>by rw[hn1,h];rfl
 unfold onE mt;simp only[zA,zK];refine A9 Cj ?_ [] [12];with_reducible repeat' first|constructor|intro hc
 refine XN (α:=Unit) (fun _=>True) (fun _=>⟨onE BH BW own,mt n1 j2 was++[.gone],Tryz.f197.ntmps⟩) ?_ ?_
 .have h567:BH=5\/BH=6\/BH=7:=om
  unfold onE mt;simp only[zA,zK];rcases h567 with rfl|rfl|rfl
  all_goals
   replace hn1:=hn1.trans (show FL {n with keep:=k2} _ j2=_ from rfl);subst hn1;refine A9 Cj ?_;with_reducible repeat' first|constructor|intro hc
   exact⟨(),trivial,yV _,(A5.ck rfl)⟩
 intro _ _;have c4:=s5 (v:=n1.A4) (by rw[hv1.1];exact hv) (i:=n1.next) j2.Ar (by rw[hv1.2];exact hx);rw[<-hv1.2]at hx;clear hn1 hv hv1;unfold onE mt;simp only[zA,zK];refine A9 Cj ?_ [] [19];with_reducible repeat' first|constructor|intro hc
 refine XN (α:=Unit) (fun _=>True) (fun _=>⟨onE BH BW own,mt R j2 was++[.gone],Tryz.f197.ntmps⟩) ?_ ?_
 .unfold onE mt;simp only[zA,zK]
  by_cases hc:BH=5/\was.A3≠5/\j2.A3=5
  case neg=>
   rw[zO hc]at hR;subst hR
   have hg:(BH==5)=false\/((BH==5)=true/\((j2.A3==5)=false\/((j2.A3==5)=true/\(was.A3 !=5)=false))):=by
    by_cases h1:BH=5
    .right;refine⟨B6 h1,?_⟩
     by_cases h2:j2.A3=5
     .exact .inr ⟨B6 h2,BJ (q1A fun h=>hc ⟨h1,h,h2⟩)⟩
     .exact .inl (eq_false' h2)
    .exact .inl (eq_false' h1)
   rcases hg with g1|⟨g1,g2|⟨g2,g3⟩⟩
   case' inl=>
    refine Ae Cj ?_ (AQ g1);with_reducible repeat' first|constructor|intro hc
   case' inr.inl=>
    refine Ae Cj ?_ (B1 g1 g2);with_reducible repeat' first|constructor|intro hc
   case' inr.inr=>
    refine Ae Cj ?_ (DO g1 g2 g3);with_reducible repeat' first|constructor|intro hc
   all_goals exact⟨(),trivial,yV _,(A5.ck rfl)⟩
  case pos=>
   rw[zN hc]at hR;obtain⟨rfl,h2,h3⟩:=hc;have g2:=B6 h3;have g3:=Bp h2;have hfin:=hf1 rfl;unfold K7 at hR;rw[hfin]at hR
   have hnx:(n1.next+1).tmod 16=if n1.next+1>=16 then 0 else n1.next+1:=by
    rw[q1Z om];split<;>omega
   rw[hnx]at hR;generalize UB n1.A4 n1.next j2.Ar=fr at *;obtain⟨fv,fe⟩:=fr;unfold AB.d AB.A1 at c4;dsimp only at*
   by_cases hcode:j2.Ab=0
   .have g4:=B6 hcode;rw[zN hcode]at hR
    by_cases h16:n1.next+1>=16
    .have g5:decide (n1.next+1>=16)=true:=yX h16;rw[zN h16]at hR;subst hR;refine AD Cj ?_ (Hc g2 g3 g4 g5) (AQ @c4);with_reducible repeat' first|constructor|intro hc
     exact⟨(),trivial,yV _,(A5.cut rfl (by repeat'(first|exact zi|refine yg (by(first|rfl|((with_reducible_and_instances refine congrArg (fun z=>some (AV.d (D.i _ z))) ?_);omega)|(refine congrArg (fun z=>some (AV.d (D.i _ z))) (?_:(_:Int)=_);omega)|(refine congrArg some ?_;simp only[hfin];done)|(refine congrArg some ?_;simp[hfin];done))) ?_)) (by repeat'(first|exact zi|refine yg (q0D rfl) ?_|refine yg (q0w ⟨rfl,rfl⟩) ?_|refine yg (q0D (by simp only[hfin])) ?_|refine yg (q0D (by simp[hfin])) ?_)) (by first|rfl|(simp(decide:=true) [Ai,AF.ok,AV.oks,AV.ok,hk];done)) rfl)⟩
    .have g5:decide (n1.next+1>=16)=false:=yY h16;rw[zO h16]at hR;subst hR;refine AD Cj ?_ (Hc g2 g3 g4 g5) (AQ @c4);with_reducible repeat' first|constructor|intro hc
     exact⟨(),trivial,yV _,(A5.cut rfl (by repeat'(first|exact zi|refine yg (by(first|rfl|((with_reducible_and_instances refine congrArg (fun z=>some (AV.d (D.i _ z))) ?_);omega)|(refine congrArg (fun z=>some (AV.d (D.i _ z))) (?_:(_:Int)=_);omega)|(refine congrArg some ?_;simp only[hfin];done)|(refine congrArg some ?_;simp[hfin];done))) ?_)) (by repeat'(first|exact zi|refine yg (q0D rfl) ?_|refine yg (q0w ⟨rfl,rfl⟩) ?_|refine yg (q0D (by simp only[hfin])) ?_|refine yg (q0D (by simp[hfin])) ?_)) (by first|rfl|(simp(decide:=true) [Ai,AF.ok,AV.oks,AV.ok,hk];done)) rfl)⟩
   .have g4:=eq_false' hcode;rw[zO hcode]at hR
    by_cases h16:n1.next+1>=16
    .have g5:decide (n1.next+1>=16)=true:=yX h16;rw[zN h16]at hR;subst hR;refine Ae Cj ?_ (Hc g2 g3 g4 g5);with_reducible repeat' first|constructor|intro hc
     exact⟨(),trivial,yV _,(A5.cut rfl (by repeat'(first|exact zi|refine yg (by(first|rfl|((with_reducible_and_instances refine congrArg (fun z=>some (AV.d (D.i _ z))) ?_);omega)|(refine congrArg (fun z=>some (AV.d (D.i _ z))) (?_:(_:Int)=_);omega)|(refine congrArg some ?_;simp only[hfin];done)|(refine congrArg some ?_;simp[hfin];done))) ?_)) (by repeat'(first|exact zi|refine yg (q0D rfl) ?_|refine yg (q0w ⟨rfl,rfl⟩) ?_|refine yg (q0D (by simp only[hfin])) ?_|refine yg (q0D (by simp[hfin])) ?_)) (by first|rfl|(simp(decide:=true) [Ai,AF.ok,AV.oks,AV.ok,hk];done)) rfl)⟩
    .have g5:decide (n1.next+1>=16)=false:=yY h16;rw[zO h16]at hR;subst hR;refine Ae Cj ?_ (Hc g2 g3 g4 g5);with_reducible repeat' first|constructor|intro hc
     exact⟨(),trivial,yV _,(A5.cut rfl (by repeat'(first|exact zi|refine yg (by(first|rfl|((with_reducible_and_instances refine congrArg (fun z=>some (AV.d (D.i _ z))) ?_);omega)|(refine congrArg (fun z=>some (AV.d (D.i _ z))) (?_:(_:Int)=_);omega)|(refine congrArg some ?_;simp only[hfin];done)|(refine congrArg some ?_;simp[hfin];done))) ?_)) (by repeat'(first|exact zi|refine yg (q0D rfl) ?_|refine yg (q0w ⟨rfl,rfl⟩) ?_|refine yg (q0D (by simp only[hfin])) ?_|refine yg (q0D (by simp[hfin])) ?_)) (by first|rfl|(simp(decide:=true) [Ai,AF.ok,AV.oks,AV.ok,hk];done)) rfl)⟩
 intro _ _;clear c4 hR hf1;unfold onE mt;simp only[zA,zK];refine A9 Cj ?_;with_reducible repeat' first|constructor|intro hc
 refine Av (A5.EQ 18 (.sl 16 []) rfl rfl rfl (by simp[Aq])) sm ?_;refine CO (fun k=>k<=BW.length) (fun k:Nat=>[(18,.sl 5 (BW.take k).length 16),(19,.y5 k)]) (fun k=>[(5,.a (Ey ((BW.take k).map fun m=>(m,BH))))]) (fun k=>BW.length-k) 0 (yx _) (fun _=>rfl) (fun _=>rfl) ?_ ?_
 .exact A5.ck rfl
 intro k hk;have htl:(BW.take k).length<=k:=q0Q _ _
 by_cases hkl:k<BW.length
 .obtain⟨x,hx⟩:=AS hkl;have hn:=AM hx;have ix1:=hx;refine A9 Cj ?_;clear ix1;with_reducible repeat' first|constructor|intro hc
  refine⟨k+1,hkl,om,yV _,?_⟩;exact A5.cut rfl (by repeat'(first|exact zi|refine yg (by(first|rfl|((with_reducible_and_instances refine congrArg (fun z=>some (AV.d (D.i _ z))) ?_);omega)|(refine congrArg (fun z=>some (AV.d (D.i _ z))) (?_:(_:Int)=_);omega)|(refine congrArg some ?_;simp only[hn,Ey,Rr,Wi.AE.A1,zS,zV,zh,yw,yu,zI];done)|(refine congrArg some ?_;simp[hn,Ey,Rr,Wi.AE.A1,zS,zV,zh,yw,yu,zI];done))) ?_)) (by repeat'(first|exact zi|refine yg (q0D rfl) ?_|refine yg (q0w ⟨rfl,rfl⟩) ?_|refine yg (q0D (by simp only[hn,Ey,Rr,Wi.AE.A1,zS,zV,zh,yw,yu,zI])) ?_|refine yg (q0D (by simp[hn,Ey,Rr,Wi.AE.A1,zS,zV,zh,yw,yu,zI])) ?_)) (by first|rfl|(simp(decide:=true) [Ai,AF.ok,AV.oks,AV.ok,hk];done)) rfl
 .have e:k=BW.length:=om
  subst e;rw[zU];refine A9 Cj ?_;with_reducible repeat' first|constructor|intro hc
  exact BO @Ey.eq_1
end Nd
end Go.Proofs.YthlmmkmeoblbhaaGreat
