/- Part 48 of a proof. Conditions: those that its theorems state. -/
import Derived.Test.YtamjpnmjpponpaaGreatDoorC43
import Derived.Test.YtamjpnmjpponpaaGreatDoorC46
set_option linter.unusedSimpArgs false
set_option linter.unusedVariables false
set_option maxHeartbeats 40000000
set_option maxRecDepth 4000
namespace Go.Proofs.YtamjpnmjpponpaaGreatDoor
namespace Nd
open Go.Gar
abbrev wC:CS:=(newS [9,40]).1
abbrev mkS(k a:Int):Step:=⟨k,a,0,0,[],⟨[],0,0,false⟩⟩
abbrev wD:CS:=(stepS wC (mkS 1 9)).1
abbrev tU:CS:=(stepS wC (mkS 7 20)).1
abbrev tV:CS:=(stepS tU (mkS 1 20)).1
abbrev wO:CS:=(stepS tV (mkS 8 20)).1
abbrev wS:Step:=⟨6,20,0,0,[1],⟨[],0,0,false⟩⟩
abbrev wP:CS:=(stepS wO wS).1
theorem kP(c c':CS)(s:Step)(e:Int)(h:CW c)(d3:yT 46 [.d s.d,.ptr 4 0 1] (cB c++cK) (.yO e) (cB c'++cK)):yS 13 [c.c.d,stepsD [s]] c'.c.d:=by
 have d1:=J7 c h;have c1:=Hr c h;have d2:=JA c;unfold D3.d D3.A4 CS.c at *;unfold Step.d Step.A4 at *;unfold stepsD;unfold Step.A4;dsimp only[List.map_cons,List.map_nil]at *;refine zF AE Tryz.func13 ?_;simp only[zY,zZ]at *;have un:No 2:=trivial;refine B6 [0,1,2,4,5,6,8,18,21,22,23,24] ?_ (AK @c1) (WA [] d1 [7,6,4] d2 [7,6,4,8,9,10,11,12,13,14,15] d3);clear un;refine⟨_,_,rfl,rfl,?_⟩;simp[LL,BP,Bl,BM,Dv]
theorem kR(c c2 c3 c4:CS)(s t u:Step)(h:CW c)(d3:yT 46 [.d s.d,.ptr 4 0 1] (cB c++cK) (.yO 0) (mH c2))(d4:yT 46 [.d t.d,.ptr 4 0 1] (cB c2++cK) (.yO 0) (cB c3++cK))(d5:yT 46 [.d u.d,.ptr 4 0 1] (cB c3++cK) (.yO 0) (mH c4))(hst:s.AN=7)(htk:t.AN=1)(huk:u.AN=8):yS 13 [c.c.d,stepsD [s,t,u]] c4.c.d:=by
 have d1:=J7 c h;have c1:=Hr c h;have d2:=JA c;obtain⟨k1,_,_,_,_,_⟩:=s;obtain⟨k2,_,_,_,_,_⟩:=t;obtain⟨k3,_,_,_,_,_⟩:=u;dsimp only at hst htk huk;subst hst htk huk;unfold D3.d D3.A4 CS.c at *;unfold Step.d Step.A4 at *;unfold stepsD;unfold Step.A4;dsimp only[List.map_cons,List.map_nil,mH]at *;refine zF AE Tryz.func13 ?_;simp only[zY,zZ]at *;have un:No 4:=trivial;refine B6 [0,1,2,4,5,6,8,18,21,22,23,24] ?_ (AK @c1) (zd5 [] d1 [7,6,4] d2 [7,6,4,8,9,10,11,12,13,14,15] d3 [7,19,4,8,9,10,11,12,13,14,15] d4 [7,19,4,8,9,10,11,12,13,14,15] d5);clear un;refine⟨_,_,rfl,rfl,?_⟩;simp[LL,BP,Bl,BM,Dv]
end Nd
end Go.Proofs.YtamjpnmjpponpaaGreatDoor
namespace Go.Proofs.YtamjpnmjpponpaaGreatDoor
abbrev LG:BF:=[0,1,2,3,4,5,7,9,10,11,13,14,15,16,79]
open Go.Gar in
theorem A8.asd{S:St}(t:Nat){xs:yr}(ds:yp)(h:get S.env t=some (.ag xs))(hx:Ec [] xs ds):A8 S ⟨(t,.d (.agg ds))::S.env,S.H,S.n⟩:=by
 intro ro N G a w r _;refine⟨G,⟨r.heap,r.rel,r.size,fun u y hy=> ?_,r.marks,r.round⟩,⟨fun id b b' hb hb'=>by rw[hb]at hb';cases hb';exact Av.refl _ _ _,Mem.le_refl _,fun _ h=>h,fun _ _ _ h=> .inl h⟩⟩;simp only[Go.Gar.get]at hy;split at hy
 .rename_i hb;cases hy;have:=zk hb;subst this;obtain⟨v,hv,hrv⟩:=r.env t _ h;refine⟨v,hv,?_⟩;simp only[RV];exact bm (Kf.2 hx) hrv
 .exact r.env u y hy
namespace Nd
open Go.Gar
theorem pE{ns dn on qn:List AA}{db ob qg qb:Ai}{a c e1 e2 e3:AL}{b e f1 f2 f3:Bool}{dl t1 t2:Int}{og qr:List B0}{v:Ai×Ai×Int×(Nat->Int)}{nc:Int}{ca:Calls}{sn:List Past}{ph o_ nx ba:Int}{fi mi cl:B9}{la:AL}{ke:List AS}
  (hn:ns.length=2)
  (c1:yS 7 [.is [9,40]] (.tup [dC ns [] [9,40] [] 0,.yX 0]))
  (c2:yS 8 [dC ns [] [9,40] [] 0,(mkS 1 9).d] (.tup [dC dn [] db [⟨40,a,b⟩,⟨40,c,e⟩] dl,.yX 0]))
  (c3:yS 13 [dC ns [] [9,40] [] 0,stepsD [mkS 7 20,mkS 1 20,mkS 8 20]] (dC on [20] ob og 0))
  (c4:yS 8 [dC on [20] ob og 0,(mkS 7 20).d] (.tup [dC on [20] ob og 0,.yX 2]))
  (c5:yS 8 [dC ns [] [9,40] [] 0,(mkS 8 9).d] (.tup [dC ns [] [9,40] [] 0,.yX 2]))
  (c6:yS 8 [dC on [20] ob og 0,wS.d] (.tup [dC on [20] ob [⟨t1,e1,f1⟩,⟨t2,e2,f2⟩,⟨20,e3,f3⟩] 0,.yX 0]))
  (c7:yS 7 [.is [9]] (.tup [dC [] [] [] [] 0,.yX 2]))
  (c8:yS 11 [dC ns [] [9,40] [] 0,.yX 40] (.tup [AA.d ⟨⟨40,v.1,v.2.1,v.2.2.1,v.2.2.2⟩,nc,ca,sn,ph,o_,fi,mi,cl,nx,la,ke,ba⟩,.b true]))
  (c9:yS 15 [dC ns [] [9,40] [] 0] (.is [9,40]))
  (c10:yS 13 [dC on [20] ob [⟨t1,e1,f1⟩,⟨t2,e2,f2⟩,⟨20,e3,f3⟩] 0,stepsD [mkS 2 2]] (dC qn qg qb qr 1))
  (c11:yS 12 [dC on [20] ob og 0] (.b true))
  (d12:yT 17 [.d (dC ns [] [9,40] [] 0)] [] (.ag [.sl 4 ns.length 76,.sl 2 0 1,.yV ([9,40]),.d (.sl 3 []),.yO 0]) [.gone,.c [.sl 4 ns.length 76,.sl 2 0 1,.yV ([9,40]),.d (.sl 3 []),.yO 0],.a (.is []),.gone,.a (Ak ns)])
  (c13:yS 16 [dC ns [] [9,40] [] 0,dC ns [] [9,40] [] 0] (.b true))
  (c14:yS 16 [dC ns [] [9,40] [] 0,dC dn [] db [⟨40,a,b⟩,⟨40,c,e⟩] dl] (.b false)):yS 6 [] (.b true):=by
 have d13:yT 16 [.d (dC ns [] [9,40] [] 0),.ag [.sl 0 ns.length 76,.sl 1 0 1,.yV ([9,40]),.d (.sl 3 []),.yO 0]] [.a (Ak ns),.a (.is [])] (.yP true) [.a (Ak ns),.a (.is [])]:=
  Fn.read c13 rfl (by simp[CG,Ca,C7,Dv,Cw,BP])
 unfold AA.d AA.A4 AG.A4 Calls.A4 B9.A4 at c8;unfold stepsD at c3 c10;unfold Step.d at *;clear c13;simp only[dC,mkS,wS,Step.A4,List.map_cons,List.map_nil,B0.A4,zY,zZ]at *;refine zF AE Tryz.func6 ?_;have z1:=@c2;refine AO LG ?_ (AK @c1) [] [3];clear z1;have nS:=q0r
 repeat'(first|((with_reducible refine sg ?_);first|with_reducible rfl|((with_reducible refine Na ?_);first|kernel_rfl|rfl|(simp[Fp,IL,nS];done))|with_reducible refine Mb ?_ ?_|with_reducible exact q1K _|with_reducible exact DL _|((with_reducible refine zU ?_);first|omega|(simp only[IK,nS];omega))|decide|(simp[IK,slc,Cs,D.one,ER,AV.one,nS];done)|(simp[IK,nS];omega))|((with_reducible refine g0 ?_);first|(refine Er rfl ?_;refine el AE rfl rfl rfl rfl ?_)|refine Xq AE rfl rfl rfl rfl ?_ ?_|refine Xn [0,1,2,3,4,5,7,9,10,11,13,14,15,16,79] rfl ?_|refine XF (c3) rfl rfl rfl rfl ?_|refine Xa AE rfl rfl rfl rfl rfl ?_ ?_|refine Xw AE rfl rfl rfl rfl ?_ ?_|refine Xs rfl rfl rfl ?_|(refine RJ rfl rfl (fun hc=> ?_) (fun hc=> ?_)<;>(fail_if_success (with_reducible first|exact tF hc|exact fT hc))<;>(try simp only[Ma]at hc)<;>(try(exfalso;omega))))|((with_reducible refine t8 ?_);first|(refine IS rfl ?_;refine so AE rfl rfl (fun _=>rfl) rfl rfl ?_)|refine Yp AE rfl rfl (fun _=>rfl) rfl rfl ?_ ?_|refine Yq rfl rfl rfl rfl rfl ?_ ?_|refine Ys rfl rfl rfl rfl ?_|refine YF (c3) rfl rfl rfl rfl rfl ?_|refine Ya AE rfl rfl rfl rfl rfl rfl ?_ ?_|refine Yw AE rfl rfl rfl rfl rfl ?_ ?_|refine Yn [0,1,2,3,4,5,7,9,10,11,13,14,15,16,79] [] mixed AE (by kernel_rfl) q0r rfl ?_|(refine RL rfl rfl (fun hc=> ?_) (fun hc=> ?_)<;>(fail_if_success (with_reducible first|exact tF hc|exact fT hc))<;>(try simp only[Ma]at hc)<;>(try(exfalso;omega))))|refine IR ?_|refine J6 [4] rfl ?_|refine RF [4] T.get rfl ?_|(refine Ho (A8.asd 29 [.i .u8 7,.yX 20,.yX 0,.yX 0,.by [],.s [],.yX 0,.yX 0,.b false] rfl (by simp[CG,Ca,C7,Iv,Bl,BP,BM])) (zN _) ?_)|(refine Ho (A8.asd 30 [.i .u8 1,.yX 20,.yX 0,.yX 0,.by [],.s [],.yX 0,.yX 0,.b false] rfl (by simp[CG,Ca,C7,Iv,Bl,BP,BM])) (zN _) ?_)|(refine Ho (A8.asd 31 [.i .u8 8,.yX 20,.yX 0,.yX 0,.by [],.s [],.yX 0,.yX 0,.b false] rfl (by simp[CG,Ca,C7,Iv,Bl,BP,BM])) (zN _) ?_)|refine Fi ?_|refine IQ ?_|refine EU ?_|refine Fg ?_|refine Df rfl ?_|refine De rfl ?_|(refine FJ rfl (fun hc=> ?_) (fun hc=> ?_)<;>(try simp only[Ma]at hc)<;>(try(exfalso;omega))))
 have z1:=@c4;refine A9 LG ?_ [] [5];clear z1;have z1:=@c5;have z2:=@c6;refine A9 LG ?_ [] [7];clear z2 z1;refine AO LG ?_ (CP @c7 @c8 @c9) [] [11];have nS:=q0r
 repeat'(first|((with_reducible refine sg ?_);first|with_reducible rfl|((with_reducible refine Na ?_);first|kernel_rfl|rfl|(simp[Fp,IL,nS];done))|with_reducible refine Mb ?_ ?_|with_reducible exact q1K _|with_reducible exact DL _|((with_reducible refine zU ?_);first|omega|(simp only[IK,nS];omega))|decide|(simp[IK,slc,Cs,D.one,ER,AV.one,nS];done)|(simp[IK,nS];omega))|((with_reducible refine g0 ?_);first|(refine Er rfl ?_;refine el AE rfl rfl rfl rfl ?_)|refine Xq AE rfl rfl rfl rfl ?_ ?_|refine Xn [0,1,2,3,4,5,7,9,10,11,13,14,15,16,79] rfl ?_|refine XF (c10) rfl rfl rfl rfl ?_|refine Xa AE rfl rfl rfl rfl rfl ?_ ?_|refine Xw AE rfl rfl rfl rfl ?_ ?_|refine Xs rfl rfl rfl ?_|(refine RJ rfl rfl (fun hc=> ?_) (fun hc=> ?_)<;>(fail_if_success (with_reducible first|exact tF hc|exact fT hc))<;>(try simp only[Ma]at hc)<;>(try(exfalso;omega))))|((with_reducible refine t8 ?_);first|(refine IS rfl ?_;refine so AE rfl rfl (fun _=>rfl) rfl rfl ?_)|refine Yp AE rfl rfl (fun _=>rfl) rfl rfl ?_ ?_|refine Yq rfl rfl rfl rfl rfl ?_ ?_|refine Ys rfl rfl rfl rfl ?_|refine YF (c10) rfl rfl rfl rfl rfl ?_|refine Ya AE rfl rfl rfl rfl rfl rfl ?_ ?_|refine Yw AE rfl rfl rfl rfl rfl ?_ ?_|refine Yn [0,1,2,3,4,5,7,9,10,11,13,14,15,16,79] [] mixed AE (by kernel_rfl) q0r rfl ?_|(refine RL rfl rfl (fun hc=> ?_) (fun hc=> ?_)<;>(fail_if_success (with_reducible first|exact tF hc|exact fT hc))<;>(try simp only[Ma]at hc)<;>(try(exfalso;omega))))|refine IR ?_|refine J6 [12] rfl ?_|refine RF [12] T.get rfl ?_|(refine Ho (A8.asd 86 [.i .u8 2,.yX 2,.yX 0,.yX 0,.by [],.s [],.yX 0,.yX 0,.b false] rfl (by simp[CG,Ca,C7,Iv,Bl,BP,BM])) (zN _) ?_)|refine Fi ?_|refine IQ ?_|refine EU ?_|refine Fg ?_|refine Df rfl ?_|refine De rfl ?_|(refine FJ rfl (fun hc=> ?_) (fun hc=> ?_)<;>(try simp only[Ma]at hc)<;>(try(exfalso;omega))))
 refine B6 LG ?_ (Au @c11 @c14) (H0 [] d12 [13,11] d13) [(62,64)];exact zE
end Nd
end Go.Proofs.YtamjpnmjpponpaaGreatDoor
namespace Go.Proofs.YtamjpnmjpponpaaGreatDoor
namespace Nd
open Go.Gar
abbrev OL:BF:=[0,1,2,4,5,6,7,8,13,24,28]
def Ko(c:CS):Nat->CS
 |0=>c
 |k+1=>(Co (Ko c k) 0).1
def pP(c:CS):Nat->Nat
 |0=>0
 |m+1=>if c.bag.grams.length=0 then 0 else pP (Co c 0).1 m+1
variable {c:CS}
theorem ZU{m:Nat}(h:m=0\/c.bag.grams.length=0):pP c m=0:=by
 cases m with
 |zero=>rfl
 |succ m=>
  rcases h with h|h
  .cases h
  .exact zn h
theorem bu{k m:Nat}(h1:k<m)(h2:(Ko c k).bag.grams.length≠0):pP (Ko c k) (m-k)=pP (Ko c (k+1)) (m-(k+1))+1:=by
 rw[show m-k=m-(k+1)+1 by omega];exact zx h2
theorem kx(h:c.bag.grams.length≠0):(Co c 0).2=0:=by
 have:c.bag.Kz 0=true:=by unfold Bg.Du.Kz;simp;omega
 unfold Co;rw[zn this]
theorem ZT{c:CS}(h:CW c):∀k,CW (Ko c k)
 |0=>h
 |k+1=>(Rj (ZT h k) 0).w
theorem fM(c:CS)(m:Nat)(h:CW c)(hm:m<=12):yS 14 [c.c.d,.yX m] (.tup [(Ko c (pP c m)).c.d,.yX (pP c m)]):=by
 have d1:=J7 c h;have c1:=Hr c h;have d2:=JA c;refine zF AE Tryz.func14 ?_;obtain⟨R,hR⟩:∃R,pP c m=R:=⟨_,rfl⟩;rw[hR];unfold D3.d D3.A4 CS.c at *;dsimp only at *;simp only[zY,zZ]at *;refine B6 OL ?_ (AK @c1) (H0 [] d1 [7,6,4] d2);with_reducible repeat' first|constructor|intro hc
 refine CM (fun k:Nat=>k<=m/\R=k+pP (Ko c k) (m-k)) (fun k:Nat=>[(7,.yO k)]) (fun k=>[(7,.c (cX (Ko c k) 6 4)),(6,.a (Ak (Ko c k).nodes)),(4,.a (.is (Ko c k).gone))]) (fun k=>m-k) 0 ⟨zi _,by rw[<-hR];simp[Ko]⟩ (fun _=>rfl) (fun _=>rfl) ?_ ?_
 .exact A8.ck rfl
 rintro k ⟨hk,hRk⟩;have hw:=ZT h k
 by_cases hkm:k<m
 .have f1:decide ((k:Int)<m)=true:=zU om
  by_cases hg:(Ko c k).bag.grams.length=0
  .have f2:decide (((Ko c k).bag.grams.length:Int)>0)=false:=zQ om;rw[ZU (.inr hg)]at hRk;obtain rfl:R=k:=om
   refine Aj OL ?_ (Au f1 f2);with_reducible repeat' first|constructor|intro hc
   refine⟨_,_,rfl,rfl,?_⟩;simp[LL,BP,Bl,BM,Dv]
  .have f2:decide (((Ko c k).bag.grams.length:Int)>0)=true:=zU om;have d3:=GG (Ko c k) (mkS 2 0) hw rfl;have e1:(Co (Ko c k) (mkS 2 0).a).2=0:=kx hg;have e2:(Co (Ko c k) (mkS 2 0).a).1=Ko c (k+1):=rfl;rw[e1,e2]at d3;rw[bu hkm hg]at hRk;unfold Step.d Step.A4 at d3;dsimp only at d3;simp only[zY,zZ]at d3;have fd1:Dd (.tup [.yX 26,.agg [.i .u8 2,.yX 0,.yX 0,.yX 0,.by [],.s [],.yX 0,.yX 0,.b false]]):=trivial;refine Cd OL ?_ (Au f1 f2) (BJ [7,6,4,8,9,10,11,12,13,14,15] d3);clear fd1;with_reducible repeat' first|constructor|intro hc
   refine⟨k+1,⟨hkm,om⟩,om,zN _,?_⟩;exact A8.ck rfl
 .have e:k=m:=om
  subst e;rw[Nat.sub_self,ZU (.inl rfl)]at hRk;obtain rfl:R=k:=om
  have f1:decide ((R:Int)<R)=false:=zQ om;refine Aj OL ?_ (AK f1);with_reducible repeat' first|constructor|intro hc
  refine⟨_,_,rfl,rfl,?_⟩;simp[LL,BP,Bl,BM,Dv]
end Nd
end Go.Proofs.YtamjpnmjpponpaaGreatDoor
