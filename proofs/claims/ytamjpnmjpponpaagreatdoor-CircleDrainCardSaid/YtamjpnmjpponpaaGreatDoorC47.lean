/- Part 47 of a proof. Conditions: those that its theorems state. -/
import Derived.Test.YtamjpnmjpponpaaGreatDoorC43
import Derived.Test.YtamjpnmjpponpaaGreatDoorC46
set_option linter.unusedSimpArgs false
set_option linter.unusedVariables false
set_option maxHeartbeats 40000000
set_option maxRecDepth 4000
namespace Go.Proofs.YtamjpnmjpponpaaGreatDoor
namespace Nd
open Go.Gar
open Wi (AF BV B7 Cp Bc)
theorem Js(c:CS)(p:Int)(lv:Bool):(∃i,Cx c.nodes p=some i/\p∉c.A6/\c.gone.length<1000/\(FT c p lv).2=0)\/((Cx c.nodes p=none\/p∈c.A6\/c.gone.length>=1000)/\FT c p lv=(c,2)):=by
 unfold FT
 cases hi:Cx c.nodes p with
 |none=>exact .inr ⟨.inl rfl,rfl⟩
 |some i=>
  dsimp only
  by_cases h:p∈c.A6\/c.gone.length>=1000
  .rw[zn h];exact .inr ⟨.inr h,rfl⟩
  .rw[zx h];exact .inl ⟨i,rfl,fun e=>h (.inl e),om,rfl⟩
theorem aG(c:CS)(p:Int):(KR c p=true/\(JK c p).2=0)\/(KR c p=false/\JK c p=(c,2)):=by
 unfold JK
 cases h:KR c p with
 |true=>exact .inl ⟨rfl,rfl⟩
 |false=>exact .inr ⟨rfl,rfl⟩
theorem X2(c:CS)(s:Step)(h:CW c)(hx:s.AC.AI.length<=big):∃H,(H=cB (stepS c s).1++cK\/H=mH (stepS c s).1)/\yT 46 [.d s.d,.ptr 4 0 1] (cB c++cK) (.yO ((stepS c s).2)) H:=by
 unfold stepS
 by_cases h1:s.AN=1
 .rw[zn h1];exact⟨_,.inl rfl,MQ c s h h1⟩
 rw[zx h1]
 by_cases h2:s.AN=2
 .rw[zn h2];exact⟨_,.inl rfl,GG c s h h2⟩
 rw[zx h2]
 by_cases h3:s.AN=3
 .rw[zn h3];exact⟨_,.inl rfl,TW c s h h3⟩
 rw[zx h3]
 by_cases h4:s.AN=4
 .rw[zn h4];exact⟨_,.inl rfl,Ri c s h h4⟩
 rw[zx h4]
 by_cases h5:s.AN=5
 .rw[zn h5];exact⟨_,.inl rfl,TX c s h h5⟩
 rw[zx h5]
 by_cases h6:s.AN=6
 .rw[zn h6];exact⟨_,.inl rfl,QG c s h h6⟩
 rw[zx h6]
 by_cases h7:s.AN=7
 .rw[zn h7];rcases aG c s.a with⟨e1,e2⟩|⟨e1,e2⟩
  .rw[e2];exact⟨_,.inr rfl,MO c s h h7 e1⟩
  .rw[e2];exact⟨_,.inl rfl,QH c s h h7 e1⟩
 rw[zx h7]
 by_cases h8:s.AN=8
 .rw[zn h8];rcases Js c s.a false with⟨i,e1,e2,e3,e4⟩|⟨e1,e2⟩
  .rw[e4];exact⟨_,.inr rfl,MP c s i h h8 e1 e2 e3⟩
  .rw[e2];exact⟨_,.inl rfl,QI c s h h8 e1⟩
 rw[zx h8]
 by_cases h9:s.AN=9
 .rw[zn h9];rcases Js c s.a true with⟨i,e1,e2,e3,e4⟩|⟨e1,e2⟩
  .rw[e4];exact⟨_,.inr rfl,Rf c s i h h9 e1 e2 e3⟩
  .rw[e2];exact⟨_,.inl rfl,Ow c s h h9 e1⟩
 rw[zx h9]
 by_cases h10:s.AN=10
 .rw[zn h10];exact⟨_,.inl rfl,Uw c s h h10 hx⟩
 rw[zx h10]
 by_cases h11:s.AN=11
 .rw[zn h11];exact⟨_,.inl rfl,Uv c s h h11 hx⟩
 rw[zx h11];exact⟨_,.inl rfl,Rh c s om⟩
theorem Md(c:CS)(s:Step)(h:CW c)(hx:s.AC.AI.length<=big):yS 8 [c.c.d,s.d] (.tup [(stepS c s).1.c.d,.yX (stepS c s).2]):=by
 have d1:=J7 c h;have c1:=Hr c h;have d2:=JA c;obtain⟨H,hH,d3⟩:=X2 c s h hx;generalize stepS c s=r at *;obtain⟨c',e⟩:=r;unfold D3.d D3.A4 CS.c at *;unfold Step.d Step.A4 at *;dsimp only at *;refine zF AE Tryz.func8 ?_;rcases hH with rfl|rfl
 .simp only[zY,zZ]at *;refine B6 [0,1,2,3,4,5,6,7,11] ?_ (AK @c1) (WA [] d1 [8,7,5] d2 [8,7,5,9,10,11,12,13,14,15,16] d3) [(1,0)];refine⟨_,_,rfl,rfl,?_⟩;simp[LL,BP,Bl,BM,Dv]
 .dsimp only[mH]at d3;simp only[zY,zZ]at *;refine B6 [0,1,2,3,4,5,6,7,11] ?_ (AK @c1) (WA [] d1 [8,7,5] d2 [8,7,5,9,10,11,12,13,14,15,16] d3) [(1,0)];refine⟨_,_,rfl,rfl,?_⟩;simp[LL,BP,Bl,BM,Dv]
theorem kT(c:CS)(p:Int)(h:CW c):yS 11 [c.c.d,.yX p] (.tup [(nodeAt c.nodes p).d,.b (Es c.nodes p)]):=by
 have hl:=h.len;have c1:=NZ c.nodes p om;refine zF AE Tryz.func11 ?_;unfold D3.d D3.A4 CS.c;dsimp only
 cases hb:Es c.nodes p with
 |false=>
  obtain⟨e1,e2⟩:=P7 hb;rw[e1]at c1;rw[e2];refine AO [0,1,2,4,5,6,12] ?_ (AK @c1);exact BW (zh @AA.d.eq_1 (zh @AA.A4.eq_1 (zh @AG.A4.eq_1 (zh @Calls.A4.eq_1 (zh @B9.A4.eq_1 (zh @zeroV.eq_1 @An.eq_1))))))
 |true=>
  obtain⟨k,x,e1,e2,e3,e4⟩:=gG hb;rw[e1]at c1;rw[e4];have c2:=BN x (h.n.nb x (q00 e2)).1.FG;have f1:decide ((k:Int)<0)=false:=zQ om;have ix1:=e2;refine AJ [0,1,2,4,5,6,12] ?_ (AK f1) (Au @c1 @c2);clear ix1;exact BW (zh @AA.d.eq_1 (zh @AA.A4.eq_1 (zh @AG.A4.eq_1 (zh @Calls.A4.eq_1 @B9.A4.eq_1))))
abbrev OM:BF:=[0,1,2,4,5,6,8,18,21,22,23,24]
def allT(c:CS)(l:List Step):CS:=l.foldl (fun c s=>(stepS c s).1) c
def GJ(b:Nat):BF:=[0,1,2,3,4,5,b,7,8,9,10,11,12,13,14,15]
def kA:z6:=E1 (rn [7,6,4] 8) cK
def hA(c:CS)(b:Nat)(x:AM):z6:=[.gone,.c [.e0,.e0,.e0,.e0,.yO 0],.gone,.gone,.a (.is c.gone),.gone,x,.c (cX c b 4)]++kA
abbrev iy(c:CS):z6:=hA c 6 (.a (Ak c.nodes))
abbrev jo(c:CS):z6:=hA c 19 .gone++[.gone,.gone,.gone,.a (Ak c.nodes)]
def eA(l:List Step)(k:Nat):yv:=[(4,.ptr 1 0 5),(5,.ptr 7 0 5),(6,.fn (.func 46) [] [.ptr 9 0 1]),(21,.d (.sl 9 (l.map Step.A4))),(22,.yO l.length),(23,.yO k)]
variable {b:Nat}
theorem Jx(h:b=6\/16<=b):nodupB (GJ b)=true:=by
 rcases h with rfl|h
 .rfl
 .obtain⟨g,rfl⟩:∃g,b=g+16:=⟨b-16,om⟩;rfl
theorem mM(c:CS)(b:Nat)(x:AM):(hA c b x).length=16:=rfl
structure pT (c:CS) (b:Nat) (H:z6):Prop where
 p:b=6\/16<=b
 n:16<=H.length
 m:∀(i a:Nat)(x:AM),(GJ b)[i]? =some a->(iy c)[i]? =some x->H[a]? =some (x.ren (rn (GJ b) H.length))
variable {c:CS}{H:z6}
theorem pT.lt(h:pT c b H):∀a∈GJ b,a<H.length:=fun a ha=>by
 obtain⟨i,hi,rfl⟩:=q1A.1 ha;have:=h.m i _ ((iy c)[i]'hi) (zV hi) (zV (show i<(iy c).length from hi));exact(zS.1 this).1
theorem at_0(c:CS):pT c 6 (iy c):=⟨.inl rfl,zN _,fun i a x hi hx=>by
 have hlt:i<16:=(zS.1 hi).1;rcases Mn hlt with rfl|rfl|rfl|rfl|rfl|rfl|rfl|rfl|rfl|rfl|rfl|rfl|rfl|rfl|rfl|rfl
 all_goals(cases hi;cases hx;rfl)⟩
theorem qH{c':CS}(h:pT c b H):pT c' b (KO (GJ b) H (E1 (rn (GJ b) H.length) (iy c'))):=by
 have hl:(KO (GJ b) H (E1 (rn (GJ b) H.length) (iy c'))).length=H.length:=Ut (zN 16);refine⟨h.p,by rw[hl];exact h.n,fun i a x hi hx=> ?_⟩;rw[hl];obtain⟨hlt,rfl⟩:=zS.1 hi;rw[su (l:=E1 (rn (GJ b) H.length) (iy c')) (FW (Jx h.p)) (zN 16) h.lt hlt,T6,q0G,hx];rfl
theorem qG{c':CS}(h:pT c b H):pT c' (H.length+3) (KO (GJ b) H (E1 (rn (GJ b) H.length) (jo c'))):=by
 have hl:(KO (GJ b) H (E1 (rn (GJ b) H.length) (jo c'))).length=H.length+4:=Ut (yR:16<=20);have hn:=h.n;refine⟨.inr om,by rw[hl];omega,fun i a x hi hx=> ?_⟩;rw[hl];have hlt:i<16:=(zS.1 hi).1;have old:∀i,(hi:i<16)->(KO (GJ b) H (E1 (rn (GJ b) H.length) (jo c')))[(GJ b)[i]]? =(E1 (rn (GJ b) H.length) (jo c'))[i]?:=fun i hi=>su (l:=E1 (rn (GJ b) H.length) (jo c')) (FW (Jx h.p)) (yR:16<=20) h.lt hi
 have new:(KO (GJ b) H (E1 (rn (GJ b) H.length) (jo c')))[H.length+3]? =(E1 (rn (GJ b) H.length) (jo c'))[16+3]?:=uW (l:=E1 (rn (GJ b) H.length) (jo c')) 3 (FW (Jx h.p)) (yR:16<=20) h.lt
 by_cases h6:i=6
 .subst h6;cases hi;cases hx;rw[new];rfl
 .have:=old i hlt;rcases Mn hlt with rfl|rfl|rfl|rfl|rfl|rfl|rfl|rfl|rfl|rfl|rfl|rfl|rfl|rfl|rfl|rfl
  all_goals first|exact absurd rfl h6|(cases hi;cases hx;exact this)
theorem uS(h:pT c b H):∃x G,H=hA c b x++G/\((b=6/\x= .a (Ak c.nodes))\/∃g,b=g+16/\G[g]? =some (.a (Ak c.nodes))):=by
 obtain⟨x,hx⟩:∃x,H[6]? =some x:=⟨_,zV (by have:=h.n;omega)⟩
 obtain⟨G,hG⟩:=Xl (l:=hA c b x) (H:=H) fun i y hy=>by
  have hlt:i<16:=(zS.1 hy).1
  by_cases h6:i=6
  .subst h6;cases hy;exact hx
  .have AI:=h.m i;rcases Mn hlt with rfl|rfl|rfl|rfl|rfl|rfl|rfl|rfl|rfl|rfl|rfl|rfl|rfl|rfl|rfl|rfl
   all_goals first|exact absurd rfl h6|(cases hy;exact AI _ _ rfl rfl)
 have hb:=h.m 6 b _ rfl rfl;refine⟨x,G,hG,?_⟩;rcases h.p with rfl|hb16
 .rw[hx]at hb;cases hb;exact .inl ⟨rfl,rfl⟩
 .obtain⟨g,rfl⟩:∃g,b=g+16:=⟨b-16,om⟩;refine .inr ⟨g,rfl,?_⟩;rw[hG,q05 (by rw[mM];omega),mM,Nat.add_sub_cancel]at hb;exact hb
theorem qS(c:CS)(l:List Step)(h:CW c)(hl:l.length<=60)(hk:∀s∈l,s.AC.AI.length<=big):yS 13 [c.c.d,stepsD l] (allT c l).c.d:=by
 have d1:=J7 c h;have c1:=Hr c h;have d2:=JA c;obtain⟨R,hR⟩:∃R,allT c l=R:=⟨_,rfl⟩;rw[hR];unfold D3.d D3.A4 CS.c at *;unfold stepsD;dsimp only at *;refine zF AE Tryz.func13 ?_;simp only[zY,zZ]at*
 by_cases h0:l.length=0
 .have f0:=AT (show(l.length:Int)=0 by omega);obtain rfl:l=[]:=q18.1 h0;subst hR;unfold allT;dsimp only[List.foldl_nil];refine By OM ?_ (AK f0) (AK @c1) (BJ [] d1);with_reducible repeat' first|constructor|intro hc
  refine⟨_,_,rfl,rfl,?_⟩;simp[LL,BP,Bl,BM,Dv]
 have f0:=eq_false' (show(l.length:Int)≠0 by omega);refine By OM ?_ (AK f0) (AK @c1) (H0 [] d1 [7,6,4] d2);with_reducible repeat' first|constructor|intro hc
 refine BX (fun x:Nat×CS×Nat×z6=>x.1<=l.length/\CW x.2.1/\x.2.1=allT c (l.take x.1)/\pT x.2.1 x.2.2.1 x.2.2.2) (fun x=>⟨eA l x.1,x.2.2.2,Tryz.f13.ntmps⟩) (fun x=>l.length-x.1) (0,c,6,iy c) ⟨zi _,h,rfl,at_0 c⟩ ?_ (zN _) ?_
 .exact A8.ck rfl
 rintro⟨k,q,b,H⟩ ⟨hkl,hw,hq,hAt⟩;dsimp only at hkl hw hq hAt|-
 by_cases hlt:k<l.length
 .obtain⟨s,hs⟩:=Ah hlt;have hky:=hk s (q00 hs);have hst:=HR hw hky;obtain⟨Hs,hHs,d3⟩:=X2 q s hw hky
  have hnx:(stepS q s).1=allT c (l.take (k+1)):=by
   rw[hq];unfold allT;rw[AY hs,q0o];rfl
  generalize stepS q s=r at *;obtain⟨q',e⟩:=r;dsimp only at hst hnx d3 hHs;refine(wz (GJ b) (S0:=⟨eA l k,iy q,_⟩) (Q:=fun e S=>e= .normal/\(S=⟨eA l (k+1),iy q',Tryz.f13.ntmps⟩\/S=⟨eA l (k+1),jo q',Tryz.f13.ntmps⟩)) (tz ?_) (Jx hAt.p) (UI rfl hAt.m) rfl rfl).mono ?_
  .rcases hHs with rfl|rfl
   all_goals
    unfold Step.d Step.A4 at d3
    try dsimp only[mH]at d3
    unfold eA iy jo hA kA;simp only[zY,zZ,E1]at *;have ix1:=hs;refine Ax OM ?_ (BJ [7,6,4,8,9,10,11,12,13,14,15] d3);clear ix1
   .refine⟨fun _=>⟨_,?_,zN _,rfl,.inl rfl⟩,fun _=>trivial⟩;exact A8.ck rfl
   .refine⟨fun _=>⟨_,?_,yR,rfl,.inr rfl⟩,fun _=>trivial⟩;exact A8.ck rfl
  .rintro e S ⟨S',⟨rfl,rfl|rfl⟩,rfl⟩
   .exact⟨(k+1,q',b,_),⟨hlt,hst.w,hnx,qH hAt⟩,by dsimp only;omega,sv (ids:=GJ b) (l:=E1 (rn (GJ b) H.length) (iy q')) (zN 16),A8.refl _⟩
   .exact⟨(k+1,q',H.length+3,_),⟨hlt,hst.w,hnx,qG hAt⟩,by dsimp only;omega,sv (ids:=GJ b) (l:=E1 (rn (GJ b) H.length) (jo q')) (yR:16<=20),A8.refl _⟩
 .obtain rfl:k=l.length:=om
  rw[q06,hR]at hq;subst hq;obtain⟨x,G,rfl,hb⟩:=uS hAt;unfold eA hA kA;simp only[zY,zZ,E1];refine A9 OM ?_;with_reducible repeat' first|constructor|intro hc
  rcases hb with⟨rfl,rfl⟩|⟨g,rfl,hg⟩
  .refine⟨_,_,rfl,rfl,?_⟩;simp[LL,BP,Bl,BM,Dv]
  .refine⟨_,_,rfl,rfl,?_⟩;simp[LL,BP,Bl,BM,Dv,hg]
end Nd
end Go.Proofs.YtamjpnmjpponpaaGreatDoor
