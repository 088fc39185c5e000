/- Part 44 of a proof. Conditions: those that its theorems state. -/
import Derived.Test.YtamjpnmjpponpaaGreatDoorC42
set_option linter.unusedSimpArgs false
set_option linter.unusedVariables false
set_option maxHeartbeats 40000000
set_option maxRecDepth 4000
namespace Go.Proofs.YtamjpnmjpponpaaGreatDoor
namespace Nd
open Go.Gar
open Wi (AF BV B7 AU Bp mC Cp Bc)
theorem lU(v:AG)(i:Int)(hv:Aq v=true)(h0:0<=i)(h1:i<16)(hb:v.A6.length<=1000)(hl:v.AB.length<=1000):yS 282 [v.d,.yX i] (.tup [.yX (if JW v.id (XO v.id i) (FM v)then FM v else 0),.b (JW v.id (XO v.id i) (FM v))]):=by
 have c1:=cU v i hb hl;rw[zU h0,zU h1,hv]at c1;simp only[q1c,q0X]at c1;have c2:=JX v hb hl;have c3:=bX v.id (XO v.id i) (FM v);generalize XO v.id i=st at *;generalize FM v=fi at *;refine zF AE Tryz.func282 ?_;unfold AG.d AG.A4 at*
 cases hu:JW v.id st fi with
 |true=>
  rw[hu]at c3;refine AO [0,1,2,4,5,6,7,8,16,24] ?_ (CP @c1 @c2 @c3);exact zE
 |false=>
  rw[hu]at c3;refine AO [0,1,2,4,5,6,7,8,16,24] ?_ (CP @c1 @c2 @c3);exact zE
theorem ls(i:Int):yT 281 [.yO i] [] (.fn (.func 338) [] [.ptr 0 0 1]) [.c [.yO i]]:=by
 refine zD AE Tryz.func281 ?_;refine A9 [0,1,2] ?_;exact wE
abbrev HV:BF:=[0,1,2,4,5,6,7,8,9,10,11,16,24,26,27,35]
abbrev uQ(f:Nat->Int):yr:=[.yO (f 0),.yO (f 1),.yO (f 2),.yO (f 3),.yO (f 4),.yO (f 5),.yO (f 6),.yO (f 7),.yO (f 8),.yO (f 9),.yO (f 10),.yO (f 11),.yO (f 12),.yO (f 13),.yO (f 14),.yO (f 15)]
abbrev j9(id:Int)(A6 AB:Ai)(AH:Int)(f0:Nat->Int)(a b:Int)(c:Bool)(f:Nat->Int)(i:Int):z6:=[.c (vC id A6 AB AH f0),.c (vC 0 [] [] 0 fun _=>0),.c [.yO a],.c [.yO b],.c [.yP c],.c (uQ f),.c [.yO i]]
theorem lV(v:AG)(i:Int)(hb:v.A6.length<=1000)(hl:v.AB.length<=1000):yS 236 [v.d,.yX i] (.tup [(walkT v i).1.d,.yX (walkT v i).2.1,.yX (walkT v i).2.2.1,.b (walkT v i).2.2.2]):=by
 have c1:=Bo v hb hl;have c2:=HS v om om;have k1:=fun(j:Nat)(hr:Aq v=true)(hj:j<16)=>lU v j hr om om hb hl
 have c4:=fun g:Nat->Int=>X8 v g hb hl;have c5:=cW v (FM v)
 refine zF AE Tryz.func236 ?_
 cases hr:Aq v with
 |false=>
  have hT:walkT v i=(v,0,0,false):=by unfold walkT;rw[hr];rfl
  rw[hT];rw[hr]at c1;obtain⟨id,A6,AB,AH,f⟩:=v;unfold AG.d AG.A4 at *;refine AO HV ?_ (Au @c1 @c2);exact zE
 |true=>
 rw[hr]at c1;obtain⟨k,hk⟩:∃k:Nat,k=if 0<=i/\i<16 then i.toNat else 0:=⟨_,rfl⟩
 have hT:walkT v i=match IE v (16-k) k v.f with
  |(f,none)=>({v with f:=f},0,0,false)
  |(f,some k)=>({v with f:=f},k,XO v.id k,true):=by unfold walkT;rw[hr,zn rfl,hk];rfl
 rw[hT];clear hT c2;have k2:=fun j hj=>k1 j hr hj
 clear k1
 have hF:∀(j:Nat)(f:Nat->Int),j<16->IE v (16-j) j f=if JW v.id (XO v.id j) (FM v)then IE v (16-(j+1)) (j+1) (Vz f j (if FM v=v.id then -1 else FM v))else(f,some j):=fun j f hj=>by
  rw[show 16-j=(16-(j+1))+1 by omega];rfl
 obtain⟨id,A6,AB,AH,f0⟩:=v;dsimp only at hF|-;unfold AG.d AG.A4 at *;have hk1:0<=i/\i<16->(k:Int)=i:=fun h=>by rw[hk,zn h];omega
 have hk2:¬(0<=i/\i<16)->(k:Int)=0:=fun h=>by rw[hk,zx h];rfl
 have hk3:k<16:=om
 clear hk;refine AO HV ?_ (AK @c1) [] [6];repeat'(apply zB<;>intro hc)
 all_goals
  refine BG (S':=⟨[(1,.yO k),(2,.ptr 0 0 20),(4,.ptr 1 0 20),(5,.ptr 2 0 1),(6,.ptr 3 0 1),(7,.ptr 4 0 1),(8,.ptr 5 0 16)],[.c (vC id A6 AB AH f0),.c [.yO 0,.e0,.e0,.yO 0,.yO 0,.yO 0,.yO 0,.yO 0,.yO 0,.yO 0,.yO 0,.yO 0,.yO 0,.yO 0,.yO 0,.yO 0,.yO 0,.yO 0,.yO 0,.yO 0],.c [.yO 0],.c [.yO 0],.c [.yP false],.c (uQ f0)],_⟩) (A8.ck rfl) yR ?_;refine BG (A8.Ux 1 1 (.is []) rfl rfl rfl rfl trivial) sm ?_;refine BG (A8.Ux 1 2 (.is []) rfl rfl rfl rfl trivial) sm ?_;clear hk1 hk2
  try clear hc
  have c6:=ls k;refine Ax HV ?_ (BJ [] c6);refine zG (K:=fun r _ H'=>(∃F,IE ⟨id,A6,AB,AH,f0⟩ (16-k) k f0=(F,none)/\H'=j9 id A6 AB AH f0 0 0 false F 16++[.lp r])\/(∃(F:Nat->Int)(j:Nat),IE ⟨id,A6,AB,AH,f0⟩ (16-k) k f0=(F,some j)/\H'=j9 id A6 AB AH f0 j (XO id j) true F j++[.lp (r.left (.goto 0))])) ?_ ?_
  .intro r hr;have hk:=zh (hr.ok (k:=7) rfl) (fun q=>show AV.oks q (vC id A6 AB AH f0)=true from rfl);refine zT AE Tryz.func338 ?_;refine A9 [0,1,4,10] ?_;refine CM (fun s:Nat×(Nat->Int)=>s.1<=16/\IE ⟨id,A6,AB,AH,f0⟩ (16-s.1) s.1 s.2=IE ⟨id,A6,AB,AH,f0⟩ (16-k) k f0) (fun _=>[]) (fun s=>[(5,.c (uQ s.2)),(6,.c [.yO s.1])]) (fun s=>16-s.1) (k,f0) ⟨om,rfl⟩ (fun _=>rfl) (fun _=>rfl) ?_ ?_
   .exact A8.ck rfl
   rintro⟨j,f⟩ ⟨hj,hw⟩;dsimp only at hj hw
   by_cases hjl:j<16
   .have f1:decide ((j:Int)<16)=true:=zU om;rw[hF j f hjl]at hw;have c7:=k2 j hjl
    cases hu:JW id (XO id j) (FM ⟨id,A6,AB,AH,f0⟩)with
    |true=>
     rw[hu]at c7 hw;rw[zn rfl]at c7 hw
     have hY:YT Tryz.prog 7 [.yO j] (j9 id A6 AB AH f0 0 0 false f j++[.lp r]) fun v K=>v= .yP true/\K=j9 id A6 AB AH f0 0 0 false (Vz f j (if FM ⟨id,A6,AB,AH,f0⟩=id then -1 else FM ⟨id,A6,AB,AH,f0⟩)) j++[.lp r]:=by
      refine Ar hr rfl rfl rfl ?_;generalize(if FM ⟨id,A6,AB,AH,f0⟩=id then -1 else FM ⟨id,A6,AB,AH,f0⟩)=ow at *;unfold j9 uQ;simp only[zY,zZ];refine A9 HV ?_;refine zR ?_;rcases Mn hjl with rfl|rfl|rfl|rfl|rfl|rfl|rfl|rfl|rfl|rfl|rfl|rfl|rfl|rfl|rfl|rfl
      all_goals
       refine AO HV ?_ (Au @c7 @c5);exact pJ rfl (A8.ck rfl)
     unfold j9 at hY;simp only[zY,zZ]at hY;have q1:=@hY;refine Aj [0,1,4,10] ?_ (AK f1);clear q1;refine⟨(j+1,_),⟨hjl,hw⟩,by dsimp only;omega,zN _,?_⟩;exact A8.ck rfl
    |false=>
     rw[hu]at c7 hw;rw[zx (by decide)]at c7 hw;have c8:=U5 id j
     have hY:YT Tryz.prog 7 [.yO j] (j9 id A6 AB AH f0 0 0 false f j++[.lp r]) fun v K=>v= .yP false/\K=j9 id A6 AB AH f0 j (XO id j) true f j++[.lp (r.left (.goto 0))]:=by
      refine Ar hr rfl rfl rfl ?_;unfold j9 uQ;simp only[zY,zZ];refine A9 HV ?_;refine zR ?_;refine AO HV ?_ (Au @c7 @c8);exact gEnd rfl (A8.ck rfl)
     unfold j9 at hY;simp only[zY,zZ]at hY;have q1:=@hY;refine Aj [0,1,4,10] ?_ (AK f1);clear q1;exact⟨_,A8.refl _,zN _,_,_,rfl,rfl,.inr ⟨f,j,hw.symm,rfl⟩⟩
   .have e:j=16:=om
    subst e;refine A9 [0,1,4,10] ?_;exact⟨_,A8.refl _,zN _,_,_,rfl,rfl,.inl ⟨f,hw.symm,rfl⟩⟩
  .rintro r hr y H' (⟨F,h,rfl⟩|⟨F,j,h,rfl⟩)
   .refine .inl ⟨rfl,?_⟩;rw[h];have c7:=c4 F;unfold j9 uQ;simp only[zY,zZ];refine AO HV ?_ (AK @c7) [(3,6),(4,6),(5,6),(4,7),(5,7),(5,8)];exact BW (zh @AG.d.eq_1 @AG.A4.eq_1)
   .refine .inr ⟨.goto 0,rfl,?_⟩;rw[h];have c7:=c4 F;unfold j9 uQ;simp only[zY,zZ];refine AO HV ?_ (AK @c7) [(3,6),(4,6),(5,6),(4,7),(5,7),(5,8)];exact BW (zh @AG.d.eq_1 @AG.A4.eq_1)
abbrev M7:BF:=[0,1,2,3,4,5,11,34]
abbrev tH(n:AA)(g:List B0):z6:=[.c (hC n (.sl 1 g.length 3)),.a (Ab g),.c [.ptr 0 0 77],.c [.ptr 0 0 77]]
abbrev tFs:yr:=[.fn (.func 228) [] [.ptr 3 0 1],.fn (.func 229) [.ptr 0 0 77] [],.fn (.func 230) [] [.ptr 3 0 1,.ptr 2 0 1],.fn (.func 232) [] [.ptr 3 0 1,.ptr 2 0 1],.fn (.func 235) [] [.ptr 3 0 1,.ptr 2 0 1],.fn (.func 237) [] [.ptr 3 0 1,.ptr 2 0 1]]
theorem ox(n:AA)(g:List B0):yT 167 [.ptr 0 0 77] (nH n g) (.bs 4 0 6 1 6) (tH n g++[.c tFs]):=by
 refine zC AE Tryz.func167 ?_;unfold nH tH;simp only[zY,zZ];refine A9 [0,1,2,3] ?_;exact Bh
theorem oj(n:AA)(g:List B0)(h0:0<=n.Am)(h1:n.Am<1099511627776):yT 228 [.ptr 3 0 1] (tH n g) (.tup []) (tH {n with Am:=n.Am+1} g):=by
 refine zC AE Tryz.func228 ?_;unfold tH hC;refine A9 [0] ?_;exact Bh
theorem oo(n:AA)(g:List B0)(h:NB n)(hg:g.length<=900000):yT 230 [.ptr 3 0 1,.ptr 2 0 1] (tH n g) (.tup []) (tH (Mv (n,g)).1 (Mv (n,g)).2):=by
 have hok:=h.hok;have c1:=kI n.A7 n.A5 n.BH hok.ok.vb hok.ok.vl hok.h0;have hs:=RR h.rv (B2.1 h.r).2.2.2.2.2.1 h.ph;have hb:=qL n.A7 n.A5 n.BH;have hf:=fC n.A7 n.A5 n.BH;have hT:Mv (n,g)=FB ({n with A5:=(Cm n.A7 n.A5 n.BH).1.1,BH:=(Cm n.A7 n.A5 n.BH).1.2},g) (Cm n.A7 n.A5 n.BH).2:=rfl;rw[hT];clear hT;generalize Cm n.A7 n.A5 n.BH=b at *;obtain⟨⟨b1,b2⟩,l⟩:=b;dsimp only at *;have c2:=Vm {n with A5:=b1,BH:=b2} g l (h.y4 hs.1 hs.2) hb om om;generalize FB ({n with A5:=b1,BH:=b2},g) l=t at *;refine zC AE Tryz.func230 ?_;unfold AG.d AG.A4 at c1;unfold nH at c2;unfold tH hC;refine B6 [0,1,2,3] ?_ (AK @c1) (BJ [0,1] c2) [(0,12),(1,12),(2,12),(3,12),(4,12),(5,12),(6,12),(7,12)];exact Bh
theorem oq(n:AA)(g:List B0)(h:NB n)(hg:g.length<=900000):yT 232 [.ptr 3 0 1,.ptr 2 0 1] (tH n g) (.tup []) (tH (Q3 (n,g)).1 (Q3 (n,g)).2):=by
 have hok:=h.hok;have c1:=o5 n.A7 hok.ok.vb hok.ok.vl;have c2:=kU n.Ac 4 hok.ok.cl hok.ok.cn;have hT:Q3 (n,g)=if(Q4 n.A7).2&& !(NY n.Ac 4).2 then FB (n,g) [(⟨2,0,0,(Q4 n.A7).1,0,false,false,0,0,[],An,0⟩,4)]else(n,g):=rfl
 rw[hT];clear hT;generalize Q4 n.A7=a at *;generalize NY n.Ac 4=f at *;obtain⟨a1,a2⟩:=a;obtain⟨x,f2⟩:=f;dsimp only at *;have c3:=Vm n g [(⟨2,0,0,a1,0,false,false,0,0,[],An,0⟩,4)] h (by unfold MN;simp) sm om;refine zC AE Tryz.func232 ?_;generalize FB (n,g) [(⟨2,0,0,a1,0,false,false,0,0,[],An,0⟩,4)]=t at *;unfold AG.d AG.A4 at c1;unfold Calls.d Calls.A4 Al.d Al.A4 at c2;unfold nH at c3;simp only[List.map_cons,List.map_nil,BS,HG]at c3
 cases a2 with
 |false=>
  unfold tH hC;refine AO [0,1,2,3,5,26] ?_ (Au @c1 @c2);exact Bh
 |true=>
 cases f2 with
 |true=>
  unfold tH hC;refine AO [0,1,2,3,5,26] ?_ (Au @c1 @c2);exact Bh
 |false=>
  rw[zn (show(true&& !false)=true from rfl)];unfold tH hC;refine AO [0,1,2,3,5,26] ?_ (Au @c1 @c2) [] [3];have fd1:Dd (.tup [.yX 29,.agg [.i .u8 2,.yX 0,.yX 0,.yX a1,.yX 0,.b false,.b false,.yX 0,.yX 0,.is [],.s [],.yX 0,.yX 0,.b false,.yX 0]]):=trivial;refine Ax [0,1,2,3,5,26] ?_ (BJ [0,1] c3);clear fd1;exact Bh
theorem ot(n:AA)(g:List B0)(h:NB n)(hg:g.length<=900000):yT 235 [.ptr 3 0 1,.ptr 2 0 1] (tH n g) (.tup []) (tH (IZ (n,g)).1 (IZ (n,g)).2):=by
 have hok:=h.hok;have c1:=Sg n.AQ;have c2:=lV n.A7 n.next hok.ok.vb hok.ok.vl;have hw:=eX h.rv n.next;have hT:IZ (n,g)=if Ku n.AQ then(if(walkT n.A7 n.next).2.2.2 then Em g (Bq {n with A7:=(walkT n.A7 n.next).1,next:=(walkT n.A7 n.next).2.1} 5 1 (walkT n.A7 n.next).2.2.1 An)else({n with A7:=(walkT n.A7 n.next).1,next:=(walkT n.A7 n.next).2.1},g))else(n,g):=rfl
 rw[hT];clear hT;generalize walkT n.A7 n.next=w at *;obtain⟨w1,w2,w3,w4⟩:=w;dsimp only at *;unfold B9.d B9.A4 at c1;unfold AG.d AG.A4 at c2;refine zC AE Tryz.func235 ?_
 cases hfr:Ku n.AQ with
 |false=>
  rw[hfr]at c1;unfold tH hC;refine AO M7 ?_ (AK @c1);exact Bh
 |true=>
 rw[hfr]at c1;have hN:NB {n with A7:=w1,next:=w2}:=h.A7 hw.1 hw.2.2
 cases w4 with
 |false=>
  unfold tH hC;refine AO M7 ?_ (Au @c1 @c2) [(0,14),(1,14),(2,14),(3,14),(4,14),(5,14),(6,14),(7,14)] [2];refine A9 M7 ?_ [(1,6)];exact Bh
 |true=>
  rw[zn rfl,zn rfl];have c3:=SG {n with A7:=w1,next:=w2} hN.hok 5 1 w3 An (zi _);have c4:=OA {n with A7:=w1,next:=w2} (Bq {n with A7:=w1,next:=w2} 5 1 w3 An).1 g (Bq {n with A7:=w1,next:=w2} 5 1 w3 An).2 (hN.start (zi _)) (W3 _ _ _ _ _) (by have:=Pd {n with A7:=w1,next:=w2} 5 1 w3 An;omega) om;rw[show((Bq {n with A7:=w1,next:=w2} 5 1 w3 An).1,(Bq {n with A7:=w1,next:=w2} 5 1 w3 An).2)=Bq {n with A7:=w1,next:=w2} 5 1 w3 An from rfl]at c4;generalize Bq {n with A7:=w1,next:=w2} 5 1 w3 An=t at *;generalize Em g t=u at *;obtain⟨t1,t2⟩:=t;dsimp only at c3 c4;unfold nH hC at c4;unfold AA.d AA.A4 AG.A4 Calls.A4 B9.A4 at c3 c4;unfold An AS.d AS.A4 at c3;unfold tH hC;refine AO M7 ?_ (Au @c1 @c2) [(0,14),(1,14),(2,14),(3,14),(4,14),(5,14),(6,14),(7,14)] [2];refine A9 M7 ?_ [(1,6)] [4];refine B6 M7 ?_ (AK @c3) (BJ [0,1] c4);exact Bh
theorem ou(n:AA)(g:List B0)(h:NB n)(hg:g.length<=900000):yT 237 [.ptr 3 0 1,.ptr 2 0 1] (tH n g) (.tup []) (tH (Ic (n,g)).1 (Ic (n,g)).2):=by
 have hok:=h.hok;have c1:=Sg n.AX;have c2:=mf n.keep n.last hok.ok.kn;have hx:(FV n.keep n.last).2=true->(FV n.keep n.last).1.AI.length<=20:=fun e=>Xf (Vf e).1 (Vf e).2
 have hT:Ic (n,g)=if Ku n.AX&&(FV n.keep n.last).2 then Em g (Bq {n with last:=(FV n.keep n.last).1.AI} 6 2 0 (FV n.keep n.last).1)else(n,g):=rfl
 rw[hT];clear hT;generalize FV n.keep n.last=w at *;obtain⟨x,w2⟩:=w;dsimp only at *;unfold B9.d B9.A4 at c1;unfold AS.d AS.A4 at c2;refine zC AE Tryz.func237 ?_
 cases hfr:Ku n.AX with
 |false=>
  rw[hfr]at c1;unfold tH hC;refine AO [0,1,2,3,9,22] ?_ (AK @c1);exact Bh
 |true=>
 rw[hfr]at c1
 cases w2 with
 |false=>
  unfold tH hC;refine AO [0,1,2,3,9,22] ?_ (Au @c1 @c2) [(0,12),(1,12),(2,12),(3,12),(4,12),(5,12),(6,12),(7,12)];exact Bh
 |true=>
  rw[q0A,zn rfl];have hx:=hx rfl;have hN:NB {n with last:=x.AI}:=h.last x.AI;have c3:=SG {n with last:=x.AI} hN.hok 6 2 0 x om;have c4:=OA {n with last:=x.AI} (Bq {n with last:=x.AI} 6 2 0 x).1 g (Bq {n with last:=x.AI} 6 2 0 x).2 (hN.start (q0L hx (by decide))) (W3 _ _ _ _ _) (by have:=Pd {n with last:=x.AI} 6 2 0 x;omega) om;rw[show((Bq {n with last:=x.AI} 6 2 0 x).1,(Bq {n with last:=x.AI} 6 2 0 x).2)=Bq {n with last:=x.AI} 6 2 0 x from rfl]at c4;generalize Bq {n with last:=x.AI} 6 2 0 x=t at *;generalize Em g t=u at *;obtain⟨t1,t2⟩:=t;dsimp only at c3 c4;unfold nH hC at c4;unfold AA.d AA.A4 AG.A4 Calls.A4 B9.A4 at c3 c4;unfold AS.d AS.A4 at c3;unfold tH hC;refine AO [0,1,2,3,9,22] ?_ (Au @c1 @c2) [(0,12),(1,12),(2,12),(3,12),(4,12),(5,12),(6,12),(7,12)] [3];refine B6 [0,1,2,3,9,22] ?_ (AK @c3) (BJ [0,1] c4);exact Bh
abbrev Ob:BF:=[0,1,2,3,4,6,17,18,19,20,21]
theorem uY{n:AA}(h:NB n):0<=n.Am:=(B2.1 h.r).1.1
theorem sW(n:AA)(h:NB n):yS 105 [n.d] (.tup [(Gz n).1.d,Ab (Gz n).2]):=by
 have c1:=BN n h.FG;have c2:=BO n h.FG;rw[h.r]at c2;refine zF AE Tryz.func105 ?_
 by_cases hc:n.Am>=1099511627776
 .have f1:=zU hc;have hT:Gz n=(n,[]):=by unfold Gz;rw[zn (.inl hc)]
  rw[hT];unfold AA.d AA.A4 AG.A4 Calls.A4 B9.A4 at *;refine AJ Ob ?_ (AK f1) (AK @c1) [] [8];refine A9 Ob ?_ [(2,4),(3,4)];exact zE
 .have f1:=zQ hc
  have hT:Gz n=Ic (IZ (Q3 (Mv (Q0 ({n with Am:=n.Am+1},[]))))):=by
   unfold Gz;rw[zx (fun q=>q.elim hc (fun e=>by rw[h.r]at e;cases e))]
  rw[hT];clear hT;have b0:=h.Am om;have w1:=oj n [] (uY h) om;obtain⟨M,hM⟩:∃M:AA,M={n with Am:=n.Am+1}:=⟨_,rfl⟩;rw[<-hM]at w1 b0|-;have b1:=(Sa (s:=({M with Ac:=(Ch M.Ac M.Am).1},Ij [] (Ch M.Ac M.Am).2.1)) (b0.late M.Am) (Ch M.Ac M.Am).2.2);rw[<-dL]at b1;have w2:=rS M [] b0 (zi _)
  have b1s:(Q0 (M,[])).2.length<=100:=by
   have:=Lh (Ch M.Ac M.Am).2.1 [];have:=(SQ b0).2.1;have:=b1.2;simp only[q0B]at *;omega
  replace b1:=b1.1;generalize Q0 (M,[])=s1 at *;obtain⟨n1,g1⟩:=s1;dsimp only at b1 b1s w2;have w3:=oo n1 g1 b1 om;have b2:=eE (s:=(n1,g1)) b1;generalize Mv (n1,g1)=s2 at *;obtain⟨n2,g2⟩:=s2;have z2:=b2.size;replace b2:=b2.nb;dsimp only at b2 z2 w3;have w4:=oq n2 g2 b2 om;have b3:=nq (s:=(n2,g2)) b2;generalize Q3 (n2,g2)=s3 at *;obtain⟨n3,g3⟩:=s3;have z3:=b3.size;replace b3:=b3.nb;dsimp only at b3 z3 w4;have w5:=ot n3 g3 b3 om;have b4:=XC (s:=(n3,g3)) b3;generalize IZ (n3,g3)=s4 at *;obtain⟨n4,g4⟩:=s4;have z4:=b4.size;replace b4:=b4.nb;dsimp only at b4 z4 w5;have w6:=ou n4 g4 b4 om;generalize Ic (n4,g4)=s5 at *;obtain⟨n5,g5⟩:=s5;dsimp only at w6|-;have w0:=ox n [];clear b0 b1 b2 b3 b4 b1s z2 z3 z4 hM;unfold nH at w0 w2;unfold tH at *;simp only[zY,zZ]at w0;unfold AA.d AA.A4 AG.A4 Calls.A4 B9.A4 at *;refine AJ Ob ?_ (AK f1) (Au @c1 @c2) [] [3];refine BG (A8.ES 2 76 (.sl 3 []) rfl rfl rfl rfl (by simp[BM])) sm ?_;have un:No 7:=trivial;refine Ax Ob ?_ (zd7 [2,3] w0 [2,3,4,5] w1 [2,3] w2 [2,3,4,5] w3 [2,3,4,5] w4 [2,3,4,5] w5 [2,3,4,5] w6) [] [8];clear un;refine A9 Ob ?_ [(2,4),(3,4)];exact zE
end Nd
end Go.Proofs.YtamjpnmjpponpaaGreatDoor
