/- Part 40 of a proof. Conditions: those that its theorems state. -/
import Derived.Test.YtamjpnmjpponpaaGreatDoorC28
import Derived.Test.YtamjpnmjpponpaaGreatDoorC29
import Derived.Test.YtamjpnmjpponpaaGreatDoorC38
set_option linter.unusedSimpArgs false
set_option linter.unusedVariables false
set_option maxHeartbeats 40000000
set_option maxRecDepth 4000
namespace Go.Proofs.YtamjpnmjpponpaaGreatDoor
namespace Nd
open Go.Gar
open Wi (AF BV B7 AU Bp mC Cp Bc)
abbrev aH(n:AA)(m t:AF):z6:=[.c (As n),.c [.ptr 0 0 76],.c (mX m),.c (mX t)]
abbrev aMap:z7:=[(.i .u8 1,.fn (.func 294) [] [.ptr 1 0 1,.ptr 3 0 15]),(.i .u8 2,.fn (.func 295) [] [.ptr 3 0 15]),(.i .u8 3,.fn (.func 296) [] [.ptr 1 0 1,.ptr 2 0 15,.ptr 3 0 15]),(.i .u8 4,.fn (.func 298) [] [.ptr 1 0 1,.ptr 2 0 15]),(.i .u8 5,.fn (.func 300) [] [.ptr 1 0 1,.ptr 2 0 15,.ptr 3 0 15]),(.i .u8 6,.fn (.func 302) [] [.ptr 1 0 1,.ptr 2 0 15,.ptr 3 0 15])]
theorem GF(n:AA)(m:AF):yT 243 [.ptr 0 0 76,.d m.d] [.c (As n)] (.mp 4) (aH n m (CY m)++[.m aMap]):=by
 have c1:=eM m;refine zC AE Tryz.func243 ?_;unfold aH;unfold Wi.AF.d Wi.AF.A4 at *;simp only[zY,zZ];refine AO [0,1,2,3,4,5] ?_ (AK @c1);exact Bh
theorem uJ(n:AA)(m t:AF)(hl:n.A7.AB.length<=1000):yT 294 [.ptr 1 0 1,.ptr 3 0 15] (aH n m t) (.d (Wi.AF.d {t with AH:=n.A7.AH,AB:=n.A7.AB})) (aH n m {t with AH:=n.A7.AH,AB:=n.A7.AB}):=by
 have c1:=LR n.A7.AB om;refine zC AE Tryz.func294 ?_;refine AO [0,1,2] ?_ (AK @c1);exact Bh
theorem uK(t:AF):yT 295 [.ptr 0 0 15] [.c (mX t)] (.d t.d) [.c (mX t)]:=by
 refine zC AE Tryz.func295 ?_;refine A9 [0,1] ?_;exact Bh
theorem uL(n:AA)(m t:AF)(hb:n.A7.A6.length<=1000)(hl:n.A7.AB.length<=1000):yT 296 [.ptr 1 0 1,.ptr 2 0 15,.ptr 3 0 15] (aH n m t) (.d t.d) (aH {n with A7:=EX n.A7 m.B8} m t):=by
 have c1:=an n.A7 m.B8 hb hl;generalize EX n.A7 m.B8=w at *;refine zC AE Tryz.func296 ?_;unfold AG.d AG.A4 at c1;refine AO [0,1,2,3] ?_ (AK @c1) [(0,7),(1,7),(2,7),(3,7),(4,7)];exact Bh
theorem uM(n:AA)(m t:AF)(hb:n.A7.A6.length<=1000)(hl:n.A7.AB.length<=1000)(hm:Ay m):yT 298 [.ptr 1 0 1,.ptr 2 0 15] (aH n m t) (.d (P5 n.A7 m).d) (aH n m t):=by
 have c1:=rF n.A7 m hb hl hm;generalize P5 n.A7 m=w at *;refine zC AE Tryz.func298 ?_;unfold AG.d AG.A4 Wi.AF.d Wi.AF.A4 at c1;refine AO [0,1,2] ?_ (AK @c1);exact Bh
theorem uN(n:AA)(m t:AF)(hn:n.keep.length<=1048576):yT 300 [.ptr 1 0 1,.ptr 2 0 15,.ptr 3 0 15] (aH n m t) (.d (Wi.AF.d {t with Aa:=(F3 n.keep m.AC).2})) (aH {n with keep:=(F3 n.keep m.AC).1} m {t with Aa:=(F3 n.keep m.AC).2}):=by
 have c1:=dK n.keep m.AC hn;generalize F3 n.keep m.AC=w at *;obtain⟨w1,w2⟩:=w;refine zC AE Tryz.func300 ?_;unfold AS.d AS.A4 at c1;dsimp only at c1|-;refine AO [0,1,2,3] ?_ (AK @c1);exact Bh
theorem uO(n:AA)(m t:AF)(hn:n.keep.length<=1048576):yT 302 [.ptr 1 0 1,.ptr 2 0 15,.ptr 3 0 15] (aH n m t) (.d (Wi.AF.d {t with AC:=(Dx n.keep m.AC.AI).1,Aa:=(Dx n.keep m.AC.AI).2})) (aH n m {t with AC:=(Dx n.keep m.AC.AI).1,Aa:=(Dx n.keep m.AC.AI).2}):=by
 have c1:=dI n.keep m.AC.AI hn;generalize Dx n.keep m.AC.AI=w at *;obtain⟨w1,w2⟩:=w;refine zC AE Tryz.func302 ?_;unfold AS.d AS.A4 at c1;dsimp only at c1|-;refine AO [0,1,2,3] ?_ (AK @c1);exact Bh
abbrev CJ:BF:=[0,1,2,3,4,5,6,7,8,9,10,11,17,28,38]
theorem JV(m:AF):(CY m).AB=[]:=by unfold CY;split<;>rfl
theorem gF(v:AG)(m:AF):(P5 v m).AB=[]:=by
 unfold P5;split
 .exact JV m
 .rfl
theorem Ay.nil{m:AF}(h:m.AB=[]):Ay m:=by unfold Ay;rw[h];exact zi _
theorem NB.Pb{n:AA}(h:NB n):n.BZ.length<=40:=by
 obtain⟨_,_,_,_,_,_,_,hs,_⟩:=B2.1 h.r;exact(Hb.1 hs).1
theorem oN(n:AA)(m:AF)(h:NB n)(hm:Ay m)(hs:D9 n m=false):yS 171 [n.d,m.d] (.tup [(BI n m).1.d,(BI n m).2.d]):=by
 have c1:=BN n h.FG;have c2:=FY n m h.FG hm;have c3:=EG AU (.nil rfl);have hT:BI n m=(n,AU):=by unfold BI;rw[hs];rfl
 rw[hs]at c2;rw[hT];refine zF AE Tryz.func171 ?_;unfold AA.d AA.A4 AG.A4 Calls.A4 B9.A4 Wi.AF.d Wi.AF.A4 at *;unfold AU An at c3;refine AO CJ ?_ (Au @c1 @c2) [] [11];refine BG (A8.Ux 5 9 (.is []) rfl rfl rfl rfl trivial) sm ?_;refine AO CJ ?_ (AK @c3) [(1,3)];exact BW (zh @AU.eq_1 @An.eq_1)
theorem iR(n:AA)(m:AF)(h:NB n)(hm:Ay m)(hs:D9 n m=true)(hf:(Cr n.BZ m.B8 m.Ae).2=true)(hl:Ay (Cr n.BZ m.B8 m.Ae).1):yS 171 [n.d,m.d] (.tup [(BI n m).1.d,(BI n m).2.d]):=by
 have c1:=BN n h.FG;have c2:=FY n m h.FG hm;have c3:=EG _ hl;have c4:=I8 n.BZ m.B8 m.Ae h.FG.sl h.FG.sn;have hT:BI n m=(n,(Cr n.BZ m.B8 m.Ae).1):=by unfold BI;rw[zn hs,zn hf]
 rw[hs]at c2;rw[hT];clear hT;generalize Cr n.BZ m.B8 m.Ae=p at *;obtain⟨p1,p2⟩:=p;dsimp only at *;subst hf;refine zF AE Tryz.func171 ?_;unfold AA.d AA.A4 AG.A4 Calls.A4 B9.A4 Wi.AF.d Wi.AF.A4 at *;refine AO CJ ?_ (CP @c1 @c2 @c4) [] [11];refine AO CJ ?_ (AK @c3) [(1,3)];exact zE
theorem sE(n:AA)(m:AF)(h:NB n)(hm:Ay m)(hs:D9 n m=true)(hf:(Cr n.BZ m.B8 m.Ae).2=false)(hk:m.AN=1):yS 171 [n.d,m.d] (.tup [(BI n m).1.d,(BI n m).2.d]):=by
 have c1:=BN n h.FG;have c2:=FY n m h.FG hm;have c3:=I8 n.BZ m.B8 m.Ae h.FG.sl h.FG.sn;have c4:=GF n m;have c5:=uJ n m (CY m) h.FG.vl;have hl:Ay ({CY m with AH:=n.A7.AH,AB:=n.A7.AB}:AF):=(by unfold Ay;have:=h.FG.vl;dsimp only;omega);have c6:=Lg n.BZ _ h.FG.sl h.Pb hl;have c7:=EG _ hl
 have hT:BI n m=({(n:AA)with BZ:=EB n.BZ ({CY m with AH:=n.A7.AH,AB:=n.A7.AB})},{CY m with AH:=n.A7.AH,AB:=n.A7.AB}):=by
  unfold BI;rw[zn hs,hf];unfold CL;rw[hk];rfl
 rw[hs]at c2;rw[hT];clear hT hl;generalize EB n.BZ _=S at*
 skip
 generalize CY m=t at *;generalize Cr n.BZ m.B8 m.Ae=p at *;obtain⟨p1,p2⟩:=p;obtain⟨AN,Ae,B8,dst,AI,BA,done,AP,AH,AB,AC,Aa⟩:=m;dsimp only at *;subst hf hk;refine zF AE Tryz.func171 ?_;unfold AA.d AA.A4 AG.A4 Calls.A4 B9.A4 Wi.AF.d Wi.AF.A4 at *;unfold aH at *;simp only[zY,zZ]at c4;refine AO CJ ?_ (CP @c1 @c2 @c3) [] [7];refine Ax CJ ?_ (BJ [4] c4) [(2,1),(3,1)] [9];refine B6 CJ ?_ (AK @c6) (BJ [4,7,8,9] c5) [] [11];refine AO CJ ?_ (AK @c7) [(1,3)];exact zE
theorem sF(n:AA)(m:AF)(h:NB n)(hm:Ay m)(hs:D9 n m=true)(hf:(Cr n.BZ m.B8 m.Ae).2=false)(hk:m.AN=2):yS 171 [n.d,m.d] (.tup [(BI n m).1.d,(BI n m).2.d]):=by
 have c1:=BN n h.FG;have c2:=FY n m h.FG hm;have c3:=I8 n.BZ m.B8 m.Ae h.FG.sl h.FG.sn;have c4:=GF n m;have c5:=uK (CY m);have hl:Ay (CY m:AF):=(.nil (JV m));have c6:=Lg n.BZ _ h.FG.sl h.Pb hl;have c7:=EG _ hl
 have hT:BI n m=({(n:AA)with BZ:=EB n.BZ (CY m)},CY m):=by
  unfold BI;rw[zn hs,hf];unfold CL;rw[hk];rfl
 rw[hs]at c2;rw[hT];clear hT hl;generalize EB n.BZ _=S at*
 skip
 generalize CY m=t at *;generalize Cr n.BZ m.B8 m.Ae=p at *;obtain⟨p1,p2⟩:=p;obtain⟨AN,Ae,B8,dst,AI,BA,done,AP,AH,AB,AC,Aa⟩:=m;dsimp only at *;subst hf hk;refine zF AE Tryz.func171 ?_;unfold AA.d AA.A4 AG.A4 Calls.A4 B9.A4 Wi.AF.d Wi.AF.A4 at *;unfold aH at *;simp only[zY,zZ]at c4;refine AO CJ ?_ (CP @c1 @c2 @c3) [] [7];refine Ax CJ ?_ (BJ [4] c4) [(2,1),(3,1)] [9];refine B6 CJ ?_ (AK @c6) (BJ [9] c5) [] [11];refine AO CJ ?_ (AK @c7) [(1,3)];exact zE
theorem sG(n:AA)(m:AF)(h:NB n)(hm:Ay m)(hs:D9 n m=true)(hf:(Cr n.BZ m.B8 m.Ae).2=false)(hk:m.AN=3):yS 171 [n.d,m.d] (.tup [(BI n m).1.d,(BI n m).2.d]):=by
 have c1:=BN n h.FG;have c2:=FY n m h.FG hm;have c3:=I8 n.BZ m.B8 m.Ae h.FG.sl h.FG.sn;have c4:=GF n m;have c5:=uL n m (CY m) h.FG.vb h.FG.vl;have hl:Ay (CY m:AF):=(.nil (JV m));have c6:=Lg n.BZ _ h.FG.sl h.Pb hl;have c7:=EG _ hl
 have hT:BI n m=({({n with A7:=EX n.A7 m.B8}:AA)with BZ:=EB n.BZ (CY m)},CY m):=by
  unfold BI;rw[zn hs,hf];unfold CL;rw[hk];rfl
 rw[hs]at c2;rw[hT];clear hT hl;generalize EB n.BZ _=S at *;generalize EX n.A7 m.B8=w at *;generalize CY m=t at *;generalize Cr n.BZ m.B8 m.Ae=p at *;obtain⟨p1,p2⟩:=p;obtain⟨AN,Ae,B8,dst,AI,BA,done,AP,AH,AB,AC,Aa⟩:=m;dsimp only at *;subst hf hk;refine zF AE Tryz.func171 ?_;unfold AA.d AA.A4 AG.A4 Calls.A4 B9.A4 Wi.AF.d Wi.AF.A4 at *;unfold aH at *;simp only[zY,zZ]at c4;refine AO CJ ?_ (CP @c1 @c2 @c3) [] [7];refine Ax CJ ?_ (BJ [4] c4) [(2,1),(3,1)] [9];refine B6 CJ ?_ (AK @c6) (BJ [4,7,8,9] c5) [] [11];refine AO CJ ?_ (AK @c7) [(1,3)];exact zE
theorem sH(n:AA)(m:AF)(h:NB n)(hm:Ay m)(hs:D9 n m=true)(hf:(Cr n.BZ m.B8 m.Ae).2=false)(hk:m.AN=4):yS 171 [n.d,m.d] (.tup [(BI n m).1.d,(BI n m).2.d]):=by
 have c1:=BN n h.FG;have c2:=FY n m h.FG hm;have c3:=I8 n.BZ m.B8 m.Ae h.FG.sl h.FG.sn;have c4:=GF n m;have c5:=uM n m (CY m) h.FG.vb h.FG.vl hm;have hl:Ay (P5 n.A7 m:AF):=(.nil (gF n.A7 m));have c6:=Lg n.BZ _ h.FG.sl h.Pb hl;have c7:=EG _ hl
 have hT:BI n m=({(n:AA)with BZ:=EB n.BZ (P5 n.A7 m)},P5 n.A7 m):=by
  unfold BI;rw[zn hs,hf];unfold CL;rw[hk];rfl
 rw[hs]at c2;rw[hT];clear hT hl;generalize EB n.BZ _=S at *;generalize P5 n.A7 m=w at *;generalize CY m=t at *;generalize Cr n.BZ m.B8 m.Ae=p at *;obtain⟨p1,p2⟩:=p;obtain⟨AN,Ae,B8,dst,AI,BA,done,AP,AH,AB,AC,Aa⟩:=m;dsimp only at *;subst hf hk;refine zF AE Tryz.func171 ?_;unfold AA.d AA.A4 AG.A4 Calls.A4 B9.A4 Wi.AF.d Wi.AF.A4 at *;unfold aH at *;simp only[zY,zZ]at c4;refine AO CJ ?_ (CP @c1 @c2 @c3) [] [7];refine Ax CJ ?_ (BJ [4] c4) [(2,1),(3,1)] [9];refine B6 CJ ?_ (AK @c6) (BJ [4,7,8,9] c5) [] [11];refine AO CJ ?_ (AK @c7) [(1,3)];exact zE
theorem sI(n:AA)(m:AF)(h:NB n)(hm:Ay m)(hs:D9 n m=true)(hf:(Cr n.BZ m.B8 m.Ae).2=false)(hk:m.AN=5):yS 171 [n.d,m.d] (.tup [(BI n m).1.d,(BI n m).2.d]):=by
 have c1:=BN n h.FG;have c2:=FY n m h.FG hm;have c3:=I8 n.BZ m.B8 m.Ae h.FG.sl h.FG.sn;have c4:=GF n m;have c5:=uN n m (CY m) h.FG.kn;have hl:Ay ({CY m with Aa:=(F3 n.keep m.AC).2}:AF):=(.nil (JV m));have c6:=Lg n.BZ _ h.FG.sl h.Pb hl;have c7:=EG _ hl
 have hT:BI n m=({({n with keep:=(F3 n.keep m.AC).1}:AA)with BZ:=EB n.BZ ({CY m with Aa:=(F3 n.keep m.AC).2})},{CY m with Aa:=(F3 n.keep m.AC).2}):=by
  unfold BI;rw[zn hs,hf];unfold CL;rw[hk];rfl
 rw[hs]at c2;rw[hT];clear hT hl;generalize EB n.BZ _=S at *;generalize F3 n.keep m.AC=w at *;generalize CY m=t at *;generalize Cr n.BZ m.B8 m.Ae=p at *;obtain⟨p1,p2⟩:=p;obtain⟨AN,Ae,B8,dst,AI,BA,done,AP,AH,AB,AC,Aa⟩:=m;dsimp only at *;subst hf hk;refine zF AE Tryz.func171 ?_;unfold AA.d AA.A4 AG.A4 Calls.A4 B9.A4 Wi.AF.d Wi.AF.A4 at *;unfold aH at *;simp only[zY,zZ]at c4;refine AO CJ ?_ (CP @c1 @c2 @c3) [] [7];refine Ax CJ ?_ (BJ [4] c4) [(2,1),(3,1)] [9];refine B6 CJ ?_ (AK @c6) (BJ [4,7,8,9] c5) [] [11];refine AO CJ ?_ (AK @c7) [(1,3)];exact zE
theorem sJ(n:AA)(m:AF)(h:NB n)(hm:Ay m)(hs:D9 n m=true)(hf:(Cr n.BZ m.B8 m.Ae).2=false)(hk:m.AN=6):yS 171 [n.d,m.d] (.tup [(BI n m).1.d,(BI n m).2.d]):=by
 have c1:=BN n h.FG;have c2:=FY n m h.FG hm;have c3:=I8 n.BZ m.B8 m.Ae h.FG.sl h.FG.sn;have c4:=GF n m;have c5:=uO n m (CY m) h.FG.kn;have hl:Ay ({CY m with AC:=(Dx n.keep m.AC.AI).1,Aa:=(Dx n.keep m.AC.AI).2}:AF):=(.nil (JV m));have c6:=Lg n.BZ _ h.FG.sl h.Pb hl;have c7:=EG _ hl
 have hT:BI n m=({(n:AA)with BZ:=EB n.BZ ({CY m with AC:=(Dx n.keep m.AC.AI).1,Aa:=(Dx n.keep m.AC.AI).2})},{CY m with AC:=(Dx n.keep m.AC.AI).1,Aa:=(Dx n.keep m.AC.AI).2}):=by
  unfold BI;rw[zn hs,hf];unfold CL;rw[hk];rfl
 rw[hs]at c2;rw[hT];clear hT hl;generalize EB n.BZ _=S at *;generalize Dx n.keep m.AC.AI=w at *;generalize CY m=t at *;generalize Cr n.BZ m.B8 m.Ae=p at *;obtain⟨p1,p2⟩:=p;obtain⟨AN,Ae,B8,dst,AI,BA,done,AP,AH,AB,AC,Aa⟩:=m;dsimp only at *;subst hf hk;refine zF AE Tryz.func171 ?_;unfold AA.d AA.A4 AG.A4 Calls.A4 B9.A4 Wi.AF.d Wi.AF.A4 at *;unfold aH at *;simp only[zY,zZ]at c4;refine AO CJ ?_ (CP @c1 @c2 @c3) [] [7];refine Ax CJ ?_ (BJ [4] c4) [(2,1),(3,1)] [9];refine B6 CJ ?_ (AK @c6) (BJ [4,7,8,9] c5) [] [11];refine AO CJ ?_ (AK @c7) [(1,3)];exact zE
theorem oM(n:AA)(m:AF)(h:NB n)(hm:Ay m):yS 171 [n.d,m.d] (.tup [(BI n m).1.d,(BI n m).2.d]):=by
 cases hs:D9 n m with
 |false=>exact oN n m h hm hs
 |true=>
 cases hf:(Cr n.BZ m.B8 m.Ae).2 with
 |true=>
  refine iR n m h hm hs hf ?_;unfold Cr;split
  .rename_i p hp;exact h.FG.sl p (List.mem_of_find?_eq_some hp)
  .exact .nil rfl
 |false=>
 have hk:=NI.1 (Mw.1 hs).1;rcases(by omega:m.AN=1\/m.AN=2\/m.AN=3\/m.AN=4\/m.AN=5\/m.AN=6)with hk|hk|hk|hk|hk|hk
 .exact sE n m h hm hs hf hk
 .exact sF n m h hm hs hf hk
 .exact sG n m h hm hs hf hk
 .exact sH n m h hm hs hf hk
 .exact sI n m h hm hs hf hk
 .exact sJ n m h hm hs hf hk
abbrev Dt:BF:=[0,1,2,4,5,6,7,8,9,10,11,12,13,24,34,36,57,72]
theorem ii(b:AL):Ay (Bc b).1:=by
 have:=Wi.bM b;unfold Ay;omega
theorem Io(n:AA)(b:AL)(h:NB n)(hb:b.length<70368744177664):yS 111 [n.d,.by b] (.tup [(Im n b).1.d,Ab (Im n b).2]):=by
 have c1:=BN n h.FG;have c2:=BO n h.FG;have c3:=Wi.QP b hb;have hm:=ii b;rw[h.r]at c2
 have hT:Im n b=(if(Bc b).2≠0\/(Bc b).1.dst≠n.A7.id then({n with bad:=if n.bad<1099511627776 then n.bad+1 else n.bad},[])
  else if(Bc b).1.BY then((BI n (Bc b).1).1,GO (BI n (Bc b).1).2)
  else if(D8 n.Ac (Bc b).1).2.2 then Em [] (D4 {n with Ac:=(D8 n.Ac (Bc b).1).1} (D8 n.Ac (Bc b).1).2.1 (Bc b).1)
  else(n,[])):=by unfold Im;rw[zn h.r]
 rw[hT];clear hT;generalize Bc b=p at *;obtain⟨m,e⟩:=p;dsimp only at *;have c4:=Wi.Gs m;refine zF AE Tryz.func111 ?_;have hbad:=(B2.1 h.r).2.1
 by_cases hx:e≠0\/m.dst≠n.A7.id
 .rw[zn hx];unfold AA.d AA.A4 AG.A4 Calls.A4 B9.A4 Wi.AF.d Wi.AF.A4 at *;have hE:(e=0/\¬m.dst=n.A7.id)\/¬e=0:=by grind
  by_cases hq:n.bad<1099511627776
  .rw[zn hq];have f2:=zU hq;rcases hE with⟨g1,g2⟩|g1
   .have f1:=AT g1;have f3:=eq_false' g2;refine AJ Dt ?_ (CP f1 f2 f3) (CP @c1 @c2 @c3) [] [15];with_reducible repeat' first|constructor|intro hc
    refine A9 Dt ?_ [(2,4),(3,4)];exact zE
   .have f1:=eq_false' g1;refine AJ Dt ?_ (Au f1 f2) (CP @c1 @c2 @c3) [] [15];with_reducible repeat' first|constructor|intro hc
    refine A9 Dt ?_ [(2,4),(3,4)];exact zE
  .rw[zx hq];have f2:=zQ hq;rcases hE with⟨g1,g2⟩|g1
   .have f1:=AT g1;have f3:=eq_false' g2;refine AJ Dt ?_ (CP f1 f2 f3) (CP @c1 @c2 @c3) [] [15];with_reducible repeat' first|constructor|intro hc
    refine A9 Dt ?_ [(2,4),(3,4)];exact zE
   .have f1:=eq_false' g1;refine AJ Dt ?_ (Au f1 f2) (CP @c1 @c2 @c3) [] [15];with_reducible repeat' first|constructor|intro hc
    refine A9 Dt ?_ [(2,4),(3,4)];exact zE
 rw[zx hx];have f1:=AT (show e=0 by grind);have f3:=AT (show m.dst=n.A7.id by grind)
 cases ha:m.BY with
 |true=>
  rw[ha]at c4;rw[zn rfl];have c5:=oM n m h hm
  have hl:(BI n m).2.AB.length<9223372036854775807:=by
   cases hs:D9 n m with
   |false=>
    have e:BI n m=(n,AU):=by unfold BI;rw[hs];rfl
    rw[e];exact yR
   |true=>
    obtain⟨_,_,_,_,_,_,_,_,t1,_⟩:=Ye h hs;have:=Mu t1;unfold Ay at this;omega
  generalize BI n m=q at *;obtain⟨n1,t⟩:=q;dsimp only at *;have c6:=KB n1 [] t hl (zi _);simp only[zZ]at c6;unfold nH at c6;unfold AA.d AA.A4 AG.A4 Calls.A4 B9.A4 Wi.AF.d Wi.AF.A4 at *;refine AJ Dt ?_ (Au f1 f3) (TT @c1 @c2 @c3 @c4 @c5) [] [8];with_reducible repeat' first|constructor|intro hc
  refine BG (A8.ES 2 76 (.sl 3 []) rfl rfl rfl rfl (by simp[BM])) sm ?_;refine Ax Dt ?_ (BJ [2,6] c6) [] [15];refine A9 Dt ?_ [(2,4),(3,4)];exact zE
 |false=>
 rw[ha]at c4;rw[zx (by decide)];have c5:=fK n.Ac m h.FG.cl h.FG.cn (by unfold Ay at hm;omega);have hc:=h.close m;have hk:=fun e=>(Wx (c:=n.Ac) (m:=m) e).2.1
 generalize D8 n.Ac m=q at *;obtain⟨q1,x,q3⟩:=q;dsimp only at*
 cases q3 with
 |false=>
  rw[zx (by decide)];unfold AA.d AA.A4 AG.A4 Calls.A4 B9.A4 Wi.AF.d Wi.AF.A4 Calls.d Calls.A4 Al.d Al.A4 at *;refine AJ Dt ?_ (Au f1 f3) (TT @c1 @c2 @c3 @c4 @c5) [] [15];with_reducible repeat' first|constructor|intro hc
  refine A9 Dt ?_ [(2,4),(3,4)];exact zE
 |true=>
  rw[zn rfl];have hky:=q0L (US (hk rfl)) (show 20<=big by decide);have c6:=mN {n with Ac:=q1} hc.hok x m hm (zi _);have c7:=OA {n with Ac:=q1} (D4 {n with Ac:=q1} x m).1 [] (D4 {n with Ac:=q1} x m).2 (hc.heard hky) (rC _ _ _) (by have:=gE {n with Ac:=q1} x m;omega) (zi _);rw[show((D4 {n with Ac:=q1} x m).1,(D4 {n with Ac:=q1} x m).2)=D4 {n with Ac:=q1} x m from rfl]at c7;generalize D4 {n with Ac:=q1} x m=t at *;generalize Em [] t=u at *;obtain⟨t1,t2⟩:=t;dsimp only at c6 c7;unfold nH at c7;unfold hC at c7;unfold AA.d AA.A4 AG.A4 Calls.A4 B9.A4 Wi.AF.d Wi.AF.A4 Calls.d Calls.A4 Al.d Al.A4 at *;refine AJ Dt ?_ (Au f1 f3) (TT @c1 @c2 @c3 @c4 @c5) [] [12];with_reducible repeat' first|constructor|intro hc
  refine BG (A8.ES 2 76 (.sl 3 []) rfl rfl rfl rfl (by simp[BM])) sm ?_;refine B6 Dt ?_ (AK @c6) (BJ [2,6] c7) [] [15];refine A9 Dt ?_ [(2,4),(3,4)];exact zE
end Nd
end Go.Proofs.YtamjpnmjpponpaaGreatDoor
namespace Go.Proofs.YtamjpnmjpponpaaGreatDoor
namespace Bg
open Go.Gar
open Nd (B0)
abbrev Qs:BF:=[0,1,2,4,6,7,8,9,10,22]
def step(b:Du)(g:B0):Du:=if b.grams.length<400/\g.by_.length<=120 then⟨b.grams++[g],b.lost⟩else⟨b.grams,IntKind.wrap .i64 (b.lost+1)⟩
def IN(b:Du)(l:List B0):Du:=l.foldl step b
theorem iA(b:Du){l:List B0}{k:Nat}{x:B0}(hx:l[k]? =some x):IN b (l.take (k+1))=step (IN b (l.take k)) x:=by
 unfold IN;rw[AY hx,q0o];rfl
variable {b:Du}
theorem sO{g:B0}(h:b.grams.length<400/\g.by_.length<=120):step b g=⟨b.grams++[g],b.lost⟩:=zn h
theorem oX{g:B0}(h:¬(b.grams.length<400/\g.by_.length<=120)):step b g=⟨b.grams,IntKind.wrap .i64 (b.lost+1)⟩:=zx h
theorem sP(b:Du)(g:B0):(step b g).grams.length<=b.grams.length+1:=by
 unfold step;split<;>simp
theorem rz(b:Du)(l:List B0):(IN b l).grams.length<=b.grams.length+l.length:=by
 induction l generalizing b with
 |nil=>exact zN _
 |cons g r ih=>
  have h1:=ih (step b g);have h2:=sP b g;simp only[IN,q0p,q02]at h1|-;omega
theorem am(b:Du)(l:List B0)(hb:b.grams.length<=1000)(hl:l.length<=1000)(hs:small l):
  yT 227 [.ag [.sl 0 b.grams.length 3,.yO b.lost],.d (Ab l)] [.a (Ab b.grams)] (.ag [.sl 0 (IN b l).grams.length 3,.yO ((IN b l).lost)])
   [.a (Ab (IN b l).grams),.gone,.c [.sl 0 (IN b l).grams.length 3,.yO ((IN b l).lost)]]:=by
 refine zD AE Tryz.func227 ?_;refine A9 Qs ?_;refine BX (fun k=>k<=l.length) (fun k:Nat=>⟨[(2,.ptr 1 0 2),(4,.ptr 2 0 2),(7,.d (Ab l)),(8,.yO l.length),(9,.yO k)],[.a (Ab (IN b (l.take k)).grams),.c [.sl 0 (IN b (l.take k)).grams.length 3,.yO ((IN b (l.take k)).lost)],.c [.e0,.yO 0]],36⟩) (fun k=>l.length-k) 0 (zi _) ?_ (zN _) ?_
 .exact A8.ck rfl
 intro k hk;have hle:=rz b (l.take k);rw[q0D]at hle
 by_cases hkl:k<l.length
 .obtain⟨x,hx⟩:=Ah hkl;have hxb:=Hc hs hx;have hn:=iA b hx;generalize IN b (l.take k)=c at*
  by_cases hA:c.grams.length<400/\x.by_.length<=120
  .rw[sO hA]at hn;have ix1:=hx;refine AO Qs ?_ (AK (Ek x hxb));clear ix1;with_reducible repeat' first|constructor|intro hc
   all_goals first
    |(exfalso;omega)
    |skip
   refine⟨k+1,hkl,om,zN _,?_⟩;exact(have nC:=zh hn (zh @Ab.eq_1 @Nd.B0.A4.eq_1);A8.cn rfl)
  .rw[oX hA]at hn;have ix1:=hx;have wr:Lv [32]:=trivial;refine AO Qs ?_ (AK (Ek x hxb));clear wr ix1;with_reducible repeat' first|constructor|intro hc
   all_goals first
    |(exfalso;omega)
    |(refine⟨k+1,hkl,om,zN _,?_⟩;exact(have nC:=hn;A8.cn rfl))
 .have e:k=l.length:=om
  subst e;rw[q06]at *;refine A9 Qs ?_;with_reducible repeat' first|constructor|intro hc
  exact wE
theorem de(l:List B0)(n:Int)(hl:l.length<=1000)(hs:small l):yT 39 [.d (Du.d ⟨l,n⟩)] [] (.ag [.sl 6 l.length 3,.yO n]) [.gone,.c [.sl 6 l.length 3,.yO n],.gone,.gone,.gone,.gone,.a (Ab l)]:=by
 refine zD AE Tryz.func39 ?_;refine Ax [0,1,2] ?_ (BJ [] (bO l n hl hs));exact wE
theorem K6(b:Du)(hl:b.grams.length<=1000)(hs:small b.grams):yS 39 [b.d] b.d:=by
 refine Ff (de b.grams b.lost hl hs) ?_;simp[Kf,CG,Ca,C7,Dv,Du.d,BP]
theorem KB(b:Du)(l:List B0)(hb:b.grams.length<=1000)(hbs:small b.grams)(hl:l.length<=1000)(hs:small l):yS 166 [b.d,Ab l] (IN b l).d:=by
 obtain⟨gs,n⟩:=b;refine zF AE Tryz.func166 ?_;refine Ax [0,1,2,4] ?_ (H0 [] (de gs n hb hbs) [8] (am ⟨gs,n⟩ l hb hl hs));exact BW (zh @Du.d.eq_1 @Ab.eq_1)
theorem JJ{CF:Int}(h:b.Kz CF=true):∃a:Nat,CF=a/\a<b.grams.length:=by
 simp only[Du.Kz,zO,zW]at h;exact⟨CF.toNat,om,om⟩
def KQ(b:Du)(CF:Int):Du×Int:=if b.Kz CF then(⟨b.grams.eraseIdx CF.toNat,IntKind.wrap .i64 (b.lost+1)⟩,0)else(b,2)
theorem qZ(b:Du)(CF:Int)(hb:b.grams.length<=1000)(hbs:small b.grams):yS 113 [b.d,.yX CF] (.tup [(KQ b CF).1.d,.yX (KQ b CF).2]):=by
 have hI:=Qe b CF;have hO:=K6 b hb hbs;refine zF AE Tryz.func113 ?_;unfold KQ
 cases h:b.Kz CF with
 |true=>
  obtain⟨a,rfl,ha⟩:=JJ h;obtain⟨gs,n⟩:=b;have wr:Lv [15]:=trivial;refine By [0,1,2,4,5,9] ?_ (AK h) (AK @hI) (BJ [] (Yu gs n a hb hbs));clear wr;exact BW (zh @Du.d.eq_1 @Ab.eq_1)
 |false=>
  obtain⟨gs,n⟩:=b;refine AJ [0,1,2,4,5,9] ?_ (AK h) (Au @hI @hO);exact BW (zh @Du.d.eq_1 @Ab.eq_1)
def HD(b:Du)(CF:Int):Du×Int:=if b.Kz CF then(IN b [b.grams.getD CF.toNat IF],0)else(b,2)
theorem pA(b:Du)(CF:Int)(hb:b.grams.length<=1000)(hbs:small b.grams):yS 115 [b.d,.yX CF] (.tup [(HD b CF).1.d,.yX (HD b CF).2]):=by
 have hI:=Qe b CF;have hO:=K6 b hb hbs;refine zF AE Tryz.func115 ?_;unfold HD
 cases h:b.Kz CF with
 |true=>
  obtain⟨a,rfl,ha⟩:=JJ h;obtain⟨gs,n⟩:=b;replace ha:a<gs.length:=ha;obtain⟨x,hx⟩:=Ah ha;have hg:gs.getD a IF=x:=by rw[zo,hx];rfl
  have hS:=KB ⟨gs,n⟩ [x] hb hbs sm (by intro g hg;simp at hg;subst hg;exact Hc hbs hx);have ix1:=hx;refine AJ [0,1,2,4,5,9] ?_ (AK h) (Au @hI @hS);clear ix1;exact BW (zh @Du.d.eq_1 (zh @Ab.eq_1 hx))
 |false=>
  obtain⟨gs,n⟩:=b;refine AJ [0,1,2,4,5,9] ?_ (AK h) (Au @hI @hO);exact BW (zh @Du.d.eq_1 @Ab.eq_1)
def takeB(b:Du)(CF:Int):Du×B0×Bool:=if b.Kz CF then(⟨b.grams.eraseIdx CF.toNat,b.lost⟩,b.grams.getD CF.toNat IF,true)else(b,IF,false)
theorem Io(b:Du)(CF:Int)(hb:b.grams.length<=1000)(hbs:small b.grams):yS 110 [b.d,.yX CF] (.tup [(takeB b CF).1.d,(takeB b CF).2.1.d,.b (takeB b CF).2.2]):=by
 have hI:=Qe b CF;have hO:=K6 b hb hbs;refine zF AE Tryz.func110 ?_;unfold takeB
 cases h:b.Kz CF with
 |true=>
  obtain⟨a,rfl,ha⟩:=JJ h;obtain⟨gs,n⟩:=b;replace ha:a<gs.length:=ha;obtain⟨x,hx⟩:=Ah ha;have hg:gs.getD a IF=x:=by rw[zo,hx];rfl
  refine By [0,1,2,4,5,6,7,11] ?_ (AK h) (AK @hI) (BJ [3] (Yx gs n a x hx hb hbs)) [(1,2)];exact BW (zh @Du.d.eq_1 (zh @Ab.eq_1 (zh hx (zh @Nd.B0.d.eq_1 @Nd.B0.A4.eq_1))))
 |false=>
  obtain⟨gs,n⟩:=b;refine AJ [0,1,2,4,5,6,7,11] ?_ (AK h) (Au @hI @hO);exact BW (zh @Du.d.eq_1 (zh @Ab.eq_1 (zh @Nd.B0.d.eq_1 (zh @Nd.B0.A4.eq_1 @IF.eq_1))))
abbrev OH:BF:=[0,1,2,3,4,6,7,8,9,28,38]
def VK(x:B0)(i m:Int):Bool:=decide (0<=i)&&decide (i<x.by_.length)&& !x.harmed&& !(m==0)
def SH(b:Du)(CF i m:Int):Du×Int:=if b.Kz CF&&VK (b.grams.getD CF.toNat IF) i m then(⟨b.grams.set CF.toNat (I1 (b.grams.getD CF.toNat IF) i.toNat m),b.lost⟩,0)else(b,2)
theorem r9(b:Du)(CF i m:Int)(hb:b.grams.length<=1000)(hbs:small b.grams):yS 117 [b.d,.yX CF,.yX i,.i .u8 m] (.tup [(SH b CF i m).1.d,.yX (SH b CF i m).2]):=by
 have hI:=Qe b CF;have hO:=K6 b hb hbs;refine zF AE Tryz.func117 ?_;unfold SH
 cases h:b.Kz CF with
 |true=>
  obtain⟨a,rfl,ha⟩:=JJ h;obtain⟨gs,n⟩:=b;replace ha:a<gs.length:=ha;obtain⟨x,hx⟩:=Ah ha;have hg:gs.getD a IF=x:=by rw[zo,hx];rfl
  simp only[q1Y,hg,q0A]
  cases hk:VK x i m with
  |true=>
   simp only[VK,zO,zW,q0h,beq_eq_false_iff_ne]at hk;obtain⟨⟨⟨h1,h2⟩,h3⟩,h4⟩:=hk;obtain⟨i',rfl⟩:∃k:Nat,i=k:=⟨i.toNat,om⟩;have e4:(m==0)=false:=by simp[h4]
   have ix1:=hx;refine By OH ?_ (CP h h3 e4) (AK @hI) (BJ [1,2] (Yv gs n a x hx i' m om hb hbs));clear ix1;with_reducible repeat' first|constructor|intro hc
   all_goals first
    |(exfalso;omega)
    |(refine⟨_,_,rfl,rfl,?_⟩;simp[LL,BP,Bl,BM,Du.d,Ab];done)
  |false=>
   simp only[VK,Bool.and_eq_false_iff,q0c,Bool.not_eq_false',beq_iff_eq]at hk
   cases h3:x.harmed with
   |true=>
    have ix1:=hx;refine AJ OH ?_ (Au h h3) (Au @hI @hO);clear ix1;repeat'(apply zB<;>intro hc)
    all_goals(refine⟨_,_,rfl,rfl,?_⟩;simp[LL,BP,Bl,BM,Du.d,Ab])
   |false=>
    by_cases h4:m=0
    .subst h4;have ix1:=hx;refine AJ OH ?_ (Au h h3) (Au @hI @hO);clear ix1;repeat'(apply zB<;>intro hc)
     all_goals(refine⟨_,_,rfl,rfl,?_⟩;simp[LL,BP,Bl,BM,Du.d,Ab])
    .have e4:(m==0)=false:=by simp[h4]
     have hk':¬0<=i\/¬i<x.by_.length:=by
      rcases hk with(hk|hk)|hk
      .exact hk
      .rw[h3]at hk;cases hk
      .exact absurd hk h4
     have ix1:=hx;refine AJ OH ?_ (CP h h3 e4) (Au @hI @hO);clear ix1;with_reducible repeat' first|constructor|intro hc
     all_goals first
      |(refine⟨_,_,rfl,rfl,?_⟩;simp[LL,BP,Bl,BM,Du.d,Ab];done)
      |(exfalso;omega)
 |false=>
  obtain⟨gs,n⟩:=b;refine AJ OH ?_ (AK h) (Au @hI @hO);exact BW (zh @Du.d.eq_1 @Ab.eq_1)
end Bg
end Go.Proofs.YtamjpnmjpponpaaGreatDoor
