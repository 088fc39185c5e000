/- Part 26 of a proof. Conditions: those that its theorems state. -/
import Derived.Test.YtamjpnmjpponpaaGreatDoorC22
import Derived.Test.YtamjpnmjpponpaaGreatDoorC24
import Derived.Test.YtamjpnmjpponpaaGreatDoorC25
set_option linter.unusedSimpArgs false
set_option linter.unusedVariables false
set_option maxHeartbeats 40000000
set_option maxRecDepth 4000
namespace Go.Proofs.YtamjpnmjpponpaaGreatDoor
namespace Nd
open Go.Gar
open Wi (AF BV B7 AU Bp mC)
abbrev Qz:BF:=[0,1,2,3,5,6,7,8]
theorem WX{G:Gh}{x:AV}{d:D}(hx:Oe [x] [d])(suf:yr):∀(pre:yr){vs:ya},Bf G (pre++x::suf) vs->Bf G (pre++ .d d::suf) vs
 |[],vs,h=>by
  simp only[zZ,Bf]at h|-;obtain⟨u,q,e,hu,hq⟩:=h;have h4:Bf G [x] [u]:=by simp only[Bf];exact⟨u,[],rfl,hu,rfl⟩
  have h5:=ML.2 (RP hx h4);simp only[List.map_cons,List.map_nil,Bf]at h5;obtain⟨u2,q3,e4,hu2,e5⟩:=h5;cases e4;exact⟨u,q,e,hu2,hq⟩
 |a::pre,vs,h=>by
  simp only[zY,Bf]at h|-;obtain⟨u,q,e,hu,hq⟩:=h;exact⟨u,q,e,hu,WX hx suf pre hq⟩
theorem Aw.xN{P:Program}{f:FuncId}(pre:yr){x:AV}{d:D}{suf:yr}{H:z6}{r:AV}{H':z6}(h:Aw P f (pre++ .d d::suf) H r H')(hx:Oe [x] [d]):Aw P f (pre++x::suf) H r H':=
 ⟨h.1,fun G w vs h1 h2 h3=>h.2 G w vs h1 h2 (WX hx suf pre h3)⟩
abbrev yG(n:AA)(m:AF):AA:={n with A7:=(Dm n.A7 n.A5 n.BH m).1.A7,A5:=(Dm n.A7 n.A5 n.BH m).1.A5,BH:=(Dm n.A7 n.A5 n.BH m).1.BH}
abbrev yI(n:AA)(d:Int):AA:={n with A7:=(F6 n.A7 n.A5 n.BH d).A7,A5:=(F6 n.A7 n.A5 n.BH d).A5,BH:=(F6 n.A7 n.A5 n.BH d).BH}
abbrev uT(n:AA):AA:={n with A5:=0,BH:=0}
theorem r7(n:AA)(m:AF)(h0:0<=n.A5)(hb:n.A7.A6.length<=1000)(hl:n.A7.AB.length<=1000)(hm:Ay m):yT 248 [.ptr 0 0 77,.ptr 1 0 15] [.c (hC n .e0),.c (mX m)] (.tup []) [.c (hC (yG n m) (.d (BS (Dm n.A7 n.A5 n.BH m).2))),.c (mX m)]:=by
 have c1:=iZ n.A7 n.A5 n.BH m h0 hb hl hm;unfold yG;generalize Dm n.A7 n.A5 n.BH m=r at *;obtain⟨⟨w,p,o⟩,q⟩:=r;dsimp only at *;unfold AG.d AG.A4 Wi.AF.d Wi.AF.A4 at c1;unfold mX hC;refine zD AE Tryz.func248 ?_;refine AO [0,1] ?_ (AK @c1);exact wE
theorem rR(n:AA)(d:Int)(hb:n.A7.A6.length<=1000)(hl:n.A7.AB.length<=1000):yT 332 [.ptr 0 0 77,.ptr 1 0 1] [.c (hC n .e0),.c [.yO d]] (.tup []) [.c (hC (yI n d) (.d (BS []))),.c [.yO d]]:=by
 have c1:=iY n.A7 n.A5 n.BH d hb hl;unfold yI;generalize F6 n.A7 n.A5 n.BH d=r at *;obtain⟨w,p,o⟩:=r;dsimp only at *;unfold AG.d AG.A4 at c1;unfold hC;refine zD AE Tryz.func332 ?_;refine AO [0,1] ?_ (AK @c1);exact QO 0 76 (.sl 16 [])
theorem Uq(n:AA):yT 318 [.ptr 0 0 77] [.c (hC n .e0)] (.tup []) [.c (hC (uT n) (.d (BS [])))]:=by
 unfold hC;refine zD AE Tryz.func318 ?_;refine A9 [0] ?_;exact QO 0 76 (.sl 16 [])
theorem VJ(n:AA)(m:AF)(w:Int)(was:B9)(hw:w=5\/w=6\/w=7)(hx0:0<=n.next)(hx1:n.next<16)(hb:n.A7.A6.length<=1000)(hl:n.A7.AB.length<=1000)(hn:n.keep.length<=1048576)(hm:Ay m)(hj:was.left.length<=100000)(ha:(CH n.A7 was m).BY.length<=100000)(hs:0<=(CH n.A7 was m).job.AC.AI.length):yT 250 [.yQ w,.d was.d,.ptr 0 0 77,.ptr 1 0 15] [.c (hC n .e0),.c (mX m)] (.tup []) [.c (hC (B5 n w (decide (was.A5=5)) (CH n.A7 was m)).1 (.d (BS (B5 n w (decide (was.A5=5)) (CH n.A7 was m)).2))),.c (mX m)]:=by
 have c1:=mc n.A7 was m hb hl hj hm;generalize CH n.A7 was m=c at *;have cG:=LW n w (decide (was.A5=5)) c hw ha hx0 hx1 hb hl hn hs;generalize B5 n w (decide (was.A5=5)) c=r at *;refine zD AE Tryz.func250 ?_;unfold AG.d AG.A4 B9.d B9.A4 Wi.AF.d Wi.AF.A4 at c1;unfold B9.d B9.A4 at cG|-;unfold hC at cG|-
 by_cases h5:was.A5=5
 .have f1:=AT h5;rw[zU h5]at cG;refine By Qz ?_ (AK f1) (AK @c1) (BJ [0] cG);exact wE
 .have f1:=eq_false' h5;rw[zQ h5]at cG;refine By Qz ?_ (AK f1) (AK @c1) (BJ [0] cG);exact wE
theorem VT(n:AA)(d:Int)(w:Int)(was:B9)(hw:w=5\/w=6\/w=7)(hx0:0<=n.next)(hx1:n.next<16)(hb:n.A7.A6.length<=1000)(hl:n.A7.AB.length<=1000)(hn:n.keep.length<=1048576)(hj:was.left.length<=100000)(ha:(CE n.A7 was d).BY.length<=100000)(hs:0<=(CE n.A7 was d).job.AC.AI.length):yT 334 [.yQ w,.d was.d,.ptr 0 0 77,.ptr 1 0 1] [.c (hC n .e0),.c [.yO d]] (.tup []) [.c (hC (B5 n w (decide (was.A5=5)) (CE n.A7 was d)).1 (.d (BS (B5 n w (decide (was.A5=5)) (CE n.A7 was d)).2))),.c [.yO d]]:=by
 have c1:=aE n.A7 was d hb hl hj;generalize CE n.A7 was d=c at *;have cG:=LW n w (decide (was.A5=5)) c hw ha hx0 hx1 hb hl hn hs;generalize B5 n w (decide (was.A5=5)) c=r at *;refine zD AE Tryz.func334 ?_;unfold AG.d AG.A4 B9.d B9.A4 at c1;unfold B9.d B9.A4 at cG|-;unfold hC at cG|-
 by_cases h5:was.A5=5
 .have f1:=AT h5;rw[zU h5]at cG;refine By Qz ?_ (AK f1) (AK @c1) (BJ [0] cG);exact wE
 .have f1:=eq_false' h5;rw[zQ h5]at cG;refine By Qz ?_ (AK f1) (AK @c1) (BJ [0] cG);exact wE
theorem Up(n:AA)(w:Int)(was:B9)(hw:w=5\/w=6\/w=7)(hx0:0<=n.next)(hx1:n.next<16)(hb:n.A7.A6.length<=1000)(hl:n.A7.AB.length<=1000)(hn:n.keep.length<=1048576)(hs:0<=was.AC.AI.length):yT 319 [.yQ w,.d was.d,.ptr 0 0 77] [.c (hC n .e0)] (.tup []) [.c (hC (if was.A5=5 then n else(B5 n w false ⟨Dg (DW was 100),[],false⟩).1) (.d (BS [])))]:=by
 have cG:=LW n w false ⟨Dg (DW was 100),[],false⟩ hw (zi _) hx0 hx1 hb hl hn hs;have hq:(B5 n w false ⟨Dg (DW was 100),[],false⟩).2=[]:=rfl;rw[hq]at cG;refine zD AE Tryz.func319 ?_
 by_cases h5:was.A5=5
 .have f1:=AT h5;rw[zn h5];unfold B9.d B9.A4 hC;refine Aj [0,1,2,4,7] ?_ (AK f1);exact QO 0 76 (.sl 16 [])
 .have f1:=eq_false' h5;rw[zx h5];generalize B5 n w false ⟨Dg (DW was 100),[],false⟩=r at *;unfold B9.d B9.A4 hC at *;dsimp only[Dg,DW]at cG;refine Aj [0,1,2,4,7] ?_ (AK f1) [] [3];refine BG (A8.Ux 1 13 (.is []) rfl rfl rfl rfl trivial) sm ?_;have cG:=Aw.xN (x:=.e0) [.ptr 0 0 77,_,_,_] cG (by repeat'(first|rfl|trivial|refine⟨rfl,rfl,by simp[BM]⟩|refine⟨_,_,rfl,?_,?_⟩|refine⟨_,rfl,?_⟩));simp only[zY,zZ]at cG;refine Ax [0,1,2,4,7] ?_ (BJ [0] cG);exact wE
theorem gA(n:AA)(m:AF)(hx0:0<=n.next)(hx1:n.next<16)(hb:n.A7.A6.length<=1000)(hl:n.A7.AB.length<=1000)(hn:n.keep.length<=1048576)(hm:Ay m)(hj:n.AQ.left.length<=100000)(ha:(CH n.A7 n.AQ m).BY.length<=100000)(hs:0<=(CH n.A7 n.AQ m).job.AC.AI.length):yT 313 [.ptr 3 0 1,.ptr 4 0 1,.ptr 2 0 1] [.c (hC n .e0),.c (mX m),.c [.ptr 0 0 77],.c [Jv],.c [.yQ 5]] (.tup []) [.c (hC (B5 n 5 (decide (n.AQ.A5=5)) (CH n.A7 n.AQ m)).1 (.d (BS (B5 n 5 (decide (n.AQ.A5=5)) (CH n.A7 n.AQ m)).2))),.c (mX m),.c [.ptr 0 0 77],.c [Jv],.c [.yQ 5]]:=by
 have cS:=JR n;have cJ:=VJ n m 5 n.AQ (by decide) hx0 hx1 hb hl hn hm hj ha hs;generalize(B5 n 5 (decide (n.AQ.A5=5)) (CH n.A7 n.AQ m))=r at *;unfold B9.d B9.A4 at cJ;unfold hC at cS cJ|-;unfold Jv;refine zD AE Tryz.func313 ?_;refine Ax [0,1,2] ?_ (H0 [0] cS [0,1] cJ) [(0,6),(1,6)];exact wE
theorem gB(n:AA)(m:AF)(hx0:0<=n.next)(hx1:n.next<16)(hb:n.A7.A6.length<=1000)(hl:n.A7.AB.length<=1000)(hn:n.keep.length<=1048576)(hm:Ay m)(hj:n.AX.left.length<=100000)(ha:(CH n.A7 n.AX m).BY.length<=100000)(hs:0<=(CH n.A7 n.AX m).job.AC.AI.length):yT 313 [.ptr 3 0 1,.ptr 4 0 1,.ptr 2 0 1] [.c (hC n .e0),.c (mX m),.c [.ptr 0 0 77],.c [Jv],.c [.yQ 6]] (.tup []) [.c (hC (B5 n 6 (decide (n.AX.A5=5)) (CH n.A7 n.AX m)).1 (.d (BS (B5 n 6 (decide (n.AX.A5=5)) (CH n.A7 n.AX m)).2))),.c (mX m),.c [.ptr 0 0 77],.c [Jv],.c [.yQ 6]]:=by
 have cS:=I9 n;have cJ:=VJ n m 6 n.AX (by decide) hx0 hx1 hb hl hn hm hj ha hs;generalize(B5 n 6 (decide (n.AX.A5=5)) (CH n.A7 n.AX m))=r at *;unfold B9.d B9.A4 at cJ;unfold hC at cS cJ|-;unfold Jv;refine zD AE Tryz.func313 ?_;refine Ax [0,1,2] ?_ (H0 [0] cS [0,1] cJ) [(0,6),(1,6)];exact wE
theorem gC(n:AA)(m:AF)(hx0:0<=n.next)(hx1:n.next<16)(hb:n.A7.A6.length<=1000)(hl:n.A7.AB.length<=1000)(hn:n.keep.length<=1048576)(hm:Ay m)(hj:n.AW.left.length<=100000)(ha:(CH n.A7 n.AW m).BY.length<=100000)(hs:0<=(CH n.A7 n.AW m).job.AC.AI.length):yT 313 [.ptr 3 0 1,.ptr 4 0 1,.ptr 2 0 1] [.c (hC n .e0),.c (mX m),.c [.ptr 0 0 77],.c [Jv],.c [.yQ 7]] (.tup []) [.c (hC (B5 n 7 (decide (n.AW.A5=5)) (CH n.A7 n.AW m)).1 (.d (BS (B5 n 7 (decide (n.AW.A5=5)) (CH n.A7 n.AW m)).2))),.c (mX m),.c [.ptr 0 0 77],.c [Jv],.c [.yQ 7]]:=by
 have cS:=IA n;have cJ:=VJ n m 7 n.AW (by decide) hx0 hx1 hb hl hn hm hj ha hs;generalize(B5 n 7 (decide (n.AW.A5=5)) (CH n.A7 n.AW m))=r at *;unfold B9.d B9.A4 at cJ;unfold hC at cS cJ|-;unfold Jv;refine zD AE Tryz.func313 ?_;refine Ax [0,1,2] ?_ (H0 [0] cS [0,1] cJ) [(0,6),(1,6)];exact wE
theorem gO(n:AA)(d:Int)(hx0:0<=n.next)(hx1:n.next<16)(hb:n.A7.A6.length<=1000)(hl:n.A7.AB.length<=1000)(hn:n.keep.length<=1048576)(hj:n.AQ.left.length<=100000)(ha:(CE n.A7 n.AQ d).BY.length<=100000)(hs:0<=(CE n.A7 n.AQ d).job.AC.AI.length):yT 313 [.ptr 3 0 1,.ptr 4 0 1,.ptr 2 0 1] [.c (hC n .e0),.c [.yO d],.c [.ptr 0 0 77],.c [JL],.c [.yQ 5]] (.tup []) [.c (hC (B5 n 5 (decide (n.AQ.A5=5)) (CE n.A7 n.AQ d)).1 (.d (BS (B5 n 5 (decide (n.AQ.A5=5)) (CE n.A7 n.AQ d)).2))),.c [.yO d],.c [.ptr 0 0 77],.c [JL],.c [.yQ 5]]:=by
 have cS:=JR n;have cJ:=VT n d 5 n.AQ (by decide) hx0 hx1 hb hl hn hj ha hs;generalize(B5 n 5 (decide (n.AQ.A5=5)) (CE n.A7 n.AQ d))=r at *;unfold B9.d B9.A4 at cJ;unfold hC at cS cJ|-;unfold JL;refine zD AE Tryz.func313 ?_;refine Ax [0,1,2] ?_ (H0 [0] cS [0,1] cJ) [(0,6),(1,6)];exact wE
theorem gP(n:AA)(d:Int)(hx0:0<=n.next)(hx1:n.next<16)(hb:n.A7.A6.length<=1000)(hl:n.A7.AB.length<=1000)(hn:n.keep.length<=1048576)(hj:n.AX.left.length<=100000)(ha:(CE n.A7 n.AX d).BY.length<=100000)(hs:0<=(CE n.A7 n.AX d).job.AC.AI.length):yT 313 [.ptr 3 0 1,.ptr 4 0 1,.ptr 2 0 1] [.c (hC n .e0),.c [.yO d],.c [.ptr 0 0 77],.c [JL],.c [.yQ 6]] (.tup []) [.c (hC (B5 n 6 (decide (n.AX.A5=5)) (CE n.A7 n.AX d)).1 (.d (BS (B5 n 6 (decide (n.AX.A5=5)) (CE n.A7 n.AX d)).2))),.c [.yO d],.c [.ptr 0 0 77],.c [JL],.c [.yQ 6]]:=by
 have cS:=I9 n;have cJ:=VT n d 6 n.AX (by decide) hx0 hx1 hb hl hn hj ha hs;generalize(B5 n 6 (decide (n.AX.A5=5)) (CE n.A7 n.AX d))=r at *;unfold B9.d B9.A4 at cJ;unfold hC at cS cJ|-;unfold JL;refine zD AE Tryz.func313 ?_;refine Ax [0,1,2] ?_ (H0 [0] cS [0,1] cJ) [(0,6),(1,6)];exact wE
theorem gQ(n:AA)(d:Int)(hx0:0<=n.next)(hx1:n.next<16)(hb:n.A7.A6.length<=1000)(hl:n.A7.AB.length<=1000)(hn:n.keep.length<=1048576)(hj:n.AW.left.length<=100000)(ha:(CE n.A7 n.AW d).BY.length<=100000)(hs:0<=(CE n.A7 n.AW d).job.AC.AI.length):yT 313 [.ptr 3 0 1,.ptr 4 0 1,.ptr 2 0 1] [.c (hC n .e0),.c [.yO d],.c [.ptr 0 0 77],.c [JL],.c [.yQ 7]] (.tup []) [.c (hC (B5 n 7 (decide (n.AW.A5=5)) (CE n.A7 n.AW d)).1 (.d (BS (B5 n 7 (decide (n.AW.A5=5)) (CE n.A7 n.AW d)).2))),.c [.yO d],.c [.ptr 0 0 77],.c [JL],.c [.yQ 7]]:=by
 have cS:=IA n;have cJ:=VT n d 7 n.AW (by decide) hx0 hx1 hb hl hn hj ha hs;generalize(B5 n 7 (decide (n.AW.A5=5)) (CE n.A7 n.AW d))=r at *;unfold B9.d B9.A4 at cJ;unfold hC at cS cJ|-;unfold JL;refine zD AE Tryz.func313 ?_;refine Ax [0,1,2] ?_ (H0 [0] cS [0,1] cJ) [(0,6),(1,6)];exact wE
theorem f9(n:AA)(hx0:0<=n.next)(hx1:n.next<16)(hb:n.A7.A6.length<=1000)(hl:n.A7.AB.length<=1000)(hn:n.keep.length<=1048576)(hs:0<=n.AQ.AC.AI.length):yT 313 [.ptr 2 0 1,.ptr 3 0 1,.ptr 1 0 1] [.c (hC n .e0),.c [.ptr 0 0 77],.c [Gj],.c [.yQ 5]] (.tup []) [.c (hC (if n.AQ.A5=5 then n else(B5 n 5 false ⟨Dg (DW n.AQ 100),[],false⟩).1) (.d (BS []))),.c [.ptr 0 0 77],.c [Gj],.c [.yQ 5]]:=by
 have cS:=JR n;have cJ:=Up n  5 n.AQ (by decide) hx0 hx1 hb hl hn hs;generalize(if n.AQ.A5=5 then n else(B5 n 5 false ⟨Dg (DW n.AQ 100),[],false⟩).1)=r at *;unfold B9.d B9.A4 at cJ;unfold hC at cS cJ|-;unfold Gj;refine zD AE Tryz.func313 ?_;refine Ax [0,1,2] ?_ (H0 [0] cS [0] cJ) [(0,6),(1,6)];exact wE
theorem fA(n:AA)(hx0:0<=n.next)(hx1:n.next<16)(hb:n.A7.A6.length<=1000)(hl:n.A7.AB.length<=1000)(hn:n.keep.length<=1048576)(hs:0<=n.AX.AC.AI.length):yT 313 [.ptr 2 0 1,.ptr 3 0 1,.ptr 1 0 1] [.c (hC n .e0),.c [.ptr 0 0 77],.c [Gj],.c [.yQ 6]] (.tup []) [.c (hC (if n.AX.A5=5 then n else(B5 n 6 false ⟨Dg (DW n.AX 100),[],false⟩).1) (.d (BS []))),.c [.ptr 0 0 77],.c [Gj],.c [.yQ 6]]:=by
 have cS:=I9 n;have cJ:=Up n  6 n.AX (by decide) hx0 hx1 hb hl hn hs;generalize(if n.AX.A5=5 then n else(B5 n 6 false ⟨Dg (DW n.AX 100),[],false⟩).1)=r at *;unfold B9.d B9.A4 at cJ;unfold hC at cS cJ|-;unfold Gj;refine zD AE Tryz.func313 ?_;refine Ax [0,1,2] ?_ (H0 [0] cS [0] cJ) [(0,6),(1,6)];exact wE
theorem fB(n:AA)(hx0:0<=n.next)(hx1:n.next<16)(hb:n.A7.A6.length<=1000)(hl:n.A7.AB.length<=1000)(hn:n.keep.length<=1048576)(hs:0<=n.AW.AC.AI.length):yT 313 [.ptr 2 0 1,.ptr 3 0 1,.ptr 1 0 1] [.c (hC n .e0),.c [.ptr 0 0 77],.c [Gj],.c [.yQ 7]] (.tup []) [.c (hC (if n.AW.A5=5 then n else(B5 n 7 false ⟨Dg (DW n.AW 100),[],false⟩).1) (.d (BS []))),.c [.ptr 0 0 77],.c [Gj],.c [.yQ 7]]:=by
 have cS:=IA n;have cJ:=Up n  7 n.AW (by decide) hx0 hx1 hb hl hn hs;generalize(if n.AW.A5=5 then n else(B5 n 7 false ⟨Dg (DW n.AW 100),[],false⟩).1)=r at *;unfold B9.d B9.A4 at cJ;unfold hC at cS cJ|-;unfold Gj;refine zD AE Tryz.func313 ?_;refine Ax [0,1,2] ?_ (H0 [0] cS [0] cJ) [(0,6),(1,6)];exact wE
end Nd
end Go.Proofs.YtamjpnmjpponpaaGreatDoor
