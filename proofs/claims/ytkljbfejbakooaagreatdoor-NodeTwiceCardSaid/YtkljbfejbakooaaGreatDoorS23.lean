/- Part 23 of a proof. Conditions: those that its theorems state. -/
import Derived.Test.YtkljbfejbakooaaGreatDoorS22
set_option linter.unusedSimpArgs false
set_option linter.unusedVariables false
set_option maxHeartbeats 40000000
set_option maxRecDepth 4000
namespace Go.Proofs.YtkljbfejbakooaaGreatDoor
namespace Nd
open Go.Gar
open Wi (A2 B5 AU A5 B6 mC)
abbrev Y8:List Nat:=[0,1,2,3,5,6,7,8]
theorem Sw{G:Gh}{x:AV}{d:D}(hx:Ig [x] [d])(suf:List AV):∀(pre:List AV){vs:List Value},Al G (pre++x::suf) vs->Al G (pre++ .d d::suf) vs
 |[],vs,h=>by
  simp only[qX,Al]at h|-;obtain⟨u,q,e,hu,hq⟩:=h;have h4:Al G [x] [u]:=by simp only[Al];exact⟨u,[],rfl,hu,rfl⟩
  have h5:=Ij.2 (OD hx h4);simp only[sO,vF,Al]at h5;obtain⟨u2,q3,e4,hu2,e5⟩:=h5;cases e4;exact⟨u,q,e,hu2,hq⟩
 |a::pre,vs,h=>by
  simp only[qV,Al]at h|-;obtain⟨u,q,e,hu,hq⟩:=h;exact⟨u,q,e,hu,Sw hx suf pre hq⟩
theorem AY.oV{P:Program}{f:FuncId}(pre:List AV){x:AV}{d:D}{suf:List AV}{H:List A3}{r:AV}{H':List A3}(h:AY P f (pre++ .d d::suf) H r H')(hx:Ig [x] [d]):AY P f (pre++x::suf) H r H':=
 ⟨h.1,fun G w vs h1 h2 h3=>h.2 G w vs h1 h2 (Sw hx suf pre h3)⟩
abbrev ju(n:Node)(m:A2):Node:={n with view:=(Bv n.view n.phase n.of_ m).1.view,phase:=(Bv n.view n.phase n.of_ m).1.phase,of_:=(Bv n.view n.phase n.of_ m).1.of_}
abbrev jl(n:Node):Node:={n with phase:=0,of_:=0}
theorem RY(n:Node)(m:A2)(h0:0<=n.phase)(hb:n.view.base.length<=1000)(hl:n.view.list.length<=1000)(hm:AD m):qC 128 [.ptr 0 0 77,.ptr 1 0 15] [.c (hC n .e0),.c (mX m)] (.tup []) [.c (hC (ju n m) (.d (AC (Bv n.view n.phase n.of_ m).2))),.c (mX m)]:=by
 have c1:=aE n.view n.phase n.of_ m h0 hb hl hm;unfold ju;generalize Bv n.view n.phase n.of_ m=r at *;obtain⟨⟨w,p,o⟩,q⟩:=r;dsimp only at *;unfold View.d View.cells Wi.A2.d Wi.A2.cells at c1;unfold mX hC;refine zD A4 Tryz.func128 ?_;refine wd [0,1] [] A0 (A6 @c1) ?_;exact⟨⟨[],[.c (hC {n with view:=w,phase:=p,of_:=o} (.d (AC q))),.c (mX m)],_⟩,(A1.ck rfl),qA,_,_,rfl,rfl,rfl,rfl⟩
theorem Qy(n:Node):qC 232 [.ptr 0 0 77] [.c (hC n .e0)] (.tup []) [.c (hC (jl n) (.d (AC [])))]:=by
 unfold hC;refine zD A4 Tryz.func232 ?_;refine wd [0] [] A0 A0 ?_;exact⟨⟨[],[.c (hC (jl n) (.d (AC [])))],_⟩,(A1.trans' (A1.KA 0 76 (.sl 16 []) rfl rfl rfl rfl (by simp[AF])) (A1.ck rfl) qA),qA,_,_,rfl,rfl,rfl,rfl⟩
theorem RX(n:Node)(m:A2)(w:Int)(was:Job)(hw:w=5\/w=6\/w=7)(hx0:0<=n.next)(hx1:n.next<16)(hb:n.view.base.length<=1000)(hl:n.view.list.length<=1000)(hn:n.keep.length<=1048576)(hm:AD m)(hj:was.left.length<=100000)(ha:(B8 n.view was m).asks.length<=100000)(hs:0<=(B8 n.view was m).job.item.key.length):qC 130 [.pz w,.d was.d,.ptr 0 0 77,.ptr 1 0 15] [.c (hC n .e0),.c (mX m)] (.tup []) [.c (hC (As n w (decide (was.phase=5)) (B8 n.view was m)).1 (.d (AC (As n w (decide (was.phase=5)) (B8 n.view was m)).2))),.c (mX m)]:=by
 have c1:=dI n.view was m hb hl hj hm;generalize B8 n.view was m=c at *;have cG:=XB n w (decide (was.phase=5)) c hw ha hx0 hx1 hb hl hn hs;generalize As n w (decide (was.phase=5)) c=r at *;refine zD A4 Tryz.func130 ?_;unfold View.d View.cells Job.d Job.cells Wi.A2.d Wi.A2.cells at c1;unfold Job.d Job.cells at cG|-;unfold hC at cG|-
 by_cases h5:was.phase=5
 .have f1:=A9 h5;rw[qM h5]at cG;have d1:=Ds.mk [0] (cG);refine wd Y8 [] (A6 f1) (A6 @c1) ?_;clear d1;exact⟨⟨[],[.c (hC r.1 (.d (AC r.2))),.c (mX m)],_⟩,(A1.ck rfl),qA,_,_,rfl,rfl,rfl,rfl⟩
 .have f1:=eq_false' h5;rw[qO h5]at cG;have d1:=Ds.mk [0] (cG);refine wd Y8 [] (A6 f1) (A6 @c1) ?_;clear d1;exact⟨⟨[],[.c (hC r.1 (.d (AC r.2))),.c (mX m)],_⟩,(A1.ck rfl),qA,_,_,rfl,rfl,rfl,rfl⟩
theorem Qx(n:Node)(w:Int)(was:Job)(hw:w=5\/w=6\/w=7)(hx0:0<=n.next)(hx1:n.next<16)(hb:n.view.base.length<=1000)(hl:n.view.list.length<=1000)(hn:n.keep.length<=1048576)(hs:0<=was.item.key.length):qC 233 [.pz w,.d was.d,.ptr 0 0 77] [.c (hC n .e0)] (.tup []) [.c (hC (if was.phase=5 then n else(As n w false ⟨C1 (C0 was 100),[],false⟩).1) (.d (AC [])))]:=by
 have cG:=XB n w false ⟨C1 (C0 was 100),[],false⟩ hw (qP _) hx0 hx1 hb hl hn hs;have hq:(As n w false ⟨C1 (C0 was 100),[],false⟩).2=[]:=rfl;rw[hq]at cG;refine zD A4 Tryz.func233 ?_
 by_cases h5:was.phase=5
 .have f1:=A9 h5;rw[if_pos h5];unfold Job.d Job.cells hC;refine wd [0,1,2,4,7] [] (A6 f1) A0 ?_;exact⟨⟨[],[.c (hC n (.d (AC [])))],_⟩,(A1.trans' (A1.KA 0 76 (.sl 16 []) rfl rfl rfl rfl (by simp[AF])) (A1.ck rfl) qA),qA,_,_,rfl,rfl,rfl,rfl⟩
 .have f1:=eq_false' h5;rw[if_neg h5];generalize As n w false ⟨C1 (C0 was 100),[],false⟩=r at *;unfold Job.d Job.cells hC at *;dsimp only[C1,C0]at cG;refine wd [0,1,2,4,7] [3] (A6 f1) A0 ?_;refine Ah (A1.KA 1 13 (.is []) rfl rfl rfl rfl trivial) sm ?_;have cG:=AY.oV (x:=.e0) [.ptr 0 0 77,_,_,_] cG (by repeat'(first|rfl|trivial|refine⟨rfl,rfl,by simp[AF]⟩|refine⟨_,_,rfl,?_,?_⟩|refine⟨_,rfl,?_⟩));simp only[qV,qX]at cG;have d1:=Ds.mk [0] (cG);refine wd [0,1,2,4,7] [] A0 A0 ?_;clear d1;exact⟨⟨[],[.c (hC r.1 (.d (AC [])))],_⟩,(A1.ck rfl),qA,_,_,rfl,rfl,rfl,rfl⟩
theorem Z2(n:Node)(m:A2)(hx0:0<=n.next)(hx1:n.next<16)(hb:n.view.base.length<=1000)(hl:n.view.list.length<=1000)(hn:n.keep.length<=1048576)(hm:AD m)(hj:n.finger.left.length<=100000)(ha:(B8 n.view n.finger m).asks.length<=100000)(hs:0<=(B8 n.view n.finger m).job.item.key.length):qC 212 [.ptr 3 0 1,.ptr 4 0 1,.ptr 2 0 1] [.c (hC n .e0),.c (mX m),.c [.ptr 0 0 77],.c [EW],.c [.pz 5]] (.tup []) [.c (hC (As n 5 (decide (n.finger.phase=5)) (B8 n.view n.finger m)).1 (.d (AC (As n 5 (decide (n.finger.phase=5)) (B8 n.view n.finger m)).2))),.c (mX m),.c [.ptr 0 0 77],.c [EW],.c [.pz 5]]:=by
 have cS:=Ln n;have cJ:=RX n m 5 n.finger (by decide) hx0 hx1 hb hl hn hm hj ha hs;generalize(As n 5 (decide (n.finger.phase=5)) (B8 n.view n.finger m))=r at *;unfold Job.d Job.cells at cJ;unfold hC at cS cJ|-;unfold EW;refine zD A4 Tryz.func212 ?_;have d1:=Ds.mk [0] (cS);have d2:=Ds.mk [0,1] (cJ);refine wd [0,1,2] [] A0 A0 ?_ [(0,6),(1,6)];clear d2 d1;exact⟨⟨[],[.c (hC r.1 (.d (AC r.2))),.c (mX m),.c [.ptr 0 0 77],.c [EW],.c [.pz 5]],_⟩,(A1.ck rfl),qA,_,_,rfl,rfl,rfl,rfl⟩
theorem Z3(n:Node)(m:A2)(hx0:0<=n.next)(hx1:n.next<16)(hb:n.view.base.length<=1000)(hl:n.view.list.length<=1000)(hn:n.keep.length<=1048576)(hm:AD m)(hj:n.mirror.left.length<=100000)(ha:(B8 n.view n.mirror m).asks.length<=100000)(hs:0<=(B8 n.view n.mirror m).job.item.key.length):qC 212 [.ptr 3 0 1,.ptr 4 0 1,.ptr 2 0 1] [.c (hC n .e0),.c (mX m),.c [.ptr 0 0 77],.c [EW],.c [.pz 6]] (.tup []) [.c (hC (As n 6 (decide (n.mirror.phase=5)) (B8 n.view n.mirror m)).1 (.d (AC (As n 6 (decide (n.mirror.phase=5)) (B8 n.view n.mirror m)).2))),.c (mX m),.c [.ptr 0 0 77],.c [EW],.c [.pz 6]]:=by
 have cS:=Lo n;have cJ:=RX n m 6 n.mirror (by decide) hx0 hx1 hb hl hn hm hj ha hs;generalize(As n 6 (decide (n.mirror.phase=5)) (B8 n.view n.mirror m))=r at *;unfold Job.d Job.cells at cJ;unfold hC at cS cJ|-;unfold EW;refine zD A4 Tryz.func212 ?_;have d1:=Ds.mk [0] (cS);have d2:=Ds.mk [0,1] (cJ);refine wd [0,1,2] [] A0 A0 ?_ [(0,6),(1,6)];clear d2 d1;exact⟨⟨[],[.c (hC r.1 (.d (AC r.2))),.c (mX m),.c [.ptr 0 0 77],.c [EW],.c [.pz 6]],_⟩,(A1.ck rfl),qA,_,_,rfl,rfl,rfl,rfl⟩
theorem Z4(n:Node)(m:A2)(hx0:0<=n.next)(hx1:n.next<16)(hb:n.view.base.length<=1000)(hl:n.view.list.length<=1000)(hn:n.keep.length<=1048576)(hm:AD m)(hj:n.client.left.length<=100000)(ha:(B8 n.view n.client m).asks.length<=100000)(hs:0<=(B8 n.view n.client m).job.item.key.length):qC 212 [.ptr 3 0 1,.ptr 4 0 1,.ptr 2 0 1] [.c (hC n .e0),.c (mX m),.c [.ptr 0 0 77],.c [EW],.c [.pz 7]] (.tup []) [.c (hC (As n 7 (decide (n.client.phase=5)) (B8 n.view n.client m)).1 (.d (AC (As n 7 (decide (n.client.phase=5)) (B8 n.view n.client m)).2))),.c (mX m),.c [.ptr 0 0 77],.c [EW],.c [.pz 7]]:=by
 have cS:=Lq n;have cJ:=RX n m 7 n.client (by decide) hx0 hx1 hb hl hn hm hj ha hs;generalize(As n 7 (decide (n.client.phase=5)) (B8 n.view n.client m))=r at *;unfold Job.d Job.cells at cJ;unfold hC at cS cJ|-;unfold EW;refine zD A4 Tryz.func212 ?_;have d1:=Ds.mk [0] (cS);have d2:=Ds.mk [0,1] (cJ);refine wd [0,1,2] [] A0 A0 ?_ [(0,6),(1,6)];clear d2 d1;exact⟨⟨[],[.c (hC r.1 (.d (AC r.2))),.c (mX m),.c [.ptr 0 0 77],.c [EW],.c [.pz 7]],_⟩,(A1.ck rfl),qA,_,_,rfl,rfl,rfl,rfl⟩
theorem YP(n:Node)(hx0:0<=n.next)(hx1:n.next<16)(hb:n.view.base.length<=1000)(hl:n.view.list.length<=1000)(hn:n.keep.length<=1048576)(hs:0<=n.finger.item.key.length):qC 212 [.ptr 2 0 1,.ptr 3 0 1,.ptr 1 0 1] [.c (hC n .e0),.c [.ptr 0 0 77],.c [ER],.c [.pz 5]] (.tup []) [.c (hC (if n.finger.phase=5 then n else(As n 5 false ⟨C1 (C0 n.finger 100),[],false⟩).1) (.d (AC []))),.c [.ptr 0 0 77],.c [ER],.c [.pz 5]]:=by
 have cS:=Ln n;have cJ:=Qx n  5 n.finger (by decide) hx0 hx1 hb hl hn hs;generalize(if n.finger.phase=5 then n else(As n 5 false ⟨C1 (C0 n.finger 100),[],false⟩).1)=r at *;unfold Job.d Job.cells at cJ;unfold hC at cS cJ|-;unfold ER;refine zD A4 Tryz.func212 ?_;have d1:=Ds.mk [0] (cS);have d2:=Ds.mk [0] (cJ);refine wd [0,1,2] [] A0 A0 ?_ [(0,6),(1,6)];clear d2 d1;exact⟨⟨[],[.c (hC r (.d (AC []))),.c [.ptr 0 0 77],.c [ER],.c [.pz 5]],_⟩,(A1.ck rfl),qA,_,_,rfl,rfl,rfl,rfl⟩
theorem YQ(n:Node)(hx0:0<=n.next)(hx1:n.next<16)(hb:n.view.base.length<=1000)(hl:n.view.list.length<=1000)(hn:n.keep.length<=1048576)(hs:0<=n.mirror.item.key.length):qC 212 [.ptr 2 0 1,.ptr 3 0 1,.ptr 1 0 1] [.c (hC n .e0),.c [.ptr 0 0 77],.c [ER],.c [.pz 6]] (.tup []) [.c (hC (if n.mirror.phase=5 then n else(As n 6 false ⟨C1 (C0 n.mirror 100),[],false⟩).1) (.d (AC []))),.c [.ptr 0 0 77],.c [ER],.c [.pz 6]]:=by
 have cS:=Lo n;have cJ:=Qx n  6 n.mirror (by decide) hx0 hx1 hb hl hn hs;generalize(if n.mirror.phase=5 then n else(As n 6 false ⟨C1 (C0 n.mirror 100),[],false⟩).1)=r at *;unfold Job.d Job.cells at cJ;unfold hC at cS cJ|-;unfold ER;refine zD A4 Tryz.func212 ?_;have d1:=Ds.mk [0] (cS);have d2:=Ds.mk [0] (cJ);refine wd [0,1,2] [] A0 A0 ?_ [(0,6),(1,6)];clear d2 d1;exact⟨⟨[],[.c (hC r (.d (AC []))),.c [.ptr 0 0 77],.c [ER],.c [.pz 6]],_⟩,(A1.ck rfl),qA,_,_,rfl,rfl,rfl,rfl⟩
theorem YR(n:Node)(hx0:0<=n.next)(hx1:n.next<16)(hb:n.view.base.length<=1000)(hl:n.view.list.length<=1000)(hn:n.keep.length<=1048576)(hs:0<=n.client.item.key.length):qC 212 [.ptr 2 0 1,.ptr 3 0 1,.ptr 1 0 1] [.c (hC n .e0),.c [.ptr 0 0 77],.c [ER],.c [.pz 7]] (.tup []) [.c (hC (if n.client.phase=5 then n else(As n 7 false ⟨C1 (C0 n.client 100),[],false⟩).1) (.d (AC []))),.c [.ptr 0 0 77],.c [ER],.c [.pz 7]]:=by
 have cS:=Lq n;have cJ:=Qx n  7 n.client (by decide) hx0 hx1 hb hl hn hs;generalize(if n.client.phase=5 then n else(As n 7 false ⟨C1 (C0 n.client 100),[],false⟩).1)=r at *;unfold Job.d Job.cells at cJ;unfold hC at cS cJ|-;unfold ER;refine zD A4 Tryz.func212 ?_;have d1:=Ds.mk [0] (cS);have d2:=Ds.mk [0] (cJ);refine wd [0,1,2] [] A0 A0 ?_ [(0,6),(1,6)];clear d2 d1;exact⟨⟨[],[.c (hC r (.d (AC []))),.c [.ptr 0 0 77],.c [ER],.c [.pz 7]],_⟩,(A1.ck rfl),qA,_,_,rfl,rfl,rfl,rfl⟩
abbrev BK:List Nat:=[0,1,2,3,4,5,6,7,8,9,10,11,12,33]
theorem hx(n:Node)(c:Call)(m:A2)(h:Hp n)(hw:NO c.why [1,2,3,5,6,7]=true):qB 49 [n.d,c.d,m.d] (.tup [n.d,AC []]):=by
 obtain⟨cid,msg,why,ref,sent,tries⟩:=c;dsimp only at hw;have cO:=Ax n h;have cR:=Az n h;have cT:=C7 n m;refine zF A4 Tryz.func49 ?_;unfold Node.d Node.cells View.cells Calls.cells Job.cells Call.d Call.cells Wi.A2.d Wi.A2.cells at *;unfold hC LO J0 EW at *;have d1:=Ds.mk [4,2] (cT);have lk1:=hw;refine wd BK [5] A0 (A6 @cO) ?_ [(3,2),(4,2)] true;clear lk1 d1;refine wd BK [] A0 A0 ?_ [(2,4),(3,4)] true;exact zE
theorem hno1(n:Node)(c:Call)(m:A2)(h:Hp n)(hw:c.why=1)(hr:Ak n=false):qB 49 [n.d,c.d,m.d] (.tup [n.d,AC []]):=by
 obtain⟨cid,msg,why,ref,sent,tries⟩:=c;dsimp only at hw;subst hw;have cO:=Ax n h;have cR:=Az n h;rw[hr]at cR;have cT:=C7 n m;refine zF A4 Tryz.func49 ?_;unfold Node.d Node.cells View.cells Calls.cells Job.cells Call.d Call.cells Wi.A2.d Wi.A2.cells at *;unfold hC LO J0 EW at *;have d1:=Ds.mk [4,2] (cT);refine wd BK [5] A0 (A6 @cO) ?_ [(3,2),(4,2)] true;clear d1;refine wd BK [] A0 (A6 @cR) ?_ [(2,4),(3,4)] true;exact zE
theorem hno2(n:Node)(c:Call)(m:A2)(h:Hp n)(hw:c.why=2)(hr:Ak n=false):qB 49 [n.d,c.d,m.d] (.tup [n.d,AC []]):=by
 obtain⟨cid,msg,why,ref,sent,tries⟩:=c;dsimp only at hw;subst hw;have cO:=Ax n h;have cR:=Az n h;rw[hr]at cR;have cT:=C7 n m;refine zF A4 Tryz.func49 ?_;unfold Node.d Node.cells View.cells Calls.cells Job.cells Call.d Call.cells Wi.A2.d Wi.A2.cells at *;unfold hC LO J0 EW at *;have d1:=Ds.mk [4,2] (cT);refine wd BK [5] A0 (A6 @cO) ?_ [(3,2),(4,2)] true;clear d1;refine wd BK [] A0 (A6 @cR) ?_ [(2,4),(3,4)] true;exact zE
theorem hno3(n:Node)(c:Call)(m:A2)(h:Hp n)(hw:c.why=3)(hr:Ak n=false):qB 49 [n.d,c.d,m.d] (.tup [n.d,AC []]):=by
 obtain⟨cid,msg,why,ref,sent,tries⟩:=c;dsimp only at hw;subst hw;have cO:=Ax n h;have cR:=Az n h;rw[hr]at cR;have cT:=C7 n m;refine zF A4 Tryz.func49 ?_;unfold Node.d Node.cells View.cells Calls.cells Job.cells Call.d Call.cells Wi.A2.d Wi.A2.cells at *;unfold hC LO J0 EW at *;have d1:=Ds.mk [4,2] (cT);refine wd BK [5] A0 (A6 @cO) ?_ [(3,2),(4,2)] true;clear d1;refine wd BK [] A0 (A6 @cR) ?_ [(2,4),(3,4)] true;exact zE
theorem hno5(n:Node)(c:Call)(m:A2)(h:Hp n)(hw:c.why=5)(hr:Ak n=false):qB 49 [n.d,c.d,m.d] (.tup [n.d,AC []]):=by
 obtain⟨cid,msg,why,ref,sent,tries⟩:=c;dsimp only at hw;subst hw;have cO:=Ax n h;have cR:=Az n h;rw[hr]at cR;have cT:=C7 n m;refine zF A4 Tryz.func49 ?_;unfold Node.d Node.cells View.cells Calls.cells Job.cells Call.d Call.cells Wi.A2.d Wi.A2.cells at *;unfold hC LO J0 EW at *;have d1:=Ds.mk [4,2] (cT);refine wd BK [5] A0 (A6 @cO) ?_ [(3,2),(4,2)] true;clear d1;refine wd BK [] A0 (A6 @cR) ?_ [(2,4),(3,4)] true;exact zE
theorem hno6(n:Node)(c:Call)(m:A2)(h:Hp n)(hw:c.why=6)(hr:Ak n=false):qB 49 [n.d,c.d,m.d] (.tup [n.d,AC []]):=by
 obtain⟨cid,msg,why,ref,sent,tries⟩:=c;dsimp only at hw;subst hw;have cO:=Ax n h;have cR:=Az n h;rw[hr]at cR;have cT:=C7 n m;refine zF A4 Tryz.func49 ?_;unfold Node.d Node.cells View.cells Calls.cells Job.cells Call.d Call.cells Wi.A2.d Wi.A2.cells at *;unfold hC LO J0 EW at *;have d1:=Ds.mk [4,2] (cT);refine wd BK [5] A0 (A6 @cO) ?_ [(3,2),(4,2)] true;clear d1;refine wd BK [] A0 (A6 @cR) ?_ [(2,4),(3,4)] true;exact zE
theorem hno7(n:Node)(c:Call)(m:A2)(h:Hp n)(hw:c.why=7)(hr:Ak n=false):qB 49 [n.d,c.d,m.d] (.tup [n.d,AC []]):=by
 obtain⟨cid,msg,why,ref,sent,tries⟩:=c;dsimp only at hw;subst hw;have cO:=Ax n h;have cR:=Az n h;rw[hr]at cR;have cT:=C7 n m;refine zF A4 Tryz.func49 ?_;unfold Node.d Node.cells View.cells Calls.cells Job.cells Call.d Call.cells Wi.A2.d Wi.A2.cells at *;unfold hC LO J0 EW at *;have d1:=Ds.mk [4,2] (cT);refine wd BK [5] A0 (A6 @cO) ?_ [(3,2),(4,2)] true;clear d1;refine wd BK [] A0 (A6 @cR) ?_ [(2,4),(3,4)] true;exact zE
theorem hok1(n:Node)(c:Call)(m:A2)(h:Hp n)(hw:c.why=1)(hr:Ak n=true)(hm:AD m)(h0:0<=n.phase):qB 49 [n.d,c.d,m.d] (.tup [(ju n m).d,AC (Bv n.view n.phase n.of_ m).2]):=by
 obtain⟨cid,msg,why,ref,sent,tries⟩:=c;dsimp only at hw;subst hw;have cO:=Ax n h;have cR:=Az n h;rw[hr]at cR;have cT:=C7 n m;have cE:=RY n m h0 h.vb h.vl hm;unfold ju at *;generalize Bv n.view n.phase n.of_ m=r at *;refine zF A4 Tryz.func49 ?_;unfold Node.d Node.cells View.cells Calls.cells Job.cells Call.d Call.cells Wi.A2.d Wi.A2.cells at *;unfold hC LO J0 EW at *;have d1:=Ds.mk [4,2] (cT);refine wd BK [5] A0 (A6 @cO) ?_ [(3,2),(4,2)] true;clear d1;have d1:=Ds.mk [4,2] (cE);refine wd BK [] A0 (A6 @cR) ?_ [(2,4),(3,4)] true;clear d1;exact zE
theorem hok2(n:Node)(c:Call)(m:A2)(h:Hp n)(hw:c.why=2)(hr:Ak n=true)(hm:AD m)(h0:0<=n.phase):qB 49 [n.d,c.d,m.d] (.tup [(ju n m).d,AC (Bv n.view n.phase n.of_ m).2]):=by
 obtain⟨cid,msg,why,ref,sent,tries⟩:=c;dsimp only at hw;subst hw;have cO:=Ax n h;have cR:=Az n h;rw[hr]at cR;have cT:=C7 n m;have cE:=RY n m h0 h.vb h.vl hm;unfold ju at *;generalize Bv n.view n.phase n.of_ m=r at *;refine zF A4 Tryz.func49 ?_;unfold Node.d Node.cells View.cells Calls.cells Job.cells Call.d Call.cells Wi.A2.d Wi.A2.cells at *;unfold hC LO J0 EW at *;have d1:=Ds.mk [4,2] (cT);refine wd BK [5] A0 (A6 @cO) ?_ [(3,2),(4,2)] true;clear d1;have d1:=Ds.mk [4,2] (cE);refine wd BK [] A0 (A6 @cR) ?_ [(2,4),(3,4)] true;clear d1;exact zE
theorem hok3(n:Node)(c:Call)(m:A2)(h:Hp n)(hw:c.why=3)(hr:Ak n=true)(hm:AD m)(h0:0<=n.phase):qB 49 [n.d,c.d,m.d] (.tup [(ju n m).d,AC (Bv n.view n.phase n.of_ m).2]):=by
 obtain⟨cid,msg,why,ref,sent,tries⟩:=c;dsimp only at hw;subst hw;have cO:=Ax n h;have cR:=Az n h;rw[hr]at cR;have cT:=C7 n m;have cE:=RY n m h0 h.vb h.vl hm;unfold ju at *;generalize Bv n.view n.phase n.of_ m=r at *;refine zF A4 Tryz.func49 ?_;unfold Node.d Node.cells View.cells Calls.cells Job.cells Call.d Call.cells Wi.A2.d Wi.A2.cells at *;unfold hC LO J0 EW at *;have d1:=Ds.mk [4,2] (cT);refine wd BK [5] A0 (A6 @cO) ?_ [(3,2),(4,2)] true;clear d1;have d1:=Ds.mk [4,2] (cE);refine wd BK [] A0 (A6 @cR) ?_ [(2,4),(3,4)] true;clear d1;exact zE
theorem hok5(n:Node)(c:Call)(m:A2)(h:Hp n)(hw:c.why=5)(hr:Ak n=true)(hx0:0<=n.next)(hx1:n.next<16)(hm:AD m)(hj:n.finger.left.length<=100000)(ha:(B8 n.view n.finger m).asks.length<=100000)(hs:0<=(B8 n.view n.finger m).job.item.key.length):qB 49 [n.d,c.d,m.d] (.tup [(As n 5 (decide (n.finger.phase=5)) (B8 n.view n.finger m)).1.d,AC (As n 5 (decide (n.finger.phase=5)) (B8 n.view n.finger m)).2]):=by
 obtain⟨cid,msg,why,ref,sent,tries⟩:=c;dsimp only at hw;subst hw;have cO:=Ax n h;have cR:=Az n h;rw[hr]at cR;have cT:=C7 n m;have cE:=Z2 n m hx0 hx1 h.vb h.vl h.kn hm hj ha hs;generalize(As n 5 (decide (n.finger.phase=5)) (B8 n.view n.finger m))=r at *;refine zF A4 Tryz.func49 ?_;unfold Node.d Node.cells View.cells Calls.cells Job.cells Call.d Call.cells Wi.A2.d Wi.A2.cells at *;unfold hC LO J0 EW at *;have d1:=Ds.mk [4,2] (cT);refine wd BK [5] A0 (A6 @cO) ?_ [(3,2),(4,2)] true;clear d1;have d1:=Ds.mk [4,2,5,6,8] (cE);refine wd BK [] A0 (A6 @cR) ?_ [(2,4),(3,4)] true;clear d1;exact zE
theorem hok6(n:Node)(c:Call)(m:A2)(h:Hp n)(hw:c.why=6)(hr:Ak n=true)(hx0:0<=n.next)(hx1:n.next<16)(hm:AD m)(hj:n.mirror.left.length<=100000)(ha:(B8 n.view n.mirror m).asks.length<=100000)(hs:0<=(B8 n.view n.mirror m).job.item.key.length):qB 49 [n.d,c.d,m.d] (.tup [(As n 6 (decide (n.mirror.phase=5)) (B8 n.view n.mirror m)).1.d,AC (As n 6 (decide (n.mirror.phase=5)) (B8 n.view n.mirror m)).2]):=by
 obtain⟨cid,msg,why,ref,sent,tries⟩:=c;dsimp only at hw;subst hw;have cO:=Ax n h;have cR:=Az n h;rw[hr]at cR;have cT:=C7 n m;have cE:=Z3 n m hx0 hx1 h.vb h.vl h.kn hm hj ha hs;generalize(As n 6 (decide (n.mirror.phase=5)) (B8 n.view n.mirror m))=r at *;refine zF A4 Tryz.func49 ?_;unfold Node.d Node.cells View.cells Calls.cells Job.cells Call.d Call.cells Wi.A2.d Wi.A2.cells at *;unfold hC LO J0 EW at *;have d1:=Ds.mk [4,2] (cT);refine wd BK [5] A0 (A6 @cO) ?_ [(3,2),(4,2)] true;clear d1;have d1:=Ds.mk [4,2,5,6,9] (cE);refine wd BK [] A0 (A6 @cR) ?_ [(2,4),(3,4)] true;clear d1;exact zE
theorem hok7(n:Node)(c:Call)(m:A2)(h:Hp n)(hw:c.why=7)(hr:Ak n=true)(hx0:0<=n.next)(hx1:n.next<16)(hm:AD m)(hj:n.client.left.length<=100000)(ha:(B8 n.view n.client m).asks.length<=100000)(hs:0<=(B8 n.view n.client m).job.item.key.length):qB 49 [n.d,c.d,m.d] (.tup [(As n 7 (decide (n.client.phase=5)) (B8 n.view n.client m)).1.d,AC (As n 7 (decide (n.client.phase=5)) (B8 n.view n.client m)).2]):=by
 obtain⟨cid,msg,why,ref,sent,tries⟩:=c;dsimp only at hw;subst hw;have cO:=Ax n h;have cR:=Az n h;rw[hr]at cR;have cT:=C7 n m;have cE:=Z4 n m hx0 hx1 h.vb h.vl h.kn hm hj ha hs;generalize(As n 7 (decide (n.client.phase=5)) (B8 n.view n.client m))=r at *;refine zF A4 Tryz.func49 ?_;unfold Node.d Node.cells View.cells Calls.cells Job.cells Call.d Call.cells Wi.A2.d Wi.A2.cells at *;unfold hC LO J0 EW at *;have d1:=Ds.mk [4,2] (cT);refine wd BK [5] A0 (A6 @cO) ?_ [(3,2),(4,2)] true;clear d1;have d1:=Ds.mk [4,2,5,6,10] (cE);refine wd BK [] A0 (A6 @cR) ?_ [(2,4),(3,4)] true;clear d1;exact zE
abbrev Dp:List Nat:=[0,1,2,4,5,6,7,8,9,29]
theorem bx(n:Node)  (w:Int)(h:Hp n)(hw:NO w [1,2,3,5,6,7]=true):qB 154 [n.d,.i .u8 w] n.d:=by
 have cO:=Ax n h;have cR:=Az n h;have cT:=C6 n;refine zF A4 Tryz.func154 ?_;unfold Node.d Node.cells View.cells Calls.cells Job.cells at *;unfold hC L5 Iq ER at *;have d1:=Ds.mk [2] (cT);have lk1:=hw;refine wd Dp [] A0 (A6 @cO) ?_ [] true;clear lk1 d1;exact zE
theorem bno1(n:Node)  (h:Hp n)(hr:Ak n=false):qB 154 [n.d,.i .u8 1] n.d:=by
 have cO:=Ax n h;have cR:=Az n h;rw[hr]at cR;have cT:=C6 n;refine zF A4 Tryz.func154 ?_;unfold Node.d Node.cells View.cells Calls.cells Job.cells at *;unfold hC L5 Iq ER at *;have d1:=Ds.mk [2] (cT);refine wd Dp [] A0 (AX @cO @cR) ?_ [] true;clear d1;exact zE
theorem bno2(n:Node)  (h:Hp n)(hr:Ak n=false):qB 154 [n.d,.i .u8 2] n.d:=by
 have cO:=Ax n h;have cR:=Az n h;rw[hr]at cR;have cT:=C6 n;refine zF A4 Tryz.func154 ?_;unfold Node.d Node.cells View.cells Calls.cells Job.cells at *;unfold hC L5 Iq ER at *;have d1:=Ds.mk [2] (cT);refine wd Dp [] A0 (AX @cO @cR) ?_ [] true;clear d1;exact zE
theorem bno3(n:Node)  (h:Hp n)(hr:Ak n=false):qB 154 [n.d,.i .u8 3] n.d:=by
 have cO:=Ax n h;have cR:=Az n h;rw[hr]at cR;have cT:=C6 n;refine zF A4 Tryz.func154 ?_;unfold Node.d Node.cells View.cells Calls.cells Job.cells at *;unfold hC L5 Iq ER at *;have d1:=Ds.mk [2] (cT);refine wd Dp [] A0 (AX @cO @cR) ?_ [] true;clear d1;exact zE
theorem bno5(n:Node)  (h:Hp n)(hr:Ak n=false):qB 154 [n.d,.i .u8 5] n.d:=by
 have cO:=Ax n h;have cR:=Az n h;rw[hr]at cR;have cT:=C6 n;refine zF A4 Tryz.func154 ?_;unfold Node.d Node.cells View.cells Calls.cells Job.cells at *;unfold hC L5 Iq ER at *;have d1:=Ds.mk [2] (cT);refine wd Dp [] A0 (AX @cO @cR) ?_ [] true;clear d1;exact zE
theorem bno6(n:Node)  (h:Hp n)(hr:Ak n=false):qB 154 [n.d,.i .u8 6] n.d:=by
 have cO:=Ax n h;have cR:=Az n h;rw[hr]at cR;have cT:=C6 n;refine zF A4 Tryz.func154 ?_;unfold Node.d Node.cells View.cells Calls.cells Job.cells at *;unfold hC L5 Iq ER at *;have d1:=Ds.mk [2] (cT);refine wd Dp [] A0 (AX @cO @cR) ?_ [] true;clear d1;exact zE
theorem bno7(n:Node)  (h:Hp n)(hr:Ak n=false):qB 154 [n.d,.i .u8 7] n.d:=by
 have cO:=Ax n h;have cR:=Az n h;rw[hr]at cR;have cT:=C6 n;refine zF A4 Tryz.func154 ?_;unfold Node.d Node.cells View.cells Calls.cells Job.cells at *;unfold hC L5 Iq ER at *;have d1:=Ds.mk [2] (cT);refine wd Dp [] A0 (AX @cO @cR) ?_ [] true;clear d1;exact zE
theorem bok1(n:Node)  (h:Hp n)(hr:Ak n=true):qB 154 [n.d,.i .u8 1] (jl n).d:=by
 have cO:=Ax n h;have cR:=Az n h;rw[hr]at cR;have cT:=C6 n;have cE:=Qy n;unfold jl at *;refine zF A4 Tryz.func154 ?_;unfold Node.d Node.cells View.cells Calls.cells Job.cells at *;unfold hC L5 Iq ER at *;have d1:=Ds.mk [2] (cT);have d2:=Ds.mk [2] (cE);refine wd Dp [] A0 (AX @cO @cR) ?_ [] true;clear d2 d1;exact zE
theorem bok2(n:Node)  (h:Hp n)(hr:Ak n=true):qB 154 [n.d,.i .u8 2] (jl n).d:=by
 have cO:=Ax n h;have cR:=Az n h;rw[hr]at cR;have cT:=C6 n;have cE:=Qy n;unfold jl at *;refine zF A4 Tryz.func154 ?_;unfold Node.d Node.cells View.cells Calls.cells Job.cells at *;unfold hC L5 Iq ER at *;have d1:=Ds.mk [2] (cT);have d2:=Ds.mk [2] (cE);refine wd Dp [] A0 (AX @cO @cR) ?_ [] true;clear d2 d1;exact zE
theorem bok3(n:Node)  (h:Hp n)(hr:Ak n=true):qB 154 [n.d,.i .u8 3] (jl n).d:=by
 have cO:=Ax n h;have cR:=Az n h;rw[hr]at cR;have cT:=C6 n;have cE:=Qy n;unfold jl at *;refine zF A4 Tryz.func154 ?_;unfold Node.d Node.cells View.cells Calls.cells Job.cells at *;unfold hC L5 Iq ER at *;have d1:=Ds.mk [2] (cT);have d2:=Ds.mk [2] (cE);refine wd Dp [] A0 (AX @cO @cR) ?_ [] true;clear d2 d1;exact zE
theorem bok5(n:Node)  (h:Hp n)(hr:Ak n=true)(hx0:0<=n.next)(hx1:n.next<16)(hs:0<=n.finger.item.key.length):qB 154 [n.d,.i .u8 5] (if n.finger.phase=5 then n else(As n 5 false ⟨C1 (C0 n.finger 100),[],false⟩).1).d:=by
 have cO:=Ax n h;have cR:=Az n h;rw[hr]at cR;have cT:=C6 n;have cE:=YP n hx0 hx1 h.vb h.vl h.kn hs;generalize(if n.finger.phase=5 then n else(As n 5 false ⟨C1 (C0 n.finger 100),[],false⟩).1)=r at *;refine zF A4 Tryz.func154 ?_;unfold Node.d Node.cells View.cells Calls.cells Job.cells at *;unfold hC L5 Iq ER at *;have d1:=Ds.mk [2] (cT);have d2:=Ds.mk [2,3,4,6] (cE);refine wd Dp [] A0 (AX @cO @cR) ?_ [] true;clear d2 d1;exact zE
theorem bok6(n:Node)  (h:Hp n)(hr:Ak n=true)(hx0:0<=n.next)(hx1:n.next<16)(hs:0<=n.mirror.item.key.length):qB 154 [n.d,.i .u8 6] (if n.mirror.phase=5 then n else(As n 6 false ⟨C1 (C0 n.mirror 100),[],false⟩).1).d:=by
 have cO:=Ax n h;have cR:=Az n h;rw[hr]at cR;have cT:=C6 n;have cE:=YQ n hx0 hx1 h.vb h.vl h.kn hs;generalize(if n.mirror.phase=5 then n else(As n 6 false ⟨C1 (C0 n.mirror 100),[],false⟩).1)=r at *;refine zF A4 Tryz.func154 ?_;unfold Node.d Node.cells View.cells Calls.cells Job.cells at *;unfold hC L5 Iq ER at *;have d1:=Ds.mk [2] (cT);have d2:=Ds.mk [2,3,4,7] (cE);refine wd Dp [] A0 (AX @cO @cR) ?_ [] true;clear d2 d1;exact zE
theorem bok7(n:Node)  (h:Hp n)(hr:Ak n=true)(hx0:0<=n.next)(hx1:n.next<16)(hs:0<=n.client.item.key.length):qB 154 [n.d,.i .u8 7] (if n.client.phase=5 then n else(As n 7 false ⟨C1 (C0 n.client 100),[],false⟩).1).d:=by
 have cO:=Ax n h;have cR:=Az n h;rw[hr]at cR;have cT:=C6 n;have cE:=YR n hx0 hx1 h.vb h.vl h.kn hs;generalize(if n.client.phase=5 then n else(As n 7 false ⟨C1 (C0 n.client 100),[],false⟩).1)=r at *;refine zF A4 Tryz.func154 ?_;unfold Node.d Node.cells View.cells Calls.cells Job.cells at *;unfold hC L5 Iq ER at *;have d1:=Ds.mk [2] (cT);have d2:=Ds.mk [2,3,4,8] (cE);refine wd Dp [] A0 (AX @cO @cR) ?_ [] true;clear d2 d1;exact zE
theorem ic:∀l:List Int,(IS l).length<=3
 |[]=>by simp[IS]
 |[a]=>by simp[IS]
 |[a,b]=>by simp only[IS];split<;>simp
 |a::b::c::_=>by simp only[IS,qY,qj];split<;>split<;>simp
theorem Rh(id:Int)(j:Job)(owner:Int)(l:List Int):(HY id j owner l).asks.length<=3/\(HY id j owner l).job.item=j.item/\(HY id j owner l).job.left.length<=3:=by
 unfold HY;dsimp only;have h:=ic (owner::l);have h2:=List.length_filter_le (fun p=>p !=id) (IS (owner::l));rw[rZ];exact⟨om,rfl,om⟩
theorem iM(v:View)(j:Job):(Eg v j).asks.length<=3/\(Eg v j).job.item=j.item/\(Eg v j).job.left.length<=j.left.length+3:=by
 unfold Eg;split
 .exact⟨qP _,rfl,qP _⟩
 split
 .refine⟨?_,rfl,by dsimp only;omega⟩;dsimp only;split<;>simp
 split
 .exact⟨qP _,rfl,qP _⟩
 split
 .have:=Rh v.id ⟨j.what,j.phase,j.look,j.item,j.look.at_,j.left,j.code⟩ j.look.at_ v.list;exact⟨this.1,this.2.1,om⟩
 split
 .exact⟨sm,rfl,by dsimp only;omega⟩
 split
 .exact⟨qP _,rfl,qP _⟩
 .exact⟨sm,rfl,by dsimp only;omega⟩
theorem XM(j:Job)(p e:Int):(Eh j p e).item=j.item/\(Eh j p e).left.length<=j.left.length:=by
 unfold Eh;split
 .refine⟨rfl,?_⟩;dsimp only;unfold EF;exact List.length_filter_le _ _
 .exact⟨rfl,qG _⟩
theorem LU(v:View)(j:Job)(m:A2)(K:Nat)(hj:j.item.key.length<=K)(hm:m.item.key.length<=K):(B8 v j m).asks.length<=3/\(B8 v j m).job.item.key.length<=K/\(B8 v j m).job.left.length<=j.left.length+3:=by
 have h0:(JC.mk j [] false).asks.length<=3/\(JC.mk j [] false).job.item.key.length<=K/\(JC.mk j [] false).job.left.length<=j.left.length+3:=⟨qP _,hj,by dsimp only;omega⟩;unfold B8;split
 .split
  .split
   .have:=iM v ⟨j.what,j.phase,N6 v j.look m,j.item,j.owner,j.left,j.code⟩;exact⟨this.1,by rw[this.2.1];exact hj,this.2.2⟩
   .exact h0
  split
  .split
   .have:=Rh v.id j j.owner m.list;exact⟨this.1,by rw[this.2.1];exact hj,om⟩
   .exact h0
  split
  .split
   .have:=XM j m.src m.code;exact⟨qP _,by dsimp only;rw[this.1];exact hj,by dsimp only;omega⟩
   .exact h0
  split
  .split
   .refine⟨qP _,?_,qP _⟩;dsimp only;split
    .exact hm
    .exact hj
   .exact h0
  .exact h0
 .exact h0
structure HOk (n:Node):Prop where
 ok:Hp n
 h0:0<=n.phase
 l5:n.finger.left.length<=1000
 l6:n.mirror.left.length<=1000
 l7:n.client.left.length<=1000
 k5:0<=n.finger.item.key.length
 k6:0<=n.mirror.item.key.length
 k7:0<=n.client.item.key.length
theorem SU{w:Int}(h1:¬(1<=w/\w<=3))(h2:¬(5<=w/\w<=7)):NO w [1,2,3,5,6,7]=true:=by
 simp only[NO];simp;omega
theorem cq(n:Node)(h:HOk n)(c:Call)(m:A2)(hm:AD m)(hk:0<=m.item.key.length):qB 49 [n.d,c.d,m.d] (.tup [(BS n c m).1.d,AC (BS n c m).2]):=by
 unfold BS
 cases hr:Ak n with
 |false=>
  rw[if_neg (by decide)]
  by_cases a1:1<=c.why/\c.why<=3
  .have:c.why=1\/c.why=2\/c.why=3:=om
   rcases this with e|e|e
   .exact hno1 n c m h.ok e hr
   .exact hno2 n c m h.ok e hr
   .exact hno3 n c m h.ok e hr
  by_cases a2:5<=c.why/\c.why<=7
  .have:c.why=5\/c.why=6\/c.why=7:=om
   rcases this with e|e|e
   .exact hno5 n c m h.ok e hr
   .exact hno6 n c m h.ok e hr
   .exact hno7 n c m h.ok e hr
  exact hx n c m h.ok (SU a1 a2)
 |true=>
  obtain⟨x0,x1⟩:=dm hr;rw[if_pos rfl]
  by_cases a1:1<=c.why/\c.why<=3
  .rw[if_pos a1];have:c.why=1\/c.why=2\/c.why=3:=om
   rcases this with e|e|e
   .exact hok1 n c m h.ok e hr hm h.h0
   .exact hok2 n c m h.ok e hr hm h.h0
   .exact hok3 n c m h.ok e hr hm h.h0
  rw[if_neg a1]
  by_cases a2:5<=c.why/\c.why<=7
  .rw[if_pos a2];have:c.why=5\/c.why=6\/c.why=7:=om
   rcases this with e|e|e
   .have hn:=LU n.view n.finger m (n.finger.item.key.length+m.item.key.length) (Nat.le_add_right ..) (Nat.le_add_left ..);have:=hok5 n c m h.ok e hr x0 x1 hm (by have:=h.l5;omega) om om;rw[e];exact this
   .have hn:=LU n.view n.mirror m (n.mirror.item.key.length+m.item.key.length) (Nat.le_add_right ..) (Nat.le_add_left ..);have:=hok6 n c m h.ok e hr x0 x1 hm (by have:=h.l6;omega) om om;rw[e];exact this
   .have hn:=LU n.view n.client m (n.client.item.key.length+m.item.key.length) (Nat.le_add_right ..) (Nat.le_add_left ..);have:=hok7 n c m h.ok e hr x0 x1 hm (by have:=h.l7;omega) om om;rw[e];exact this
  rw[if_neg a2];exact hx n c m h.ok (SU a1 a2)
theorem OK(n:Node)(w:Int)(j:Job)(hj:IQ n w=j):(if(5<=w/\w<=7)/\(IQ n w).phase≠5 then(As n w false ⟨C1 (C0 (IQ n w) 100),[],false⟩).1 else n)=if(5<=w/\w<=7)then(if j.phase=5 then n else(As n w false ⟨C1 (C0 j 100),[],false⟩).1)else n:=by
 rw[hj]
 by_cases a:5<=w/\w<=7
 .rw[if_pos a]
  by_cases b:j.phase=5
  .rw[if_pos b,if_neg (fun h=>h.2 b)]
  .rw[if_neg b,if_pos ⟨a,b⟩]
 .rw[if_neg a,if_neg (fun h=>a h.1)]
theorem hZ(n:Node)(h:HOk n)(w:Int):qB 154 [n.d,.i .u8 w] (Ee n w).d:=by
 unfold Ee
 cases hr:Ak n with
 |false=>
  rw[if_neg (by decide)]
  by_cases a1:1<=w/\w<=3
  .have:w=1\/w=2\/w=3:=om
   rcases this with e|e|e
   .subst e;exact bno1 n h.ok hr
   .subst e;exact bno2 n h.ok hr
   .subst e;exact bno3 n h.ok hr
  by_cases a2:5<=w/\w<=7
  .have:w=5\/w=6\/w=7:=om
   rcases this with e|e|e
   .subst e;exact bno5 n h.ok hr
   .subst e;exact bno6 n h.ok hr
   .subst e;exact bno7 n h.ok hr
  exact bx n w h.ok (SU a1 a2)
 |true=>
  obtain⟨x0,x1⟩:=dm hr;rw[if_pos rfl]
  by_cases a1:1<=w/\w<=3
  .rw[if_pos a1];have:w=1\/w=2\/w=3:=om
   rcases this with e|e|e
   .subst e;exact bok1 n h.ok hr
   .subst e;exact bok2 n h.ok hr
   .subst e;exact bok3 n h.ok hr
  rw[if_neg a1]
  by_cases a2:5<=w/\w<=7
  .have:w=5\/w=6\/w=7:=om
   rcases this with e|e|e
   .subst e;rw[OK n 5 n.finger rfl,if_pos a2];exact bok5 n h.ok hr x0 x1 (by have:=h.k5;omega)
   .subst e;rw[OK n 6 n.mirror rfl,if_pos a2];exact bok6 n h.ok hr x0 x1 (by have:=h.k6;omega)
   .subst e;rw[OK n 7 n.client rfl,if_pos a2];exact bok7 n h.ok hr x0 x1 (by have:=h.k7;omega)
  rw[if_neg (fun h=>a2 h.1)];exact bx n w h.ok (SU a1 a2)
abbrev Sc:List Nat:=[0,1,2,3,4,5,12,17,30]
theorem Dr{α:Type}[BEq α][LawfulBEq α](a:α):(a==a)=true:=beq_self_eq_true a
theorem ef(a:Call)(ha:AD a.msg):qB 218 [a.d,a.d] (.b true):=by
 have c1:=Wi.UR a.msg a.msg (lm ha);rw[qM rfl]at c1;obtain⟨i,m,w,r,s,t⟩:=a;have f1:=Dr i;have f2:=Dr w;have f3:=Dr r;have f4:=Dr s;have f5:=Dr t;unfold Wi.A2.d Wi.A2.cells at c1;refine zF A4 Tryz.func218 ?_;unfold Call.d Call.cells;refine wd [0,1,2,3,4] [] (NU f1 f2 f3 f4 f5) (A6 @c1) ?_;exact zE
theorem Zr(a:List Call)(ha:∀x∈a,AD x.msg)(hn:a.length<=1048576):qB 141 [AN a,AN a] (.b true):=by
 have f1:=Dr (a.length:Int);refine zF A4 Tryz.func141 ?_;refine wd [0,1,4,5,10,14,26] [] (A6 f1) A0 ?_;refine CF (fun k=>k<=a.length) (fun k:Nat=>[(5,.pY k)]) (fun k=>a.length-k) 0 (qP _) (fun _=>rfl) ?_ ?_
 .exact A1.ck rfl
 rintro k hk
 by_cases hkl:k<a.length
 .obtain⟨x,hx⟩:=AT hkl;have c1:=ef x (ha x (rE hx));unfold Call.d Call.cells at c1;have ix1:=hx;refine wd [0,1,4,5,10,14,26] [] A0 (A6 @c1) ?_;clear ix1;with_reducible repeat' first|constructor|intro hc;try simp only[AB]at hc
  refine⟨k+1,hkl,om,qG _,?_⟩;exact A1.ck rfl
 .have e:k=a.length:=om
  subst e;refine wd [0,1,4,5,10,14,26] [] A0 A0 ?_;with_reducible repeat' first|constructor|intro hc;try simp only[AB]at hc
  exact zE
theorem Vz(c:Calls)(ha:∀x∈c.op,AD x.msg)(hn:c.op.length<=1048576):qB 56 [c.d,c.d] (.b true):=by
 have c1:=Zr c.op ha hn;obtain⟨i,m,o⟩:=c;have f1:=Dr i;have f2:=Dr m;refine zF A4 Tryz.func56 ?_;unfold Calls.d Calls.cells;refine wd [0,1,2,3,4] [] (AX f1 f2) (A6 @c1) ?_;exact zE
theorem ei(a:List Past)(ha:∀x∈a,AD x.told)(hn:a.length<=1048576):qB 57 [AH a,AH a] (.b true):=by
 have f1:=Dr (a.length:Int);refine zF A4 Tryz.func57 ?_;refine wd [0,1,4,5,10,14,54] [] (A6 f1) A0 ?_;refine CF (fun k=>k<=a.length) (fun k:Nat=>[(5,.pY k)]) (fun k=>a.length-k) 0 (qP _) (fun _=>rfl) ?_ ?_
 .exact A1.ck rfl
 rintro k hk
 by_cases hkl:k<a.length
 .obtain⟨x,hx⟩:=AT hkl;have c1:=Wi.UR x.told x.told (lm (ha x (rE hx)));rw[qM rfl]at c1;unfold Wi.A2.d Wi.A2.cells at c1;have f2:=Dr x.src;have f3:=Dr x.call;have ix1:=hx;refine wd [0,1,4,5,10,14,54] [] (AX f2 f3) (A6 @c1) ?_;clear ix1;with_reducible repeat' first|constructor|intro hc;try simp only[AB]at hc
  refine⟨k+1,hkl,om,qG _,?_⟩;exact A1.ck rfl
 .have e:k=a.length:=om
  subst e;refine wd [0,1,4,5,10,14,54] [] A0 A0 ?_;with_reducible repeat' first|constructor|intro hc;try simp only[AB]at hc
  exact zE
theorem SL(j:Job)(hn:j.left.length<=1048576):qB 58 [j.d,j.d] (.b true):=by
 obtain⟨what,phase,look,item,owner,left,code⟩:=j;dsimp only at hn;have f1:=Dr (left.length:Int);have f2:=Dr what;have f3:=Dr phase;have f4:=Dr owner;have f5:=Dr code;have f6:HC look.cells look.cells=true:=by unfold Look.cells;simp[HC,eq1]
 have f7:HC item.cells item.cells=true:=by unfold Item.cells;simp[HC,eq1]
 unfold Look.cells at f6;unfold Item.cells at f7;refine zF A4 Tryz.func58 ?_;unfold Job.d Job.cells;refine wd Sc [] (A6 f1) A0 ?_;refine CF (fun k=>k<=left.length) (fun k:Nat=>[(5,.pY k)]) (fun k=>left.length-k) 0 (qP _) (fun _=>rfl) ?_ ?_
 .exact A1.ck rfl
 rintro k hk
 by_cases hkl:k<left.length
 .obtain⟨x,hx⟩:=AT hkl;have g1:=Dr x;have ix1:=hx;refine wd Sc [] (A6 g1) A0 ?_;clear ix1;with_reducible repeat' first|constructor|intro hc;try simp only[AB]at hc
  refine⟨k+1,hkl,om,qG _,?_⟩;exact A1.ck rfl
 .have e:k=left.length:=om
  subst e;refine wd Sc [] (zq6 f2 f3 f4 f5 f6 f7) A0 ?_;with_reducible repeat' first|constructor|intro hc;try simp only[AB]at hc
  exact zE
abbrev Sf:List Nat:=[0,1,2,3,4,5,36,41,54]
theorem W0(v:View):Xu v v=true:=by unfold Xu;simp
theorem eg(n:Node)(h:Hp n):qB 16 [n.d,n.d] (.b true):=by
 have cV:=Zg n.view n.view (by have:=h.vb;omega) (by have:=h.vl;omega);rw[W0]at cV;have cC:=Vz n.calls h.cl h.cn;have cS:=ei n.seen h.sl h.sn;have c5:=SL n.finger h.fl;have c6:=SL n.mirror h.ml;have c7:=SL n.client h.tl;have hkn:=h.kn;have f1:=Dr (n.keep.length:Int);have f2:=Dr n.clock;have f3:HC [.i .u8 n.phase,.i .i64 n.of_] [.i .u8 n.phase,.i .i64 n.of_]=true:=by simp[HC,eq1]
 have f4:=Dr n.next;have f5:=Dr n.last;have f6:=Dr n.bad;clear h;refine zF A4 Tryz.func16 ?_;unfold View.d Calls.d Job.d at *;unfold Node.d Node.cells View.cells Calls.cells Job.cells at *;simp only[qV,qX]at *;refine wd Sf [] (A6 f1) (C3 @cV @cC @cS) ?_;refine CF (fun k=>k<=n.keep.length) (fun k:Nat=>[(5,.pY k)]) (fun k=>n.keep.length-k) 0 (qP _) (fun _=>rfl) ?_ ?_
 .exact A1.ck rfl
 rintro k hk
 by_cases hkl:k<n.keep.length
 .obtain⟨x,hx⟩:=AT hkl;have g1:HC x.cells x.cells=true:=by unfold Item.cells;simp[HC,eq1]
  unfold Item.cells at g1;have ix1:=hx;refine wd Sf [] (A6 g1) A0 ?_;clear ix1;with_reducible repeat' first|constructor|intro hc;try simp only[AB]at hc
  refine⟨k+1,hkl,om,qG _,?_⟩;exact A1.ck rfl
 .have e:k=n.keep.length:=om
  subst e;refine wd Sf [] (NU f2 f3 f4 f5 f6) (C3 @c5 @c6 @c7) ?_;with_reducible repeat' first|constructor|intro hc;try simp only[AB]at hc
  exact zE
structure ah (L K:Nat) (j:Job):Prop where
 l:j.left.length<=L
 k:j.item.key.length<=K
structure JB (L K:Nat) (n:Node):Prop where
 f:ah L K n.finger
 m:ah L K n.mirror
 c:ah L K n.client
variable {L K:Nat}
theorem ah.mono{M:Nat}{j:Job}(h:ah L K j)(hm:L<=M):ah M K j:=⟨tJ h.l hm,h.k⟩
theorem JB.mono{M:Nat}{n:Node}(h:JB L K n)(hm:L<=M):JB M K n:=⟨h.f.mono hm,h.m.mono hm,h.c.mono hm⟩
theorem iy(k:List Item)(j:Job)(h:ah L K j):ah L K (Cr k j).2:=by
 unfold Cr;split
 .dsimp only;split
  .exact⟨h.l,h.k⟩
  .exact h
 split
 .dsimp only;split
  .rename_i hg;refine⟨h.l,?_⟩;dsimp only
   have hk:(Cf k j.item.key).1.key=j.item.key:=by
    unfold Cf at hg|-;split
    .rename_i hc;rw[qH]at hc;obtain⟨x,-,hx,hg2⟩:=I0 hc.2;dsimp only;rw[hg2,hx]
    .rename_i hc;rw[if_neg hc]at hg;cases hg
   rw[hk];exact h.k
  .exact⟨h.l,h.k⟩
 .exact h
theorem ci(n:Node)(w:Int)(e:Bool)(c:JC)(h:JB L K n)(hc:ah L K c.job):JB L K (As n w e c).1:=by
 unfold As
 have hs:ah L K (if c.own then Cr n.keep c.job else(n.keep,c.job)).2:=by
  split
  .exact iy _ _ hc
  .exact hc
 generalize(if c.own then Cr n.keep c.job else(n.keep,c.job))=s at *;dsimp only
 have h1:JB L K (NQ {n with keep:=s.1} w s.2):=by
  unfold NQ;split
  .exact⟨hs,h.m,h.c⟩
  split
  .exact⟨h.f,hs,h.c⟩
  .exact⟨h.f,h.m,hs⟩
 split
 .exact⟨h1.f,h1.m,h1.c⟩
 .exact h1
theorem XK{n:Node}(w:Int)(h:JB L K n):ah L K (IQ n w):=by
 unfold IQ kJ;split
 .exact h.f
 split
 .exact h.m
 split
 .exact h.c
 .exact⟨qP _,qP _⟩
theorem lJ(n:Node)(w:Int)(h:JB L K n):JB L K (Ee n w):=by
 have hj:=XK w h;unfold Ee;split
 .split
  .exact⟨h.f,h.m,h.c⟩
  split
  .exact ci _ _ _ _ h ⟨qP _,hj.k⟩
  .exact h
 .exact h
theorem eN(x:Int):∀(l:List Int)(f:Int),rT x f l=true->∀y∈l,Ai y=true
 |[],_,_,y,hy=>by cases hy
 |p::r,f,h,y,hy=>by
  unfold rT at h;simp only[qH]at h;rcases sG.1 hy with rfl|hy
  .exact h.1.1
  .exact eN x r _ h.2 y hy
theorem Tq{y:Int}(h:Ai y=true):i64 y:=by have:=HD h;unfold i64;omega
structure Sp (n:Node):Prop where
 id:i64 n.view.id
 li:∀y∈n.view.list,i64 y
 ph:0<=n.phase
abbrev Hj:List Nat:=[0,1,2,3,4,28,33,109]
theorem Zi(c:Calls)(hl:∀x∈c.op,AD x.msg)(hn:c.op.length<=9223372036854775807):qB 32 [c.d] (.b (BG c)):=by
 obtain⟨id,many,op⟩:=c;replace hl:∀x∈op,AD x.msg:=hl;replace hn:op.length<=9223372036854775807:=hn;refine zF A4 Tryz.func32 ?_;unfold Calls.d Calls.cells
 cases hh:N4 ⟨id,many,op⟩with
 |false=>
  have hT:BG ⟨id,many,op⟩=false:=by unfold BG;rw[hh];rfl
  refine wd Hj [] A0 A0 ?_;with_reducible repeat' first|constructor|intro hc;try simp only[AB]at hc
  all_goals first
   |(refine⟨_,_,rfl,rfl,?_⟩;simp only[Bn];rw[hT];done)
   |(exfalso;simp[N4,B5]at hh;omega)
 |true=>
 have hT:BG ⟨id,many,op⟩=FU op.length (HQ ⟨id,many,op⟩):=by unfold BG;rw[hh];rfl
 simp only[N4,B5,qH,qJ]at hh;obtain⟨⟨h1,h2⟩,h3,h4,h5⟩:=hh;have f1:decide (id<0)=false:=qO om;have f2:decide (id>=65536)=false:=qO om;have f3:decide (many<0)=false:=qO om;have f4:decide (many>1048576)=false:=qO om;have f5:decide ((op.length:Int)>16)=false:=qO om;refine wd Hj [] (NU f1 f2 f3 f4 f5) A0 ?_;refine CF (fun k=>k<=op.length/\FU k (HQ ⟨id,many,op⟩)=true) (fun k:Nat=>[(3,.pY k)]) (fun k=>op.length-k) 0 ⟨qP _,rfl⟩ (fun _=>rfl) ?_ ?_
 .exact A1.ck rfl
 rintro k ⟨hk,hpre⟩
 by_cases hkl:k<op.length
 .obtain⟨x,hx⟩:=AT hkl;have gx:op.getD k IX=x:=getD_at hx;have c1:=Wi.Ld x.msg;have c2:=Wi.Jh x.msg (lm (hl x (rE hx)));have c3:=ee x.sent;have hK:HQ ⟨id,many,op⟩ k=((x.msg.right&&(x.msg.asks&&(decide (x.msg.src=id)&&(decide (x.id=x.msg.call)&&(decide (x.id<=id*1048576+many)&&(decide (1<=x.tries)&&(decide (x.tries<=3)&&Gz x.sent)))))))&&decide (k=0\/(op.getD (k-1) IX).id<x.id)):=by unfold HQ ET;rw[gx]
  unfold A2.d A2.cells at c1 c2;generalize x.msg.right=rr at *;generalize x.msg.asks=aa at *;generalize Gz x.sent=tt at *;generalize HQ ⟨id,many,op⟩=K at*
  by_cases h0:k=0
  .have f6:decide ((k:Int)>0)=false:=qO om;have ix1:=hx;refine wd Hj [] (A6 f6) (C3 @c1 @c2 @c3) ?_;clear ix1;with_reducible repeat' first|constructor|intro hc;try simp only[AB]at hc
   all_goals clear c1 c2 c3
   all_goals first
    |(refine⟨k+1,⟨hkl,ED hpre (by rw[hK];grind)⟩,om,qG _,?_⟩
      exact A1.ck rfl)
    |(refine⟨_,_,rfl,rfl,?_⟩;simp only[Bn];rw[hT,GM hkl (by rw[hK];grind)])
  .have f6:decide ((k:Int)>0)=true:=qM om;have e1:(k:Int)-1=((k-1:Nat):Int):=om
   obtain⟨y,hy⟩:=AT (xs:=op) (k:=k-1) om;have gy:op.getD (k-1) IX=y:=getD_at hy;rw[gy]at hK;have ix1:=hx;have ix2:=hy;refine wd Hj [] (AX f6 e1) (C3 @c1 @c2 @c3) ?_;clear ix2 ix1;with_reducible repeat' first|constructor|intro hc;try simp only[AB]at hc
   all_goals clear c1 c2 c3
   all_goals first
    |(refine⟨k+1,⟨hkl,ED hpre (by rw[hK];grind)⟩,om,qG _,?_⟩
      exact A1.ck rfl)
    |(refine⟨_,_,rfl,rfl,?_⟩;simp only[Bn];rw[hT,GM hkl (by rw[hK];grind)])
 .have e:k=op.length:=om
  subst e;rw[hpre]at hT;refine wd Hj [] A0 A0 ?_;with_reducible repeat' first|constructor|intro hc;try simp only[AB]at hc
  exact Ag hT
abbrev GG:List Nat:=[0,2,3,4,5,7,11,44,56]
theorem eb(l:List Past)(hl:∀x∈l,AD x.told)(hn:l.length<=9223372036854775807):qB 33 [AH l] (.b (Ec l)):=by
 refine zF A4 Tryz.func33 ?_;have hT:Ec l=(decide (l.length<=40)&&FU l.length (E2 l)):=rfl;refine wd GG [] A0 A0 ?_;refine CF (fun k=>k<=l.length/\FU k (E2 l)=true) (fun k:Nat=>[(3,.pY k)]) (fun k=>l.length-k) 0 ⟨qP _,rfl⟩ (fun _=>rfl) ?_ ?_
 .exact A1.ck rfl
 rintro k ⟨hk,hpre⟩
 by_cases hkl:k<l.length
 .obtain⟨x,hx⟩:=AT hkl;have gx:l.getD k NF=x:=getD_at hx;have hlx:=hl x (rE hx);have hK:E2 l k=(Ke x&& !((l.take k).any (JX x.src x.call))):=by unfold E2;rw[gx]
  have c1:=mg x.told hlx;have hO:Ke x=(x.told.right&&(!x.told.asks&&(decide (x.told.dst=x.src)&&decide (x.told.call=x.call)))):=rfl;have c2:=Zd (l.take k) x.told.dst x.told.call (fun y hy=>hl y (List.mem_of_mem_take hy)) (by rw[rM];omega);unfold Past.d Past.cells at c1;unfold A2.d A2.cells at c1 c2;have e1:List.take k (List.map Past.cells l)=List.map Past.cells (List.take k l):=(List.map_take ..).symm;generalize Q8 (l.take k) x.told.dst x.told.call=fm at*
  cases hb:x.told.right&& !x.told.asks with
  |false=>
   rw[hb]at c1;simp only[rD,ql]at c1;have hN:E2 l k=false:=by rw[hK,hO];revert hb;cases x.told.right<;>cases x.told.asks<;>simp
   have ix1:=hx;refine wd GG [] A0 (A6 @c1) ?_;clear ix1;with_reducible repeat' first|constructor|intro hc;try simp only[AB]at hc
   all_goals(clear c1 c2;refine⟨_,_,rfl,rfl,?_⟩;simp only[Bn];rw[hT,GM hkl hN,uI])
  |true=>
   rw[hb]at c1;simp only[qw]at c1;rw[qH]at hb;rw[hb.1,hb.2,rC,rC]at hO
   by_cases h1:x.told.dst=x.src
   .by_cases h2:x.told.call=x.call
    .have f1:(x.told.dst !=x.src)=false:=BF h1;have f2:(x.told.call !=x.call)=false:=BF h2;have hN:E2 l k= !((l.take k).any (JX x.told.dst x.told.call)):=by rw[hK,hO,h1,h2];simp
     generalize(l.take k).any (JX x.told.dst x.told.call)=tw at *;have ix1:=hx;refine wd GG [] (C3 f1 f2 e1) (AX @c1 @c2) ?_ [(3,11),(4,11),(5,11),(6,11)];clear ix1;with_reducible repeat' first|constructor|intro hc;try simp only[AB]at hc
     all_goals clear c1 c2
     all_goals first
      |(refine⟨k+1,⟨hkl,ED hpre (by rw[hN];grind)⟩,om,qG _,?_⟩
        exact A1.ck rfl)
      |(refine⟨_,_,rfl,rfl,?_⟩;simp only[Bn];rw[hT,GM hkl (by rw[hN];grind),uI])
    .have f1:(x.told.dst !=x.src)=false:=BF h1;have f2:(x.told.call !=x.call)=true:=BJ h2;have hN:E2 l k=false:=by rw[hK,hO];simp[h2]
     have ix1:=hx;refine wd GG [] (AX f1 f2) (A6 @c1) ?_;clear ix1;with_reducible repeat' first|constructor|intro hc;try simp only[AB]at hc
     all_goals(clear c1 c2;refine⟨_,_,rfl,rfl,?_⟩;simp only[Bn];rw[hT,GM hkl hN,uI])
   .have f1:(x.told.dst !=x.src)=true:=BJ h1;have hN:E2 l k=false:=by rw[hK,hO];simp[h1]
    have ix1:=hx;refine wd GG [] (A6 f1) (A6 @c1) ?_;clear ix1;with_reducible repeat' first|constructor|intro hc;try simp only[AB]at hc
    all_goals(clear c1 c2;refine⟨_,_,rfl,rfl,?_⟩;simp only[Bn];rw[hT,GM hkl hN,uI])
 .have e:k=l.length:=om
  subst e;rw[hpre]at hT;refine wd GG [] A0 A0 ?_;with_reducible repeat' first|constructor|intro hc;try simp only[AB]at hc
  all_goals(refine⟨_,_,rfl,rfl,?_⟩;simp only[Bn];rw[hT];simp;try omega)
end Nd
end Go.Proofs.YtkljbfejbakooaaGreatDoor
