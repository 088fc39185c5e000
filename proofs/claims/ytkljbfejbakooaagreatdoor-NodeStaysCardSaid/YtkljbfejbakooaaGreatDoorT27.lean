/- Part 27 of a proof. Conditions: those that its theorems state. -/
import Derived.Test.YtkljbfejbakooaaGreatDoorT26
set_option linter.unusedSimpArgs false
set_option linter.unusedVariables false
set_option maxHeartbeats 40000000
set_option maxRecDepth 4000
namespace Go.Proofs.YtkljbfejbakooaaGreatDoor
namespace Nd
open Go.Gar
open Wi (AC Bp BE AN Bc mC)
abbrev CL:Aw:=[0,1,2,3,4,5,6,7,8,9,10,11,12,33]
theorem hx(n:AA)(c:AW)(m:AC)(h:Fe n)(hw:MM c.BQ [1,2,3,5,6,7]=true):xB 49 [n.d,c.d,m.d] (.tup [n.d,Ab []]):=by
 obtain⟨cid,Ao,BQ,ref,C0,BA⟩:=c;dsimp only at hw;have cO:=Ay n h;have cR:=Ar n h;have cT:=DO n m;refine zF AF Tryz.func49 ?_;unfold AA.d AA.A0 AD.A0 Calls.A0 An.A0 AW.d AW.A0 Wi.AC.d Wi.AC.A0 at *;unfold hC NW Kv GC at *;have d1:=Ds.mk [4,2] (cT);have lk1:=hw;refine wd CL [5] A4 (AM @cO) ?_ [(3,2),(4,2)] true;clear lk1 d1;refine wd CL [] A4 A4 ?_ [(2,4),(3,4)] true;exact zE
theorem hno1(n:AA)(c:AW)(m:AC)(h:Fe n)(hw:c.BQ=1)(hr:Av n=false):xB 49 [n.d,c.d,m.d] (.tup [n.d,Ab []]):=by
 obtain⟨cid,Ao,BQ,ref,C0,BA⟩:=c;dsimp only at hw;subst hw;have cO:=Ay n h;have cR:=Ar n h;rw[hr]at cR;have cT:=DO n m;refine zF AF Tryz.func49 ?_;unfold AA.d AA.A0 AD.A0 Calls.A0 An.A0 AW.d AW.A0 Wi.AC.d Wi.AC.A0 at *;unfold hC NW Kv GC at *;have d1:=Ds.mk [4,2] (cT);refine wd CL [5] A4 (AM @cO) ?_ [(3,2),(4,2)] true;clear d1;refine wd CL [] A4 (AM @cR) ?_ [(2,4),(3,4)] true;exact zE
theorem hno2(n:AA)(c:AW)(m:AC)(h:Fe n)(hw:c.BQ=2)(hr:Av n=false):xB 49 [n.d,c.d,m.d] (.tup [n.d,Ab []]):=by
 obtain⟨cid,Ao,BQ,ref,C0,BA⟩:=c;dsimp only at hw;subst hw;have cO:=Ay n h;have cR:=Ar n h;rw[hr]at cR;have cT:=DO n m;refine zF AF Tryz.func49 ?_;unfold AA.d AA.A0 AD.A0 Calls.A0 An.A0 AW.d AW.A0 Wi.AC.d Wi.AC.A0 at *;unfold hC NW Kv GC at *;have d1:=Ds.mk [4,2] (cT);refine wd CL [5] A4 (AM @cO) ?_ [(3,2),(4,2)] true;clear d1;refine wd CL [] A4 (AM @cR) ?_ [(2,4),(3,4)] true;exact zE
theorem hno3(n:AA)(c:AW)(m:AC)(h:Fe n)(hw:c.BQ=3)(hr:Av n=false):xB 49 [n.d,c.d,m.d] (.tup [n.d,Ab []]):=by
 obtain⟨cid,Ao,BQ,ref,C0,BA⟩:=c;dsimp only at hw;subst hw;have cO:=Ay n h;have cR:=Ar n h;rw[hr]at cR;have cT:=DO n m;refine zF AF Tryz.func49 ?_;unfold AA.d AA.A0 AD.A0 Calls.A0 An.A0 AW.d AW.A0 Wi.AC.d Wi.AC.A0 at *;unfold hC NW Kv GC at *;have d1:=Ds.mk [4,2] (cT);refine wd CL [5] A4 (AM @cO) ?_ [(3,2),(4,2)] true;clear d1;refine wd CL [] A4 (AM @cR) ?_ [(2,4),(3,4)] true;exact zE
theorem hno5(n:AA)(c:AW)(m:AC)(h:Fe n)(hw:c.BQ=5)(hr:Av n=false):xB 49 [n.d,c.d,m.d] (.tup [n.d,Ab []]):=by
 obtain⟨cid,Ao,BQ,ref,C0,BA⟩:=c;dsimp only at hw;subst hw;have cO:=Ay n h;have cR:=Ar n h;rw[hr]at cR;have cT:=DO n m;refine zF AF Tryz.func49 ?_;unfold AA.d AA.A0 AD.A0 Calls.A0 An.A0 AW.d AW.A0 Wi.AC.d Wi.AC.A0 at *;unfold hC NW Kv GC at *;have d1:=Ds.mk [4,2] (cT);refine wd CL [5] A4 (AM @cO) ?_ [(3,2),(4,2)] true;clear d1;refine wd CL [] A4 (AM @cR) ?_ [(2,4),(3,4)] true;exact zE
theorem hno6(n:AA)(c:AW)(m:AC)(h:Fe n)(hw:c.BQ=6)(hr:Av n=false):xB 49 [n.d,c.d,m.d] (.tup [n.d,Ab []]):=by
 obtain⟨cid,Ao,BQ,ref,C0,BA⟩:=c;dsimp only at hw;subst hw;have cO:=Ay n h;have cR:=Ar n h;rw[hr]at cR;have cT:=DO n m;refine zF AF Tryz.func49 ?_;unfold AA.d AA.A0 AD.A0 Calls.A0 An.A0 AW.d AW.A0 Wi.AC.d Wi.AC.A0 at *;unfold hC NW Kv GC at *;have d1:=Ds.mk [4,2] (cT);refine wd CL [5] A4 (AM @cO) ?_ [(3,2),(4,2)] true;clear d1;refine wd CL [] A4 (AM @cR) ?_ [(2,4),(3,4)] true;exact zE
theorem hno7(n:AA)(c:AW)(m:AC)(h:Fe n)(hw:c.BQ=7)(hr:Av n=false):xB 49 [n.d,c.d,m.d] (.tup [n.d,Ab []]):=by
 obtain⟨cid,Ao,BQ,ref,C0,BA⟩:=c;dsimp only at hw;subst hw;have cO:=Ay n h;have cR:=Ar n h;rw[hr]at cR;have cT:=DO n m;refine zF AF Tryz.func49 ?_;unfold AA.d AA.A0 AD.A0 Calls.A0 An.A0 AW.d AW.A0 Wi.AC.d Wi.AC.A0 at *;unfold hC NW Kv GC at *;have d1:=Ds.mk [4,2] (cT);refine wd CL [5] A4 (AM @cO) ?_ [(3,2),(4,2)] true;clear d1;refine wd CL [] A4 (AM @cR) ?_ [(2,4),(3,4)] true;exact zE
theorem hok1(n:AA)(c:AW)(m:AC)(h:Fe n)(hw:c.BQ=1)(hr:Av n=true)(hm:Am m)(h0:0<=n.A5):xB 49 [n.d,c.d,m.d] (.tup [(qj n m).d,Ab (Cb n.A7 n.A5 n.B8 m).2]):=by
 obtain⟨cid,Ao,BQ,ref,C0,BA⟩:=c;dsimp only at hw;subst hw;have cO:=Ay n h;have cR:=Ar n h;rw[hr]at cR;have cT:=DO n m;have cE:=V2 n m h0 h.vb h.vl hm;unfold qj at *;generalize Cb n.A7 n.A5 n.B8 m=r at *;refine zF AF Tryz.func49 ?_;unfold AA.d AA.A0 AD.A0 Calls.A0 An.A0 AW.d AW.A0 Wi.AC.d Wi.AC.A0 at *;unfold hC NW Kv GC at *;have d1:=Ds.mk [4,2] (cT);refine wd CL [5] A4 (AM @cO) ?_ [(3,2),(4,2)] true;clear d1;have d1:=Ds.mk [4,2] (cE);refine wd CL [] A4 (AM @cR) ?_ [(2,4),(3,4)] true;clear d1;exact zE
theorem hok2(n:AA)(c:AW)(m:AC)(h:Fe n)(hw:c.BQ=2)(hr:Av n=true)(hm:Am m)(h0:0<=n.A5):xB 49 [n.d,c.d,m.d] (.tup [(qj n m).d,Ab (Cb n.A7 n.A5 n.B8 m).2]):=by
 obtain⟨cid,Ao,BQ,ref,C0,BA⟩:=c;dsimp only at hw;subst hw;have cO:=Ay n h;have cR:=Ar n h;rw[hr]at cR;have cT:=DO n m;have cE:=V2 n m h0 h.vb h.vl hm;unfold qj at *;generalize Cb n.A7 n.A5 n.B8 m=r at *;refine zF AF Tryz.func49 ?_;unfold AA.d AA.A0 AD.A0 Calls.A0 An.A0 AW.d AW.A0 Wi.AC.d Wi.AC.A0 at *;unfold hC NW Kv GC at *;have d1:=Ds.mk [4,2] (cT);refine wd CL [5] A4 (AM @cO) ?_ [(3,2),(4,2)] true;clear d1;have d1:=Ds.mk [4,2] (cE);refine wd CL [] A4 (AM @cR) ?_ [(2,4),(3,4)] true;clear d1;exact zE
theorem hok3(n:AA)(c:AW)(m:AC)(h:Fe n)(hw:c.BQ=3)(hr:Av n=true)(hm:Am m)(h0:0<=n.A5):xB 49 [n.d,c.d,m.d] (.tup [(qj n m).d,Ab (Cb n.A7 n.A5 n.B8 m).2]):=by
 obtain⟨cid,Ao,BQ,ref,C0,BA⟩:=c;dsimp only at hw;subst hw;have cO:=Ay n h;have cR:=Ar n h;rw[hr]at cR;have cT:=DO n m;have cE:=V2 n m h0 h.vb h.vl hm;unfold qj at *;generalize Cb n.A7 n.A5 n.B8 m=r at *;refine zF AF Tryz.func49 ?_;unfold AA.d AA.A0 AD.A0 Calls.A0 An.A0 AW.d AW.A0 Wi.AC.d Wi.AC.A0 at *;unfold hC NW Kv GC at *;have d1:=Ds.mk [4,2] (cT);refine wd CL [5] A4 (AM @cO) ?_ [(3,2),(4,2)] true;clear d1;have d1:=Ds.mk [4,2] (cE);refine wd CL [] A4 (AM @cR) ?_ [(2,4),(3,4)] true;clear d1;exact zE
theorem hok5(n:AA)(c:AW)(m:AC)(h:Fe n)(hw:c.BQ=5)(hr:Av n=true)(hx0:0<=n.next)(hx1:n.next<16)(hm:Am m)(hj:n.AP.left.length<=100000)(ha:(C5 n.A7 n.AP m).BN.length<=100000)(hs:0<=(C5 n.A7 n.AP m).job.A9.AH.length):xB 49 [n.d,c.d,m.d] (.tup [(B6 n 5 (decide (n.AP.A5=5)) (C5 n.A7 n.AP m)).1.d,Ab (B6 n 5 (decide (n.AP.A5=5)) (C5 n.A7 n.AP m)).2]):=by
 obtain⟨cid,Ao,BQ,ref,C0,BA⟩:=c;dsimp only at hw;subst hw;have cO:=Ay n h;have cR:=Ar n h;rw[hr]at cR;have cT:=DO n m;have cE:=eZ n m hx0 hx1 h.vb h.vl h.kn hm hj ha hs;generalize(B6 n 5 (decide (n.AP.A5=5)) (C5 n.A7 n.AP m))=r at *;refine zF AF Tryz.func49 ?_;unfold AA.d AA.A0 AD.A0 Calls.A0 An.A0 AW.d AW.A0 Wi.AC.d Wi.AC.A0 at *;unfold hC NW Kv GC at *;have d1:=Ds.mk [4,2] (cT);refine wd CL [5] A4 (AM @cO) ?_ [(3,2),(4,2)] true;clear d1;have d1:=Ds.mk [4,2,5,6,8] (cE);refine wd CL [] A4 (AM @cR) ?_ [(2,4),(3,4)] true;clear d1;exact zE
theorem hok6(n:AA)(c:AW)(m:AC)(h:Fe n)(hw:c.BQ=6)(hr:Av n=true)(hx0:0<=n.next)(hx1:n.next<16)(hm:Am m)(hj:n.Ai.left.length<=100000)(ha:(C5 n.A7 n.Ai m).BN.length<=100000)(hs:0<=(C5 n.A7 n.Ai m).job.A9.AH.length):xB 49 [n.d,c.d,m.d] (.tup [(B6 n 6 (decide (n.Ai.A5=5)) (C5 n.A7 n.Ai m)).1.d,Ab (B6 n 6 (decide (n.Ai.A5=5)) (C5 n.A7 n.Ai m)).2]):=by
 obtain⟨cid,Ao,BQ,ref,C0,BA⟩:=c;dsimp only at hw;subst hw;have cO:=Ay n h;have cR:=Ar n h;rw[hr]at cR;have cT:=DO n m;have cE:=eb n m hx0 hx1 h.vb h.vl h.kn hm hj ha hs;generalize(B6 n 6 (decide (n.Ai.A5=5)) (C5 n.A7 n.Ai m))=r at *;refine zF AF Tryz.func49 ?_;unfold AA.d AA.A0 AD.A0 Calls.A0 An.A0 AW.d AW.A0 Wi.AC.d Wi.AC.A0 at *;unfold hC NW Kv GC at *;have d1:=Ds.mk [4,2] (cT);refine wd CL [5] A4 (AM @cO) ?_ [(3,2),(4,2)] true;clear d1;have d1:=Ds.mk [4,2,5,6,9] (cE);refine wd CL [] A4 (AM @cR) ?_ [(2,4),(3,4)] true;clear d1;exact zE
theorem hok7(n:AA)(c:AW)(m:AC)(h:Fe n)(hw:c.BQ=7)(hr:Av n=true)(hx0:0<=n.next)(hx1:n.next<16)(hm:Am m)(hj:n.Ah.left.length<=100000)(ha:(C5 n.A7 n.Ah m).BN.length<=100000)(hs:0<=(C5 n.A7 n.Ah m).job.A9.AH.length):xB 49 [n.d,c.d,m.d] (.tup [(B6 n 7 (decide (n.Ah.A5=5)) (C5 n.A7 n.Ah m)).1.d,Ab (B6 n 7 (decide (n.Ah.A5=5)) (C5 n.A7 n.Ah m)).2]):=by
 obtain⟨cid,Ao,BQ,ref,C0,BA⟩:=c;dsimp only at hw;subst hw;have cO:=Ay n h;have cR:=Ar n h;rw[hr]at cR;have cT:=DO n m;have cE:=ec n m hx0 hx1 h.vb h.vl h.kn hm hj ha hs;generalize(B6 n 7 (decide (n.Ah.A5=5)) (C5 n.A7 n.Ah m))=r at *;refine zF AF Tryz.func49 ?_;unfold AA.d AA.A0 AD.A0 Calls.A0 An.A0 AW.d AW.A0 Wi.AC.d Wi.AC.A0 at *;unfold hC NW Kv GC at *;have d1:=Ds.mk [4,2] (cT);refine wd CL [5] A4 (AM @cO) ?_ [(3,2),(4,2)] true;clear d1;have d1:=Ds.mk [4,2,5,6,10] (cE);refine wd CL [] A4 (AM @cR) ?_ [(2,4),(3,4)] true;clear d1;exact zE
abbrev W4:Aw:=[0,1,2,3,4,5,12,17,30]
theorem FB{α:Type}[BEq α][LawfulBEq α](a:α):(a==a)=true:=beq_self_eq_true a
theorem mi(a:AW)(ha:Am a.Ao):xB 218 [a.d,a.d] (.b true):=by
 have c1:=Wi.Y0 a.Ao a.Ao (lm ha);rw[xM rfl]at c1;obtain⟨i,m,w,r,s,t⟩:=a;have f1:=FB i;have f2:=FB w;have f3:=FB r;have f4:=FB s;have f5:=FB t;unfold Wi.AC.d Wi.AC.A0 at c1;refine zF AF Tryz.func218 ?_;unfold AW.d AW.A0;refine wd [0,1,2,3,4] [] (MX f1 f2 f3 f4 f5) (AM @c1) ?_;exact zE
theorem gD(a:List AW)(ha:∀x∈a,Am x.Ao)(hn:a.length<=1048576):xB 141 [Ag a,Ag a] (.b true):=by
 have f1:=FB (a.length:Int);refine zF AF Tryz.func141 ?_;refine wd [0,1,4,5,10,14,26] [] (AM f1) A4 ?_;refine DD (fun k=>k<=a.length) (fun k:Nat=>[(5,.wo k)]) (fun k=>a.length-k) 0 (xQ _) (fun _=>rfl) ?_ ?_
 .exact A6.ck rfl
 rintro k hk
 by_cases hkl:k<a.length
 .obtain⟨x,hx⟩:=BB hkl;have c1:=mi x (ha x (yH hx));unfold AW.d AW.A0 at c1;have ix1:=hx;refine wd [0,1,4,5,10,14,26] [] A4 (AM @c1) ?_;clear ix1;with_reducible repeat' first|constructor|intro hc
  refine⟨k+1,hkl,om,xH _,?_⟩;exact A6.ck rfl
 .have e:k=a.length:=om
  subst e;refine wd [0,1,4,5,10,14,26] [] A4 A4 ?_;with_reducible repeat' first|constructor|intro hc
  exact zE
theorem aJ(c:Calls)(ha:∀x∈c.op,Am x.Ao)(hn:c.op.length<=1048576):xB 56 [c.d,c.d] (.b true):=by
 have c1:=gD c.op ha hn;obtain⟨i,m,o⟩:=c;have f1:=FB i;have f2:=FB m;refine zF AF Tryz.func56 ?_;unfold Calls.d Calls.A0;refine wd [0,1,2,3,4] [] (Ax f1 f2) (AM @c1) ?_;exact zE
theorem mm(a:List Past)(ha:∀x∈a,Am x.AE)(hn:a.length<=1048576):xB 57 [B5 a,B5 a] (.b true):=by
 have f1:=FB (a.length:Int);refine zF AF Tryz.func57 ?_;refine wd [0,1,4,5,10,14,54] [] (AM f1) A4 ?_;refine DD (fun k=>k<=a.length) (fun k:Nat=>[(5,.wo k)]) (fun k=>a.length-k) 0 (xQ _) (fun _=>rfl) ?_ ?_
 .exact A6.ck rfl
 rintro k hk
 by_cases hkl:k<a.length
 .obtain⟨x,hx⟩:=BB hkl;have c1:=Wi.Y0 x.AE x.AE (lm (ha x (yH hx)));rw[xM rfl]at c1;unfold Wi.AC.d Wi.AC.A0 at c1;have f2:=FB x.As;have f3:=FB x.Aa;have ix1:=hx;refine wd [0,1,4,5,10,14,54] [] (Ax f2 f3) (AM @c1) ?_;clear ix1;with_reducible repeat' first|constructor|intro hc
  refine⟨k+1,hkl,om,xH _,?_⟩;exact A6.ck rfl
 .have e:k=a.length:=om
  subst e;refine wd [0,1,4,5,10,14,54] [] A4 A4 ?_;with_reducible repeat' first|constructor|intro hc
  exact zE
theorem Vo(j:An)(hn:j.left.length<=1048576):xB 58 [j.d,j.d] (.b true):=by
 obtain⟨AL,A5,Ak,A9,AO,left,AQ⟩:=j;dsimp only at hn;have f1:=FB (left.length:Int);have f2:=FB AL;have f3:=FB A5;have f4:=FB AO;have f5:=FB AQ;have f6:Ix Ak.A0 Ak.A0=true:=by unfold Bw.A0;simp[Ix,eq1]
 have f7:Ix A9.A0 A9.A0=true:=by unfold AK.A0;simp[Ix,eq1]
 unfold Bw.A0 at f6;unfold AK.A0 at f7;refine zF AF Tryz.func58 ?_;unfold An.d An.A0;refine wd W4 [] (AM f1) A4 ?_;refine DD (fun k=>k<=left.length) (fun k:Nat=>[(5,.wo k)]) (fun k=>left.length-k) 0 (xQ _) (fun _=>rfl) ?_ ?_
 .exact A6.ck rfl
 rintro k hk
 by_cases hkl:k<left.length
 .obtain⟨x,hx⟩:=BB hkl;have g1:=FB x;have ix1:=hx;refine wd W4 [] (AM g1) A4 ?_;clear ix1;with_reducible repeat' first|constructor|intro hc
  refine⟨k+1,hkl,om,xH _,?_⟩;exact A6.ck rfl
 .have e:k=left.length:=om
  subst e;refine wd W4 [] (zq6 f2 f3 f4 f5 f6 f7) A4 ?_;with_reducible repeat' first|constructor|intro hc
  exact zE
abbrev W5:Aw:=[0,1,2,3,4,5,36,41,54]
theorem aK(v:AD):dC v v=true:=by unfold dC;simp
theorem mj(n:AA)(h:Fe n):xB 16 [n.d,n.d] (.b true):=by
 have cV:=fy n.A7 n.A7 (by have:=h.vb;omega) (by have:=h.vl;omega);rw[aK]at cV;have cC:=aJ n.AX h.cl h.cn;have cS:=mm n.BO h.sl h.sn;have c5:=Vo n.AP h.fl;have c6:=Vo n.Ai h.ml;have c7:=Vo n.Ah h.tl;have hkn:=h.kn;have f1:=FB (n.keep.length:Int);have f2:=FB n.Aj;have f3:Ix [.i .u8 n.A5,.i .i64 n.B8] [.i .u8 n.A5,.i .i64 n.B8]=true:=by simp[Ix,eq1]
 have f4:=FB n.next;have f5:=FB n.last;have f6:=FB n.bad;clear h;refine zF AF Tryz.func16 ?_;unfold AD.d Calls.d An.d at *;unfold AA.d AA.A0 AD.A0 Calls.A0 An.A0 at *;simp only[xX,xY]at *;refine wd W5 [] (AM f1) (Ci @cV @cC @cS) ?_;refine DD (fun k=>k<=n.keep.length) (fun k:Nat=>[(5,.wo k)]) (fun k=>n.keep.length-k) 0 (xQ _) (fun _=>rfl) ?_ ?_
 .exact A6.ck rfl
 rintro k hk
 by_cases hkl:k<n.keep.length
 .obtain⟨x,hx⟩:=BB hkl;have g1:Ix x.A0 x.A0=true:=by unfold AK.A0;simp[Ix,eq1]
  unfold AK.A0 at g1;have ix1:=hx;refine wd W5 [] (AM g1) A4 ?_;clear ix1;with_reducible repeat' first|constructor|intro hc
  refine⟨k+1,hkl,om,xH _,?_⟩;exact A6.ck rfl
 .have e:k=n.keep.length:=om
  subst e;refine wd W5 [] (MX f2 f3 f4 f5 f6) (Ci @c5 @c6 @c7) ?_;with_reducible repeat' first|constructor|intro hc
  exact zE
abbrev Jb:Aw:=[0,1,2,3,4,28,33,109]
theorem fz(c:Calls)(hl:∀x∈c.op,Am x.Ao)(hn:c.op.length<=9223372036854775807):xB 32 [c.d] (.b (Bs c)):=by
 obtain⟨id,AU,op⟩:=c;replace hl:∀x∈op,Am x.Ao:=hl;replace hn:op.length<=9223372036854775807:=hn;refine zF AF Tryz.func32 ?_;unfold Calls.d Calls.A0
 cases hh:Pg ⟨id,AU,op⟩with
 |false=>
  have hT:Bs ⟨id,AU,op⟩=false:=by unfold Bs;rw[hh];rfl
  refine wd Jb [] A4 A4 ?_;with_reducible repeat' first|constructor|intro hc
  all_goals first
   |(refine⟨_,_,rfl,rfl,?_⟩;simp only[Cy];rw[hT];done)
   |(exfalso;simp[Pg,Bp]at hh;omega)
 |true=>
 have hT:Bs ⟨id,AU,op⟩=HM op.length (JA ⟨id,AU,op⟩):=by unfold Bs;rw[hh];rfl
 simp only[Pg,Bp,xI,xK]at hh;obtain⟨⟨h1,h2⟩,h3,h4,h5⟩:=hh;have f1:decide (id<0)=false:=xO om;have f2:decide (id>=65536)=false:=xO om;have f3:decide (AU<0)=false:=xO om;have f4:decide (AU>1048576)=false:=xO om;have f5:decide ((op.length:Int)>16)=false:=xO om;refine wd Jb [] (MX f1 f2 f3 f4 f5) A4 ?_;refine DD (fun k=>k<=op.length/\HM k (JA ⟨id,AU,op⟩)=true) (fun k:Nat=>[(3,.wo k)]) (fun k=>op.length-k) 0 ⟨xQ _,rfl⟩ (fun _=>rfl) ?_ ?_
 .exact A6.ck rfl
 rintro k ⟨hk,hpre⟩
 by_cases hkl:k<op.length
 .obtain⟨x,hx⟩:=BB hkl;have gx:op.getD k KN=x:=getD_at hx;have c1:=Wi.SU x.Ao;have c2:=Wi.JU x.Ao (lm (hl x (yH hx)));have c3:=mh x.C0;have hK:JA ⟨id,AU,op⟩ k=((x.Ao.right&&(x.Ao.BN&&(decide (x.Ao.As=id)&&(decide (x.id=x.Ao.Aa)&&(decide (x.id<=id*1048576+AU)&&(decide (1<=x.BA)&&(decide (x.BA<=3)&&DJ x.C0)))))))&&decide (k=0\/(op.getD (k-1) KN).id<x.id)):=by unfold JA Em;rw[gx]
  unfold AC.d AC.A0 at c1 c2;generalize x.Ao.right=rr at *;generalize x.Ao.BN=aa at *;generalize DJ x.C0=tt at *;generalize JA ⟨id,AU,op⟩=K at*
  by_cases h0:k=0
  .have f6:decide ((k:Int)>0)=false:=xO om;have ix1:=hx;refine wd Jb [] (AM f6) (Ci @c1 @c2 @c3) ?_;clear ix1;with_reducible repeat' first|constructor|intro hc
   all_goals clear c1 c2 c3
   all_goals first
    |(refine⟨k+1,⟨hkl,Ff hpre (by rw[hK];grind)⟩,om,xH _,?_⟩
      exact A6.ck rfl)
    |(refine⟨_,_,rfl,rfl,?_⟩;simp only[Cy];rw[hT,I1 hkl (by rw[hK];grind)])
  .have f6:decide ((k:Int)>0)=true:=xM om;have e1:(k:Int)-1=((k-1:Nat):Int):=om
   obtain⟨y,hy⟩:=BB (xs:=op) (k:=k-1) om;have gy:op.getD (k-1) KN=y:=getD_at hy;rw[gy]at hK;have ix1:=hx;have ix2:=hy;refine wd Jb [] (Ax f6 e1) (Ci @c1 @c2 @c3) ?_;clear ix2 ix1;with_reducible repeat' first|constructor|intro hc
   all_goals clear c1 c2 c3
   all_goals first
    |(refine⟨k+1,⟨hkl,Ff hpre (by rw[hK];grind)⟩,om,xH _,?_⟩
      exact A6.ck rfl)
    |(refine⟨_,_,rfl,rfl,?_⟩;simp only[Cy];rw[hT,I1 hkl (by rw[hK];grind)])
 .have e:k=op.length:=om
  subst e;rw[hpre]at hT;refine wd Jb [] A4 A4 ?_;with_reducible repeat' first|constructor|intro hc
  exact BL hT
abbrev Hu:Aw:=[0,2,3,4,5,7,11,44,56]
theorem me(l:List Past)(hl:∀x∈l,Am x.AE)(hn:l.length<=9223372036854775807):xB 33 [B5 l] (.b (GI l)):=by
 refine zF AF Tryz.func33 ?_;have hT:GI l=(decide (l.length<=40)&&HM l.length (FP l)):=rfl;refine wd Hu [] A4 A4 ?_;refine DD (fun k=>k<=l.length/\HM k (FP l)=true) (fun k:Nat=>[(3,.wo k)]) (fun k=>l.length-k) 0 ⟨xQ _,rfl⟩ (fun _=>rfl) ?_ ?_
 .exact A6.ck rfl
 rintro k ⟨hk,hpre⟩
 by_cases hkl:k<l.length
 .obtain⟨x,hx⟩:=BB hkl;have gx:l.getD k Pt=x:=getD_at hx;have hlx:=hl x (yH hx);have hK:FP l k=(Mq x&& !((l.take k).any (La x.As x.Aa))):=by unfold FP;rw[gx]
  have c1:=tn x.AE hlx;have hO:Mq x=(x.AE.right&&(!x.AE.BN&&(decide (x.AE.dst=x.As)&&decide (x.AE.Aa=x.Aa)))):=rfl;have c2:=fu (l.take k) x.AE.dst x.AE.Aa (fun y hy=>hl y (List.mem_of_mem_take hy)) (by rw[yM];omega);unfold Past.d Past.A0 at c1;unfold AC.d AC.A0 at c1 c2;have e1:List.take k (List.map Past.A0 l)=List.map Past.A0 (List.take k l):=(List.map_take ..).symm;generalize Tf (l.take k) x.AE.dst x.AE.Aa=fm at*
  cases hb:x.AE.right&& !x.AE.BN with
  |false=>
   rw[hb]at c1;simp only[yJ,yC]at c1;have hN:FP l k=false:=by rw[hK,hO];revert hb;cases x.AE.right<;>cases x.AE.BN<;>simp
   have ix1:=hx;refine wd Hu [] A4 (AM @c1) ?_;clear ix1;with_reducible repeat' first|constructor|intro hc
   all_goals(clear c1 c2;refine⟨_,_,rfl,rfl,?_⟩;simp only[Cy];rw[hT,I1 hkl hN,zY])
  |true=>
   rw[hb]at c1;simp only[yG]at c1;rw[xI]at hb;rw[hb.1,hb.2,yF,yF]at hO
   by_cases h1:x.AE.dst=x.As
   .by_cases h2:x.AE.Aa=x.Aa
    .have f1:(x.AE.dst !=x.As)=false:=C2 h1;have f2:(x.AE.Aa !=x.Aa)=false:=C2 h2;have hN:FP l k= !((l.take k).any (La x.AE.dst x.AE.Aa)):=by rw[hK,hO,h1,h2];simp
     generalize(l.take k).any (La x.AE.dst x.AE.Aa)=tw at *;have ix1:=hx;refine wd Hu [] (Ci f1 f2 e1) (Ax @c1 @c2) ?_ [(3,11),(4,11),(5,11),(6,11)];clear ix1;with_reducible repeat' first|constructor|intro hc
     all_goals clear c1 c2
     all_goals first
      |(refine⟨k+1,⟨hkl,Ff hpre (by rw[hN];grind)⟩,om,xH _,?_⟩
        exact A6.ck rfl)
      |(refine⟨_,_,rfl,rfl,?_⟩;simp only[Cy];rw[hT,I1 hkl (by rw[hN];grind),zY])
    .have f1:(x.AE.dst !=x.As)=false:=C2 h1;have f2:(x.AE.Aa !=x.Aa)=true:=C4 h2;have hN:FP l k=false:=by rw[hK,hO];simp[h2]
     have ix1:=hx;refine wd Hu [] (Ax f1 f2) (AM @c1) ?_;clear ix1;with_reducible repeat' first|constructor|intro hc
     all_goals(clear c1 c2;refine⟨_,_,rfl,rfl,?_⟩;simp only[Cy];rw[hT,I1 hkl hN,zY])
   .have f1:(x.AE.dst !=x.As)=true:=C4 h1;have hN:FP l k=false:=by rw[hK,hO];simp[h1]
    have ix1:=hx;refine wd Hu [] (AM f1) (AM @c1) ?_;clear ix1;with_reducible repeat' first|constructor|intro hc
    all_goals(clear c1 c2;refine⟨_,_,rfl,rfl,?_⟩;simp only[Cy];rw[hT,I1 hkl hN,zY])
 .have e:k=l.length:=om
  subst e;rw[hpre]at hT;refine wd Hu [] A4 A4 ?_;with_reducible repeat' first|constructor|intro hc
  all_goals(refine⟨_,_,rfl,rfl,?_⟩;simp only[Cy];rw[hT];simp;try omega)
end Nd
end Go.Proofs.YtkljbfejbakooaaGreatDoor
