/- Part 27 of a proof. Conditions: those that its theorems state. -/
import Derived.Test.YtamjpnmjpponpaaGreatDoorC18
import Derived.Test.YtamjpnmjpponpaaGreatDoorC26
set_option linter.unusedSimpArgs false
set_option linter.unusedVariables false
set_option maxHeartbeats 40000000
set_option maxRecDepth 4000
namespace Go.Proofs.YtamjpnmjpponpaaGreatDoor
namespace Nd
open Go.Gar
open Wi (AF BV B7 AU Bp mC)
abbrev FI:BF:=[0,1,2,3,4,5,6,7,8,9,10,11,12,33]
theorem hx(n:AA)(c:Al)(m:AF)(h:Hm n)(hw:Ke c.Bd [1,2,3,5,6,7]=true):yS 174 [n.d,c.d,m.d] (.tup [n.d,BS []]):=by
 obtain⟨cid,BD,Bd,ref,CZ,BQ⟩:=c;dsimp only at hw;have cO:=BN n h;have cR:=BO n h;have cT:=HZ n m;refine zF AE Tryz.func174 ?_;unfold AA.d AA.A4 AG.A4 Calls.A4 B9.A4 Al.d Al.A4 Wi.AF.d Wi.AF.A4 at *;unfold hC Zp TZ Jv at *;have lk1:=hw;refine B6 FI ?_ (AK @cO) (BJ [4,2] cT) [(3,2),(4,2)] [5];clear lk1;refine A9 FI ?_ [(2,4),(3,4)];exact zE
theorem hno(n:AA)(c:Al)(m:AF)(h:Hm n)(hw:c.Bd=1\/c.Bd=2\/c.Bd=3\/c.Bd=5\/c.Bd=6\/c.Bd=7)(hr:BL n=false):yS 174 [n.d,c.d,m.d] (.tup [n.d,BS []]):=by
 obtain⟨cid,BD,Bd,ref,CZ,BQ⟩:=c;dsimp only at hw;rcases hw with rfl|rfl|rfl|rfl|rfl|rfl
 all_goals
  have cO:=BN n h;have cR:=BO n h;rw[hr]at cR;have cT:=HZ n m;refine zF AE Tryz.func174 ?_;unfold AA.d AA.A4 AG.A4 Calls.A4 B9.A4 Al.d Al.A4 Wi.AF.d Wi.AF.A4 at *;unfold hC Zp TZ Jv at *;refine B6 FI ?_ (AK @cO) (BJ [4,2] cT) [(3,2),(4,2)] [5];refine AO FI ?_ (AK @cR) [(2,4),(3,4)];exact zE
theorem hokA(n:AA)(c:Al)(m:AF)(h:Hm n)(hw:c.Bd=1\/c.Bd=2\/c.Bd=3)(hr:BL n=true)(hm:Ay m)(h0:0<=n.A5):yS 174 [n.d,c.d,m.d] (.tup [(yG n m).d,BS (Dm n.A7 n.A5 n.BH m).2]):=by
 obtain⟨cid,BD,Bd,ref,CZ,BQ⟩:=c;dsimp only at hw;rcases hw with rfl|rfl|rfl
 all_goals
  have cO:=BN n h;have cR:=BO n h;rw[hr]at cR;have cT:=HZ n m;have cE:=r7 n m h0 h.vb h.vl hm;unfold yG at *;generalize Dm n.A7 n.A5 n.BH m=r at *;refine zF AE Tryz.func174 ?_;unfold AA.d AA.A4 AG.A4 Calls.A4 B9.A4 Al.d Al.A4 Wi.AF.d Wi.AF.A4 at *;unfold hC Zp TZ Jv at *;refine B6 FI ?_ (AK @cO) (BJ [4,2] cT) [(3,2),(4,2)] [5];refine B6 FI ?_ (AK @cR) (BJ [4,2] cE) [(2,4),(3,4)];exact zE
theorem hok5(n:AA)(c:Al)(m:AF)(h:Hm n)(hw:c.Bd=5)(hr:BL n=true)(hx0:0<=n.next)(hx1:n.next<16)(hm:Ay m)(hj:n.AQ.left.length<=100000)(ha:(CH n.A7 n.AQ m).BY.length<=100000)(hs:0<=(CH n.A7 n.AQ m).job.AC.AI.length):yS 174 [n.d,c.d,m.d] (.tup [(B5 n 5 (decide (n.AQ.A5=5)) (CH n.A7 n.AQ m)).1.d,BS (B5 n 5 (decide (n.AQ.A5=5)) (CH n.A7 n.AQ m)).2]):=by
 obtain⟨cid,BD,Bd,ref,CZ,BQ⟩:=c;dsimp only at hw;subst hw;have cO:=BN n h;have cR:=BO n h;rw[hr]at cR;have cT:=HZ n m;have cE:=gA n m hx0 hx1 h.vb h.vl h.kn hm hj ha hs;generalize(B5 n 5 (decide (n.AQ.A5=5)) (CH n.A7 n.AQ m))=r at *;refine zF AE Tryz.func174 ?_;unfold AA.d AA.A4 AG.A4 Calls.A4 B9.A4 Al.d Al.A4 Wi.AF.d Wi.AF.A4 at *;unfold hC Zp TZ Jv at *;refine B6 FI ?_ (AK @cO) (BJ [4,2] cT) [(3,2),(4,2)] [5];refine B6 FI ?_ (AK @cR) (BJ [4,2,5,6,8] cE) [(2,4),(3,4)];exact zE
theorem hok6(n:AA)(c:Al)(m:AF)(h:Hm n)(hw:c.Bd=6)(hr:BL n=true)(hx0:0<=n.next)(hx1:n.next<16)(hm:Ay m)(hj:n.AX.left.length<=100000)(ha:(CH n.A7 n.AX m).BY.length<=100000)(hs:0<=(CH n.A7 n.AX m).job.AC.AI.length):yS 174 [n.d,c.d,m.d] (.tup [(B5 n 6 (decide (n.AX.A5=5)) (CH n.A7 n.AX m)).1.d,BS (B5 n 6 (decide (n.AX.A5=5)) (CH n.A7 n.AX m)).2]):=by
 obtain⟨cid,BD,Bd,ref,CZ,BQ⟩:=c;dsimp only at hw;subst hw;have cO:=BN n h;have cR:=BO n h;rw[hr]at cR;have cT:=HZ n m;have cE:=gB n m hx0 hx1 h.vb h.vl h.kn hm hj ha hs;generalize(B5 n 6 (decide (n.AX.A5=5)) (CH n.A7 n.AX m))=r at *;refine zF AE Tryz.func174 ?_;unfold AA.d AA.A4 AG.A4 Calls.A4 B9.A4 Al.d Al.A4 Wi.AF.d Wi.AF.A4 at *;unfold hC Zp TZ Jv at *;refine B6 FI ?_ (AK @cO) (BJ [4,2] cT) [(3,2),(4,2)] [5];refine B6 FI ?_ (AK @cR) (BJ [4,2,5,6,9] cE) [(2,4),(3,4)];exact zE
theorem hok7(n:AA)(c:Al)(m:AF)(h:Hm n)(hw:c.Bd=7)(hr:BL n=true)(hx0:0<=n.next)(hx1:n.next<16)(hm:Ay m)(hj:n.AW.left.length<=100000)(ha:(CH n.A7 n.AW m).BY.length<=100000)(hs:0<=(CH n.A7 n.AW m).job.AC.AI.length):yS 174 [n.d,c.d,m.d] (.tup [(B5 n 7 (decide (n.AW.A5=5)) (CH n.A7 n.AW m)).1.d,BS (B5 n 7 (decide (n.AW.A5=5)) (CH n.A7 n.AW m)).2]):=by
 obtain⟨cid,BD,Bd,ref,CZ,BQ⟩:=c;dsimp only at hw;subst hw;have cO:=BN n h;have cR:=BO n h;rw[hr]at cR;have cT:=HZ n m;have cE:=gC n m hx0 hx1 h.vb h.vl h.kn hm hj ha hs;generalize(B5 n 7 (decide (n.AW.A5=5)) (CH n.A7 n.AW m))=r at *;refine zF AE Tryz.func174 ?_;unfold AA.d AA.A4 AG.A4 Calls.A4 B9.A4 Al.d Al.A4 Wi.AF.d Wi.AF.A4 at *;unfold hC Zp TZ Jv at *;refine B6 FI ?_ (AK @cO) (BJ [4,2] cT) [(3,2),(4,2)] [5];refine B6 FI ?_ (AK @cR) (BJ [4,2,5,6,10] cE) [(2,4),(3,4)];exact zE
abbrev WJ:BF:=[0,1,2,3,4,5,12,17,30]
theorem DC{α:Type}[BEq α][LawfulBEq α](a:α):(a==a)=true:=beq_self_eq_true a
theorem oF(a:Al)(ha:Ay a.BD):yS 182 [a.d,a.d] (.b true):=by
 have c1:=Wi.Nz a.BD a.BD (lm ha);rw[zU rfl]at c1;obtain⟨i,m,w,r,s,t⟩:=a;have f1:=DC i;have f2:=DC w;have f3:=DC r;have f4:=DC s;have f5:=DC t;unfold Wi.AF.d Wi.AF.A4 at c1;refine zF AE Tryz.func182 ?_;unfold Al.d Al.A4;refine AJ [0,1,2,3,4] ?_ (TT f1 f2 f3 f4 f5) (AK @c1);exact zE
theorem iM(a:List Al)(ha:∀x∈a,Ay x.BD)(hn:a.length<=1048576):yS 129 [Ag a,Ag a] (.b true):=by
 have f1:=DC (a.length:Int);refine zF AE Tryz.func129 ?_;refine Aj [0,1,4,5,10,14,26] ?_ (AK f1);refine C4 (fun k=>k<=a.length) (fun k:Nat=>[(5,.yO k)]) (fun k=>a.length-k) 0 (zi _) (fun _=>rfl) ?_ ?_
 .exact A8.ck rfl
 rintro k hk
 by_cases hkl:k<a.length
 .obtain⟨x,hx⟩:=Ah hkl;have c1:=oF x (ha x (q00 hx));unfold Al.d Al.A4 at c1;have ix1:=hx;refine AO [0,1,4,5,10,14,26] ?_ (AK @c1);clear ix1;with_reducible repeat' first|constructor|intro hc
  refine⟨k+1,hkl,om,zN _,?_⟩;exact A8.ck rfl
 .have e:k=a.length:=om
  subst e;refine A9 [0,1,4,5,10,14,26] ?_;with_reducible repeat' first|constructor|intro hc
  exact zE
theorem ay(c:Calls)(ha:∀x∈c.op,Ay x.BD)(hn:c.op.length<=1048576):yS 49 [c.d,c.d] (.b true):=by
 have c1:=iM c.op ha hn;obtain⟨i,m,o⟩:=c;have f1:=DC i;have f2:=DC m;refine zF AE Tryz.func49 ?_;unfold Calls.d Calls.A4;refine AJ [0,1,2,3,4] ?_ (Au f1 f2) (AK @c1);exact zE
theorem oI(a:List Past)(ha:∀x∈a,Ay x.AD)(hn:a.length<=1048576):yS 50 [Az a,Az a] (.b true):=by
 have f1:=DC (a.length:Int);refine zF AE Tryz.func50 ?_;refine Aj [0,1,4,5,10,14,54] ?_ (AK f1);refine C4 (fun k=>k<=a.length) (fun k:Nat=>[(5,.yO k)]) (fun k=>a.length-k) 0 (zi _) (fun _=>rfl) ?_ ?_
 .exact A8.ck rfl
 rintro k hk
 by_cases hkl:k<a.length
 .obtain⟨x,hx⟩:=Ah hkl;have c1:=Wi.Nz x.AD x.AD (lm (ha x (q00 hx)));rw[zU rfl]at c1;unfold Wi.AF.d Wi.AF.A4 at c1;have f2:=DC x.B8;have f3:=DC x.Ae;have ix1:=hx;refine AJ [0,1,4,5,10,14,54] ?_ (Au f2 f3) (AK @c1);clear ix1;with_reducible repeat' first|constructor|intro hc
  refine⟨k+1,hkl,om,zN _,?_⟩;exact A8.ck rfl
 .have e:k=a.length:=om
  subst e;refine A9 [0,1,4,5,10,14,54] ?_;with_reducible repeat' first|constructor|intro hc
  exact zE
theorem Vy(j:B9)(hn:j.left.length<=1048576):yS 51 [j.d,j.d] (.b true):=by
 obtain⟨AR,A5,Ap,AC,Ao,left,Aa⟩:=j;dsimp only at hn;have f1:=DC (left.length:Int);have f2:=DC AR;have f3:=DC A5;have f4:=DC Ao;have f5:=DC Aa;have f6:Ix Ap.A4 Ap.A4=true:=by unfold C6.A4;simp[Ix,eq1]
 have f7:Ix AC.A4 AC.A4=true:=by unfold AS.A4;simp[Ix,eq1]
 unfold C6.A4 at f6;unfold AS.A4 at f7;refine zF AE Tryz.func51 ?_;unfold B9.d B9.A4;refine Aj WJ ?_ (AK f1);refine C4 (fun k=>k<=left.length) (fun k:Nat=>[(5,.yO k)]) (fun k=>left.length-k) 0 (zi _) (fun _=>rfl) ?_ ?_
 .exact A8.ck rfl
 rintro k hk
 by_cases hkl:k<left.length
 .obtain⟨x,hx⟩:=Ah hkl;have g1:=DC x;have ix1:=hx;refine Aj WJ ?_ (AK g1);clear ix1;with_reducible repeat' first|constructor|intro hc
  refine⟨k+1,hkl,om,zN _,?_⟩;exact A8.ck rfl
 .have e:k=left.length:=om
  subst e;refine Aj WJ ?_ (zq6 f2 f3 f4 f5 f6 f7);with_reducible repeat' first|constructor|intro hc
  exact zE
abbrev WK:BF:=[0,1,2,3,4,5,36,41,54]
theorem TC(v:AG):UY v v=true:=by unfold UY;simp
theorem oG(n:AA)(h:Hm n):yS 24 [n.d,n.d] (.b true):=by
 have cV:=iG n.A7 n.A7 (by have:=h.vb;omega) (by have:=h.vl;omega);rw[TC]at cV;have cC:=ay n.Ac h.cl h.cn;have cS:=oI n.BZ h.sl h.sn;have c5:=Vy n.AQ h.fl;have c6:=Vy n.AX h.ml;have c7:=Vy n.AW h.tl;have hkn:=h.kn;have f1:=DC (n.keep.length:Int);have f2:=DC n.Am;have f3:Ix [.i .u8 n.A5,.yX n.BH] [.i .u8 n.A5,.yX n.BH]=true:=by simp[Ix,eq1]
 have f4:=DC n.next;have f5:=DC n.last;have f6:=DC n.bad;clear h;refine zF AE Tryz.func24 ?_;unfold AG.d Calls.d B9.d at *;unfold AA.d AA.A4 AG.A4 Calls.A4 B9.A4 at *;simp only[zY,zZ]at *;refine AJ WK ?_ (AK f1) (CP @cV @cC @cS);refine C4 (fun k=>k<=n.keep.length) (fun k:Nat=>[(5,.yO k)]) (fun k=>n.keep.length-k) 0 (zi _) (fun _=>rfl) ?_ ?_
 .exact A8.ck rfl
 rintro k hk
 by_cases hkl:k<n.keep.length
 .obtain⟨x,hx⟩:=Ah hkl;have g1:Ix x.A4 x.A4=true:=by unfold AS.A4;simp[Ix,eq1]
  unfold AS.A4 at g1;have ix1:=hx;refine Aj WK ?_ (AK g1);clear ix1;with_reducible repeat' first|constructor|intro hc
  refine⟨k+1,hkl,om,zN _,?_⟩;exact A8.ck rfl
 .have e:k=n.keep.length:=om
  subst e;refine AJ WK ?_ (TT f2 f3 f4 f5 f6) (CP @c5 @c6 @c7);with_reducible repeat' first|constructor|intro hc
  exact zE
end Nd
end Go.Proofs.YtamjpnmjpponpaaGreatDoor
