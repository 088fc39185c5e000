/- Part 35 of a proof. Conditions: those that its theorems state. -/
import Derived.Test.YtamjpnmjpponpaaGreatDoorC18
import Derived.Test.YtamjpnmjpponpaaGreatDoorC26
set_option linter.unusedSimpArgs false
set_option linter.unusedVariables false
set_option maxHeartbeats 40000000
set_option maxRecDepth 4000
namespace Go.Proofs.YtamjpnmjpponpaaGreatDoor
namespace Nd
open Go.Gar
open Wi (AF BV B7 AU Bp mC)
abbrev Ew:BF:=[0,1,2,4,5,6,7,8,9,29]
theorem bx(n:AA)  (w:Int)(h:Hm n)(hw:Ke w [1,2,3,5,6,7]=true):yS 271 [n.d,.i .u8 w] n.d:=by
 have cO:=BN n h;have cR:=BO n h;have cT:=DI n;refine zF AE Tryz.func271 ?_;unfold AA.d AA.A4 AG.A4 Calls.A4 B9.A4 at *;unfold hC NK Kj Gj at *;have lk1:=hw;refine B6 Ew ?_ (AK @cO) (BJ [2] cT);clear lk1;exact zE
theorem bno1(n:AA)  (h:Hm n)(hr:BL n=false):yS 271 [n.d,.i .u8 1] n.d:=by
 have cO:=BN n h;have cR:=BO n h;rw[hr]at cR;have cT:=DI n;refine zF AE Tryz.func271 ?_;unfold AA.d AA.A4 AG.A4 Calls.A4 B9.A4 at *;unfold hC NK Kj Gj at *;refine B6 Ew ?_ (Au @cO @cR) (BJ [2] cT);exact zE
theorem bno2(n:AA)  (h:Hm n)(hr:BL n=false):yS 271 [n.d,.i .u8 2] n.d:=by
 have cO:=BN n h;have cR:=BO n h;rw[hr]at cR;have cT:=DI n;refine zF AE Tryz.func271 ?_;unfold AA.d AA.A4 AG.A4 Calls.A4 B9.A4 at *;unfold hC NK Kj Gj at *;refine B6 Ew ?_ (Au @cO @cR) (BJ [2] cT);exact zE
theorem bno3(n:AA)  (h:Hm n)(hr:BL n=false):yS 271 [n.d,.i .u8 3] n.d:=by
 have cO:=BN n h;have cR:=BO n h;rw[hr]at cR;have cT:=DI n;refine zF AE Tryz.func271 ?_;unfold AA.d AA.A4 AG.A4 Calls.A4 B9.A4 at *;unfold hC NK Kj Gj at *;refine B6 Ew ?_ (Au @cO @cR) (BJ [2] cT);exact zE
theorem bno5(n:AA)  (h:Hm n)(hr:BL n=false):yS 271 [n.d,.i .u8 5] n.d:=by
 have cO:=BN n h;have cR:=BO n h;rw[hr]at cR;have cT:=DI n;refine zF AE Tryz.func271 ?_;unfold AA.d AA.A4 AG.A4 Calls.A4 B9.A4 at *;unfold hC NK Kj Gj at *;refine B6 Ew ?_ (Au @cO @cR) (BJ [2] cT);exact zE
theorem bno6(n:AA)  (h:Hm n)(hr:BL n=false):yS 271 [n.d,.i .u8 6] n.d:=by
 have cO:=BN n h;have cR:=BO n h;rw[hr]at cR;have cT:=DI n;refine zF AE Tryz.func271 ?_;unfold AA.d AA.A4 AG.A4 Calls.A4 B9.A4 at *;unfold hC NK Kj Gj at *;refine B6 Ew ?_ (Au @cO @cR) (BJ [2] cT);exact zE
theorem bno7(n:AA)  (h:Hm n)(hr:BL n=false):yS 271 [n.d,.i .u8 7] n.d:=by
 have cO:=BN n h;have cR:=BO n h;rw[hr]at cR;have cT:=DI n;refine zF AE Tryz.func271 ?_;unfold AA.d AA.A4 AG.A4 Calls.A4 B9.A4 at *;unfold hC NK Kj Gj at *;refine B6 Ew ?_ (Au @cO @cR) (BJ [2] cT);exact zE
theorem bok1(n:AA)  (h:Hm n)(hr:BL n=true):yS 271 [n.d,.i .u8 1] (uT n).d:=by
 have cO:=BN n h;have cR:=BO n h;rw[hr]at cR;have cT:=DI n;have cE:=Uq n;unfold uT at *;refine zF AE Tryz.func271 ?_;unfold AA.d AA.A4 AG.A4 Calls.A4 B9.A4 at *;unfold hC NK Kj Gj at *;refine B6 Ew ?_ (Au @cO @cR) (H0 [2] cT [2] cE);exact zE
theorem bok2(n:AA)  (h:Hm n)(hr:BL n=true):yS 271 [n.d,.i .u8 2] (uT n).d:=by
 have cO:=BN n h;have cR:=BO n h;rw[hr]at cR;have cT:=DI n;have cE:=Uq n;unfold uT at *;refine zF AE Tryz.func271 ?_;unfold AA.d AA.A4 AG.A4 Calls.A4 B9.A4 at *;unfold hC NK Kj Gj at *;refine B6 Ew ?_ (Au @cO @cR) (H0 [2] cT [2] cE);exact zE
theorem bok3(n:AA)  (h:Hm n)(hr:BL n=true):yS 271 [n.d,.i .u8 3] (uT n).d:=by
 have cO:=BN n h;have cR:=BO n h;rw[hr]at cR;have cT:=DI n;have cE:=Uq n;unfold uT at *;refine zF AE Tryz.func271 ?_;unfold AA.d AA.A4 AG.A4 Calls.A4 B9.A4 at *;unfold hC NK Kj Gj at *;refine B6 Ew ?_ (Au @cO @cR) (H0 [2] cT [2] cE);exact zE
theorem bok5(n:AA)  (h:Hm n)(hr:BL n=true)(hx0:0<=n.next)(hx1:n.next<16)(hs:0<=n.AQ.AC.AI.length):yS 271 [n.d,.i .u8 5] (if n.AQ.A5=5 then n else(B5 n 5 false ⟨Dg (DW n.AQ 100),[],false⟩).1).d:=by
 have cO:=BN n h;have cR:=BO n h;rw[hr]at cR;have cT:=DI n;have cE:=f9 n hx0 hx1 h.vb h.vl h.kn hs;generalize(if n.AQ.A5=5 then n else(B5 n 5 false ⟨Dg (DW n.AQ 100),[],false⟩).1)=r at *;refine zF AE Tryz.func271 ?_;unfold AA.d AA.A4 AG.A4 Calls.A4 B9.A4 at *;unfold hC NK Kj Gj at *;refine B6 Ew ?_ (Au @cO @cR) (H0 [2] cT [2,3,4,6] cE);exact zE
theorem bok6(n:AA)  (h:Hm n)(hr:BL n=true)(hx0:0<=n.next)(hx1:n.next<16)(hs:0<=n.AX.AC.AI.length):yS 271 [n.d,.i .u8 6] (if n.AX.A5=5 then n else(B5 n 6 false ⟨Dg (DW n.AX 100),[],false⟩).1).d:=by
 have cO:=BN n h;have cR:=BO n h;rw[hr]at cR;have cT:=DI n;have cE:=fA n hx0 hx1 h.vb h.vl h.kn hs;generalize(if n.AX.A5=5 then n else(B5 n 6 false ⟨Dg (DW n.AX 100),[],false⟩).1)=r at *;refine zF AE Tryz.func271 ?_;unfold AA.d AA.A4 AG.A4 Calls.A4 B9.A4 at *;unfold hC NK Kj Gj at *;refine B6 Ew ?_ (Au @cO @cR) (H0 [2] cT [2,3,4,7] cE);exact zE
theorem bok7(n:AA)  (h:Hm n)(hr:BL n=true)(hx0:0<=n.next)(hx1:n.next<16)(hs:0<=n.AW.AC.AI.length):yS 271 [n.d,.i .u8 7] (if n.AW.A5=5 then n else(B5 n 7 false ⟨Dg (DW n.AW 100),[],false⟩).1).d:=by
 have cO:=BN n h;have cR:=BO n h;rw[hr]at cR;have cT:=DI n;have cE:=fB n hx0 hx1 h.vb h.vl h.kn hs;generalize(if n.AW.A5=5 then n else(B5 n 7 false ⟨Dg (DW n.AW 100),[],false⟩).1)=r at *;refine zF AE Tryz.func271 ?_;unfold AA.d AA.A4 AG.A4 Calls.A4 B9.A4 at *;unfold hC NK Kj Gj at *;refine B6 Ew ?_ (Au @cO @cR) (H0 [2] cT [2,3,4,8] cE);exact zE
end Nd
end Go.Proofs.YtamjpnmjpponpaaGreatDoor
