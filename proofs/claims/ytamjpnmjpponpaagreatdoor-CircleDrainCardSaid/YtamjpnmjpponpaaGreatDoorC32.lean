/- Part 32 of a proof. Conditions: those that its theorems state. -/
import Derived.Test.YtamjpnmjpponpaaGreatDoorC18
import Derived.Test.YtamjpnmjpponpaaGreatDoorC22
set_option linter.unusedSimpArgs false
set_option linter.unusedVariables false
set_option maxHeartbeats 40000000
set_option maxRecDepth 4000
namespace Go.Proofs.YtamjpnmjpponpaaGreatDoor
namespace Nd
open Go.Gar
open Wi (AF BV B7 AU Bp mC)
abbrev Lq:BF:=[0,1,2,3,4,5,9,10,11,12,13,14,15,27]
theorem Zr(n:AA)(h:Hm n)(AR AP:Int)(x:AS)(hr:BL n=false):yS 165 [n.d,.i .u8 5,.i .u8 AR,.yX AP,x.d] (.tup [n.d,BS []]):=by
 have cO:=BN n h;have cS:=JR n;have cR:=BO n h;rw[hr]at cR;refine zF AE Tryz.func165 ?_;unfold AA.d AA.A4 AG.A4 Calls.A4 B9.A4 AS.d AS.A4 at *;unfold hC at cS;refine B6 Lq ?_ (Au @cO @cR) (BJ [3] cS) [(2,4),(3,4)];exact zE
theorem Zu(n:AA)(h:Hm n)(AR AP:Int)(x:AS)(hr:BL n=true)(hx0:0<=n.next)(hx1:n.next<16)(hs:x.AI.length<=9223372036854775807)(ha:(Ei n.A7 AR AP x).BY.length<=100000)(hk:0<=(Ei n.A7 AR AP x).job.AC.AI.length):yS 165 [n.d,.i .u8 5,.i .u8 AR,.yX AP,x.d] (.tup [(B5 n 5 false (Ei n.A7 AR AP x)).1.d,BS (B5 n 5 false (Ei n.A7 AR AP x)).2]):=by
 have cO:=BN n h;have cS:=JR n;have cR:=BO n h;rw[hr]at cR;have cB:=PD n.A7 AR AP x h.vb h.vl hs;have cG:=LW n 5 false (Ei n.A7 AR AP x) (by decide) ha hx0 hx1 h.vb h.vl h.kn hk;generalize B5 n 5 false (Ei n.A7 AR AP x)=r at *;generalize Ei n.A7 AR AP x=c at *;refine zF AE Tryz.func165 ?_;unfold AG.d B9.d at *;unfold AA.d AA.A4 AG.A4 Calls.A4 B9.A4 AS.d AS.A4 at *;unfold hC at cS cG;refine B6 Lq ?_ (CP @cO @cR @cB) (H0 [3] cS [3] cG) [(2,4),(3,4)];exact zE
theorem Zs(n:AA)(h:Hm n)(AR AP:Int)(x:AS)(hr:BL n=false):yS 165 [n.d,.i .u8 6,.i .u8 AR,.yX AP,x.d] (.tup [n.d,BS []]):=by
 have cO:=BN n h;have cS:=I9 n;have cR:=BO n h;rw[hr]at cR;refine zF AE Tryz.func165 ?_;unfold AA.d AA.A4 AG.A4 Calls.A4 B9.A4 AS.d AS.A4 at *;unfold hC at cS;refine B6 Lq ?_ (Au @cO @cR) (BJ [3] cS) [(2,4),(3,4)];exact zE
theorem Zv(n:AA)(h:Hm n)(AR AP:Int)(x:AS)(hr:BL n=true)(hx0:0<=n.next)(hx1:n.next<16)(hs:x.AI.length<=9223372036854775807)(ha:(Ei n.A7 AR AP x).BY.length<=100000)(hk:0<=(Ei n.A7 AR AP x).job.AC.AI.length):yS 165 [n.d,.i .u8 6,.i .u8 AR,.yX AP,x.d] (.tup [(B5 n 6 false (Ei n.A7 AR AP x)).1.d,BS (B5 n 6 false (Ei n.A7 AR AP x)).2]):=by
 have cO:=BN n h;have cS:=I9 n;have cR:=BO n h;rw[hr]at cR;have cB:=PD n.A7 AR AP x h.vb h.vl hs;have cG:=LW n 6 false (Ei n.A7 AR AP x) (by decide) ha hx0 hx1 h.vb h.vl h.kn hk;generalize B5 n 6 false (Ei n.A7 AR AP x)=r at *;generalize Ei n.A7 AR AP x=c at *;refine zF AE Tryz.func165 ?_;unfold AG.d B9.d at *;unfold AA.d AA.A4 AG.A4 Calls.A4 B9.A4 AS.d AS.A4 at *;unfold hC at cS cG;refine B6 Lq ?_ (CP @cO @cR @cB) (H0 [3] cS [3] cG) [(2,4),(3,4)];exact zE
theorem Zt(n:AA)(h:Hm n)(AR AP:Int)(x:AS)(hr:BL n=false):yS 165 [n.d,.i .u8 7,.i .u8 AR,.yX AP,x.d] (.tup [n.d,BS []]):=by
 have cO:=BN n h;have cS:=IA n;have cR:=BO n h;rw[hr]at cR;refine zF AE Tryz.func165 ?_;unfold AA.d AA.A4 AG.A4 Calls.A4 B9.A4 AS.d AS.A4 at *;unfold hC at cS;refine B6 Lq ?_ (Au @cO @cR) (BJ [3] cS) [(2,4),(3,4)];exact zE
theorem Zw(n:AA)(h:Hm n)(AR AP:Int)(x:AS)(hr:BL n=true)(hx0:0<=n.next)(hx1:n.next<16)(hs:x.AI.length<=9223372036854775807)(ha:(Ei n.A7 AR AP x).BY.length<=100000)(hk:0<=(Ei n.A7 AR AP x).job.AC.AI.length):yS 165 [n.d,.i .u8 7,.i .u8 AR,.yX AP,x.d] (.tup [(B5 n 7 false (Ei n.A7 AR AP x)).1.d,BS (B5 n 7 false (Ei n.A7 AR AP x)).2]):=by
 have cO:=BN n h;have cS:=IA n;have cR:=BO n h;rw[hr]at cR;have cB:=PD n.A7 AR AP x h.vb h.vl hs;have cG:=LW n 7 false (Ei n.A7 AR AP x) (by decide) ha hx0 hx1 h.vb h.vl h.kn hk;generalize B5 n 7 false (Ei n.A7 AR AP x)=r at *;generalize Ei n.A7 AR AP x=c at *;refine zF AE Tryz.func165 ?_;unfold AG.d B9.d at *;unfold AA.d AA.A4 AG.A4 Calls.A4 B9.A4 AS.d AS.A4 at *;unfold hC at cS cG;refine B6 Lq ?_ (CP @cO @cR @cB) (H0 [3] cS [3] cG) [(2,4),(3,4)];exact zE
end Nd
end Go.Proofs.YtamjpnmjpponpaaGreatDoor
