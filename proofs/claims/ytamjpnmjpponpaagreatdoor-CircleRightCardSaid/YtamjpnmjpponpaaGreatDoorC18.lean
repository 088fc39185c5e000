/- Part 18 of a proof. Conditions: those that its theorems state. -/
import Derived.Test.YtamjpnmjpponpaaGreatDoorC16
import Derived.Test.YtamjpnmjpponpaaGreatDoorC17
set_option linter.unusedSimpArgs false
set_option linter.unusedVariables false
set_option maxHeartbeats 40000000
set_option maxRecDepth 4000
namespace Go.Proofs.YtamjpnmjpponpaaGreatDoor
namespace Nd
open Go.Gar
open Wi (AF BV B7 AU Bp mC)
theorem QX(c:Calls)(hl:∀x∈c.op,Ay x.BD)(hn:c.op.length<=1048576):yS 59 [c.d] c.d:=by
 obtain⟨id,Ad,l⟩:=c;have c1:=Wr id Ad l hl hn;refine zF AE Tryz.func59 ?_;unfold Calls.d Calls.A4 at *;refine Ax [0,1,2] ?_ (BJ [] c1);exact zE
theorem kX(id Ad:Int)(l:List Al)(hl:∀x∈l,Ay x.BD)(hn:l.length<=1048576):yT 59 [.d (Calls.d ⟨id,Ad,l⟩)] [] (.ag [.yO id,.yO Ad,.sl 5 l.length 20]) [.gone,.c [.yO id,.yO Ad,.sl 5 l.length 20],.gone,.gone,.gone,.a (Ag l)]:=by
 have c1:=Wr id Ad l hl hn;refine zD AE Tryz.func59 ?_;unfold Calls.d Calls.A4 at *;refine Ax [0,1,2] ?_ (BJ [] c1);exact wE
theorem BN(n:AA)(h:Hm n):yS 32 [n.d] n.d:=by
 have c1:=HS n.A7 (by have:=h.vb;omega) (by have:=h.vl;omega);have c2:=QX n.Ac h.cl h.cn;have c3:=bA n.BZ h.sl h.sn;have c4:=HP n.AQ h.fl;have c5:=HP n.AX h.ml;have c6:=HP n.AW h.tl;have c7:=dJ n.keep h.kn;refine zF AE Tryz.func32 ?_;unfold AG.d AG.A4 at c1;unfold Calls.d Calls.A4 at c2;unfold B9.d B9.A4 at c4 c5 c6;refine AO [0,1,2] ?_ (zq7 @c1 @c2 @c3 @c4 @c5 @c6 @c7);exact BW (zh @AA.d.eq_1 (zh @AA.A4.eq_1 (zh @AG.A4.eq_1 (zh @Calls.A4.eq_1 @B9.A4.eq_1))))
end Nd
end Go.Proofs.YtamjpnmjpponpaaGreatDoor
