/- Part 28 of a proof. Conditions: those that its theorems state. -/
import Derived.Test.YtamjpnmjpponpaaGreatDoorC27
set_option linter.unusedSimpArgs false
set_option linter.unusedVariables false
set_option linter.unnecessarySimpa false
set_option maxHeartbeats 40000000
set_option maxRecDepth 4000
namespace Go.Proofs.YtamjpnmjpponpaaGreatDoor
namespace Nd
open Go.Gar
open Wi (AF BV B7 AU Bp mC Cp Bc)
abbrev R3:BF:=[0,1,2,3,4,5,6,19]
abbrev M0:BF:=[0,1,4,5,6,7,15,23,29]
abbrev OW:BF:=[0,1,2,3,4,5,25]
theorem eM(m:AF):yS 293 [m.d] (CY m).d:=by
 have c1:=Wi.Gs m
 cases h:m.BY with
 |false=>
  have hT:CY m=AU:=by unfold CY;rw[h];rfl
  rw[h]at c1;rw[hT];clear h hT;refine zF AE Tryz.func293 ?_;unfold Wi.AF.d Wi.AF.A4 at *;refine AO [0,1,2,5] ?_ (AK @c1);exact BW (zh @AU.eq_1 @An.eq_1)
 |true=>
  have hT:CY m=⟨m.AN+6,m.Ae,m.dst,m.B8,0,false,false,0,0,[],An,0⟩:=by unfold CY;rw[h];rfl
  have hk:1<=m.AN/\m.AN<=6:=by
   unfold AF.BY at h;simpa only[zO,zW]using h
  have f1:(m.AN+6)%256=m.AN+6:=om
  rw[h]at c1;rw[hT];clear h hT;refine zF AE Tryz.func293 ?_;unfold Wi.AF.d Wi.AF.A4 at *;refine AJ [0,1,2,5] ?_ (AK f1) (AK @c1);exact BW @An.eq_1
theorem kI(v:AG)(A5 BH:Int)(hb:v.A6.length<=1000)(hl:v.AB.length<=1000)(h0:0<=A5):yS 231 [v.d,.agg [.i .u8 A5,.yX BH]] (.tup [.agg [.i .u8 (Cm v A5 BH).1.1,.yX (Cm v A5 BH).1.2],BS (Cm v A5 BH).2]):=by
 have c1:=Bo v hb hl;have c2:=Qp A5 BH;have c3:=JX v hb hl
 have c4:Aq v=true->yS 280 [.agg [.i .u8 1,.yX (FM v)]] (BS (G9 1 (FM v))):=fun hv=>QU 1 (FM v) (by decide) (by
  unfold Cl
  rw[zx (by decide),<-Eh,(U6 hv).1];rfl)
 refine zF AE Tryz.func231 ?_;unfold AG.d AG.A4 at*
 cases hv:Aq v with
 |false=>
  have hT:Cm v A5 BH=((A5,BH),[]):=by unfold Cm;rw[hv];rfl
  rw[hv]at c1;rw[hT];refine AO R3 ?_ (AK @c1);exact zE
 |true=>
 have c4:=c4 hv;rw[hv]at c1
 cases hs:Cl A5 BH with
 |false=>
  have hT:Cm v A5 BH=((A5,BH),[]):=by unfold Cm;rw[hv,hs];rfl
  rw[hs]at c2;rw[hT];refine AO R3 ?_ (Au @c1 @c2);exact zE
 |true=>
 rw[hs]at c2
 by_cases hp:A5=0
 .have hT:Cm v A5 BH=((1,FM v),G9 1 (FM v)):=by unfold Cm;rw[hv,hs,zU hp];rfl
  have f1:=C8 hp;rw[hT];generalize G9 1 (FM v)=ak at *;generalize FM v=fi at *;refine AJ R3 ?_ (AK f1) (ME @c1 @c2 @c3 @c4);exact zE
 .have hT:Cm v A5 BH=((A5,BH),[]):=by unfold Cm;rw[hv,hs,zQ hp];rfl
  have f1:=CI hp;rw[hT];refine AJ R3 ?_ (AK f1) (Au @c1 @c2);exact zE
theorem o5(v:AG)(hb:v.A6.length<=1000)(hl:v.AB.length<=1000):yS 233 [v.d] (.tup [.yX (Q4 v).1,.b (Q4 v).2]):=by
 have c1:=Bo v hb hl;have hT:Q4 v=if Aq v&&decide (v.AH≠ -1)then(v.AH,true)else(0,false):=rfl
 rw[hT];clear hT;refine zF AE Tryz.func233 ?_;unfold AG.d AG.A4 at*
 cases hv:Aq v with
 |false=>
  rw[hv]at c1;refine AO [0,1,2,3,11] ?_ (AK @c1);exact zE
 |true=>
 rw[hv]at c1
 by_cases hp:v.AH= -1
 .have f1:=AT hp;have hf:decide (v.AH≠ -1)=false:=zQ (fun h=>h hp);rw[hf];refine AJ [0,1,2,3,11] ?_ (AK f1) (AK @c1);exact zE
 .have f1:=eq_false' hp;have hf:decide (v.AH≠ -1)=true:=zU hp;rw[hf];refine AJ [0,1,2,3,11] ?_ (AK f1) (AK @c1);exact zE
theorem mf(l:List AS)(AI:AL)(hn:l.length<=1048576):yS 238 [BU l,.s AI] (.tup [(FV l AI).1.d,.b (FV l AI).2]):=by
 have c1:=Qh l om;refine zF AE Tryz.func238 ?_
 by_cases h0:l.length=0
 .have f1:((l.length:Int)==0)=true:=AT om;have hT:FV l AI=(An,false):=by unfold FV;rw[zx (by simp[h0])]
  rw[hT];refine Aj M0 ?_ (AK f1);exact BW (zh @AS.d.eq_1 (zh @AS.A4.eq_1 @An.eq_1))
 have f1:((l.length:Int)==0)=false:=eq_false' om
 cases hk:Cg l with
 |false=>
  have hT:FV l AI=(An,false):=by unfold FV;rw[hk,q0v];rfl
  rw[hk]at c1;rw[hT];refine AJ M0 ?_ (AK f1) (AK @c1);exact BW (zh @AS.d.eq_1 (zh @AS.A4.eq_1 @An.eq_1))
 |true=>
 have c2:=ai l AI (DJ.1 hk).2.2 hn;rw[hk]at c1;have hple:=Sz l AI
 have hT:FV l AI=(l.getD (if l.length<=(if hasK l AI then Cc l AI+1 else Cc l AI)then 0 else(if hasK l AI then Cc l AI+1 else Cc l AI)) An,true):=by
  unfold FV;rw[hk,zU om];rfl
 rw[hT];clear hT;generalize Cc l AI=p at *;generalize hasK l AI=b at *;have key':∃a:Nat,(if b=true then p+1 else p)=a/\a<=p+1:=⟨_,rfl,by split<;>omega⟩;obtain⟨a,ha,hap⟩:=key';rw[ha]
 by_cases hal:l.length<=a
 .rw[zn hal];obtain⟨x,hx⟩:=Ah (show 0<l.length by omega);have gx:l.getD 0 An=x:=getD_at hx;have hx':l[(0:Nat)]? =some x:=hx;rw[gx]
  cases b with
  |true=>
   rw[zn rfl]at ha;have f2:decide ((p:Int)+1>=(l.length:Int))=true:=zU om;have ix1:=hx';refine AJ M0 ?_ (Au f1 f2) (Au @c1 @c2);clear ix1;exact BW (zh @AS.d.eq_1 @AS.A4.eq_1)
  |false=>
   rw[zx (by decide)]at ha;have f2:decide ((p:Int)>=(l.length:Int))=true:=zU om;have ix1:=hx';refine AJ M0 ?_ (Au f1 f2) (Au @c1 @c2);clear ix1;exact BW (zh @AS.d.eq_1 @AS.A4.eq_1)
 .rw[zx hal];obtain⟨x,hx⟩:=Ah (show a<l.length by omega);have gx:l.getD a An=x:=getD_at hx;rw[gx]
  cases b with
  |true=>
   rw[zn rfl]at ha;subst ha;have f2:decide ((p:Int)+1>=(l.length:Int))=false:=zQ om;have ix1:=hx;refine AJ M0 ?_ (Au f1 f2) (Au @c1 @c2);clear ix1;exact BW (zh @AS.d.eq_1 @AS.A4.eq_1)
  |false=>
   rw[zx (by decide)]at ha;subst ha;have f2:decide ((p:Int)>=(l.length:Int))=false:=zQ om;have ix1:=hx;refine AJ M0 ?_ (Au f1 f2) (Au @c1 @c2);clear ix1;exact BW (zh @AS.d.eq_1 @AS.A4.eq_1)
theorem rF(v:AG)(m:AF)(hb:v.A6.length<=1000)(hl:v.AB.length<=1000)(hm:Ay m):yS 299 [v.d,m.d] (P5 v m).d:=by
 have c1:=Bo v hb hl;have c2:=Wi.Ct m (lm hm);have c3:=eM m;have c4:=bS v m.AI m.BA hb hl;have hT:P5 v m=if(Aq v&&decide (m.AN=4))&&(decide (m.dst=v.id)&&m.right)then{CY m with AP:=(Eg v m.AI m.BA).1,done:=(Eg v m.AI m.BA).2}else AU:=rfl
 rw[hT];clear hT;generalize CY m=t at *;generalize Eg v m.AI m.BA=h at *;obtain⟨h1,h2⟩:=h;refine zF AE Tryz.func299 ?_;unfold Wi.AF.d Wi.AF.A4 AG.d AG.A4 at*
 cases hv:Aq v with
 |false=>
  rw[hv]at c1;refine AO OW ?_ (AK @c1);exact BW (zh @AU.eq_1 @An.eq_1)
 |true=>
 rw[hv]at c1
 by_cases hk:m.AN=4
 case neg=>
  have f1:=CI hk;rw[zQ hk];refine AJ OW ?_ (AK f1) (AK @c1);exact BW (zh @AU.eq_1 @An.eq_1)
 case pos=>
 have f1:=C8 hk;rw[zU hk]
 by_cases hd:m.dst=v.id
 case neg=>
  have f2:=CI hd;rw[zQ hd];refine AJ OW ?_ (Au f1 f2) (AK @c1);exact BW (zh @AU.eq_1 @An.eq_1)
 case pos=>
 have f2:=C8 hd;rw[zU hd]
 cases hr:m.right with
 |false=>
  rw[hr]at c2;refine AJ OW ?_ (Au f1 f2) (Au @c1 @c2);exact BW (zh @AU.eq_1 @An.eq_1)
 |true=>
  rw[hr]at c2;refine AJ OW ?_ (Au f1 f2) (ME @c1 @c2 @c3 @c4);exact zE
theorem qU(id:Int):yS 42 [.yX id] (.tup [(if BV id then Calls.d ⟨id,0,[]⟩else Calls.d ⟨0,0,[]⟩),.yX (if BV id then 0 else 2)]):=by
 refine zF AE Tryz.func42 ?_;unfold Calls.d Calls.A4
 by_cases h0:id<0
 .have f1:decide (id<0)=true:=zU h0;have hp:BV id=false:=by unfold BV;simp;omega
  rw[hp];refine Aj [0,2,3,9] ?_ (AK f1);exact zE
 have f1:decide (id<0)=false:=zQ h0
 by_cases h1:id>=65536
 .have f2:decide (id>=65536)=true:=zU h1;have hp:BV id=false:=by unfold BV;simp;omega
  rw[hp];refine Aj [0,2,3,9] ?_ (Au f1 f2);exact zE
 .have f2:decide (id>=65536)=false:=zQ h1;have hp:BV id=true:=by unfold BV;simp;omega
  rw[hp];refine Aj [0,2,3,9] ?_ (Au f1 f2);exact zE
end Nd
end Go.Proofs.YtamjpnmjpponpaaGreatDoor
