/- Part 39 of a proof. Conditions: those that its theorems state. -/
import Derived.Test.YtkljbfejbakooaaGreatDoorT34
set_option linter.unusedSimpArgs false
set_option linter.unusedVariables false
set_option maxHeartbeats 40000000
set_option maxRecDepth 4000
namespace Go.Proofs.YtkljbfejbakooaaGreatDoor
namespace Nd
open Go.Gar
open Wi (AC Bp BE AN Bc mC C6 BP)
abbrev OI:Aw:=[0,1,4,5,7,8,9,12,13,14,15,34,41]
theorem BJ.own{P:Program}{f:FuncId}{args args':xD}{H:xS}{r x:D}(h:BJ P f args H (.d r) H)(hr:flat r=true)(hH:∀blk∈H,∃cs:ww,blk= .c (cs.map .d)/\∀d∈cs,flat d=true)
  (ha:AV.Hd H.length x args'=args) (hf:EP H.length x 0 (H++[.a x])=H++[.gone]) (ho:BY H.length H=true) (hk:AV.oks H.length args=true):BJ P f args' (H++[.a x]) (.d r) (H++[.a x]):=by
 have hF:=KR.frame (L:=[.gone]) h ho hk (fun r' H' e=>by rw[e.2]);refine⟨h.1,fun G w vs hG hR hv=> ?_⟩;have hid:G.H[H.length]? =some (.a x):=by rw[hG];simp
 have h1:=(Jo hR hid).1;have hv2:=Ba.Fu hR hid hv;rw[ha]at hv2;refine(hF.2 (G.freeze w H.length x) w vs (by rw[<-hf,<-hG];rfl) h1 hv2).mono ?_;rintro e w' ⟨v,q,G',rfl,⟨H',⟨rfl,hH'⟩,hG'⟩,hq,hR',hfr⟩;rw[hH']at hG';have hmle:∀b k v,G.m b k=some v->G'.m b k=some v:=fun b k v hm=>hfr.gle.mem b k v ((Dr hR hid).mem b k v hm)
 have hno:∀b,Own (G.freeze w H.length x) b->Own G b:=fun b hb=>(Jz hR hid hb).1;have hnx:∀b N,G.ρ H.length=some (b,N)->¬Own (G.freeze w H.length x) b:=fun b N hb ho=>(Jz hR hid ho).2 N hb
 refine⟨v,.d r,G,rfl,⟨rfl,hG⟩,by simp only[RV]at hq|-;exact QM hr hq,⟨fun id blk hb=> ?_,hR.inj,fun b k v hm=>hR'.mem b k v (hmle b k v hm),hR.sep,hR.st⟩,⟨hfr.os,hfr.tape,hfr.output,hfr.size,fun b hb ho=>⟨(hfr.keep b hb (fun hq=>ho (hno b hq))).1,ho⟩,fun _ _ _ hm=> .inl hm,J2.refl G⟩⟩;have hb0:=hb;rw[hG,List.getElem?_append]at hb;split at hb
 .rename_i hlt;obtain⟨cs,rfl,hc⟩:=hH blk (yH hb);have hb':G'.H[id]? =some (.c (cs.map .d)):=by rw[hG',y8 hlt];exact hb
  have hbf:(G.freeze w H.length x).H[id]? =some (.c (cs.map .d)):=by
   show(EP H.length x 0 G.H)[id]? =_;rw[hG,hf,y8 hlt];exact hb
  obtain⟨b',hb'',hs⟩:=hfr.gle.blk id _ hbf;rw[hb']at hb'';cases hb'';obtain⟨b,N,vs',T,k1,k2,k3,k4,k5⟩:=hR'.blk id _ hb';simp only[B7]at hs;refine⟨b,N,vs',T,(hs.2.symm.trans k1:G.ρ id=some (b,N)),k2,k3,k4,fun k y hy=> ?_⟩;obtain⟨u,hu,hru⟩:=k5 k y hy;rw[yU,yN]at hy;obtain⟨d,hd,rfl⟩:=hy;refine⟨u,hu,?_⟩;simp only[RV]at hru|-;exact QM (hc d (yH hd)) hru
 .rename_i hge
  have hi:id=H.length:=by
   have:=(xW.1 hb).1;simp only[xw,yI]at this;omega
  subst hi;have hB:=hR.blk H.length blk hb0;refine hB.QN (J2.refl G) (fun b N hl hρ=> ?_) rfl;have hlt:=FH hR ⟨H.length,N,blk,hb0,hl,hρ⟩;exact(hfr.keep b hlt (hnx b N hρ)).1
theorem Lm(l:List Past)(m:AC)(hl:∀x∈l,Am x.AE)(hn:l.length<=40)(hm:Am m):xB 121 [B5 l,.sl 15 [m.A0]] (B5 (EJ l m)):=by
 have c1:=Po l hl om;have c2:=tz m hm;have c3:=nW m.dst m.Aa
 have c4:xC 164 [.sl 2 l.length 17,.fn (.func 241) [] [.ptr 0 0 1,.ptr 1 0 1]] ([.c [.wo m.dst],.c [.wo m.Aa]]++[.a (B5 l)]) (.wo (ML l m.dst m.Aa)) ([.c [.wo m.dst],.c [.wo m.Aa]]++[.a (B5 l)]):=
  BJ.own (RX l m.dst m.Aa om) rfl (fun blk hb=>by
   simp only[yP,List.not_mem_nil,or_false]at hb;rcases hb with rfl|rfl
   .exact⟨[.i .i64 m.dst],rfl,by simp[flat]⟩
   .exact⟨[.i .i64 m.Aa],rfl,by simp[flat]⟩) (by simp[AV.Hd,AV.Fu,BK]) rfl rfl rfl
 simp only[xX,xY]at c4
 cases ho:m.right&& !m.BN with
 |false=>
  have hT:EJ l m=l:=by unfold EJ;rw[ho];rfl
  rw[ho]at c2;simp only[yJ,yC]at c2;rw[hT];refine zF AF Tryz.func121 ?_;unfold Wi.AC.d Past.d Pt Past.A0 at c2;unfold Wi.AC.A0 at *;have d1:=Ds.mk [] (c1);have un:No 2:=trivial;refine wd OI [] A4 (AM @c2) ?_ [] true;clear un d1;exact zE
 |true=>
 rw[ho]at c2;simp only[yG]at c2;rcases YG l m.dst m.Aa with⟨h1,h2⟩|⟨k,x,h1,h2,h3⟩
 .rw[h1]at c4;have hT:EJ l m=(l++[(⟨m.dst,m.Aa,m⟩:Past)]).drop ((l.length+1)-40):=by unfold EJ;rw[ho,h2];rfl
  rw[hT];refine zF AF Tryz.func121 ?_;unfold Wi.AC.d Past.d Past.A0 at c2;unfold Wi.AC.A0 at *;have fL:∀a b:List (ww),(a++b).length=a.length+b.length:=fun _ _=>y9
  by_cases h40:l.length=40
  .have f1:decide ((l.length:Int)+1>40)=true:=xM om;have f3:decide (((l.length+1:Nat):Int)>40)=true:=xM om;have f2:decide ((l.length:Int)>40)=false:=xO om;rw[show l.length+1-40=1 by omega];have d1:=Ds.mk [] (c1);have d2:=Ds.mk [] (c3);have d3:=Ds.mk [5,6,2] (c4);have un:No 2:=trivial;have ow:Lv [37]:=trivial;refine wd OI [9] (KQ fL f1 f2 f3) (AM @c2) ?_ [] true;clear ow un d3 d2 d1;refine BC (A6.kE 5 2 rfl rfl (by simp[BK])) (by simp[EP]) ?_;have fD:∀(a:List (ww))(n:Nat),(a.drop n).length=a.length-n:=fun _ _=>List.length_drop
   have f4:decide (((l.length+1-1:Nat):Int)>40)=false:=xO om;have un:No 2:=trivial;refine wd OI [] (KQ fL f2 fD f4) A4 ?_ [] true;clear un;refine⟨_,_,rfl,rfl,?_⟩;simp[IT,BK,Bd,B0,B5,List.map_append,zA,q0F,Past.A0]
  .have f1:decide ((l.length:Int)+1>40)=false:=xO om;have f3:decide (((l.length+1:Nat):Int)>40)=false:=xO om;rw[show l.length+1-40=0 by omega,List.drop_zero];have d1:=Ds.mk [] (c1);have d2:=Ds.mk [] (c3);have d3:=Ds.mk [5,6,2] (c4);have un:No 2:=trivial;have ow:Lv [37]:=trivial;refine wd OI [] (Ci fL f1 f3) (AM @c2) ?_ [] true;clear ow un d3 d2 d1;refine⟨_,_,rfl,rfl,?_⟩;simp[IT,BK,Bd,B0,B5,List.map_append,zA,q0F,Past.A0]
 .rw[h1]at c4;have f1:decide ((k:Int)>=0)=true:=xM om;have hT:EJ l m=l:=by unfold EJ;rw[ho,h3];rfl
  rw[hT];refine zF AF Tryz.func121 ?_;unfold Wi.AC.d Past.d Past.A0 at c2;unfold Wi.AC.A0 at *;have d1:=Ds.mk [] (c1);have d2:=Ds.mk [] (c3);have d3:=Ds.mk [5,6,2] (c4);have un:No 2:=trivial;refine wd OI [] (AM f1) (AM @c2) ?_ [] true;clear un d3 d2 d1;exact zE
end Nd
end Go.Proofs.YtkljbfejbakooaaGreatDoor
