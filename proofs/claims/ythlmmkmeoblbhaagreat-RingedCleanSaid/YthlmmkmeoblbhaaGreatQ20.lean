/- Part 20 of a proof. Conditions: those that its theorems state. -/
import Derived.Test.YthlmmkmeoblbhaaGreatQ18
set_option linter.unusedSimpArgs false
set_option linter.unusedVariables false
set_option maxHeartbeats 40000000
set_option maxRecDepth 4000
namespace Go.Proofs.YthlmmkmeoblbhaaGreat
namespace Nd
open Go.Gar
open Wi (AE BE Ay AU C2 CG Ac)
def Mq(l:List (AE×Int)):Prop:=∀a∈l,a.1.A8=[]
theorem mF(id:Int)(j:B5)(o:Int)(l:Ao):∀m∈(Ky id j o l).BW,m.A8=[]:=fun m hm=>by
 unfold Ky at hm;simp only[q0q]at hm;obtain⟨p,_,rfl⟩:=hm;rfl
theorem WM(v:AB)(j:B5):∀m∈(ER v j).BW,m.A8=[]:=by
 unfold ER;split
 .simp
 split
 .dsimp only;split
  .intro m hm;rw[q00]at hm;subst hm;unfold xG;split<;>rfl
  .simp
 split
 .simp
 split
 .exact mF _ _ _ _
 split
 .simp[IL]
 split
 .simp
 .simp[Vm]
theorem ue(v:AB)(w p:Int)(x:AL):∀m∈(JL v w p x).BW,m.A8=[]:=by
 unfold JL;split
 .exact WM _ _
 .simp
theorem qx(v:AB)(j:B5)(m:AE):∀q∈(FV v j m).BW,q.A8=[]:=by
 unfold FV;split
 .split
  .split
   .exact WM _ _
   .simp
  split
  .split
   .exact mF _ _ _ _
   .simp
  split
  .split<;>simp
  split
  .split<;>simp
  .simp
 .simp
theorem qt(v:AB)(j:B5)(d:Int):∀q∈(FT v j d).BW,q.A8=[]:=by
 unfold FT;split
 .split
  .split
   .exact WM _ _
   .simp
  split
  .split<;>simp
  split<;>simp
 .simp
theorem Vo(p o:Int):Mq (Kc p o):=by
 unfold Kc Mq;split
 .simp[IL]
 split<;>simp
theorem aS(n:A6)(w:Int)(e:Bool)(c:JC)(h:∀m∈c.BW,m.A8=[]):Mq (Cv n w e c).2:=fun a ha=>by
 unfold Cv at ha;simp only[q0q]at ha;obtain⟨m,hm,rfl⟩:=ha;exact h m hm
theorem Wx(n:A6)(w AR AY:Int)(x:AL):Mq (CL n w AR AY x).2:=by
 unfold CL;split
 .exact aS _ _ _ _ (ue _ _ _ _)
 .exact fun a ha=>by cases ha
theorem qf(n:A6)(c:B4)(m:AE):Mq (CQ n c m).2:=by
 unfold CQ;split
 .split
  .dsimp only;unfold D1;split
   .split
    .exact fun a ha=>by cases ha
    .dsimp only;split
     .dsimp only;exact Vo _ _
     .dsimp only;exact Vo _ _
   .exact fun a ha=>by cases ha
  split
  .exact aS _ _ _ _ (qx _ _ _)
  .exact fun a ha=>by cases ha
 .exact fun a ha=>by cases ha
theorem ui(n:A6)(c:B4):Mq (Bu n c).2:=by
 unfold Bu;split
 .dsimp only;split
  .exact fun a ha=>by cases ha
  split
  .exact aS _ _ _ _ (qt _ _ _)
  .exact fun a ha=>by cases ha
 .exact fun a ha=>by cases ha
theorem q8(v:AB)(p o:Int):Mq (CX v p o).2:=by
 unfold CX;split
 .dsimp only;exact Vo _ _
 .exact fun a ha=>by cases ha
theorem NB.op16{n:A6}(h:NB n):n.AI.op.length<=16:=by
 have:=(Be.1 h.cB.1).1;omega
theorem Nc.size{s t:NS}(h:Nc s t):t.2.length<=s.2.length+16:=by
 obtain⟨g,e,_,e2⟩:=h.GD;have:=h.nb.op16;rw[e,yw];omega
theorem M4{s:NS}(h:NB s.1)(l:List (AE×Int)):(Cb s l).2.length<=s.2.length+16:=(J3 l h).h.size
end Nd
end Go.Proofs.YthlmmkmeoblbhaaGreat
namespace Go.Proofs.YthlmmkmeoblbhaaGreat
namespace Nd
open Go.Gar
open Wi (AE BE Ay AU C2 mC)
theorem Fn.own{P:Program}{f:FuncId}{x a:D}{sz:Nat}{t:Bool}(h:Go.Gar.Fn P f [x,a] (.b t)):Bw P f [.sl 0 (B3 x) sz,.d a] [.a x] (.y7 t) [.a x]:=by
 refine⟨h.1,fun G w vs hG hR hv=> ?_⟩;have hid:G.H[0]? =some (.a x):=by rw[hG];rfl
 have hF:=(IP hR hid).1;have hv2:=BP.FK hR hid hv;have e1:AV.F3 0 x [.sl 0 (B3 x) sz,.d a]=[x,a].map .d:=by simp[AV.F3,AV.FK]
 rw[e1]at hv2;refine(h.2 _ w vs hF.mem hF.st (Q5.1 hv2)).mono ?_;rintro e w' ⟨v,m',rfl,hr,hle,hok,hnew,ho,ht,hou,hs,hk⟩;have hlow:∀b,b<w.heap.size->w'.heap[b]? =w.heap[b]?:=hk
 have hH:B9 G w':=by
  refine⟨fun id q hq=>(hR.blk id q hq).QH (Iq.refl G) (fun b N hl hρ=>hlow b (Bq hR (.inl ⟨id,N,q,hq,hl,hρ⟩))) rfl (fun rs e c hc=>hlow c (Bq hR (.inr ⟨id,rs,by rw[<-e];exact hq,hc⟩))),hR.inj,fun b k v hv=> ?_,hR.sep,hR.st,hR.mny⟩;have hc:=hR.mem b k v hv
  have hb:b<w.heap.size:=by
   unfold World.cell? at hc;rcases q0A b w.heap.size with hlt|hge
   .exact hlt
   .simp[Array.getElem?_eq_none hge]at hc
  rw[World.cell?_of_block (w:=w) (hlow b hb)];exact hc
 exact⟨_,.y7 t,G,rfl,⟨rfl,hG⟩,by simp only[RD]at hr;subst hr;simp only[RV,RD],hH,⟨ho,ht,hou,hs,fun b hb ho=>⟨hk b hb,ho⟩,fun _ _ _ hv=> .inl hv,Iq.refl G⟩⟩
abbrev KD(j:B5)(lf:AV):yq:=[.y8 j.AR,.y8 j.A3,.y5 j.Am.AH,.y5 j.Am.Ck,.y5 j.Am.Cs,.y7 j.Am.BX,.y7 j.Am.Dz,.y5 j.Am.Ab,.yC j.AC.AH,.y5 j.AC.BD,.y5 j.AC.Aa,.y7 j.AC.gone,.y5 j.Ar,lf,.y5 j.Ab]
end Nd
end Go.Proofs.YthlmmkmeoblbhaaGreat
namespace Go.Proofs.YthlmmkmeoblbhaaGreat
namespace Nd
open Go.Gar
open Wi (AE BE Ay AU C2 mC CG Ac)
variable {P:Program}{f:FuncId}{args':yq}{r x:D}
theorem Bw.own{args:yq}{H:yz}(h:Bw P f args H (.d r) H)(hr:flat r=true)(hH:∀blk∈H,∃cs:yo,blk= .c (cs.map .d)/\∀d∈cs,flat d=true)(ha:AV.F3 H.length x args'=args)(hf:Eg H.length x 0 (H++[.a x])=H++[.gone])(ho:Ai H.length H=true)(hk:AV.oks H.length args=true):Bw P f args' (H++[.a x]) (.d r) (H++[.a x]):=by
 have hF:=JO.frame (L:=[.gone]) h ho hk (fun r' H' e=>by rw[e.2]);refine⟨h.1,fun G w vs hG hR hv=> ?_⟩;have hid:G.H[H.length]? =some (.a x):=by rw[hG];simp
 have h1:=(IP hR hid).1;have hv2:=BP.FK hR hid hv;rw[ha]at hv2;refine(hF.2 (G.freeze w H.length x) w vs (by rw[<-hf,<-hG];rfl) h1 hv2).mono ?_;rintro e w' ⟨v,q,G',rfl,⟨H',⟨rfl,hH'⟩,hG'⟩,hq,hR',hfr⟩;rw[hH']at hG';have hmle:∀b k v,G.m b k=some v->G'.m b k=some v:=fun b k v hm=>hfr.gle.mem b k v ((Du hR hid).mem b k v hm)
 have hno:∀b,Own (G.freeze w H.length x) b->Own G b:=fun b hb=>(KJ hR hid hb).1;have hnx:∀b N,G.ρ H.length=some (b,N)->¬Own (G.freeze w H.length x) b:=fun b N hb ho=>(KJ hR hid ho).2 N hb
 refine⟨v,.d r,G,rfl,⟨rfl,hG⟩,by simp only[RV]at hq|-;exact Qp hr hq,⟨fun id blk hb=> ?_,hR.inj,fun b k v hm=>hR'.mem b k v (hmle b k v hm),hR.sep,hR.st,hR.mny⟩,⟨hfr.os,hfr.tape,hfr.output,hfr.size,fun b hb ho=>⟨(hfr.keep b hb (fun hq=>ho (hno b hq))).1,ho⟩,fun _ _ _ hm=> .inl hm,Iq.refl G⟩⟩;have hb0:=hb;rw[hG,List.getElem?_append]at hb;split at hb
 .rename_i hlt;obtain⟨cs,rfl,hc⟩:=hH blk (zM hb);have hb':G'.H[id]? =some (.c (cs.map .d)):=by rw[hG',zW hlt];exact hb
  have hbf:(G.freeze w H.length x).H[id]? =some (.c (cs.map .d)):=by
   show(Eg H.length x 0 G.H)[id]? =_;rw[hG,hf,zW hlt];exact hb
  obtain⟨b',hb'',hs⟩:=hfr.gle.blk id _ hbf;rw[hb']at hb'';cases hb'';obtain⟨b,N,vs',T,k1,k2,k3,k4,k5⟩:=hR'.blk id _ hb';simp only[Ap]at hs;refine⟨b,N,vs',T,(hs.2.symm.trans k1:G.ρ id=some (b,N)),k2,k3,k4,fun k y hy=> ?_⟩;obtain⟨u,hu,hru⟩:=k5 k y hy;rw[q03,q0B]at hy;obtain⟨d,hd,rfl⟩:=hy;refine⟨u,hu,?_⟩;simp only[RV]at hru|-;exact Qp (hc d (zM hd)) hru
 .rename_i hge
  have hi:id=H.length:=by
   have:=(yZ.1 hb).1;simp only[yu,zI]at this;omega
  subst hi;have hB:=hR.blk H.length blk hb0;refine hB.QH (Iq.refl G) (fun b N hl hρ=> ?_) rfl (fun rs e=>by subst e;rw[hid]at hb0;cases hb0);have hlt:=Bq hR (.inl ⟨H.length,N,blk,hb0,hl,hρ⟩);exact(hfr.keep b hlt (hnx b N hρ)).1
abbrev Ov:BK:=[0,1,2,4,5,6,7,8,9,10,11,21,27,40,50]
abbrev RF:BK:=[0,1,2,4,5,6,17,27]
abbrev KT:BK:=[0,1,2,3,4,5,6,7,8,23,33]
theorem Ty{n:Int}:EV n=true↔0<=n/\n<=1099511627776:=by
 unfold EV;rw[yU,yc,yc]
theorem o9(t:Int):yA 283 [.yE t] (.yE (Lg t)):=by
 have hT:Lg t=if t<1 then 0 else if t=1 then 1 else if t=2 then 2 else 4:=rfl
 generalize Lg t=R at *;refine zF AK Tryz.func283 ?_;refine A9 [0,2,3,6,9] ?_;with_reducible repeat' first|constructor|intro hc
 all_goals(refine⟨_,_,rfl,rfl,?_⟩;simp only[E5];refine congrArg (D.i .i64) ?_;rw[hT];clear hT;grind)
theorem eO(x:B4)(now:Int)(h1:EV x.GD=true)(h2:EV now=true):yA 246 [.yE x.GD,.yE x.D3,.yE now] (.b (Kt now x)):=by
 have c1:=o9 x.D3;have hT:Kt now x=((decide (1<=x.D3)&&decide (x.D3<3))&&decide (now-x.GD>=Lg x.D3)):=rfl;generalize Kt now x=R at *;rw[Ty]at h1 h2;generalize Lg x.D3=w at *;refine zF AK Tryz.func246 ?_;refine AP [0,1,2,6] ?_ (AQ @c1);with_reducible repeat' first|constructor|intro hc
 all_goals(refine⟨_,_,rfl,rfl,?_⟩;simp only[E5];refine congrArg D.b ?_;rw[hT];clear hT c1;grind)
theorem nv(x:B4)(now:Int)(h1:EV x.GD=true)(h2:EV now=true):yA 245 [.yE x.GD,.yE x.D3,.yE now] (.b (EF now x)):=by
 have hT:EF now x=(decide (3<=x.D3)&&decide (now-x.GD>=Lg x.D3)):=rfl;have hw:3<=x.D3->Lg x.D3=4:=fun h=>by unfold Lg;rw[zO om,zO om,zO om]
 generalize EF now x=R at *;rw[Ty]at h1 h2;generalize Lg x.D3=w at *;refine zF AK Tryz.func245 ?_;refine A9 [0,1,2,6] ?_;with_reducible repeat' first|constructor|intro hc
 all_goals(refine⟨_,_,rfl,rfl,?_⟩;simp only[E5];refine congrArg D.b ?_;rw[hT];clear hT;grind)
theorem iK(x:B4)(now:Int)(h1:EV x.GD=true)(h2:EV now=true)(h3:x.D3<=3):yA 247 [x.d,.yE now] (Kg now x).d:=by
 have c1:=eO x now h1 h2;have hN:Kg now x=if Kt now x then⟨x.id,x.Cl,x.BH,x.ref,now,x.D3+1⟩else x:=rfl
 have h4:Kt now x=true->1<=x.D3:=fun h=>by
  unfold Kt at h;simp only[yU,yc]at h;exact h.1.1
 refine zF AK Tryz.func247 ?_;rw[hN]
 cases h:Kt now x with
 |true=>
  rw[h]at c1;replace h4:=h4 h;clear h;unfold B4.d B4.A1;refine AP [0,1,2,4,10] ?_ (AQ @c1);with_reducible repeat' first|constructor|intro hc
  exact zE
 |false=>
  rw[h]at c1;unfold B4.d B4.A1;refine AP [0,1,2,4,10] ?_ (AQ @c1);with_reducible repeat' first|constructor|intro hc
  exact zE
theorem iV(id Ah:Int)(l:List B4)(hl:∀x∈l,Co x.Cl)(hn:l.length<=1048576):yB 72 [.d (Calls.d ⟨id,Ah,l⟩)] [] (.ag [.y5 id,.y5 Ah,.sl 2 l.length 20]) [.gone,.c [.y5 id,.y5 Ah,.sl 2 l.length 20],.a (C3 l)]:=by
 refine zD AK Tryz.func72 ?_;unfold Calls.d Calls.A1;refine A9 [0,1,2,3,4,5,10] ?_;with_reducible repeat' first|constructor|intro hc
 refine Av (A5.EQ 3 (.sl 20 []) rfl rfl rfl (by simp[Aq])) sm ?_;refine CO (fun k=>k<=l.length) (fun k:Nat=>[(3,.sl 2 (l.take k).length 20),(4,.y5 k)]) (fun k=>[(2,.a (C3 (l.take k)))]) (fun k=>l.length-k) 0 (yx _) (fun _=>rfl) (fun _=>rfl) ?_ ?_
 .exact A5.ck rfl
 intro k hk;have htl:(l.take k).length<=k:=q0Q _ _
 by_cases hkl:k<l.length
 .obtain⟨x,hx⟩:=AS hkl;have c1:=F9 x.Cl (hl x (zM hx));have hn:=AM hx;unfold AE.d AE.A1 at c1;have ix1:=hx;refine AP [0,1,2,3,4,5,10] ?_ (AQ @c1);clear ix1;with_reducible repeat' first|constructor|intro hc
  refine⟨k+1,hkl,om,yV _,?_⟩;exact(have nC:=yg hn (yg @C3.eq_1 @B4.A1.eq_1);A5.cn rfl)
 .have e:k=l.length:=om
  subst e;rw[zU];refine A9 [0,1,2,3,4,5,10] ?_;with_reducible repeat' first|constructor|intro hc
  exact vS (A5.ck rfl)
theorem tK:∀(ds:yo)(n:Nat),AV.oks n (ds.map .d)=true
 |[],_=>rfl
 |_::r,n=>by
  show(true&&AV.oks n (r.map .d))=true;rw[tK r n];rfl
variable {ds:yo}
theorem Fn.ownA(h:Go.Gar.Fn P f ds r)(hr:flat r=true)(ha:AV.F3 0 x args'=ds.map .d):Bw P f args' [.a x] (.d r) [.a x]:=
 Bw.own (H:=[]) (h.toD []) hr (fun _ h=>by cases h) ha rfl rfl (tK ds 0)
theorem Fn.ownB(h:Go.Gar.Fn P f ds r)(hr:flat r=true)(ha:RQ (AV.F3 0 x args') ds)(hk:AV.oks 0 (AV.F3 0 x args')=true):Bw P f args' [.a x] (.d r) [.a x]:=
 Bw.own (H:=[]) (h.vt ha []) hr (fun _ h=>by cases h) rfl rfl rfl hk
theorem Bw.FK{args:yq}{H:yz}{r:AV}{H':yz}{id:Nat}(h:Bw P f (AV.F3 id x args) (Eg id x 0 H) r H')(hid:H[id]? =some (.a x)):Bw P f args H r H':=by
 refine⟨h.1,fun G w vs hG hR hv=> ?_⟩;have hid':G.H[id]? =some (.a x):=by rw[hG];exact hid
 obtain⟨h1,h2⟩:=IP hR hid';have hv2:=BP.FK hR hid' hv;refine(h.2 (G.freeze w id x) w vs (by rw[<-hG];rfl) h1 hv2).mono ?_;rintro e w' ⟨v,q,G',rfl,hq,hq2,hR',hfr⟩;exact⟨v,q,G',rfl,hq,hq2,hR',((D4.refl G w).ghost h2 (by show G.H.length<=(Eg id x 0 G.H).length;rw[Dq];exact yV _)).trans hfr⟩
theorem Fn.ww(h:Go.Gar.Fn P f ds r)(ha:AV.F3 0 x args'=ds.map .d):Bw P f args' [.a x] (.d r) [.gone]:=
 Bw.FK (id:=0) (x:=x) (by rw[ha];exact h.toD [.gone]) rfl
theorem na(c:Calls)(now:Int)(h:Bc c=true)(h2:EV now=true):yA 188 [c.d,.yE now] (.tup [(C6 c now).1.d,CF (C6 c now).2.1,C3 (C6 c now).2.2]):=by
 have hT:C6 c now=(⟨c.id,c.Ah,(c.op.filter fun x=> !EF now x).map (Kg now)⟩,((c.op.filter fun x=> !EF now x).filter (Kt now)).map (·.Cl),c.op.filter (EF now)):=by unfold C6;rw[h,h2];rfl
 rw[hT];clear hT;obtain⟨⟨a1,a2,a3,a4⟩,a5,_⟩:=Be.1 h;obtain⟨id,Ah,l⟩:=c;dsimp only at *;have hl:∀x∈l,Co x.Cl:=fun x hx=>DZ (Ce.1 (a5 x hx)).1
 have c1:=Jh ⟨id,Ah,l⟩ hl (by dsimp only;omega);have c2:=I8 ⟨id,Ah,l⟩ hl (by dsimp only;omega);have c3:=Tl now;rw[h]at c2;rw[h2]at c3;obtain⟨A,hA⟩:∃A:Nat->List B4,∀k,A k=(l.take k).filter (EF now):=⟨_,fun _=>rfl⟩;obtain⟨B,hB⟩:∃B:Nat->List B4,∀k,B k=((l.take k).filter fun x=> !EF now x).map (Kg now):=⟨_,fun _=>rfl⟩;obtain⟨G,hG⟩:∃G:Nat->List AE,∀k,G k=(((l.take k).filter fun x=> !EF now x).filter (Kt now)).map (·.Cl):=⟨_,fun _=>rfl⟩;have A0:A 0=[]:=by rw[hA];rfl
 have B0:B 0=[]:=by rw[hB];rfl
 have G0:G 0=[]:=by rw[hG];rfl
 have eA:l.filter (EF now)=A l.length:=by rw[hA,zU]
 have eB:(l.filter fun x=> !EF now x).map (Kg now)=B l.length:=by rw[hB,zU]
 have eG:((l.filter fun x=> !EF now x).filter (Kt now)).map (·.Cl)=G l.length:=by rw[hG,zU]
 rw[eA,eB,eG]
 have ln:∀k,(A k).length<=16/\(B k).length<=16/\(G k).length<=16:=fun k=>by
  have ht:(l.take k).length<=l.length:=by rw[q09];omega
  have ht1:=q0b (EF now) (l.take k);have ht2:=q0b (fun x=> !EF now x) (l.take k);have ht3:=q0b (Kt now) ((l.take k).filter fun x=> !EF now x);rw[hA,hB,hG,zY,zY];omega
 have hs:∀k x,l[k]? =some x->A (k+1)=A k++(if EF now x then[x]else[])/\B (k+1)=B k++(if EF now x then[]else[Kg now x])/\G (k+1)=G k++(if EF now x then[]else if Kt now x then[x.Cl]else[]):=fun k x hx=>by
  rw[hA,hA,hB,hB,hG,hG,AM hx];simp only[List.filter_append,zS];cases h1:EF now x<;>cases h2:Kt now x<;>simp[h1,h2]
 clear hA hB hG eA eB eG;refine zF AK Tryz.func188 ?_;unfold Calls.d Calls.A1 at *;dsimp only at *;refine AP Ov ?_ (DO @c1 @c2 @c3);with_reducible repeat' first|constructor|intro hc
 refine Av (A5.EQ 7 (.sl 15 []) rfl rfl rfl (by simp[Aq])) sm ?_;refine Av (A5.EQ 8 (.sl 20 []) rfl rfl rfl (by simp[Aq])) sm ?_;refine Av (A5.EQ 9 (.sl 20 []) rfl rfl rfl (by simp[Aq])) sm ?_;refine CO (fun k=>k<=l.length) (fun k:Nat=>[(7,.sl 2 (G k).length 15),(8,.sl 3 (A k).length 20),(9,.sl 4 (B k).length 20),(10,.y5 k)]) (fun k=>[(2,.a (CF (G k))),(3,.a (C3 (A k))),(4,.a (C3 (B k)))]) (fun k=>l.length-k) 0 (yx _) (fun _=>rfl) (fun _=>rfl) ?_ ?_
 .exact A5.cut rfl (by repeat'(first|exact zi|refine yg (by(first|rfl|((with_reducible_and_instances refine congrArg (fun z=>some (AV.d (D.i _ z))) ?_);omega)|(refine congrArg (fun z=>some (AV.d (D.i _ z))) (?_:(_:Int)=_);omega)|(refine congrArg some ?_;simp only[A0,B0,G0,C3,CF,Bt,zh,zI];done)|(refine congrArg some ?_;simp[A0,B0,G0,C3,CF,Bt,zh,zI];done))) ?_)) (by repeat'(first|exact zi|refine yg (q0D rfl) ?_|refine yg (q0w ⟨rfl,rfl⟩) ?_|refine yg (q0D (by simp only[A0,B0,G0,C3,CF,Bt,zh,zI])) ?_|refine yg (q0D (by simp[A0,B0,G0,C3,CF,Bt,zh,zI])) ?_)) (by first|rfl|(simp(decide:=true) [Ai,AF.ok,AV.oks,AV.ok,hk];done)) rfl
 intro k hk;obtain⟨n1,n2,n3⟩:=ln k
 by_cases hkl:k<l.length
 .obtain⟨x,hx⟩:=AS hkl;have hm:=zM hx;obtain⟨b1,b2,b3,b4,b5,b6,b7,b8⟩:=Ce.1 (a5 x hm);obtain⟨s1,s2,s3⟩:=hs k x hx;have c4:=nv x now b8 h2;have c5:=eO x now b8 h2;have c6:=iK x now b8 h2 b7;have c7:=F9 x.Cl (hl x hm);unfold B4.d B4.A1 at c6;unfold Wi.AE.d Wi.AE.A1 at c7
  cases ho:EF now x with
  |true=>
   rw[ho]at c4 s1 s2 s3;simp only[zx,q07]at s1 s2 s3;have ix1:=hx;refine AP Ov ?_ (AQ @c4);clear ix1;with_reducible repeat' first|constructor|intro hc
   refine⟨k+1,hkl,om,yV _,?_⟩;exact A5.cut rfl (by repeat'(first|exact zi|refine yg (by(first|rfl|((with_reducible_and_instances refine congrArg (fun z=>some (AV.d (D.i _ z))) ?_);omega)|(refine congrArg (fun z=>some (AV.d (D.i _ z))) (?_:(_:Int)=_);omega)|(refine congrArg some ?_;simp only[s1,s2,s3,C3,CF,zS,zV,zh,B4.A1,yw,yu,zI];done)|(refine congrArg some ?_;simp[s1,s2,s3,C3,CF,zS,zV,zh,B4.A1,yw,yu,zI];done))) ?_)) (by repeat'(first|exact zi|refine yg (q0D rfl) ?_|refine yg (q0w ⟨rfl,rfl⟩) ?_|refine yg (q0D (by simp only[s1,s2,s3,C3,CF,zS,zV,zh,B4.A1,yw,yu,zI])) ?_|refine yg (q0D (by simp[s1,s2,s3,C3,CF,zS,zV,zh,B4.A1,yw,yu,zI])) ?_)) (by first|rfl|(simp(decide:=true) [Ai,AF.ok,AV.oks,AV.ok,hk];done)) rfl
  |false=>
   rw[ho]at c4 s1 s2 s3;simp only[q0F,zo,q07]at s1 s2 s3
   cases hd:Kt now x with
   |true=>
    rw[hd]at c5 s3;simp only[zx]at s3;have ix1:=hx;refine AP Ov ?_ (Hc @c4 @c5 @c6 @c7);clear ix1;with_reducible repeat' first|constructor|intro hc
    refine⟨k+1,hkl,om,yV _,?_⟩;exact A5.cut rfl (by repeat'(first|exact zi|refine yg (by(first|rfl|((with_reducible_and_instances refine congrArg (fun z=>some (AV.d (D.i _ z))) ?_);omega)|(refine congrArg (fun z=>some (AV.d (D.i _ z))) (?_:(_:Int)=_);omega)|(refine congrArg some ?_;simp only[s1,s2,s3,C3,CF,zS,zV,zh,B4.A1,Wi.AE.A1,yw,yu,zI];done)|(refine congrArg some ?_;simp[s1,s2,s3,C3,CF,zS,zV,zh,B4.A1,Wi.AE.A1,yw,yu,zI];done))) ?_)) (by repeat'(first|exact zi|refine yg (q0D rfl) ?_|refine yg (q0w ⟨rfl,rfl⟩) ?_|refine yg (q0D (by simp only[s1,s2,s3,C3,CF,zS,zV,zh,B4.A1,Wi.AE.A1,yw,yu,zI])) ?_|refine yg (q0D (by simp[s1,s2,s3,C3,CF,zS,zV,zh,B4.A1,Wi.AE.A1,yw,yu,zI])) ?_)) (by first|rfl|(simp(decide:=true) [Ai,AF.ok,AV.oks,AV.ok,hk];done)) rfl
   |false=>
    rw[hd]at c5 s3;simp only[q0F,zo,q07]at s3;have ix1:=hx;refine AP Ov ?_ (DO @c4 @c5 @c6);clear ix1;with_reducible repeat' first|constructor|intro hc
    refine⟨k+1,hkl,om,yV _,?_⟩;exact A5.cut rfl (by repeat'(first|exact zi|refine yg (by(first|rfl|((with_reducible_and_instances refine congrArg (fun z=>some (AV.d (D.i _ z))) ?_);omega)|(refine congrArg (fun z=>some (AV.d (D.i _ z))) (?_:(_:Int)=_);omega)|(refine congrArg some ?_;simp only[s1,s2,s3,C3,CF,zS,zV,zh,B4.A1,yw,yu,zI];done)|(refine congrArg some ?_;simp[s1,s2,s3,C3,CF,zS,zV,zh,B4.A1,yw,yu,zI];done))) ?_)) (by repeat'(first|exact zi|refine yg (q0D rfl) ?_|refine yg (q0w ⟨rfl,rfl⟩) ?_|refine yg (q0D (by simp only[s1,s2,s3,C3,CF,zS,zV,zh,B4.A1,yw,yu,zI])) ?_|refine yg (q0D (by simp[s1,s2,s3,C3,CF,zS,zV,zh,B4.A1,yw,yu,zI])) ?_)) (by first|rfl|(simp(decide:=true) [Ai,AF.ok,AV.oks,AV.ok,hk];done)) rfl
 .have e:k=l.length:=om
  subst e;refine A9 Ov ?_;with_reducible repeat' first|constructor|intro hc
  exact zE
theorem iC(c:Calls)(BH:Int)(h:Bc c=true):yA 192 [c.d,.i .u8 BH] (.tup [(SV c BH).1.d,.b (SV c BH).2]):=by
 obtain⟨⟨a1,a2,a3,a4⟩,a5,_⟩:=Be.1 h;obtain⟨id,Ah,l⟩:=c;dsimp only at *;have hl:∀x∈l,Co x.Cl:=fun x hx=>DZ (Ce.1 (a5 x hx)).1
 have c1:=Jh ⟨id,Ah,l⟩ hl (by dsimp only;omega);have c2:=I8 ⟨id,Ah,l⟩ hl (by dsimp only;omega)
 have hT:SV ⟨id,Ah,l⟩ BH=match l.find? (fun x=>decide (x.BH=BH))with|some x=>(x,true)|none=>(Mx,false):=by unfold SV;rw[zN h];rfl
 rw[h]at c2;refine zF AK Tryz.func192 ?_;unfold Calls.d Calls.A1 at *;dsimp only at *;refine AP RF ?_ (AQ @c1);with_reducible repeat' first|constructor|intro hc
 refine BA (fun k=>k<=l.length/\(l.take k).any (fun x=>decide (x.BH=BH))=false) (fun k:Nat=>[(6,.y5 k)]) (fun k=>l.length-k) 0 ⟨yx _,rfl⟩ (fun _=>rfl) ?_ ?_
 .exact A5.ck rfl
 rintro k ⟨hk,hpre⟩
 by_cases hkl:k<l.length
 .obtain⟨x,hx⟩:=AS hkl;have hA:=EB (p:=fun x:B4=>decide (x.BH=BH)) hx;rw[hpre,q0N]at hA;have g1:decide ((k:Int)<(l.length:Int))=true:=yX om
  by_cases he:x.BH=BH
  .have f1:=B6 he;rw[W7 hx (yX he) hpre]at hT;rw[hT];have ix1:=hx;refine AD RF ?_ (B1 g1 f1) (AQ @c2);clear ix1;with_reducible repeat' first|constructor|intro hc
   exact BO (yg @B4.d.eq_1 @B4.A1.eq_1)
  .have f1:=eq_false' he;rw[yY he]at hA;have ix1:=hx;refine AD RF ?_ (B1 g1 f1) (AQ @c2);clear ix1;with_reducible repeat' first|constructor|intro hc
   refine⟨k+1,⟨hkl,hA⟩,om,yV _,?_⟩;exact A5.ck rfl
 .have e:k=l.length:=om
  subst e;rw[zU]at hpre;rw[W8 hpre]at hT;rw[hT];have g1:decide ((l.length:Int)<(l.length:Int))=false:=yY om;refine Ae RF ?_ (AQ g1);with_reducible repeat' first|constructor|intro hc
  exact BO (yg @B4.d.eq_1 (yg @B4.A1.eq_1 (yg @AU.eq_1 @AN.eq_1)))
variable {α:Type}
theorem fg{p:α->Bool}{l:List α}{k:Nat}{x:α}(hx:l[k]? =some x)(h:p x=true)(h1:∀j y,l[j]? =some y->p y=true->j=k):l.filter (fun y=> !p y)=l.take k++l.drop (k+1):=by
 have e:l=l.take k++x::l.drop (k+1):=by
  have hk:=(yZ.1 hx).1;have hv:=(yZ.1 hx).2;rw[<-hv,<-q0V hk,q0J]
 conv=>lhs;rw[e]
 rw[List.filter_append,List.filter_cons,h]
 have t1:(l.take k).filter (fun y=> !p y)=l.take k:=by
  rw[List.filter_eq_self];intro y hy;obtain⟨j,hj⟩:=List.getElem?_of_mem hy
  have hlt:j<k:=by
   have:=(yZ.1 hj).1;rw[q09]at this;omega
  rw[List.getElem?_take_of_lt hlt]at hj
  cases hp:p y with
  |false=>rfl
  |true=>have:=h1 j y hj hp;omega
 have t2:(l.drop (k+1)).filter (fun y=> !p y)=l.drop (k+1):=by
  rw[List.filter_eq_self];intro y hy;obtain⟨j,hj⟩:=List.getElem?_of_mem hy;rw[q0Y]at hj
  cases hp:p y with
  |false=>rfl
  |true=>have:=h1 _ y hj hp;omega
 rw[t1,t2];rfl
theorem bL(c:Calls)(m:AE)(h:Bc c=true)(hm:m.A8.length<9223372036854775807):yA 142 [c.d,m.d] (.tup [(Bi c m).1.d,(Bi c m).2.1.d,.b (Bi c m).2.2]):=by
 obtain⟨⟨a1,a2,a3,a4⟩,a5,a6⟩:=Be.1 h;obtain⟨id,Ah,l⟩:=c;dsimp only at *;have hl:∀x∈l,Co x.Cl:=fun x hx=>DZ (Ce.1 (a5 x hx)).1
 have c1:=Jh ⟨id,Ah,l⟩ hl (by dsimp only;omega);have c2:=I8 ⟨id,Ah,l⟩ hl (by dsimp only;omega);have c3:=Wi.EH m hm
 have hof:∀x∈l,oP m x=ar id m x:=fun x hx=>by
  obtain⟨b1,b2,b3,_⟩:=Ce.1 (a5 x hx);have hk:=HL.1 b2;have:(x.Cl.AG+6)%256=x.Cl.AG+6:=om
  unfold oP ar;rw[b3,this]
 have hT:Bi ⟨id,Ah,l⟩ m=if m.right then(match l.find? (ar id m)with|some x=>(⟨id,Ah,l.filter fun y=> !ar id m y⟩,x,true)|none=>(⟨id,Ah,l⟩,Mx,false))else(⟨id,Ah,l⟩,Mx,false):=by unfold Bi;rw[h,zy];rfl
 rw[h]at c2;refine zF AK Tryz.func142 ?_;unfold Calls.d Calls.A1 at *;dsimp only at*
 by_cases h0:l=[]
 .subst h0;have e:Bi ⟨id,Ah,[]⟩ m=(⟨id,Ah,[]⟩,Mx,false):=by rw[hT];split<;>rfl
  rw[e];unfold Wi.AE.d Wi.AE.A1;have un:No 1:=trivial;refine AP KT ?_ (AQ @c1);clear un;with_reducible repeat' first|constructor|intro hc
  exact BO (yg @B4.d.eq_1 (yg @B4.A1.eq_1 (yg @AU.eq_1 @AN.eq_1)))
 have hpos:=List.length_pos_iff.2 h0
 cases hr:m.right with
 |false=>
  rw[hr]at hT c3;replace hT:Bi ⟨id,Ah,l⟩ m=(⟨id,Ah,l⟩,Mx,false):=hT;rw[hT];have g1:decide ((0:Int)<(l.length:Int))=true:=yX om;unfold Wi.AE.d Wi.AE.A1 at *;have un:No 1:=trivial;refine AD KT ?_ (AQ g1) (DO @c1 @c2 @c3);clear un;with_reducible repeat' first|constructor|intro hc
  exact BO (yg @B4.d.eq_1 (yg @B4.A1.eq_1 (yg @AU.eq_1 @AN.eq_1)))
 |true=>
 rw[hr]at hT c3;simp only[zx]at hT;refine AP KT ?_ (AQ @c1);with_reducible repeat' first|constructor|intro hc
 refine BA (fun k=>k<=l.length/\(l.take k).any (ar id m)=false) (fun k:Nat=>[(7,.y5 k)]) (fun k=>l.length-k) 0 ⟨yx _,rfl⟩ (fun _=>rfl) ?_ ?_
 .exact A5.ck rfl
 rintro k ⟨hk,hpre⟩
 by_cases hkl:k<l.length
 .obtain⟨x,hx⟩:=AS hkl;have hm:=zM hx;have hA:=EB (p:=ar id m) hx;rw[hpre,q0N]at hA;have g1:decide ((k:Int)<(l.length:Int))=true:=yX om;have c4:=sA x m;rw[hof x hm]at c4;unfold B4.d B4.A1 at c4;unfold Wi.AE.d Wi.AE.A1 at*
  cases ho:ar id m x with
  |true=>
   rw[ho]at c4
   have hu:∀j y,l[j]? =some y->ar id m y=true->j=k:=fun j y hj hy=>by
    have e1:y.id=x.id:=by
     unfold ar at hy ho;simp only[yU,yc]at hy ho;rw[<-hy.1,<-ho.1]
    obtain⟨hj1,rfl⟩:=yZ.1 hj;obtain⟨hk1,rfl⟩:=yZ.1 hx;rcases Nat.lt_trichotomy j k with hlt|rfl|hlt
    .have:=q0L.1 a6 j k hj1 hk1 hlt;omega
    .rfl
    .have:=q0L.1 a6 k j hk1 hj1 hlt;omega
   rw[W7 hx ho hpre]at hT;replace hT:Bi ⟨id,Ah,l⟩ m=(⟨id,Ah,l.filter fun y=> !ar id m y⟩,x,true):=hT;rw[fg hx ho hu]at hT;rw[hT];clear hT hof hpre hA hu;have ix1:=hx;refine AD KT ?_ (AQ g1) (DO @c2 @c3 @c4) [] [7];clear ix1;with_reducible repeat' first|constructor|intro hc
   have nS:=zi
   repeat'(first|((with_reducible refine sg ?_);first|with_reducible rfl|((with_reducible refine UC ?_);first|kernel_rfl|rfl|(simp[Hi,Ku,nS];done))|with_reducible refine PD ?_ ?_|with_reducible exact q1L _|with_reducible exact FR _|((with_reducible refine yX ?_);first|omega|(simp only[Mm,nS];omega))|decide|(simp[Mm,slc,Do,D.one,GF,AV.one,nS];done)|(simp[Mm,nS];omega))|((with_reducible refine qS ?_);first|(refine Hx rfl ?_;refine pu AK rfl rfl rfl rfl ?_)|refine pq [34,39] AK rfl rfl rfl rfl rfl rfl ?_ ?_|refine Xq AK rfl rfl rfl rfl ?_ ?_|refine Xn [0,1,2,3,4,5,6,7,8,23,33] rfl ?_|refine Xa AK rfl rfl rfl rfl rfl ?_ ?_|refine Xw AK rfl rfl rfl rfl ?_ ?_|refine Xs rfl rfl rfl ?_|(refine Rl rfl rfl (fun hc=> ?_) (fun hc=> ?_)<;>(fail_if_success (with_reducible first|exact tF hc|exact fT hc))<;>(try simp only[Q3]at hc)<;>(try(exfalso;omega))))|((with_reducible refine vg ?_);first|(refine Lm rfl ?_;refine vZ AK rfl rfl (fun _=>rfl) rfl rfl ?_)|refine wj [34,39] AK rfl rfl rfl rfl rfl rfl rfl ?_ ?_|refine Yp AK rfl rfl (fun _=>rfl) rfl rfl ?_ ?_|refine Yq rfl rfl rfl rfl rfl ?_ ?_|refine Ys rfl rfl rfl rfl ?_|refine Ya AK rfl rfl rfl rfl rfl rfl ?_ ?_|refine Yw AK rfl rfl rfl rfl rfl ?_ ?_|refine Yn [0,1,2,3,4,5,6,7,8,23,33] [(1,0),(2,0),(4,0),(6,0),(7,0),(10,0),(6,5),(7,5),(10,5)] mixed AK (by kernel_rfl) (by simp only[EE];repeat'(first|exact zi|refine yg ?_ ?_|exact⟨_,rfl,rfl⟩|(refine⟨_,rfl,?_⟩;simp[Mm,B3,Bt];omega)|rfl)) rfl ?_|(refine Rm rfl rfl (fun hc=> ?_) (fun hc=> ?_)<;>(fail_if_success (with_reducible first|exact tF hc|exact fT hc))<;>(try simp only[Q3]at hc)<;>(try(exfalso;omega))))|refine Mo ?_|refine JP [8] rfl ?_|refine Ri [8] T.get rfl ?_|refine JJ ?_|refine Mn ?_|refine H7 ?_|refine JI ?_|refine FQ rfl ?_|refine FP rfl ?_|(refine IJ rfl (fun hc=> ?_) (fun hc=> ?_)<;>(try simp only[Q3]at hc)<;>(try(exfalso;omega))))
   refine A9 KT ?_ [(1,2)];with_reducible repeat' first|constructor|intro hc
   exact BO (yg @B4.d.eq_1 @B4.A1.eq_1)
  |false=>
   rw[ho]at c4 hA;have ix1:=hx;refine AD KT ?_ (AQ g1) (DO @c2 @c3 @c4);clear ix1;with_reducible repeat' first|constructor|intro hc
   refine⟨k+1,⟨hkl,hA⟩,om,yV _,?_⟩;exact A5.ck rfl
 .have e:k=l.length:=om
  subst e;rw[zU]at hpre;rw[W8 hpre]at hT;replace hT:Bi ⟨id,Ah,l⟩ m=(⟨id,Ah,l⟩,Mx,false):=hT;rw[hT];have g1:decide ((l.length:Int)<(l.length:Int))=false:=yY om;unfold Wi.AE.d Wi.AE.A1 at *;refine Ae KT ?_ (AQ g1);with_reducible repeat' first|constructor|intro hc
  exact BO (yg @B4.d.eq_1 (yg @B4.A1.eq_1 (yg @AU.eq_1 @AN.eq_1)))
abbrev E9:BK:=[0,1,3,4,5,6,16,31,47,53,61]
theorem ib(l:List AL)(h:l.length<=1048576):yB 75 [.d (Bf l)] [] (.sl 0 l.length 4) [.a (Bf l)]:=by
 refine zD AK Tryz.func75 ?_;have ow:Lv [5]:=trivial;refine A9 [0,2] ?_;clear ow;with_reducible repeat' first|constructor|intro hc
 exact vS (A5.ck rfl)
theorem nK{l:List AL}{AH:AT}(h:CK l=true):Cc l AH<=l.length/\∀(k:Nat)(y:AL),l[k]? =some y->Op.bytesLess y.AH AH=decide (k<Cc l AH):=
 ⟨bF l AH,fun k y hy=>by rw[bytesLess_eq];exact decide_eq_decide.2 (nL (CI.1 h).2.2 hy)⟩
theorem eZ{l:List AL}{m:Nat}{y:AL}(hy:l[m]? =some y):(slc (Bf l)).getD (m*4) D.np= .s y.AH:=by
 have h:=ZP hy;rw[q1B]at h;have h0:(((slc (Bf l)).drop (m*4)).take 4)[0]? =some (.s y.AH):=by rw[h];rfl
 rw[List.getElem?_take_of_lt (by decide),q0Y,q1B]at h0;rw[zJ,h0];rfl
theorem Yz(l:List AL)(AH:AT)(h:CK l=true):yA 207 [Bf l,.s AH] (.tup [(Et l AH).1.d,.yE (Et l AH).2]):=by
 have h24:=(CI.1 h).1
 cases hh:hasK l AH with
 |true=>exact rq l AH om h hh
 |false=>
 have c1:=LY l om;rw[h]at c1;have hT:Et l AH=(AN,201):=by unfold Et;rw[h,hh];rfl
 have hno:∀(k:Nat)(y:AL),l[k]? =some y->(y.AH==AH)=false:=fun k y hy=>by
  rw[q1Q];rintro rfl;have:hasK l y.AH=true:=(OA (CI.1 h).2.2).2 ⟨y,zM hy,rfl⟩;rw[hh]at this;cases this
 rw[hT];clear hT;refine zF AK Tryz.func207 ?_;refine A9 [0,1,4,5,6,14,23] ?_;with_reducible repeat' first|constructor|intro hc
 refine BA (fun k=>k<=l.length) (fun k:Nat=>[(6,.y5 k)]) (fun k=>l.length-k) 0 (yx _) (fun _=>rfl) ?_ ?_
 .exact A5.ck rfl
 rintro k hk
 by_cases hkl:k<l.length
 .obtain⟨y,hy⟩:=AS hkl;have f1:=hno k y hy;have g1:decide ((k:Int)<(l.length:Int))=true:=yX om;have ix1:=hy;refine AD [0,1,4,5,6,14,23] ?_ (B1 f1 g1) (AQ @c1);clear ix1;with_reducible repeat' first|constructor|intro hc
  refine⟨k+1,hkl,om,yV _,?_⟩;exact A5.ck rfl
 .have e:k=l.length:=om
  subst e;have g1:decide ((l.length:Int)<(l.length:Int))=false:=yY om;refine Ae [0,1,4,5,6,14,23] ?_ (AQ g1);with_reducible repeat' first|constructor|intro hc
  exact BO (yg @AL.d.eq_1 (yg @AL.A1.eq_1 @AN.eq_1))
theorem Z8(l:List AL)(x:AL)(h:CK l=true):yA 206 [Bf l,x.d] (.tup [Bf (Fj l x).1,.yE (Fj l x).2]):=by
 have h24:=(CI.1 h).1;have c1:=ZI l om;have c2:=LY l om;have c3:=Wi.Jg x;rw[h]at c2
 have hT:Fj l x=if Ay x then
  (if hasK l x.AH then(if LP x (l.getD (Cc l x.AH) AN)then l.set (Cc l x.AH) x else l,0)
   else if l.length>=24 then(l,200)else(l.take (Cc l x.AH)++x::l.drop (Cc l x.AH),0))else(l,2):=by unfold Fj;rw[h,zy]
 refine zF AK Tryz.func206 ?_
 cases hx:Ay x with
 |false=>
  rw[hx]at c3 hT;replace hT:Fj l x=(l,2):=hT;rw[hT];refine AP E9 ?_ (DO @c1 @c2 @c3);with_reducible repeat' first|constructor|intro hc
  exact zE
 |true=>
 rw[hx]at c3 hT;simp only[zx]at hT;obtain⟨hle,hlt⟩:=nK (AH:=x.AH) h
 cases hh:hasK l x.AH with
 |true=>
  obtain⟨y,hy,hyk,hyg⟩:=Ix hh;rw[hh,zN rfl,hyg]at hT;have hyl:=(yZ.1 hy).1;have c4:=iJ x y;have fk:(y.AH==x.AH)=true:=by rw[hyk];exact tC _
  cases hnw:LP x y with
  |false=>
   rw[hnw]at hT;replace hT:Fj l x=(l,0):=hT;unfold LP at hnw;rw[hnw]at c4;rw[hT];clear hT;generalize Cc l x.AH=m at *;unfold AL.d AL.A1 at *;refine AP E9 ?_ (DO @c1 @c2 @c3);with_reducible repeat' first|constructor|intro hc
   refine BA (fun k=>k<=m) (fun k:Nat=>[(6,.y5 k)]) (fun k=>m-k) 0 (yx _) (fun _=>rfl) ?_ ?_
   .exact A5.ck rfl
   intro k hk;have g1:decide ((k:Int)<(l.length:Int))=true:=yX om
   by_cases hkm:k<m
   .obtain⟨z,hz⟩:=AS (xs:=l) (k:=k) om;have g2:=hlt k z hz;rw[yX hkm]at g2;have ix1:=hz;refine Ae E9 ?_ (B1 g1 g2);clear ix1;with_reducible repeat' first|constructor|intro hc
    refine⟨k+1,hkm,om,yV _,?_⟩;exact A5.ck rfl
   .have e:k=m:=om
    subst e;have g2:=hlt k y hy;rw[yY (Nat.lt_irrefl _)]at g2;have ix1:=hy;refine AD E9 ?_ (DO g1 g2 fk) (AQ @c4);clear ix1;with_reducible repeat' first|constructor|intro hc
    exact zE
  |true=>
   rw[hnw]at hT;replace hT:Fj l x=(l.set (Cc l x.AH) x,0):=hT;unfold LP at hnw;rw[hnw]at c4;rw[hT];clear hT;have c5:=ib l om;have hsl:=ZP hy;have hst:setRows 0 [.s x.AH,.yE x.BD,.yE x.Aa,.b x.gone] (Cc l x.AH) (l.map AL.A1)=(l.map AL.A1).set (Cc l x.AH) x.A1:=by rw[<-List.map_set];exact To x _ l hyl
   have c6:=Fn.ownA (args':=[.sl 0 l.length 4]) (x:=Bf l) c2 rfl (by simp[AV.F3,AV.FK,B3,Bf]);generalize Cc l x.AH=m at *;unfold AL.d at c4;rw[<-hsl]at c4;unfold AL.d at *;unfold AL.A1 at c3 c4;have hxc:x.A1=[.s x.AH,.yE x.BD,.yE x.Aa,.b x.gone]:=rfl;rw[hxc];refine Fc E9 ?_ (AQ @c3) (QZ [] c5 [1] c6);with_reducible repeat' first|constructor|intro hc
   refine BA (fun k=>k<=m) (fun k:Nat=>[(6,.y5 k)]) (fun k=>m-k) 0 (yx _) (fun _=>rfl) ?_ ?_
   .exact A5.ck rfl
   intro k hk;have g1:decide ((k:Int)<(l.length:Int))=true:=yX om
   by_cases hkm:k<m
   .obtain⟨z,hz⟩:=AS (xs:=l) (k:=k) om;have g2:=hlt k z hz;rw[yX hkm]at g2;have hkz:=eZ hz;have nS:=yg hkz (yg g1 g2)
    repeat'(first|((with_reducible refine sg ?_);first|with_reducible rfl|((with_reducible refine UC ?_);first|kernel_rfl|rfl|(simp[Hi,Ku,nS];done))|with_reducible refine PD ?_ ?_|with_reducible exact q1L _|with_reducible exact FR _|((with_reducible refine yX ?_);first|omega|(simp only[Mm,nS];omega))|decide|(simp[Mm,slc,Do,D.one,GF,AV.one,nS];done)|(simp[Mm,nS];omega))|((with_reducible refine qS ?_);first|(refine Hx rfl ?_;refine pu AK rfl rfl rfl rfl ?_)|refine Xq AK rfl rfl rfl rfl ?_ ?_|refine Xn [0,1,3,4,5,6,16,31,47,53,61] rfl ?_|refine Xa AK rfl rfl rfl rfl rfl ?_ ?_|refine Xw AK rfl rfl rfl rfl ?_ ?_|refine Xs rfl rfl rfl ?_|(refine Rl rfl rfl (fun hc=> ?_) (fun hc=> ?_)<;>(fail_if_success (with_reducible first|exact tF hc|exact fT hc))<;>(try simp only[Q3]at hc)<;>(try(exfalso;omega))))|((with_reducible refine vg ?_);first|(refine Lm rfl ?_;refine vZ AK rfl rfl (fun _=>rfl) rfl rfl ?_)|refine Yp AK rfl rfl (fun _=>rfl) rfl rfl ?_ ?_|refine Yq rfl rfl rfl rfl rfl ?_ ?_|refine Ys rfl rfl rfl rfl ?_|refine Ya AK rfl rfl rfl rfl rfl rfl ?_ ?_|refine Yw AK rfl rfl rfl rfl rfl ?_ ?_|refine Yn [0,1,3,4,5,6,16,31,47,53,61] [] mixed AK (by kernel_rfl) zi rfl ?_|(refine Rm rfl rfl (fun hc=> ?_) (fun hc=> ?_)<;>(fail_if_success (with_reducible first|exact tF hc|exact fT hc))<;>(try simp only[Q3]at hc)<;>(try(exfalso;omega))))|refine Mo ?_|refine L3 ?_|refine sx T.get ?_|refine JJ ?_|refine Mn ?_|refine H7 ?_|refine JI ?_|refine FQ rfl ?_|refine FP rfl ?_|(refine IJ rfl (fun hc=> ?_) (fun hc=> ?_)<;>(try simp only[Q3]at hc)<;>(try(exfalso;omega))))
    refine⟨k+1,hkm,om,yV _,?_⟩;exact A5.ck rfl
   .have e:k=m:=om
    subst e;have g2:=hlt k y hy;rw[yY (Nat.lt_irrefl _)]at g2;have hky:=eZ hy;have nS:=yg hky (yg g1 (yg g2 fk))
    repeat'(first|((with_reducible refine sg ?_);first|with_reducible rfl|((with_reducible refine UC ?_);first|kernel_rfl|rfl|(simp[Hi,Ku,nS];done))|with_reducible refine PD ?_ ?_|with_reducible exact q1L _|with_reducible exact FR _|((with_reducible refine yX ?_);first|omega|(simp only[Mm,nS];omega))|decide|(simp[Mm,slc,Do,D.one,GF,AV.one,nS];done)|(simp[Mm,nS];omega))|((with_reducible refine qS ?_);first|(refine Hx rfl ?_;refine pu AK rfl rfl rfl rfl ?_)|refine Xq AK rfl rfl rfl rfl ?_ ?_|refine Xn [0,1,3,4,5,6,16,31,47,53,61] rfl ?_|refine XF (c4) rfl rfl rfl rfl ?_|refine Xa AK rfl rfl rfl rfl rfl ?_ ?_|refine Xw AK rfl rfl rfl rfl ?_ ?_|refine Xs rfl rfl rfl ?_|(refine Rl rfl rfl (fun hc=> ?_) (fun hc=> ?_)<;>(fail_if_success (with_reducible first|exact tF hc|exact fT hc))<;>(try simp only[Q3]at hc)<;>(try(exfalso;omega))))|((with_reducible refine vg ?_);first|(refine Lm rfl ?_;refine vZ AK rfl rfl (fun _=>rfl) rfl rfl ?_)|refine Yp AK rfl rfl (fun _=>rfl) rfl rfl ?_ ?_|refine Yq rfl rfl rfl rfl rfl ?_ ?_|refine Ys rfl rfl rfl rfl ?_|refine YF (c4) rfl rfl rfl rfl rfl ?_|refine Ya AK rfl rfl rfl rfl rfl rfl ?_ ?_|refine Yw AK rfl rfl rfl rfl rfl ?_ ?_|refine Yn [0,1,3,4,5,6,16,31,47,53,61] [] mixed AK (by kernel_rfl) zi rfl ?_|(refine Rm rfl rfl (fun hc=> ?_) (fun hc=> ?_)<;>(fail_if_success (with_reducible first|exact tF hc|exact fT hc))<;>(try simp only[Q3]at hc)<;>(try(exfalso;omega))))|refine Mo ?_|refine JP [9] rfl ?_|refine Ri [9] T.get rfl ?_|refine JJ ?_|refine Mn ?_|refine H7 ?_|refine JI ?_|refine FQ rfl ?_|refine FP rfl ?_|(refine IJ rfl (fun hc=> ?_) (fun hc=> ?_)<;>(try simp only[Q3]at hc)<;>(try(exfalso;omega))))
    refine Ae E9 ?_ (AQ hst);with_reducible repeat' first|constructor|intro hc
    exact BO hst
 |false=>
 rw[hh,zO (by decide)]at hT
 have hne:∀y,l[Cc l x.AH]? =some y->(y.AH==x.AH)=false:=fun y hy=>by
  rw[q1Q];intro e;have hyl:=(yZ.1 hy).1
  have:hasK l x.AH=true:=by
   unfold hasK;rw[yX hyl,getD_at hy,yX e];rfl
  rw[hh]at this;cases this
 generalize Cc l x.AH=m at *;unfold AL.d AL.A1 at*
 by_cases hml:m<l.length
 .obtain⟨y,hy⟩:=AS hml;have fk:=hne y hy;refine AP E9 ?_ (DO @c1 @c2 @c3);with_reducible repeat' first|constructor|intro hc
  refine BA (fun k=>k<=m) (fun k:Nat=>[(6,.y5 k)]) (fun k=>m-k) 0 (yx _) (fun _=>rfl) ?_ ?_
  .exact A5.ck rfl
  intro k hk;have g1:decide ((k:Int)<(l.length:Int))=true:=yX om
  by_cases hkm:k<m
  .obtain⟨z,hz⟩:=AS (xs:=l) (k:=k) om;have g2:=hlt k z hz;rw[yX hkm]at g2;have ix1:=hz;refine Ae E9 ?_ (B1 g1 g2);clear ix1;with_reducible repeat' first|constructor|intro hc
   refine⟨k+1,hkm,om,yV _,?_⟩;exact A5.ck rfl
  .have e:k=m:=om
   subst e;have g2:=hlt k y hy;rw[yY (Nat.lt_irrefl _)]at g2
   by_cases h4:l.length>=24
   .have f4:decide ((l.length:Int)>=24)=true:=yX om;rw[zN h4]at hT;rw[hT];have ix1:=hy;refine Ae E9 ?_ (Hc g1 g2 fk f4);clear ix1;with_reducible repeat' first|constructor|intro hc
    exact zE
   .have f4:decide ((l.length:Int)>=24)=false:=yY om;rw[zO h4]at hT;rw[hT];have ix1:=hy;refine Ae E9 ?_ (Hc g1 g2 fk f4) [] [13];clear ix1;with_reducible repeat' first|constructor|intro hc
    have ow:Lv [63,67]:=trivial;refine A9 E9 ?_ [(5,0),(5,4)];clear ow;with_reducible repeat' first|constructor|intro hc
    refine⟨_,_,rfl,rfl,?_⟩;simp[E5,B3,B8,Aq,List.map_take,List.map_drop,AL.A1]
 .have e:m=l.length:=om
  subst e;refine AP E9 ?_ (DO @c1 @c2 @c3);with_reducible repeat' first|constructor|intro hc
  refine BA (fun k=>k<=l.length) (fun k:Nat=>[(6,.y5 k)]) (fun k=>l.length-k) 0 (yx _) (fun _=>rfl) ?_ ?_
  .exact A5.ck rfl
  intro k hk
  by_cases hkm:k<l.length
  .obtain⟨z,hz⟩:=AS hkm;have g1:decide ((k:Int)<(l.length:Int))=true:=yX om;have g2:=hlt k z hz;rw[yX hkm]at g2;have ix1:=hz;refine Ae E9 ?_ (B1 g1 g2);clear ix1;with_reducible repeat' first|constructor|intro hc
   refine⟨k+1,hkm,om,yV _,?_⟩;exact A5.ck rfl
  .have e:k=l.length:=om
   subst e;have g1:decide ((l.length:Int)<(l.length:Int))=false:=yY om
   by_cases h4:l.length>=24
   .have f4:decide ((l.length:Int)>=24)=true:=yX om;rw[zN h4]at hT;rw[hT];refine Ae E9 ?_ (B1 g1 f4);with_reducible repeat' first|constructor|intro hc
    exact zE
   .have f4:decide ((l.length:Int)>=24)=false:=yY om;rw[zO h4]at hT;rw[hT];refine Ae E9 ?_ (B1 g1 f4) [] [13];with_reducible repeat' first|constructor|intro hc
    have ow:Lv [63,67]:=trivial;refine A9 E9 ?_ [(5,0),(5,4)];clear ow;with_reducible repeat' first|constructor|intro hc
    have e1:List.take l.length (l.map AL.A1)=l.map AL.A1:=by rw[<-List.map_take,zU]
    have e2:List.drop l.length (l.map AL.A1)=[]:=by rw[<-List.map_drop,List.drop_length];rfl
    exact BO (yg e1 (yg e2 @AL.A1.eq_1))
abbrev RL:BK:=[0,1,2,4,5,6,7,12,17]
theorem A5.pad{S:St}:A5 S ⟨S.env,S.H++[.a (.is [])],S.n⟩:=by
 intro ro N G a w r _;obtain⟨h1,h2⟩:=Qz (q:=.is []) r.rel rfl rfl trivial;refine⟨G.nil (.is []),⟨by show G.H++[.a _]=_;rw[r.heap],h1,r.size,fun u y hy=> ?_,r.marks.VY h2,fun i hi=> ?_⟩,h2⟩
 .obtain⟨v,hv,hrv⟩:=r.env u y hy;exact⟨v,hv,hrv.mono (OM G _)⟩
 .obtain⟨q',l,M,q1,q2⟩:=r.round i hi;rw[<-r.heap]at q1;obtain⟨n1,n2⟩:=J1 (q:=.is []) q1;exact⟨q',l,M,by rw[<-r.heap];exact n1,by rw[n2];exact q2⟩
def MidE(I:α->Prop)(T:α->St)(S:St):Prop:=∃x,I x/\S.H.length<=(T x).H.length/\A5 S (T x)
theorem XN{ro:yW}{a b c:Code}{S:St}{Q Q1 Q2:Exit->St->Prop}(I:α->Prop)(T:α->St)(h1:W P ro a S (Ml (fun S'=>W P ro b S' (Ml (MidE I T) Q1)) Q2))(h2:∀x,I x->W P ro c (T x) Q):W P ro a S (Ml (fun S'=>W P ro b S' (Ml (fun S'=>W P ro c S' Q) Q1)) Q2):=by
 refine h1.mono ?_;intro e S' h
 cases e with
 |normal=>
  refine W.mono (show W P ro b S' _ from h) ?_;intro e S'' h
  cases e with
  |normal=>
   obtain⟨x,hx,hl,ht⟩:=h;exact Av ht hl (h2 x hx)
  |_=>exact h
 |_=>exact h
theorem LU(n:A6)(h:P1 n)(BH:Int):yA 195 [n.d,.i .u8 BH] (.tup [(Bj n BH).d,.b (decide (5<=BH)&&decide (BH<=7))]):=by
 have c1:=HZ n.Ag h.fl;have c2:=HZ n.Ak h.ml;have c3:=HZ n.Aj h.tl;refine zF AK Tryz.func195 ?_;clear h
 have hJ:Bj n BH=if BH=5 then n.Ag else if BH=6 then n.Ak else if BH=7 then n.Aj else Hb:=by
  unfold Bj VW
  repeat' split
  all_goals rfl
 rw[hJ];clear hJ;unfold B5.d B5.A1 at c1 c2 c3;unfold A6.d A6.A1 AB.A1 Calls.A1 B5.A1;simp only[zA,zK]
 by_cases h5:BH=5
 .subst h5;refine AP RL ?_ (AQ @c1);with_reducible repeat' first|constructor|intro hc
  exact BO (yg @B5.d.eq_1 @B5.A1.eq_1)
 by_cases h6:BH=6
 .subst h6;refine AP RL ?_ (AQ @c2);with_reducible repeat' first|constructor|intro hc
  exact BO (yg @B5.d.eq_1 @B5.A1.eq_1)
 by_cases h7:BH=7
 .subst h7;refine AP RL ?_ (AQ @c3);with_reducible repeat' first|constructor|intro hc
  exact BO (yg @B5.d.eq_1 @B5.A1.eq_1)
 .have f5:=eq_false' h5;have f6:=eq_false' h6;have f7:=eq_false' h7;rw[zO h5,zO h6,zO h7,show(decide (5<=BH)&&decide (BH<=7))=false by grind];refine Ae RL ?_ (DO f5 f6 f7);with_reducible repeat' first|constructor|intro hc
  exact BO (yg @B5.d.eq_1 (yg @B5.A1.eq_1 @AN.eq_1))
theorem Pm(BH:Int):yA 211 [.i .u8 BH] (.b (decide (1<=BH)&&decide (BH<=3))):=by
 obtain⟨R,hR⟩:∃R,R=(decide (1<=BH)&&decide (BH<=3)):=⟨_,rfl⟩;rw[<-hR];refine zF AK Tryz.func211 ?_;refine A9 [0,2] ?_;with_reducible repeat' first|constructor|intro hc
 all_goals(refine⟨_,_,rfl,rfl,?_⟩;simp only[E5];refine congrArg D.b ?_;rw[hR];clear hR;grind)
end Nd
end Go.Proofs.YthlmmkmeoblbhaaGreat
