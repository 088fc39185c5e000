/- Part 26 of a proof. Conditions: those that its theorems state. -/
import Derived.Test.YtkljbfejbakooaaGreatDoorS25
set_option linter.unusedSimpArgs false
set_option linter.unusedVariables false
set_option linter.unnecessarySimpa false
set_option maxHeartbeats 40000000
set_option maxRecDepth 4000
namespace Go.Proofs.YtkljbfejbakooaaGreatDoor
namespace Nd
open Go.Gar
open Wi (A2 B5 AU A5 B6 B7 Ad)
variable {m:A2}
theorem Vx(h:m.right=true):(1<=m.kind/\m.kind<13)/\B5 m.src=true/\B5 m.dst=true/\m.src≠m.dst/\m.asker*1048576+1<=m.call/\m.call<m.asker*1048576+1+1048576:=by
 unfold A2.right A2.I1 at h;simp only[qH,qJ]at h;obtain⟨⟨⟨⟨⟨⟨⟨h1,h2⟩,h3⟩,h4⟩,h5⟩,h6⟩,h7⟩,_⟩:=h;exact⟨⟨h1,h2⟩,h3,h4,h5,h6,h7⟩
theorem L4:m.asks=true↔1<=m.kind/\m.kind<=6:=by
 unfold A2.asks;rw[qH,qJ,qJ]
theorem it(h1:7<=m.kind/\m.kind<13)(h2:B5 m.src=true)(h3:B5 m.dst=true)(h4:m.src≠m.dst)(h5:m.dst*1048576+1<=m.call)(h6:m.call<m.dst*1048576+1+1048576)(hb:m.bare=m.empty)(hh:m.has=true):m.right=true:=by
 have ha:m.asker=m.dst:=by
  unfold A2.asker;rw[if_neg];rw[L4];omega
 unfold A2.right A2.I1;rw[ha];simp only[qH,qJ];exact⟨⟨⟨⟨⟨⟨⟨om,h1.2⟩,h2⟩,h3⟩,h4⟩,h5⟩,h6⟩,hb,hh⟩
theorem eP(x:Int):∀(l:List Int)(f:Int),rT x f l=true->(∀p∈l,Ai p=true/\Aa x p>f)/\l.Nodup
 |[],_,_=>⟨fun p hp=>(by cases hp),List.nodup_nil⟩
 |p::r,f,h=>by
  unfold rT at h;simp only[qH,qJ]at h;obtain⟨i1,i2⟩:=eP x r _ h.2;refine⟨fun q hq=> ?_,List.nodup_cons.2 ⟨fun hp=> ?_,i2⟩⟩
  .rcases sG.1 hq with rfl|hq
   .exact h.1
   .have:=i1 q hq;have:=h.1.2;exact⟨(i1 q hq).1,om⟩
  .have:=(i1 p hp).2;omega
theorem Rm{v:View}(hv:AS v=true):Wi.Dv v.list v.id=true:=by
 obtain⟨_,_,h3,_,_⟩:=Eb hv;unfold BY at h3;rw[qH,qJ]at h3;obtain⟨h4,h5⟩:=eP v.id v.list 0 h3.2;unfold Wi.Dv Wi.EZ;simp only[qH,qJ,sK];refine⟨⟨fun p hp=>⟨by rw[<-LR];exact(h4 p hp).1,?_⟩,h5⟩,h3.1⟩;rintro rfl;have:=(h4 _ hp).2;unfold Aa at this;omega
theorem k9{id n:Int}(h:Ei id n=true)(h1:n≠ -1):Ai n=true:=by
 unfold Ei at h;rw[rO,qJ,qH]at h;rcases h with h|h
 .exact absurd h h1
 .exact h.1
theorem ls{v:View}{k:Int}{slow:Bool}(hv:AS v=true):Ai (FY v k slow).1=true:=by
 have hfi:=jq hv;obtain⟨_,_,h3,_,h5⟩:=Eb hv;unfold BY at h3;rw[qH]at h3;have hl:=(eP v.id v.list 0 h3.2).1;unfold FY;rw[if_pos hv];split
 .exact hfi.1
 split
 .exact hfi.1
 .have hk:∀q∈oq v,Ai q=true:=by
   intro q hq;unfold oq at hq;rcases sG.1 hq with rfl|hq
   .exact hfi.1
   rcases sU.1 hq with hq|hq
   .exact(hl q hq).1
   .have h1:=List.mem_filter.1 hq;exact k9 (sK.1 h5 q h1.1) (by simpa using h1.2)
  have key:∀(l:List Int)(p:Int),(∀q∈l,Ai q=true)->Ai p=true->Ai (l.foldl (FX v.id k) p)=true:=by
   intro l
   induction l with
   |nil=>exact fun p _ h=>h
   |cons q r ih=>
    intro p hq hp;rw[tV];refine ih _ (fun q' h=>hq q' (sZ _ h)) ?_;unfold FX;split
    .exact hq q (sQ ..)
    .exact hp
  exact key _ _ hk hfi.1
variable {l:List Item}
theorem eG{x:Item}(h:Bo l=true)(hx:AU x=true):(Dx l x).2=0\/(Dx l x).2=200:=by
 unfold Dx;rw[h,hx];simp only[uN,qw];split
 .exact .inl rfl
 split
 .exact .inr rfl
 .exact .inl rfl
theorem cd{key:List UInt8}(h:Bo l=true):((Cf l key).2=0/\AU (Cf l key).1=true)\/((Cf l key).2=201/\(Cf l key).1=AA):=by
 unfold Cf;split
 .rename_i hc;rw[qH]at hc;obtain⟨x,hx,_,hg⟩:=I0 hc.2;exact .inl ⟨rfl,by dsimp only;rw[hg];exact(Di.1 h).2.1 x (rE hx)⟩
 .exact .inr ⟨rfl,rfl⟩
theorem Uk(h:m.asks=true):BQ m=⟨m.kind+6,m.call,m.dst,m.src,0,false,false,0,0,[],AA,0⟩:=by
 unfold BQ;rw[if_pos h]
variable {n:Node}
theorem GZ:Bc n m=true↔m.asks=true/\m.right=true/\m.dst=n.view.id/\Ak n=true:=by
 unfold Bc;simp only[qH,qJ,and_assoc]
theorem Qr(h:Bc n m=true):(BD n m).2.right=true/\(BD n m).2.asks=false/\(BD n m).2.src=n.view.id/\(BD n m).2.dst=m.src/\(BD n m).2.call=m.call:=by
 obtain⟨ha,hr,hd,hn⟩:=GZ.1 h;obtain⟨_,_,_,hv,_,_,hk,_,_⟩:=AW.1 hn;have hk6:=L4.1 ha;obtain⟨_,h2,h3,h4,h5,h6⟩:=Vx hr;have hask:m.asker=m.src:=by unfold A2.asker;rw[if_pos ha]
 rw[hask]at h5 h6
 have hhas:m.has=true:=by
  unfold A2.right at hr;simp only[qH]at hr;exact hr.2.2
 have key:∀t:A2,t.kind=m.kind+6->t.src=m.dst->t.dst=m.src->t.call=m.call->t.bare=t.empty->t.has=true->t.right=true/\t.asks=false/\t.src=n.view.id/\t.dst=m.src/\t.call=m.call:=by
  intro t e1 e2 e3 e4 e5 e6;refine⟨it om (by rw[e2];exact h3) (by rw[e3];exact h2) (by rw[e2,e3];exact fun e=>h4 e.symm) (by rw[e3,e4];exact h5) (by rw[e3,e4];exact h6) e5 e6,?_,e2.trans hd,e3,e4⟩
  cases e:t.asks with
  |false=>rfl
  |true=>have:=L4.1 e;omega
 unfold BD;rw[Uk ha];dsimp only;have hkk:m.kind=1\/m.kind=2\/m.kind=3\/m.kind=4\/m.kind=5\/m.kind=6:=om
 rcases hkk with e|e|e|e|e|e
 .rw[if_pos e];refine key _ rfl rfl rfl rfl ?_ ?_
  .unfold A2.bare A2.empty;simp[e]
  .unfold A2.has;simp only[e,show((1:Int)+6)=7 by decide,show ¬((7:Int)=4)by decide,show ¬((7:Int)=5)by decide,show ¬((7:Int)=6)by decide,ql,qw];rw[qH,hd];refine⟨?_,Rm hv⟩;have ho:=(Eb hv).2.2.2.1;rw[rO,qJ]
   by_cases hp:n.view.pred= -1
   .exact .inl hp
   .right;rw[<-LR];exact k9 ho hp
 .rw[if_neg om,if_pos e];refine key _ rfl rfl rfl rfl ?_ ?_
  .unfold A2.bare A2.empty;simp[e]
  .unfold A2.has;simp[e]
 .rw[if_neg om,if_neg om,if_pos e];refine key _ rfl rfl rfl rfl ?_ ?_
  .unfold A2.bare A2.empty;simp[e]
  .unfold A2.has;simp[e]
 .rw[if_neg om,if_neg om,if_neg om,if_pos e]
  have eh:MQ n.view m={BQ m with place:=(FY n.view m.key m.slow).1,done:=(FY n.view m.key m.slow).2}:=by
   unfold MQ;rw[hv,qM e,qM hd,hr];rfl
  rw[eh,Uk ha];refine key _ rfl rfl rfl rfl ?_ ?_
  .unfold A2.bare A2.empty;simp[e]
  .unfold A2.has;simp only[e,show((4:Int)+6)=10 by decide,show ¬((10:Int)=4)by decide,show ¬((10:Int)=5)by decide,show ¬((10:Int)=6)by decide,show ¬((10:Int)=7)by decide,ql,qw];rw[<-LR];exact ls hv
 .rw[if_neg om,if_neg om,if_neg om,if_neg om,if_pos e];refine key _ rfl rfl rfl rfl ?_ ?_
  .unfold A2.bare A2.empty;simp[e]
  .have hi:AU m.item=true:=by
    unfold A2.has at hhas;simpa only[e,show ¬((5:Int)=4)by decide,ql,qw]using hhas
   unfold A2.has;simp only[e,show((5:Int)+6)=11 by decide,show ¬((11:Int)=4)by decide,show ¬((11:Int)=5)by decide,show ¬((11:Int)=6)by decide,show ¬((11:Int)=7)by decide,show ¬((11:Int)=10)by decide,ql,qw];rw[rO,qJ,qJ];exact eG hk hi
 .rw[if_neg om,if_neg om,if_neg om,if_neg om,if_neg om,if_pos e];refine key _ rfl rfl rfl rfl ?_ ?_
  .unfold A2.bare A2.empty;simp[e]
  .unfold A2.has;simp only[e,show((6:Int)+6)=12 by decide,show ¬((12:Int)=4)by decide,show ¬((12:Int)=5)by decide,show ¬((12:Int)=6)by decide,show ¬((12:Int)=7)by decide,show ¬((12:Int)=10)by decide,show ¬((12:Int)=11)by decide,ql,qw];rw[rO,qH,qH,qJ,qJ,qJ];exact cd hk
theorem YN(h:NB n)(hs:Bc n m=true):NB (BD n m).1/\PW n.view (BD n m).1.view/\(BD n m).1.view.list=n.view.list/\(BD n m).1.clock=n.clock/\(BD n m).1.calls=n.calls/\(BD n m).1.seen=n.seen/\n.keep.length<=(BD n m).1.keep.length/\(BD n m).1.bad=n.bad/\(BD n m).1.phase=n.phase/\(BD n m).1.of_=n.of_:=by
 have hself:NB n/\PW n.view n.view/\n.view.list=n.view.list/\n.clock=n.clock/\n.calls=n.calls/\n.seen=n.seen/\n.keep.length<=n.keep.length/\n.bad=n.bad/\n.phase=n.phase/\n.of_=n.of_:=⟨h,.refl _,rfl,rfl,rfl,rfl,qG _,rfl,rfl,rfl⟩;obtain⟨ha,hr,hd,hn⟩:=GZ.1 hs;unfold BD;dsimp only;split
 .exact hself
 split
 .exact hself
 split
 .have hv:PW n.view (DI n.view m.src):=by
   unfold DI;split
   .rename_i hc;rw[qH]at hc;refine⟨rfl,rfl,fun _=> ?_⟩;obtain⟨h1,h2,h3,h4,h5⟩:=Eb h.rv;refine PD h1 h2 h3 ?_ h5;have hb:=hc.2;unfold JP at hb;simp only[qH,qJ]at hb;show Ei n.view.id m.src=true;unfold Ei;rw[hb.1.1,qM hb.1.2];simp
   .exact .refl _
  have hnx:=(AW.1 h.r).2.2.1;have hl:(DI n.view m.src).list=n.view.list:=by unfold DI;split<;>rfl
  exact⟨h.view hv hnx,hv,hl,rfl,rfl,rfl,qG _,rfl,rfl,rfl⟩
 split
 .exact hself
 split
 .refine⟨⟨?_,⟨h.l.f,h.l.m,h.l.c⟩,h.ph⟩,.refl _,rfl,rfl,rfl,rfl,Xl ..,rfl,rfl,rfl⟩;obtain⟨a1,a2,a3,a4,a5,a6,a7,a8,a9⟩:=AW.1 h.r;exact AW.2 ⟨a1,a2,a3,a4,a5,a6,P7 a7,a8,a9⟩
 split
 .exact hself
 .exact hself
theorem NB.seen{n:Node}(h:NB n){l:List Past}(hl:Ec l=true)(ho:∀p∈l,p.told.src=n.view.id):NB {n with seen:=l}:=by
 refine⟨?_,⟨h.l.f,h.l.m,h.l.c⟩,h.ph⟩;obtain⟨a1,a2,a3,a4,a5,a6,a7,a8,a9⟩:=AW.1 h.r;refine AW.2 ⟨a1,a2,a3,a4,a5,a6,a7,hl,?_⟩;unfold Md;rw[uG,uF];intro p hp;have:=ho p hp;simpa using this
theorem NB.own(h:NB n):∀p∈n.seen,p.told.src=n.view.id:=by
 have:=(AW.1 h.r).2.2.2.2.2.2.2.2;unfold Md at this;rw[uG,uF]at this;intro p hp;simpa using this p hp
theorem Zt{l:List Past}{t:A2}{p:Past}(h:p∈Cq l t):p∈l\/p=⟨t.dst,t.call,t⟩:=by
 unfold Cq at h;split at h
 .split at h
  .exact .inl h
  .have:=List.mem_of_mem_drop h;rw[sU,uU]at this;exact this
 .exact .inl h
theorem PK(h:NB n)(hs:Bc n m=true):NB (AK n m).1/\PW n.view (AK n m).1.view/\(AK n m).1.view.list=n.view.list/\(AK n m).1.clock=n.clock/\(AK n m).1.calls=n.calls/\n.keep.length<=(AK n m).1.keep.length/\(AK n m).1.bad=n.bad/\((AK n m).1.phase=n.phase/\(AK n m).1.of_=n.of_)/\
  (AK n m).2.right=true/\(AK n m).2.asks=false/\(AK n m).2.src=n.view.id/\(AK n m).2.dst=m.src/\(AK n m).2.call=m.call/\Be (AK n m).1.seen m.src m.call=((AK n m).2,true):=by
 have hsn:=(AW.1 h.r).2.2.2.2.2.2.2.1;unfold AK;rw[if_pos hs];split
 .rename_i hf;obtain⟨p,hp,e1,e2,e3⟩:=Zu hf;obtain⟨b1,b2,b3,b4⟩:=Kf.1 ((GD.1 hsn).2.1 p hp);refine⟨h,.refl _,rfl,rfl,rfl,qG _,rfl,⟨rfl,rfl⟩,?_⟩;dsimp only;rw[e3];refine⟨b1,b2,h.own p hp,b3.trans e1,b4.trans e2,?_⟩;rw[<-e3,<-hf]
 .rename_i hf;rw[Bool.not_eq_true]at hf;obtain⟨t1,t2,t3,t4,t5⟩:=Qr hs;obtain⟨a1,a2,a3,a4,a5,a6,a7,a8,a9,a10⟩:=YN h hs;have hr:=Ue (t:=(BD n m).2) hsn;refine⟨a1.seen hr fun p hp=> ?_,a2,a3,a4,a5,a7,a8,⟨a9,a10⟩,t1,t2,t3,t4,t5,?_⟩
  .rw[a2.id];rcases Zt hp with hp|rfl
   .exact h.own p hp
   .exact t3
  .dsimp only;rw[<-t4,<-t5];refine Ud hsn t1 t2 ?_;rw[t4,t5];exact hf
theorem Jk(h:m.right=true):m.item.key.length<=20:=by
 have hz:(AA:Item).key.length<=20:=by decide
 have hi:∀x:Item,AU x=true->x.key.length<=20:=fun x hx=>by
  unfold Wi.AU Wi.B6 at hx;simp only[qH,qJ]at hx;omega
 unfold A2.right at h;simp only[qH,qJ]at h;have hb:=h.2.1;have hh:=h.2.2
 by_cases h5:m.kind=5
 .unfold A2.has at hh;simp only[h5,show ¬((5:Int)=4)by decide,ql,qw]at hh;exact hi _ hh
 by_cases h6:m.kind=6
 .unfold A2.has at hh;simp only[h6,show ¬((6:Int)=4)by decide,show ¬((6:Int)=5)by decide,ql,qw]at hh;rw[qH]at hh;exact hi _ hh.1
 by_cases h12:m.kind=12
 .unfold A2.has at hh;simp only[h12,show ¬((12:Int)=4)by decide,show ¬((12:Int)=5)by decide,show ¬((12:Int)=6)by decide,show ¬((12:Int)=7)by decide,show ¬((12:Int)=10)by decide,show ¬((12:Int)=11)by decide,ql,qw]at hh;rw[rO,qH,qH,qJ,qJ,qJ]at hh;rcases hh with hh|hh
  .exact hi _ hh.2
  .rw[hh.2];exact hz
 .have e:m.bare.item=m.item:=by
   unfold A2.bare
   repeat' split
   all_goals first|rfl|(exfalso;omega)
  rw[<-e,hb];exact hz
theorem NB.bad{n:Node}(h:NB n){k:Int}(hk:0<=k):NB {n with bad:=k}:=by
 refine⟨?_,⟨h.l.f,h.l.m,h.l.c⟩,h.ph⟩;obtain⟨a1,a2,a3,a4,a5,a6,a7,a8,a9⟩:=AW.1 h.r;exact AW.2 ⟨a1,hk,a3,a4,a5,a6,a7,a8,a9⟩
theorem NB.close(h:NB n)(m:A2):NB {n with calls:=(Ar n.calls m).1}:=by
 refine h.calls ?_ (TF h.cB.1);unfold Ar;split
 .split<;>rfl
 .rfl
theorem jN(h:NB n)(b:List UInt8):NB (Cs n b).1/\PW n.view (Cs n b).1.view/\(Cs n b).1.clock=n.clock/\n.keep.length<=(Cs n b).1.keep.length/\(∀g∈(Cs n b).2,cj n.view.id g)/\(Cs n b).2.length<=16:=by
 unfold Cs;rw[if_pos h.r];split
 .refine⟨h.bad ?_,.refl _,rfl,qG _,fun g hg=>(by cases hg),qP _⟩;have:=(AW.1 h.r).2.1;split<;>omega
 rename_i hc;split
 .rename_i ha
  by_cases hs:Bc n (Ad b).1=true
  .obtain⟨a1,a2,_,a4,_,a6,_,_,t1,_,t3,_⟩:=PK h hs;refine⟨a1,a2,a4,a6,fun g hg=> ?_,?_⟩
   .dsimp only at hg;rw[GW t1,uU]at hg;exact⟨_,t1,t3,hg⟩
   .dsimp only;rw[GW t1];exact(by decide:(1:Nat)<=16)
  .have e:AK n (Ad b).1=(n,A5):=by unfold AK;rw[if_neg hs]
   rw[e]
   have hz:NP A5=[]:=by
    unfold NP;rw[if_neg];unfold Wi.B7;rw[Wi.WN];decide
   refine⟨h,.refl _,rfl,qG _,fun g hg=> ?_,?_⟩
   .dsimp only at hg;rw[hz]at hg;cases hg
   .dsimp only;rw[hz];exact qP _
 split
 .rename_i hk;obtain⟨k1,k2,_⟩:=L9 hk;have hn:=h.close (Ad b).1;have a:=XC (g:=[]) hn (c:=(Ar n.calls (Ad b).1).2.1) (m:=(Ad b).1) (tJ (Jk k2) (by decide));obtain⟨g,g1,g2,g3⟩:=a.sent;have h16:=(CC.1 a.nb.cB.1).1.2.2.2;refine⟨a.nb,a.view,a.clock,a.keep,fun x hx=> ?_,?_⟩
  .rw[g1]at hx;exact g2 x (by simpa using hx)
  .rw[g1];simp only[qX];omega
 .exact⟨h,.refl _,rfl,qG _,fun g hg=>(by cases hg),qP _⟩
end Nd
end Go.Proofs.YtkljbfejbakooaaGreatDoor
namespace Go.Proofs.YtkljbfejbakooaaGreatDoor
namespace Nd
open Go.Gar
open Wi (A2 B5 AU A5 B6 mC B7 Ad)
abbrev M6:List Nat:=[0,1,4,5,7,8,9,12,13,14,15,34,41]
theorem AY.own{P:Program}{f:FuncId}{args args':List AV}{H:List A3}{r x:D}(h:AY P f args H (.d r) H)(hr:flat r=true)(hH:∀blk∈H,∃cs:List D,blk= .c (cs.map .d)/\∀d∈cs,flat d=true)
  (ha:AV.Ft H.length x args'=args) (hf:Cx H.length x 0 (H++[.a x])=H++[.gone]) (ho:Ae H.length H=true) (hk:AV.oks H.length args=true):AY P f args' (H++[.a x]) (.d r) (H++[.a x]):=by
 have hF:=IY.frame (L:=[.gone]) h ho hk (fun r' H' e=>by rw[e.2]);refine⟨h.1,fun G w vs hG hR hv=> ?_⟩;have hid:G.H[H.length]? =some (.a x):=by rw[hG];simp
 have h1:=(Hy hR hid).1;have hv2:=Al.EN hR hid hv;rw[ha]at hv2;refine(hF.2 (G.freeze w H.length x) w vs (by rw[<-hf,<-hG];rfl) h1 hv2).mono ?_;rintro e w' ⟨v,q,G',rfl,⟨H',⟨rfl,hH'⟩,hG'⟩,hq,hR',hfr⟩;rw[hH']at hG';have hmle:∀b k v,G.m b k=some v->G'.m b k=some v:=fun b k v hm=>hfr.gle.mem b k v ((CU hR hid).mem b k v hm)
 have hno:∀b,Own (G.freeze w H.length x) b->Own G b:=fun b hb=>(IC hR hid hb).1;have hnx:∀b N,G.ρ H.length=some (b,N)->¬Own (G.freeze w H.length x) b:=fun b N hb ho=>(IC hR hid ho).2 N hb
 refine⟨v,.d r,G,rfl,⟨rfl,hG⟩,by simp only[RV]at hq|-;exact Nl hr hq,⟨fun id blk hb=> ?_,hR.inj,fun b k v hm=>hR'.mem b k v (hmle b k v hm),hR.sep,hR.st⟩,⟨hfr.os,hfr.tape,hfr.output,hfr.size,fun b hb ho=>⟨(hfr.keep b hb (fun hq=>ho (hno b hq))).1,ho⟩,fun _ _ _ hm=> .inl hm,HH.refl G⟩⟩;have hb0:=hb;rw[hG,List.getElem?_append]at hb;split at hb
 .rename_i hlt;obtain⟨cs,rfl,hc⟩:=hH blk (rE hb);have hb':G'.H[id]? =some (.c (cs.map .d)):=by rw[hG',qg hlt];exact hb
  have hbf:(G.freeze w H.length x).H[id]? =some (.c (cs.map .d)):=by
   show(Cx H.length x 0 G.H)[id]? =_;rw[hG,hf,qg hlt];exact hb
  obtain⟨b',hb'',hs⟩:=hfr.gle.blk id _ hbf;rw[hb']at hb'';cases hb'';obtain⟨b,N,vs',T,k1,k2,k3,k4,k5⟩:=hR'.blk id _ hb';simp only[AI]at hs;refine⟨b,N,vs',T,(hs.2.symm.trans k1:G.ρ id=some (b,N)),k2,k3,k4,fun k y hy=> ?_⟩;obtain⟨u,hu,hru⟩:=k5 k y hy;rw[rQ,rF]at hy;obtain⟨d,hd,rfl⟩:=hy;refine⟨u,hu,?_⟩;simp only[RV]at hru|-;exact Nl (hc d (rE hd)) hru
 .rename_i hge
  have hi:id=H.length:=by
   have:=(qN.1 hb).1;simp only[qY,qy]at this;omega
  subst hi;have hB:=hR.blk H.length blk hb0;refine hB.Nm (HH.refl G) (fun b N hl hρ=> ?_) rfl;have hlt:=Dw hR ⟨H.length,N,blk,hb0,hl,hρ⟩;exact(hfr.keep b hlt (hnx b N hρ)).1
theorem Jl(l:List Past)(m:A2)(hl:∀x∈l,AD x.told)(hn:l.length<=40)(hm:AD m):qB 121 [AH l,.sl 15 [m.cells]] (AH (Cq l m)):=by
 have c1:=NA l hl om;have c2:=mj m hm;have c3:=fN m.dst m.call
 have c4:qC 164 [.sl 2 l.length 17,.fn (.func 241) [] [.ptr 0 0 1,.ptr 1 0 1]] ([.c [.pY m.dst],.c [.pY m.call]]++[.a (AH l)]) (.pY (KB l m.dst m.call)) ([.c [.pY m.dst],.c [.pY m.call]]++[.a (AH l)]):=
  AY.own (Oa l m.dst m.call om) rfl (fun blk hb=>by
   simp only[sG,List.not_mem_nil,or_false]at hb;rcases hb with rfl|rfl
   .exact⟨[.i .i64 m.dst],rfl,by simp[flat]⟩
   .exact⟨[.i .i64 m.call],rfl,by simp[flat]⟩) (by simp[AV.Ft,AV.EN,AP]) rfl rfl rfl
 simp only[qV,qX]at c4
 cases ho:m.right&& !m.asks with
 |false=>
  have hT:Cq l m=l:=by unfold Cq;rw[ho];rfl
  rw[ho]at c2;simp only[rD,ql]at c2;rw[hT];refine zF A4 Tryz.func121 ?_;unfold Wi.A2.d Past.d NF Past.cells at c2;unfold Wi.A2.cells at *;have d1:=Ds.mk [] (c1);have un:No 2:=trivial;refine wd M6 [] A0 (A6 @c2) ?_ [] true;clear un d1;exact zE
 |true=>
 rw[ho]at c2;simp only[qw]at c2;rcases Uf l m.dst m.call with⟨h1,h2⟩|⟨k,x,h1,h2,h3⟩
 .rw[h1]at c4;have hT:Cq l m=(l++[(⟨m.dst,m.call,m⟩:Past)]).drop ((l.length+1)-40):=by unfold Cq;rw[ho,h2];rfl
  rw[hT];refine zF A4 Tryz.func121 ?_;unfold Wi.A2.d Past.d Past.cells at c2;unfold Wi.A2.cells at *;have fL:∀a b:List (List D),(a++b).length=a.length+b.length:=fun _ _=>qj
  by_cases h40:l.length=40
  .have f1:decide ((l.length:Int)+1>40)=true:=qM om;have f3:decide (((l.length+1:Nat):Int)>40)=true:=qM om;have f2:decide ((l.length:Int)>40)=false:=qO om;rw[show l.length+1-40=1 by omega];have d1:=Ds.mk [] (c1);have d2:=Ds.mk [] (c3);have d3:=Ds.mk [5,6,2] (c4);have un:No 2:=trivial;have ow:Lv [37]:=trivial;refine wd M6 [9] (Kl fL f1 f2 f3) (A6 @c2) ?_ [] true;clear ow un d3 d2 d1;refine Ah (A1.cY 5 2 rfl rfl (by simp[AP])) (by simp[Cx]) ?_;have fD:∀(a:List (List D))(n:Nat),(a.drop n).length=a.length-n:=fun _ _=>List.length_drop
   have f4:decide (((l.length+1-1:Nat):Int)>40)=false:=qO om;have un:No 2:=trivial;refine wd M6 [] (Kl fL f2 fD f4) A0 ?_ [] true;clear un;refine⟨_,_,rfl,rfl,?_⟩;simp[H8,AP,Aj,AF,AH,List.map_append,sO,vF,Past.cells]
  .have f1:decide ((l.length:Int)+1>40)=false:=qO om;have f3:decide (((l.length+1:Nat):Int)>40)=false:=qO om;rw[show l.length+1-40=0 by omega,List.drop_zero];have d1:=Ds.mk [] (c1);have d2:=Ds.mk [] (c3);have d3:=Ds.mk [5,6,2] (c4);have un:No 2:=trivial;have ow:Lv [37]:=trivial;refine wd M6 [] (C3 fL f1 f3) (A6 @c2) ?_ [] true;clear ow un d3 d2 d1;refine⟨_,_,rfl,rfl,?_⟩;simp[H8,AP,Aj,AF,AH,List.map_append,sO,vF,Past.cells]
 .rw[h1]at c4;have f1:decide ((k:Int)>=0)=true:=qM om;have hT:Cq l m=l:=by unfold Cq;rw[ho,h3];rfl
  rw[hT];refine zF A4 Tryz.func121 ?_;unfold Wi.A2.d Past.d Past.cells at c2;unfold Wi.A2.cells at *;have d1:=Ds.mk [] (c1);have d2:=Ds.mk [] (c3);have d3:=Ds.mk [5,6,2] (c4);have un:No 2:=trivial;refine wd M6 [] (A6 f1) (A6 @c2) ?_ [] true;clear un d3 d2 d1;exact zE
abbrev BA:List Nat:=[0,1,2,3,4,5,6,7,8,9,10,11,17,28,38]
theorem Hh(m:A2):(BQ m).list=[]:=by unfold BQ;split<;>rfl
theorem Z6(v:View)(m:A2):(MQ v m).list=[]:=by
 unfold MQ;split
 .exact Hh m
 .rfl
variable {m:A2}
theorem AD.nil(h:m.list=[]):AD m:=by unfold AD;rw[h];exact qP _
variable {n:Node}
theorem NB.Mm(h:NB n):n.seen.length<=40:=by
 obtain⟨_,_,_,_,_,_,_,hs,_⟩:=AW.1 h.r;exact(GD.1 hs).1
theorem er(n:Node)(m:A2)(h:NB n)(hm:AD m)(hs:Bc n m=false):qB 45 [n.d,m.d] (.tup [(AK n m).1.d,(AK n m).2.d]):=by
 have c1:=Ax n h.Fa;have c2:=EI n m h.Fa hm;have c3:=DG A5 (.nil rfl);have hT:AK n m=(n,A5):=by unfold AK;rw[hs];rfl
 rw[hs]at c2;rw[hT];refine zF A4 Tryz.func45 ?_;unfold Node.d Node.cells View.cells Calls.cells Job.cells Wi.A2.d Wi.A2.cells at *;unfold A5 AA at c3;refine wd BA [11] A0 (AX @c1 @c2) ?_ [] true;refine Ah (A1.KA 5 9 (.is []) rfl rfl rfl rfl trivial) sm ?_;refine wd BA [] A0 (A6 @c3) ?_ [(1,3)] true;exact Ag (qQ @A5.eq_1 @AA.eq_1)
theorem Zw(n:Node)(m:A2)(h:NB n)(hm:AD m)(hs:Bc n m=true)(hf:(Be n.seen m.src m.call).2=true)(hl:AD (Be n.seen m.src m.call).1):qB 45 [n.d,m.d] (.tup [(AK n m).1.d,(AK n m).2.d]):=by
 have c1:=Ax n h.Fa;have c2:=EI n m h.Fa hm;have c3:=DG _ hl;have c4:=GY n.seen m.src m.call h.Fa.sl h.Fa.sn;have hT:AK n m=(n,(Be n.seen m.src m.call).1):=by unfold AK;rw[if_pos hs,if_pos hf]
 rw[hs]at c2;rw[hT];clear hT;generalize Be n.seen m.src m.call=p at *;obtain⟨p1,p2⟩:=p;dsimp only at *;subst hf;refine zF A4 Tryz.func45 ?_;unfold Node.d Node.cells View.cells Calls.cells Job.cells Wi.A2.d Wi.A2.cells at *;refine wd BA [11] A0 (C3 @c1 @c2 @c4) ?_ [] true;refine wd BA [] A0 (A6 @c3) ?_ [(1,3)] true;exact zE
theorem j9(n:Node)(m:A2)(h:NB n)(hm:AD m)(hs:Bc n m=true)(hf:(Be n.seen m.src m.call).2=false)(hk:m.kind=1):qB 45 [n.d,m.d] (.tup [(AK n m).1.d,(AK n m).2.d]):=by
 have c1:=Ax n h.Fa;have c2:=EI n m h.Fa hm;have c3:=GY n.seen m.src m.call h.Fa.sl h.Fa.sn;have c4:=Ep n m;have c5:=kz n m (BQ m) h.Fa.vl;have hl:AD ({BQ m with pred:=n.view.pred,list:=n.view.list}:A2):=(by unfold AD;have:=h.Fa.vl;dsimp only;omega);have c6:=Jl n.seen _ h.Fa.sl h.Mm hl;have c7:=DG _ hl
 have hT:AK n m=({(n:Node)with seen:=Cq n.seen ({BQ m with pred:=n.view.pred,list:=n.view.list})},{BQ m with pred:=n.view.pred,list:=n.view.list}):=by
  unfold AK;rw[if_pos hs,hf];unfold BD;rw[hk];rfl
 rw[hs]at c2;rw[hT];clear hT hl;generalize Cq n.seen _=S at*
 skip
 generalize BQ m=t at *;generalize Be n.seen m.src m.call=p at *;obtain⟨p1,p2⟩:=p;obtain⟨kind,call,src,dst,key,slow,done,place,pred,list,item,code⟩:=m;dsimp only at *;subst hf hk;refine zF A4 Tryz.func45 ?_;unfold Node.d Node.cells View.cells Calls.cells Job.cells Wi.A2.d Wi.A2.cells at *;unfold aH at *;simp only[qV,qX]at c4;refine wd BA [7] A0 (C3 @c1 @c2 @c3) ?_ [] true;have d1:=Ds.mk [4] (c4);refine wd BA [9] A0 A0 ?_ [(2,1),(3,1)] true;clear d1;have d1:=Ds.mk [4,7,8,9] (c5);refine wd BA [11] A0 (A6 @c6) ?_ [] true;clear d1;refine wd BA [] A0 (A6 @c7) ?_ [(1,3)] true;exact zE
theorem jA(n:Node)(m:A2)(h:NB n)(hm:AD m)(hs:Bc n m=true)(hf:(Be n.seen m.src m.call).2=false)(hk:m.kind=2):qB 45 [n.d,m.d] (.tup [(AK n m).1.d,(AK n m).2.d]):=by
 have c1:=Ax n h.Fa;have c2:=EI n m h.Fa hm;have c3:=GY n.seen m.src m.call h.Fa.sl h.Fa.sn;have c4:=Ep n m;have c5:=l8 (BQ m);have hl:AD (BQ m:A2):=(.nil (Hh m));have c6:=Jl n.seen _ h.Fa.sl h.Mm hl;have c7:=DG _ hl
 have hT:AK n m=({(n:Node)with seen:=Cq n.seen (BQ m)},BQ m):=by
  unfold AK;rw[if_pos hs,hf];unfold BD;rw[hk];rfl
 rw[hs]at c2;rw[hT];clear hT hl;generalize Cq n.seen _=S at*
 skip
 generalize BQ m=t at *;generalize Be n.seen m.src m.call=p at *;obtain⟨p1,p2⟩:=p;obtain⟨kind,call,src,dst,key,slow,done,place,pred,list,item,code⟩:=m;dsimp only at *;subst hf hk;refine zF A4 Tryz.func45 ?_;unfold Node.d Node.cells View.cells Calls.cells Job.cells Wi.A2.d Wi.A2.cells at *;unfold aH at *;simp only[qV,qX]at c4;refine wd BA [7] A0 (C3 @c1 @c2 @c3) ?_ [] true;have d1:=Ds.mk [4] (c4);refine wd BA [9] A0 A0 ?_ [(2,1),(3,1)] true;clear d1;have d1:=Ds.mk [9] (c5);refine wd BA [11] A0 (A6 @c6) ?_ [] true;clear d1;refine wd BA [] A0 (A6 @c7) ?_ [(1,3)] true;exact zE
theorem jB(n:Node)(m:A2)(h:NB n)(hm:AD m)(hs:Bc n m=true)(hf:(Be n.seen m.src m.call).2=false)(hk:m.kind=3):qB 45 [n.d,m.d] (.tup [(AK n m).1.d,(AK n m).2.d]):=by
 have c1:=Ax n h.Fa;have c2:=EI n m h.Fa hm;have c3:=GY n.seen m.src m.call h.Fa.sl h.Fa.sn;have c4:=Ep n m;have c5:=l9 n m (BQ m) h.Fa.vb h.Fa.vl;have hl:AD (BQ m:A2):=(.nil (Hh m));have c6:=Jl n.seen _ h.Fa.sl h.Mm hl;have c7:=DG _ hl
 have hT:AK n m=({({n with view:=DI n.view m.src}:Node)with seen:=Cq n.seen (BQ m)},BQ m):=by
  unfold AK;rw[if_pos hs,hf];unfold BD;rw[hk];rfl
 rw[hs]at c2;rw[hT];clear hT hl;generalize Cq n.seen _=S at *;generalize DI n.view m.src=w at *;generalize BQ m=t at *;generalize Be n.seen m.src m.call=p at *;obtain⟨p1,p2⟩:=p;obtain⟨kind,call,src,dst,key,slow,done,place,pred,list,item,code⟩:=m;dsimp only at *;subst hf hk;refine zF A4 Tryz.func45 ?_;unfold Node.d Node.cells View.cells Calls.cells Job.cells Wi.A2.d Wi.A2.cells at *;unfold aH at *;simp only[qV,qX]at c4;refine wd BA [7] A0 (C3 @c1 @c2 @c3) ?_ [] true;have d1:=Ds.mk [4] (c4);refine wd BA [9] A0 A0 ?_ [(2,1),(3,1)] true;clear d1;have d1:=Ds.mk [4,7,8,9] (c5);refine wd BA [11] A0 (A6 @c6) ?_ [] true;clear d1;refine wd BA [] A0 (A6 @c7) ?_ [(1,3)] true;exact zE
theorem jF(n:Node)(m:A2)(h:NB n)(hm:AD m)(hs:Bc n m=true)(hf:(Be n.seen m.src m.call).2=false)(hk:m.kind=4):qB 45 [n.d,m.d] (.tup [(AK n m).1.d,(AK n m).2.d]):=by
 have c1:=Ax n h.Fa;have c2:=EI n m h.Fa hm;have c3:=GY n.seen m.src m.call h.Fa.sl h.Fa.sn;have c4:=Ep n m;have c5:=lA n m (BQ m) h.Fa.vb h.Fa.vl hm;have hl:AD (MQ n.view m:A2):=(.nil (Z6 n.view m));have c6:=Jl n.seen _ h.Fa.sl h.Mm hl;have c7:=DG _ hl
 have hT:AK n m=({(n:Node)with seen:=Cq n.seen (MQ n.view m)},MQ n.view m):=by
  unfold AK;rw[if_pos hs,hf];unfold BD;rw[hk];rfl
 rw[hs]at c2;rw[hT];clear hT hl;generalize Cq n.seen _=S at *;generalize MQ n.view m=w at *;generalize BQ m=t at *;generalize Be n.seen m.src m.call=p at *;obtain⟨p1,p2⟩:=p;obtain⟨kind,call,src,dst,key,slow,done,place,pred,list,item,code⟩:=m;dsimp only at *;subst hf hk;refine zF A4 Tryz.func45 ?_;unfold Node.d Node.cells View.cells Calls.cells Job.cells Wi.A2.d Wi.A2.cells at *;unfold aH at *;simp only[qV,qX]at c4;refine wd BA [7] A0 (C3 @c1 @c2 @c3) ?_ [] true;have d1:=Ds.mk [4] (c4);refine wd BA [9] A0 A0 ?_ [(2,1),(3,1)] true;clear d1;have d1:=Ds.mk [4,7,8,9] (c5);refine wd BA [11] A0 (A6 @c6) ?_ [] true;clear d1;refine wd BA [] A0 (A6 @c7) ?_ [(1,3)] true;exact zE
theorem jG(n:Node)(m:A2)(h:NB n)(hm:AD m)(hs:Bc n m=true)(hf:(Be n.seen m.src m.call).2=false)(hk:m.kind=5):qB 45 [n.d,m.d] (.tup [(AK n m).1.d,(AK n m).2.d]):=by
 have c1:=Ax n h.Fa;have c2:=EI n m h.Fa hm;have c3:=GY n.seen m.src m.call h.Fa.sl h.Fa.sn;have c4:=Ep n m;have c5:=lB n m (BQ m) h.Fa.kn;have hl:AD ({BQ m with code:=(Dx n.keep m.item).2}:A2):=(.nil (Hh m));have c6:=Jl n.seen _ h.Fa.sl h.Mm hl;have c7:=DG _ hl
 have hT:AK n m=({({n with keep:=(Dx n.keep m.item).1}:Node)with seen:=Cq n.seen ({BQ m with code:=(Dx n.keep m.item).2})},{BQ m with code:=(Dx n.keep m.item).2}):=by
  unfold AK;rw[if_pos hs,hf];unfold BD;rw[hk];rfl
 rw[hs]at c2;rw[hT];clear hT hl;generalize Cq n.seen _=S at *;generalize Dx n.keep m.item=w at *;generalize BQ m=t at *;generalize Be n.seen m.src m.call=p at *;obtain⟨p1,p2⟩:=p;obtain⟨kind,call,src,dst,key,slow,done,place,pred,list,item,code⟩:=m;dsimp only at *;subst hf hk;refine zF A4 Tryz.func45 ?_;unfold Node.d Node.cells View.cells Calls.cells Job.cells Wi.A2.d Wi.A2.cells at *;unfold aH at *;simp only[qV,qX]at c4;refine wd BA [7] A0 (C3 @c1 @c2 @c3) ?_ [] true;have d1:=Ds.mk [4] (c4);refine wd BA [9] A0 A0 ?_ [(2,1),(3,1)] true;clear d1;have d1:=Ds.mk [4,7,8,9] (c5);refine wd BA [11] A0 (A6 @c6) ?_ [] true;clear d1;refine wd BA [] A0 (A6 @c7) ?_ [(1,3)] true;exact zE
theorem jH(n:Node)(m:A2)(h:NB n)(hm:AD m)(hs:Bc n m=true)(hf:(Be n.seen m.src m.call).2=false)(hk:m.kind=6):qB 45 [n.d,m.d] (.tup [(AK n m).1.d,(AK n m).2.d]):=by
 have c1:=Ax n h.Fa;have c2:=EI n m h.Fa hm;have c3:=GY n.seen m.src m.call h.Fa.sl h.Fa.sn;have c4:=Ep n m;have c5:=lC n m (BQ m) h.Fa.kn;have hl:AD ({BQ m with item:=(Cf n.keep m.item.key).1,code:=(Cf n.keep m.item.key).2}:A2):=(.nil (Hh m));have c6:=Jl n.seen _ h.Fa.sl h.Mm hl;have c7:=DG _ hl
 have hT:AK n m=({(n:Node)with seen:=Cq n.seen ({BQ m with item:=(Cf n.keep m.item.key).1,code:=(Cf n.keep m.item.key).2})},{BQ m with item:=(Cf n.keep m.item.key).1,code:=(Cf n.keep m.item.key).2}):=by
  unfold AK;rw[if_pos hs,hf];unfold BD;rw[hk];rfl
 rw[hs]at c2;rw[hT];clear hT hl;generalize Cq n.seen _=S at *;generalize Cf n.keep m.item.key=w at *;generalize BQ m=t at *;generalize Be n.seen m.src m.call=p at *;obtain⟨p1,p2⟩:=p;obtain⟨kind,call,src,dst,key,slow,done,place,pred,list,item,code⟩:=m;dsimp only at *;subst hf hk;refine zF A4 Tryz.func45 ?_;unfold Node.d Node.cells View.cells Calls.cells Job.cells Wi.A2.d Wi.A2.cells at *;unfold aH at *;simp only[qV,qX]at c4;refine wd BA [7] A0 (C3 @c1 @c2 @c3) ?_ [] true;have d1:=Ds.mk [4] (c4);refine wd BA [9] A0 A0 ?_ [(2,1),(3,1)] true;clear d1;have d1:=Ds.mk [4,7,8,9] (c5);refine wd BA [11] A0 (A6 @c6) ?_ [] true;clear d1;refine wd BA [] A0 (A6 @c7) ?_ [(1,3)] true;exact zE
theorem em(n:Node)(m:A2)(h:NB n)(hm:AD m):qB 45 [n.d,m.d] (.tup [(AK n m).1.d,(AK n m).2.d]):=by
 cases hs:Bc n m with
 |false=>exact er n m h hm hs
 |true=>
 cases hf:(Be n.seen m.src m.call).2 with
 |true=>
  refine Zw n m h hm hs hf ?_;unfold Be;split
  .rename_i p hp;exact h.Fa.sl p (List.mem_of_find?_eq_some hp)
  .exact .nil rfl
 |false=>
 have hk:=L4.1 (GZ.1 hs).1;rcases(by omega:m.kind=1\/m.kind=2\/m.kind=3\/m.kind=4\/m.kind=5\/m.kind=6)with hk|hk|hk|hk|hk|hk
 .exact j9 n m h hm hs hf hk
 .exact jA n m h hm hs hf hk
 .exact jB n m h hm hs hf hk
 .exact jF n m h hm hs hf hk
 .exact jG n m h hm hs hf hk
 .exact jH n m h hm hs hf hk
theorem Qd(h:m.right=true):Ad (B7 m).1=(m,0):=by
 rw[Wi.S9 h];exact Wi.fF h
theorem aM(h:NB n)(hr:m.right=true)(hd:m.dst=n.view.id)(ha:m.asks=true):
  Cs (Cs n (B7 m).1).1 (B7 m).1=Cs n (B7 m).1/\(∃g,(Cs n (B7 m).1).2=[g]/\g.to=m.src)/\(Cs n (B7 m).1).1.calls=n.calls:=by
 have hs:Bc n m=true:=GZ.2 ⟨ha,hr,hd,h.r⟩;obtain⟨a1,a2,a3,a4,a5,a6,a7,a8,t1,t2,t3,t4,t5,t6⟩:=PK h hs
 have e1:∀w:Node,Ak w=true->w.view.id=n.view.id->Cs w (B7 m).1=((AK w m).1,NP (AK w m).2):=by
  intro w hw hv;unfold Cs;rw[if_pos hw,Qd hr,if_neg (by dsimp only;rw[hv];simp[hd]),if_pos ha]
 rw[e1 n h.r rfl];dsimp only;refine⟨?_,⟨⟨m.src,(B7 (AK n m).2).1,false⟩,by rw[GW t1,t4],rfl⟩,a5⟩;rw[e1 _ a1.r a2.id];have hs2:Bc (AK n m).1 m=true:=GZ.2 ⟨ha,hr,hd.trans a2.id.symm,a1.r⟩
 have key:∀(w:Node)(t:A2),Bc w m=true->Be w.seen m.src m.call=(t,true)->AK w m=(w,t):=by
  intro w t h1 h2;unfold AK;rw[if_pos h1,h2];rfl
 rw[key _ _ hs2 t6]
theorem ZR{s:NS}(h:NB s.1)(a:A2×Int):(∀x∈(IA s a).1.calls.op,x∈s.1.calls.op\/s.1.calls.id*1048576+s.1.calls.many<x.id)/\(IA s a).1.calls.id=s.1.calls.id:=by
 unfold IA;split
 .rename_i he;obtain⟨h1,h2,h3,q,hq,h4,h5,e⟩:=Ry h.cB.1 he;rw[e];refine⟨fun x hx=> ?_,rfl⟩;dsimp only at hx;rw[sU,uU]at hx;rcases hx with hx|rfl
  .exact .inl hx
  .right;dsimp only;omega
 .dsimp only;rw[(R3 s.1 a.2).calls];exact⟨fun x hx=> .inl hx,rfl⟩
theorem UG:∀(l:List (A2×Int)){s:NS},NB s.1->∀x∈(Fe s l).1.calls.op,x∈s.1.calls.op\/s.1.calls.id*1048576+s.1.calls.many<x.id
 |[],s,h=>fun x hx=> .inl hx
 |a::r,s,h=>fun x hx=>by
  have h1:=Oz h a;obtain⟨i1,i2⟩:=ZR h a;rcases UG r h1.nb x hx with hx|hx
  .exact i1 x hx
  .right;rw[i2]at hx;have:=h1.many;omega
theorem WJ(h:NB n)(hr:m.right=true)(hd:m.dst=n.view.id)(ha:m.asks=false):
  Cs (Cs n (B7 m).1).1 (B7 m).1=((Cs n (B7 m).1).1,[])/\(Cs n (B7 m).1).1.bad=n.bad:=by
 have e1:∀w:Node,Ak w=true->w.view.id=n.view.id->Cs w (B7 m).1=if(Ar w.calls m).2.2 then IV [] (BS {w with calls:=(Ar w.calls m).1} (Ar w.calls m).2.1 m)else(w,[]):=by
  intro w hw hv;unfold Cs;rw[if_pos hw,Qd hr,if_neg (by dsimp only;rw[hv];simp[hd]),if_neg (by dsimp only;rw[ha];decide)]
 rw[e1 n h.r rfl]
 cases hk:(Ar n.calls m).2.2 with
 |false=>
  rw[if_neg (by decide)];dsimp only;refine⟨?_,rfl⟩;rw[e1 n h.r rfl,hk,if_neg (by decide)]
 |true=>
  rw[if_pos rfl];obtain⟨k1,k2,k3,k4,k5⟩:=L9 hk;have hn:=h.close m;have a:=XC (g:=[]) hn (c:=(Ar n.calls m).2.1) (m:=m) (tJ (Jk k2) (by decide));refine⟨?_,a.bad⟩;rw[e1 _ a.nb.r a.view.id]
  have hno:(Ar (IV [] (BS {n with calls:=(Ar n.calls m).1} (Ar n.calls m).2.1 m)).1.calls m).2.2=false:=by
   cases hz:(Ar (IV [] (BS {n with calls:=(Ar n.calls m).1} (Ar n.calls m).2.1 m)).1.calls m).2.2 with
   |false=>rfl
   |true=>
    exfalso;obtain⟨z1,z2,z3,z4,z5⟩:=L9 hz;clear z5 hz z1 z2;generalize(Ar (IV [] (BS {n with calls:=(Ar n.calls m).1} (Ar n.calls m).2.1 m)).1.calls m).2.1=y at z3 z4;have hm:=UG (BS {n with calls:=(Ar n.calls m).1} (Ar n.calls m).2.1 m).2 (s:=((BS {n with calls:=(Ar n.calls m).1} (Ar n.calls m).2.1 m).1,[])) (hn.heard (tJ (Jk k2) (by decide))) y z3;dsimp only at hm;rw[(Od {n with calls:=(Ar n.calls m).1} (Ar n.calls m).2.1 m).calls]at hm;dsimp only at hm;rw[k5]at hm;dsimp only at hm
    have hy:m.call=y.id:=by
     unfold Mb at z4;simp only[qH,qJ]at z4;exact z4.1
    have hx:m.call=(Ar n.calls m).2.1.id:=by
     unfold Mb at k4;simp only[qH,qJ]at k4;exact k4.1
    obtain⟨_,c2,c3⟩:=CC.1 k1;have hle:=(EB.1 (c2 _ k3)).2.2.2.2.1;rcases hm with hm|hm
    .rw[List.mem_filter,uG]at hm
     have heq:y=(Ar n.calls m).2.1:=by
      obtain⟨i,hi,e⟩:=uZ hm.1;obtain⟨j,hj,e'⟩:=uZ k3;rcases Nat.lt_trichotomy i j with hlt|he|hlt
      .have:=sW.1 c3 i j hi hj hlt;rw[e,e']at this;omega
      .subst he;rw[<-e,e']
      .have:=sW.1 c3 j i hj hi hlt;rw[e,e']at this;omega
     rw[heq,k4]at hm;cases hm.2
    .omega
  rw[hno,if_neg (by decide)]
theorem iw(n:Node)(h:Hp n):qB 30 [n.d] (.b (Md n)):=by
 refine zF A4 Tryz.func30 ?_;have hn:n.seen.length<=1048576:=h.sn;have hT:Md n= !(n.seen.any fun p=>decide (p.told.src≠n.view.id)):=rfl;generalize hq:(fun p:Past=>decide (p.told.src≠n.view.id))=q at *;have hq':∀x:Past,(x.told.src !=n.view.id)=q x:=fun x=>by rw[<-hq];by_cases e:x.told.src=n.view.id<;>simp[e]
 refine wd [0,1,2,3,8,21] [] A0 A0 ?_;refine CF (fun k=>k<=n.seen.length/\(n.seen.take k).any q=false) (fun k:Nat=>[(3,.pY k)]) (fun k=>n.seen.length-k) 0 ⟨qP _,rfl⟩ (fun _=>rfl) ?_ ?_
 .exact A1.ck rfl
 rintro k ⟨hk,hpre⟩
 by_cases hkl:k<n.seen.length
 .obtain⟨x,hx⟩:=AT hkl;have hA:=GN (p:=q) hx;rw[hpre,su]at hA;have f1:=hq' x
  cases hb:q x with
  |true=>
   rw[hb]at f1;have ix1:=hx;refine wd [0,1,2,3,8,21] [] (A6 f1) A0 ?_;clear ix1;with_reducible repeat' first|constructor|intro hc;try simp only[AB]at hc
   refine⟨_,_,rfl,rfl,?_⟩;simp only[Bn];rw[hT,Wq hx hb];rfl
  |false=>
   rw[hb]at f1;have ix1:=hx;refine wd [0,1,2,3,8,21] [] (A6 f1) A0 ?_;clear ix1;with_reducible repeat' first|constructor|intro hc;try simp only[AB]at hc
   refine⟨k+1,⟨hkl,by rw[hA,hb]⟩,om,qG _,?_⟩;exact A1.ck rfl
 .have e:k=n.seen.length:=om
  subst e;rw[qx]at hpre;refine wd [0,1,2,3,8,21] [] A0 A0 ?_;with_reducible repeat' first|constructor|intro hc;try simp only[AB]at hc
  refine⟨_,_,rfl,rfl,?_⟩;simp only[Bn];rw[hT,hpre];rfl
theorem Zp(n:Node)(h:Hp n):qB 9 [n.d] (.b (Ak n)):=by
 have c1:=iw n h;have c2:=Uc n.view h.id h.li (by have:=h.vb;omega) (by have:=h.vl;omega);have c3:=Zi n.calls h.cl (by have:=h.cn;omega);have c4:=eb n.seen h.sl (by have:=h.sn;omega);have c5:=ec n.phase n.of_;have c6:=eW n.keep (by have:=h.kn;omega);have hT:Ak n=((decide (0<=n.clock)&&decide (n.clock<=1099511627776))&&(decide (0<=n.bad)&&((decide (0<=n.next)&&decide (n.next<16))&&(AS n.view&&((decide (n.calls.id=n.view.id)&&BG n.calls)&&(D6 n.phase n.of_&&(Bo n.keep&&(Ec n.seen&&Md n)))))))):=rfl;unfold View.d View.cells at c2;unfold Calls.d Calls.cells at c3;refine zF A4 Tryz.func9 ?_;generalize Ak n=R at *;generalize Md n=g1 at *;generalize AS n.view=g2 at *;generalize BG n.calls=g3 at *;generalize Ec n.seen=g4 at *;generalize D6 n.phase n.of_=g5 at *;generalize Bo n.keep=g6 at *;clear h;refine wd [0,1,2] [] A0 (zq6 @c1 @c2 @c3 @c4 @c5 @c6) ?_;with_reducible repeat' first|constructor|intro hc;try simp only[AB]at hc
 all_goals(clear c1 c2 c3 c4 c5 c6;refine⟨_,_,rfl,rfl,?_⟩;simp only[Bn];refine congrArg D.b ?_;rw[hT];clear hT;grind)
abbrev M7:List Nat:=[0,1,2,3,4,51,56,79,84,94]
structure GB (n:Node):Prop where
 vb:n.view.base.length<=20
 vl:n.view.list.length<=20
 cn:n.calls.op.length<=30
 cl:∀x∈n.calls.op,FI x.msg=false
 sn:n.seen.length<=60
 kn:n.keep.length<=40
 ln:n.last.length<=100
 f:n.finger.left.length<=20
 m:n.mirror.left.length<=20
 c:n.client.left.length<=20
 sl:∀x∈n.seen,FI x.told=false
 kl:∀x∈n.keep,x.key.length<=100
theorem Ze(n:Node):∃b:Bool,qB 8 [n.d] (.b b)/\(b=false->GB n):=by
 obtain⟨g,c2,hg⟩:=Vr n.calls;have c1:=aN n.view;refine⟨(decide (n.view.base.length>20\/n.view.list.length>20)||(g||(decide ((n.seen.length:Int)>60)||(decide ((n.keep.length:Int)>40)||(decide ((n.last.length:Int)>100)||(decide ((n.finger.left.length:Int)>20)||(decide ((n.mirror.left.length:Int)>20)||decide ((n.client.left.length:Int)>20))))))))||(n.seen.any (fun x=>FI x.told)||n.keep.any (fun x=>decide (100<x.key.length))),?_,fun h=> ?_⟩
 .obtain⟨b1,hb1⟩:∃b1,b1=decide (n.view.base.length>20\/n.view.list.length>20):=⟨_,rfl⟩;rw[<-hb1]at c1|-;obtain⟨S,hS⟩:∃S,S=n.seen.any (fun x=>FI x.told):=⟨_,rfl⟩;obtain⟨K,hK⟩:∃K,K=n.keep.any (fun x=>decide (100<x.key.length)):=⟨_,rfl⟩;rw[<-hS,<-hK];refine zF A4 Tryz.func8 ?_;unfold View.d View.cells at c1;unfold Calls.d Calls.cells at c2;unfold Node.d Node.cells View.cells Calls.cells Job.cells;clear hb1 hg;refine wd M7 [] A0 (AX @c1 @c2) ?_;with_reducible repeat' first|constructor|intro hc;try simp only[AB]at hc
  all_goals try(refine⟨_,_,rfl,rfl,?_⟩;simp only[H8];refine congrArg D.b ?_;grind)
  refine CF (fun k=>k<=n.seen.length/\(n.seen.take k).any (fun x=>FI x.told)=false) (fun k:Nat=>[(3,.pY k)]) (fun k=>n.seen.length-k) 0 ⟨qP _,rfl⟩ (fun _=>rfl) ?_ ?_
  .exact A1.ck rfl
  rintro k ⟨hk,hpre⟩
  by_cases hkl:k<n.seen.length
  .have f1:decide ((k:Int)<(n.seen.length:Int))=true:=qM om;obtain⟨x,hx⟩:=AT hkl;have hA:=GN (p:=fun x:Past=>FI x.told) hx;rw[hpre,su]at hA;have hL:FI x.told=(decide (20<x.told.list.length)||decide (100<x.told.item.key.length)):=rfl
   have h2:FI x.told=true->S=true:=fun e=>by
    rw[hS];exact List.any_eq_true.2 ⟨x,rE hx,e⟩
   have ix1:=hx;refine wd M7 [] (A6 f1) A0 ?_;clear ix1;with_reducible repeat' first|constructor|intro hc;try simp only[AB]at hc
   all_goals first
    |(refine⟨_,_,rfl,rfl,?_⟩;simp only[H8];refine congrArg D.b ?_;grind)
    |(refine⟨k+1,⟨hkl,by rw[hA];grind⟩,om,qG _,?_⟩;exact A1.ck rfl)
  .have f1:decide ((k:Int)<(n.seen.length:Int))=false:=qO om;have e:k=n.seen.length:=om
   subst e;rw[qx]at hpre;rw[hpre]at hS;refine wd M7 [] (A6 f1) A0 ?_;refine CF (fun k=>k<=n.keep.length/\(n.keep.take k).any (fun x=>decide (100<x.key.length))=false) (fun k:Nat=>[(4,.pY k)]) (fun k=>n.keep.length-k) 0 ⟨qP _,rfl⟩ (fun _=>rfl) ?_ ?_
   .exact A1.ck rfl
   rintro k ⟨hk,hpre⟩
   by_cases hkl:k<n.keep.length
   .have f1:decide ((k:Int)<(n.keep.length:Int))=true:=qM om;obtain⟨x,hx⟩:=AT hkl;have hA:=GN (p:=fun x:Item=>decide (100<x.key.length)) hx;rw[hpre,su]at hA
    have h2:100<x.key.length->K=true:=fun e=>by
     rw[hK];exact List.any_eq_true.2 ⟨x,rE hx,qM e⟩
    have ix1:=hx;refine wd M7 [] (A6 f1) A0 ?_;clear ix1;with_reducible repeat' first|constructor|intro hc;try simp only[AB]at hc
    all_goals first
     |(refine⟨_,_,rfl,rfl,?_⟩;simp only[H8];refine congrArg D.b ?_;grind)
     |(refine⟨k+1,⟨hkl,by rw[hA];grind⟩,om,qG _,?_⟩;exact A1.ck rfl)
   .have f1:decide ((k:Int)<(n.keep.length:Int))=false:=qO om;have e:k=n.keep.length:=om
    subst e;rw[qx]at hpre;rw[hpre]at hK;refine wd M7 [] (A6 f1) A0 ?_
    all_goals(refine⟨_,_,rfl,rfl,?_⟩;simp only[H8];refine congrArg D.b ?_;grind)
 .simp only[Bool.or_eq_false_iff,uJ]at h;obtain⟨⟨h1,h2,h3,h4,h5,h6,h7,h8⟩,h9,h10⟩:=h;obtain⟨g1,g2⟩:=hg h2
  exact⟨om,om,g1,g2,om,om,om,om,om,om,fun x hx=>Bool.eq_false_iff.2 (uF.1 h9 x hx),fun x hx=>by
   have:=uF.1 h10 x hx;simp only[qJ]at this
   omega⟩
end Nd
end Go.Proofs.YtkljbfejbakooaaGreatDoor
namespace Go.Proofs.YtkljbfejbakooaaGreatDoor
namespace Nd
open Go.Gar
open Wi (A2 B5 AU A5 B6 mC B7 Ad)
set_option maxRecDepth 100000
theorem Om{m:A2}(h:FI m=false):AD m:=by
 unfold FI at h;simp only[Bool.or_eq_false_iff,uJ]at h;unfold AD;omega
theorem oj{n:Node}(g:GB n)(w:Sp n):Hp n:=by
 have:=g.vb;have:=g.vl;have:=g.cn;have:=g.sn;have:=g.kn;have:=g.f;have:=g.m;have:=g.c;exact⟨w.id,w.li,om,om,fun x hx=>Om (g.cl x hx),om,fun x hx=>Om (g.sl x hx),om,om,om,om,om⟩
theorem gbNb{n:Node}(g:GB n)(w:Sp n)(r:Ak n=true):NB n:=by
 have:=g.f;have:=g.m;have:=g.c;exact⟨r,⟨om,om,om⟩,w.ph⟩
end Nd
end Go.Proofs.YtkljbfejbakooaaGreatDoor
