/- Part 25 of a proof. Conditions: those that its theorems state. -/
import Derived.Test.YtkljbfejbakooaaGreatDoorS23
import Derived.Test.YtkljbfejbakooaaGreatDoorS24
set_option linter.unusedSimpArgs false
set_option linter.unusedVariables false
set_option linter.unnecessarySimpa false
set_option maxHeartbeats 40000000
set_option maxRecDepth 4000
namespace Go.Proofs.YtkljbfejbakooaaGreatDoor
namespace Nd
open Go.Gar
open Wi (A2 B5 AU A5 B6 B7 Ad)
theorem bH{α:Type}{R:α->α->Prop}(tr:∀a b c,R a b->R b c->R a c)(d:α):∀l:List α,(∀k,k<l.length->k=0\/R (l.getD (k-1) d) (l.getD k d))->l.Pairwise R
 |[],_=>List.Pairwise.nil
 |[a],_=>by simp
 |a::b::r,h=>by
  have ih:=bH tr d (b::r) (fun k hk=>by
   rcases uK k with e|e
   .exact .inl e
   .have:=h (k+1) (by simpa using hk);obtain⟨j,rfl⟩:∃j,k=j+1:=⟨k-1,om⟩
    simpa using this)
  have hab:R a b:=by
   have:=h 1 sm;simpa using this
  refine uq.2 ⟨fun x hx=> ?_,ih⟩;rcases sG.1 hx with rfl|hx
  .exact hab
  .exact tr _ _ _ hab ((uq.1 ih).1 x hx)
theorem mR{α:Type}{R:α->α->Prop}(d:α){l:List α}(h:l.Pairwise R)(k:Nat)(hk:k<l.length):k=0\/R (l.getD (k-1) d) (l.getD k d):=by
 rcases uK k with e|e
 .exact .inl e
 .right;rw[getD_at (qK hk),getD_at (qK (show k-1<l.length by omega))];exact sW.1 h (k-1) k om hk om
variable {c:Calls}
theorem CC:BG c=true↔(B5 c.id=true/\0<=c.many/\c.many<=1048576/\c.op.length<=16)/\(∀x∈c.op,ET c.id c.many x=true)/\c.op.Pairwise fun x y=>x.id<y.id:=by
 unfold BG N4;simp only[qH,qJ,Im];refine and_congr_right fun _=>⟨fun h=>⟨fun x hx=> ?_,bH (R:=fun x y:Call=>x.id<y.id) (fun _ _ _=>Int.lt_trans) IX _ fun k hk=> ?_⟩,fun h k hk=> ?_⟩
 .obtain⟨k,hk,rfl⟩:=uZ hx;have:=h k hk;unfold HQ at this;rw[qH,getD_at (qK hk)]at this;exact this.1
 .have:=h k hk;unfold HQ at this;rw[qH,qJ]at this;exact this.2
 .unfold HQ;rw[qH,qJ];refine⟨?_,mR IX h.2 k hk⟩;rw[getD_at (qK hk)];exact h.1 _ (uV hk)
theorem EB{id many:Int}{x:Call}:ET id many x=true↔x.msg.right=true/\x.msg.asks=true/\x.msg.src=id/\x.id=x.msg.call/\x.id<=id*1048576+many/\1<=x.tries/\x.tries<=3/\Gz x.sent=true:=by
 unfold ET;simp only[qH,qJ]
variable {m:A2}
theorem Ry{why ref now:Int}(h:BG c=true)(he:(B1 c m why ref now).2.2=0):
  c.op.length<16/\c.many<1048576/\Gz now=true/\∃q:A2,q={m with call:=c.id*1048576+(c.many+1),src:=c.id}/\q.right=true/\q.asks=true/\B1 c m why ref now=(⟨c.id,c.many+1,c.op++[⟨c.id*1048576+(c.many+1),q,why,ref,now,1⟩]⟩,q,0):=by
 have hh:=(CC.1 h).1;unfold B1 at he|-;rw[if_pos h]at he|-;split at he
 .cases he
 .rename_i h1;rw[if_neg h1];dsimp only at he|-;split at he
  .rename_i h2;rw[if_pos h2];simp only[qH]at h2;exact⟨om,om,h2.1,_,rfl,h2.2.2,h2.2.1,rfl⟩
  .cases he
theorem Vi{why ref now:Int}(h:BG c=true)(he:(B1 c m why ref now).2.2=0):BG (B1 c m why ref now).1=true:=by
 obtain⟨h1,h2,h3,q,hq,h4,h5,e⟩:=Ry h he;rw[e];obtain⟨⟨a1,a2,a3,a4⟩,a5,a6⟩:=CC.1 h;have hs:q.src=c.id:=by rw[hq]
 have hc:q.call=c.id*1048576+(c.many+1):=by rw[hq]
 refine CC.2 ⟨⟨a1,by dsimp only;omega,by dsimp only;omega,by simp;omega⟩,fun x hx=> ?_,?_⟩
 .dsimp only at hx|-;rw[sU,uU]at hx;rcases hx with hx|rfl
  .obtain⟨b1,b2,b3,b4,b5,b6⟩:=EB.1 (a5 x hx);exact EB.2 ⟨b1,b2,b3,b4,om,b6⟩
  .exact EB.2 ⟨h4,h5,hs,hc.symm,Int.le_refl _,Int.le_refl _,(by decide:(1:Int)<=3),h3⟩
 .refine List.pairwise_append.2 ⟨a6,sm,fun x hx y hy=> ?_⟩;rw[uU]at hy;subst hy;have:=(EB.1 (a5 x hx)).2.2.2.2.1;dsimp only;omega
theorem Yg{l:List Call}(h:BG c=true)(hs:l.Sublist c.op):BG ⟨c.id,c.many,l⟩=true:=by
 obtain⟨⟨a1,a2,a3,a4⟩,a5,a6⟩:=CC.1 h;have:=hs.length_le;exact CC.2 ⟨⟨a1,a2,a3,by dsimp only;omega⟩,fun x hx=>a5 x (hs.subset hx),a6.sublist hs⟩
theorem TF(h:BG c=true):BG (Ar c m).1=true:=by
 unfold Ar;split
 .split
  .exact Yg h List.filter_sublist
  .exact h
 .exact h
theorem L9(hk:(Ar c m).2.2=true):BG c=true/\m.right=true/\(Ar c m).2.1∈c.op/\Mb c.id m (Ar c m).2.1=true/\(Ar c m).1=⟨c.id,c.many,c.op.filter fun y=> !Mb c.id m y⟩:=by
 unfold Ar at hk|-;split at hk
 .rename_i hc;rw[if_pos hc];rw[qH]at hc
  cases hf:c.op.find? (Mb c.id m)with
  |none=>rw[hf]at hk;cases hk
  |some x=>exact⟨hc.1,hc.2,List.mem_of_find?_eq_some hf,List.find?_some hf,rfl⟩
 .cases hk
variable {l:List Past}
theorem GD:Ec l=true↔l.length<=40/\(∀p∈l,Ke p=true)/\l.Pairwise fun p q=>¬(p.src=q.src/\p.call=q.call):=by
 unfold Ec;rw[qH,qJ,Im];refine and_congr_right fun _=>⟨fun h=>⟨fun x hx=> ?_,sW.2 fun i j hi hj hij=> ?_⟩,fun h k hk=> ?_⟩
 .obtain⟨k,hk,rfl⟩:=uZ hx;have:=h k hk;unfold E2 at this;rw[qH,getD_at (qK hk)]at this;exact this.1
 .have:=h j hj;unfold E2 at this;rw[qH,getD_at (qK hj),uG]at this;have h2:=uF.1 this.2 l[i] (List.mem_iff_getElem?.2 ⟨i,by rw[sV,if_pos hij];exact qK hi⟩);unfold JX at h2;simpa using h2
 .unfold E2;rw[qH,uG,getD_at (qK hk)];refine⟨h.1 _ (uV hk),uF.2 fun p hp=> ?_⟩;obtain⟨i,hi,rfl⟩:=uZ hp;rw[rM]at hi;rw[List.getElem_take];have:=sW.1 h.2 i k om hk om;unfold JX;simpa using this
theorem Kf{p:Past}:Ke p=true↔p.told.right=true/\p.told.asks=false/\p.told.dst=p.src/\p.told.call=p.call:=by
 unfold Ke;simp only[qH,qJ,uG]
theorem Ug{s c:Int}(h:(Be l s c).2=false):∀p∈l,¬(p.src=s/\p.call=c):=by
 unfold Be at h;intro p hp
 cases hf:l.find? (fun p=>decide (p.src=s)&&decide (p.call=c))with
 |some q=>rw[hf]at h;cases h
 |none=>
  have:=List.find?_eq_none.1 hf p hp;simpa using this
theorem Zu{s c:Int}(h:(Be l s c).2=true):∃p∈l,p.src=s/\p.call=c/\(Be l s c).1=p.told:=by
 unfold Be at h|-
 cases hf:l.find? (fun p=>decide (p.src=s)&&decide (p.call=c))with
 |some q=>
  have h2:=List.find?_some hf;simp only[qH,qJ]at h2;exact⟨q,List.mem_of_find?_eq_some hf,h2.1,h2.2,rfl⟩
 |none=>rw[hf]at h;cases h
theorem Ue{t:A2}(h:Ec l=true):Ec (Cq l t)=true:=by
 unfold Cq;split
 .rename_i hc;rw[qH,uG]at hc;split
  .exact h
  .rename_i hf;have hn:=Ug (Bool.not_eq_true _▸hf);obtain⟨a1,a2,a3⟩:=GD.1 h;have hs:=List.drop_sublist ((l.length+1)-40) (l++[⟨t.dst,t.call,t⟩]);refine GD.2 ⟨?_,fun p hp=> ?_,List.Pairwise.sublist hs (List.pairwise_append.2 ⟨a3,sm,fun p hp q hq=> ?_⟩)⟩
   .rw[List.length_drop,qj,List.length_singleton];omega
   .have hp:=hs.subset hp;rw[sU,uU]at hp;rcases hp with hp|rfl
    .exact a2 p hp
    .exact Kf.2 ⟨hc.1,hc.2,rfl,rfl⟩
   .rw[uU]at hq;subst hq;exact hn p hp
 .exact h
theorem Ud{t:A2}(h:Ec l=true)(h1:t.right=true)(h2:t.asks=false)(h3:(Be l t.dst t.call).2=false):Be (Cq l t) t.dst t.call=(t,true):=by
 have hn:=Ug h3;have hl:=(GD.1 h).1;unfold Cq;rw[h1,h2,h3];simp only[Bool.not_false,uN,qw,rD,ql]
 have hd:(l++[(⟨t.dst,t.call,t⟩:Past)]).drop ((l.length+1)-40)=l.drop ((l.length+1)-40)++[⟨t.dst,t.call,t⟩]:=by
  rw[List.drop_append_of_le_length om]
 rw[hd];unfold Be
 have hnone:(l.drop ((l.length+1)-40)).find? (fun p=>decide (p.src=t.dst)&&decide (p.call=t.call))=none:=by
  rw[List.find?_eq_none];intro p hp;have:=hn p (List.mem_of_mem_drop hp);simpa using this
 rw[List.find?_append,hnone];simp
variable {L:Nat}
theorem iL(v:View)(j:Job)(h:j.left.length<=L)(hL:3<=L):(Eg v j).job.left.length<=L:=by
 unfold Eg;split
 .exact qP _
 split
 .exact h
 split
 .exact qP _
 split
 .have:=(Rh v.id ⟨j.what,j.phase,j.look,j.item,j.look.at_,j.left,j.code⟩ j.look.at_ v.list).2.2;omega
 split
 .exact h
 split
 .exact qP _
 .exact h
theorem iO(v:View)(j:Job)(m:A2)(h:j.left.length<=L)(hL:3<=L):(B8 v j m).job.left.length<=L:=by
 unfold B8;split
 .split
  .split
   .exact iL v _ h hL
   .exact h
  split
  .split
   .have:=(Rh v.id j j.owner m.list).2.2;omega
   .exact h
  split
  .split
   .exact tJ (XM j m.src m.code).2 h
   .exact h
  split
  .split
   .exact qP _
   .exact h
  .exact h
 .exact h
theorem iB{K:Nat}(n:Node)(c:Call)(m:A2)(h:JB L K n)(hL:3<=L)(hm:m.item.key.length<=K):JB L K (BS n c m).1:=by
 have hj:=XK c.why h;unfold BS;split
 .split
  .exact⟨h.f,h.m,h.c⟩
  split
  .exact ci _ _ _ _ h ⟨iO _ _ _ hj.l hL,(LU n.view (IQ n c.why) m K hj.k hm).2.1⟩
  .exact h
 .exact h
theorem f9{v:View}{phase of_:Int}(h:0<=phase):0<=(Bv v phase of_ m).1.phase:=by
 unfold Bv;split
 .split
  .exact Int.le_refl _
  .dsimp only;split
   .exact(by decide:(0:Int)<=2)
   .exact(by decide:(0:Int)<=3)
 .exact h
variable {n:Node}
theorem cu{c:Call}(h:0<=n.phase):0<=(BS n c m).1.phase:=by
 unfold BS;split
 .split
  .exact f9 h
  split
  .rw[(LN ..).phase];exact h
  .exact h
 .exact h
theorem gV{w:Int}(h:0<=n.phase):0<=(Ee n w).phase:=by
 unfold Ee;split
 .split
  .exact Int.le_refl _
  split
  .rw[(LN ..).phase];exact h
  .exact h
 .exact h
abbrev big:Nat:=9223372036854775807
structure NL (n:Node):Prop where
 f:n.finger.left.length<=1000
 m:n.mirror.left.length<=1000
 c:n.client.left.length<=1000
theorem NL.of{K:Nat}(h:JB 1000 K n):NL n:=⟨h.f.l,h.m.l,h.c.l⟩
structure NB (n:Node):Prop where
 r:Ak n=true
 l:NL n
 ph:0<=n.phase
theorem NB.j(h:NB n)(K:Nat):JB 1000 (n.finger.item.key.length+(n.mirror.item.key.length+(n.client.item.key.length+K))) n:=
 ⟨⟨h.l.f,om⟩,⟨h.l.m,om⟩,⟨h.l.c,om⟩⟩
theorem IF(h:m.right=true):AD m:=by
 unfold AD;unfold A2.right at h;rw[qH,qH]at h
 by_cases h7:m.kind=7
 .have:=h.2.2;unfold A2.has at this;simp only[h7]at this;simp only[show ¬((7:Int)=4)by decide,show ¬((7:Int)=5)by decide,show ¬((7:Int)=6)by decide,ql,qw]at this;rw[qH]at this;have h3:=this.2;unfold Wi.Dv at h3;simp only[qH,qJ]at h3;omega
 .have hb:=of_decide_eq_true h.2.1
  have e:m.bare.list=m.list:=by
   unfold A2.bare
   repeat' split
   all_goals first|rfl|(exfalso;omega)
  rw[<-e,hb];show(A2.empty m).list.length<=1048576;exact qP _
theorem NB.Fa(h:NB n):Hp n:=by
 obtain⟨_,_,_,hv,hc,_,hk,hs,_⟩:=AW.1 h.r;have hv:=Eb hv
 have hl:n.view.list.length<=3/\rT n.view.id 0 n.view.list=true:=by
  have:=hv.2.2.1;unfold BY at this;rw[qH,qJ]at this;exact this
 have hb:n.view.base.length<=4:=by
  have:=hv.2.1;unfold Bl at this;simp only[qH,qJ]at this;omega
 obtain⟨⟨_,_,_,c1⟩,c2,_⟩:=CC.1 hc.2;obtain⟨s1,s2,_⟩:=GD.1 hs;have:=(Di.1 hk).1;have:=h.l.f;have:=h.l.m;have:=h.l.c;exact⟨Tq hv.1,fun y hy=>Tq (eN _ _ _ hl.2 y hy),om,om,fun x hx=>IF (EB.1 (c2 x hx)).1,om,fun x hx=>IF (Kf.1 (s2 x hx)).1,om,om,om,om,om⟩
theorem NB.hok(h:NB n):HOk n:=⟨h.Fa,h.ph,h.l.f,h.l.m,h.l.c,qP _,qP _,qP _⟩
theorem NB.heard(h:NB n){c:Call}(hm:m.item.key.length<=big):NB (BS n c m).1:=
 ⟨(Od ..).right h.r,.of (iB n c m (h.j m.item.key.length) (by decide) om),cu h.ph⟩
theorem NB.busy(h:NB n){w:Int}:NB (Ee n w):=⟨(R3 ..).right h.r,.of (lJ n w (h.j 0)),gV h.ph⟩
theorem NB.calls{n:Node}(h:NB n){c:Calls}(hi:c.id=n.calls.id)(hc:BG c=true):NB {n with calls:=c}:=by
 refine⟨?_,⟨h.l.f,h.l.m,h.l.c⟩,h.ph⟩;obtain⟨a1,a2,a3,a4,a5,a6,a7,a8,a9⟩:=AW.1 h.r;exact AW.2 ⟨a1,a2,a3,a4,⟨hi.trans a5.1,hc⟩,a6,a7,a8,a9⟩
theorem NB.cB{n:Node}(h:NB n):BG n.calls=true/\n.calls.id=n.view.id:=(AW.1 h.r).2.2.2.2.1.symm
def cj(id:Int)(g:Fl):Prop:=∃m:A2,m.right=true/\m.src=id/\g=⟨m.dst,(B7 m).1,false⟩
theorem GW(h:m.right=true):NP m=[⟨m.dst,(B7 m).1,false⟩]:=by
 unfold NP;rw[Wi.S9 h,if_pos rfl]
structure aj (s t:NS):Prop where
 view:PW s.1.view t.1.view
 list:t.1.view.list=s.1.view.list
 clock:t.1.clock=s.1.clock
 seen:t.1.seen=s.1.seen
 last:t.1.last=s.1.last
 bad:t.1.bad=s.1.bad
 many:s.1.calls.many<=t.1.calls.many
 keep:t.1.keep=s.1.keep
 nb:NB t.1
 rnd:t.1.phase=0\/(t.1.phase=s.1.phase/\t.1.of_=s.1.of_)
 sent:∃g:List Fl,t.2=s.2++g/\(∀x∈g,cj s.1.view.id x)/\t.1.calls.op.length=s.1.calls.op.length+g.length
variable {s:NS}
theorem aj.refl(h:NB s.1):aj s s:=⟨.refl _,rfl,rfl,rfl,rfl,rfl,Int.le_refl _,rfl,h,.inr ⟨rfl,rfl⟩,[],sm,fun x hx=>(by cases hx),rfl⟩
theorem aj.trans{t u:NS}(h:aj s t)(k:aj t u):aj s u:=by
 obtain⟨g1,a1,a2,a3⟩:=h.sent;obtain⟨g2,b1,b2,b3⟩:=k.sent;refine⟨h.view.trans k.view,k.list.trans h.list,k.clock.trans h.clock,k.seen.trans h.seen,k.last.trans h.last,k.bad.trans h.bad,Int.le_trans h.many k.many,k.keep.trans h.keep,k.nb,?_,g1++g2,by rw[b1,a1,qm],fun x hx=> ?_,by rw[qj];omega⟩
 .rcases k.rnd with e|⟨e1,e2⟩
  .exact .inl e
  .rw[e1,e2];exact h.rnd
 .rcases sU.1 hx with hx|hx
  .exact a2 x hx
  .rw[<-h.view.id];exact b2 x hx
theorem V4(n:Node)(w:Int):(Ee n w).view.list=n.view.list/\(Ee n w).keep=n.keep/\((Ee n w).phase=0\/((Ee n w).phase=n.phase/\(Ee n w).of_=n.of_)):=by
 unfold Ee;split
 .split
  .exact⟨rfl,rfl,.inl rfl⟩
  split
  .have g:=LN n w false ⟨C1 (C0 (IQ n w) 100),[],false⟩;refine⟨g.list,?_,.inr ⟨g.phase,g.of_⟩⟩;unfold As;simp only[rD,ql]
   have hp:∀(a:Node)(j:Job),(NQ a w j).keep=a.keep:=fun a j=>by
    unfold NQ;repeat' split
    all_goals rfl
   split
   .unfold Du;exact hp _ _
   .exact hp _ _
  .exact⟨rfl,rfl,.inr ⟨rfl,rfl⟩⟩
 .exact⟨rfl,rfl,.inr ⟨rfl,rfl⟩⟩
theorem Oz(h:NB s.1)(a:A2×Int):aj s (IA s a):=by
 unfold IA;split
 .rename_i he;obtain⟨h1,h2,h3,q,hq,h4,h5,e⟩:=Ry h.cB.1 he;have hr:=Vi h.cB.1 he;rw[e]at hr|-;refine⟨.refl _,rfl,rfl,rfl,rfl,rfl,by dsimp only;omega,rfl,h.calls rfl hr,.inr ⟨rfl,rfl⟩,NP q,rfl,fun x hx=> ?_,?_⟩
  .rw[GW h4,uU]at hx;exact⟨q,h4,by rw[hq];exact h.cB.2,hx⟩
  .rw[GW h4];simp
 .have b:=R3 s.1 a.2;have p:=V4 s.1 a.2;exact⟨b.view,p.1,b.clock,b.seen,b.last,b.bad,by rw[b.calls];exact Int.le_refl _,p.2.1,h.busy,p.2.2,[],sm,fun x hx=>(by cases hx),by rw[b.calls];rfl⟩
theorem Ns:∀(l:List (A2×Int)){s:NS},NB s.1->aj s (Fe s l)
 |[],s,h=> .refl h
 |a::r,s,h=>(Oz h a).trans (Ns r (Oz h a).nb)
theorem Xl(l:List Item)(x:Item):l.length<=(Dx l x).1.length:=by
 unfold Dx;split
 .split
  .split
   .simp
   .exact qG _
  .split
   .exact qG _
   .have:=S8 l x.key;simp only[qj,qY,rM,List.length_drop];omega
 .exact qG _
theorem el(k:List Item)(j:Job):k.length<=(Cr k j).1.length:=by
 unfold Cr;split
 .exact Xl ..
 .split<;>exact qG _
theorem cg(n:Node)(w:Int)(e:Bool)(c:JC):n.keep.length<=(As n w e c).1.keep.length:=by
 unfold As
 have hs:n.keep.length<=(if c.own then Cr n.keep c.job else(n.keep,c.job)).1.length:=by
  split
  .exact el ..
  .exact qG _
 generalize(if c.own then Cr n.keep c.job else(n.keep,c.job))=s at*
 have hp:∀(a:Node)(j:Job),(NQ a w j).keep=a.keep:=fun a j=>by
  unfold NQ;repeat' split
  all_goals rfl
 dsimp only;split
 .unfold Du;dsimp only;rw[hp];exact hs
 .rw[hp];exact hs
theorem VN(n:Node)(c:Call)(m:A2):n.keep.length<=(BS n c m).1.keep.length:=by
 unfold BS;split
 .split
  .exact qG _
  split
  .exact cg ..
  .exact qG _
 .exact qG _
structure WP (s t:NS):Prop where
 view:PW s.1.view t.1.view
 clock:t.1.clock=s.1.clock
 many:s.1.calls.many<=t.1.calls.many
 keep:s.1.keep.length<=t.1.keep.length
 bad:t.1.bad=s.1.bad
 nb:NB t.1
 sent:∃g:List Fl,t.2=s.2++g/\(∀x∈g,cj s.1.view.id x)/\t.1.calls.op.length=s.1.calls.op.length+g.length
theorem aj.h{s t:NS}(h:aj s t):WP s t:=⟨h.view,h.clock,h.many,by rw[h.keep];exact qG _,h.bad,h.nb,h.sent⟩
theorem WP.refl(h:NB s.1):WP s s:=(aj.refl h).h
theorem WP.trans{t u:NS}(h:WP s t)(k:WP t u):WP s u:=by
 obtain⟨g1,a1,a2,a3⟩:=h.sent;obtain⟨g2,b1,b2,b3⟩:=k.sent;refine⟨h.view.trans k.view,k.clock.trans h.clock,Int.le_trans h.many k.many,tJ h.keep k.keep,k.bad.trans h.bad,k.nb,g1++g2,by rw[b1,a1,qm],fun x hx=> ?_,by rw[qj];omega⟩;rcases sU.1 hx with hx|hx
 .exact a2 x hx
 .rw[<-h.view.id];exact b2 x hx
variable {g:List Fl}
theorem WP.of{w:Node}(hv:PW n.view w.view)(h1:w.clock=n.clock)(h2:w.calls=n.calls)(h3:n.keep.length<=w.keep.length)(h5:w.bad=n.bad)(h4:NB w):WP (n,g) (w,g):=
 ⟨hv,h1,by rw[h2];exact Int.le_refl _,h3,h5,h4,[],sm,fun x hx=>(by cases hx),by rw[h2];rfl⟩
theorem mq{r:Node×List (A2×Int)}(s:jY n r.1)(hk:n.keep.length<=r.1.keep.length)(h:NB r.1):WP (n,g) (IV g r):=
 (WP.of s.view s.clock s.calls hk s.bad h).trans (Ns r.2 (s:=(r.1,g)) h).h
theorem XC(h:NB n){c:Call}(hm:m.item.key.length<=big):WP (n,g) (IV g (BS n c m)):=mq (Od ..) (VN ..) (h.heard hm)
theorem NB.clock{n:Node}(h:NB n)(hc:n.clock<1099511627776):NB {n with clock:=n.clock+1}:=by
 refine⟨?_,⟨h.l.f,h.l.m,h.l.c⟩,h.ph⟩;obtain⟨a1,a2,a3,a4,a5,a6,a7,a8,a9⟩:=AW.1 h.r;exact AW.2 ⟨⟨by dsimp only;omega,by dsimp only;omega⟩,a2,a3,a4,a5,a6,a7,a8,a9⟩
theorem NB.rv(h:NB n):AS n.view=true:=(AW.1 h.r).2.2.2.1
theorem NB.view{n:Node}(h:NB n){v:View}(hv:PW n.view v){k:Int}(hk:0<=k/\k<16):NB {n with view:=v,next:=k}:=by
 refine⟨?_,⟨h.l.f,h.l.m,h.l.c⟩,h.ph⟩;obtain⟨a1,a2,a3,a4,a5,a6,a7,a8,a9⟩:=AW.1 h.r;refine AW.2 ⟨a1,a2,hk,hv.right a4,⟨a5.1.trans hv.id.symm,a5.2⟩,a6,a7,a8,?_⟩;exact(eB (n:=n) (w:={n with view:=v,next:=k}) rfl hv.id).trans a9
theorem NB.last{n:Node}(h:NB n)(k:List UInt8):NB {n with last:=k}:=by
 refine⟨?_,⟨h.l.f,h.l.m,h.l.c⟩,h.ph⟩;exact AW.2 (AW.1 h.r)
end Nd
end Go.Proofs.YtkljbfejbakooaaGreatDoor
namespace Go.Proofs.YtkljbfejbakooaaGreatDoor
namespace Nd
open Go.Gar
open Wi (A2 B5 AU A5 B6 mC B7 Ad)
abbrev G8:List Nat:=[0,1,2,3,4,5,6,17,18,20]
abbrev Sg:List Nat:=[0,1,4,6,7,8,9,16]
abbrev Km:=Call×Bool×List Call
def Bh(id:Int)(m:A2)(s:Km)(x:Call):Km:=if Mb id m x then(x,true,s.2.2)else(s.1,s.2.1,s.2.2++[x])
abbrev HK(id many:Int)(l0:List Call)(m:A2)(cl:Call)(fd:Bool):List A3:=[.c [.pY id,.pY many,.d (AN l0)],.c (mX m),.c (CB cl),.c [.pq fd]]
theorem closeD(id many:Int)(l0:List Call)(m:A2)(cl:Call)(fd:Bool)(x:Call)(hk:1<=x.msg.kind/\x.msg.kind<=6)(b:Bool)(hb:Mb id m x=b):
  qC 126 [.ptr 4 0 20,.ptr 0 0 3,.ptr 1 0 15,.ptr 2 0 20,.ptr 3 0 1] (HK id many l0 m cl fd++[.c (CB x)]) (.pq !b) (HK id many l0 m (if b then x else cl) (fd||b)++[.c (CB x)]):=by
 have c1:=iJ ⟨id,many,l0⟩ x m hk;rw[hb]at c1;refine zD A4 Tryz.func126 ?_;unfold HK CB;unfold Wi.A2.d Wi.A2.cells Call.d Call.cells Calls.d Calls.cells at c1;simp only[qV,qX]
 cases b with
 |true=>
  refine wd [0,1,2,3,4,6,13] [] A0 (A6 @c1) ?_;rw[Bool.or_true];exact⟨⟨[(6,.pq false)],[.c [.pY id,.pY many,.d (AN l0)],.c (mX m),.c (CB x),.c [.pq true],.c (CB x)],_⟩,(A1.ck rfl),qA,_,_,rfl,rfl,rfl,rfl⟩
 |false=>
  refine wd [0,1,2,3,4,6,13] [] A0 (A6 @c1) ?_;rw[Bool.or_false];exact⟨⟨[(6,.pq true)],[.c [.pY id,.pY many,.d (AN l0)],.c (mX m),.c (CB cl),.c [.pq fd],.c (CB x)],_⟩,(A1.ck rfl),qA,_,_,rfl,rfl,rfl,rfl⟩
theorem Yc(id many:Int)(l:List Call)(l0:List Call)(m:A2)(hl:∀x∈l,AD x.msg)(hn:l.length<=1048576)(hc:∀x∈l,ET id many x=true)(hs:∀j,(fun s:Km=>s.2.2.length<=1048576) ((l.take j).foldl (Bh id m) ((CR,false,[]):Km))):qC 125 [.d (Calls.d ⟨id,many,l⟩),.fn (.func 126) [] [.ptr 0 0 3,.ptr 1 0 15,.ptr 2 0 20,.ptr 3 0 1]] [.c [.pY id,.pY many,.d (AN l0)],.c (mX m),.c (CB CR),.c [.pq false]] (.ag [.pY id,.pY many,.sl 7 (l.foldl (Bh id m) ((CR,false,[]):Km)).2.2.length 20]) [.c [.pY id,.pY many,.d (AN l0)],.c (mX m),.c (CB (l.foldl (Bh id m) ((CR,false,[]):Km)).1),.c [.pq ((l.foldl (Bh id m) ((CR,false,[]):Km)).2.1)],.gone,.gone,.c [.pY id,.pY many,.sl 7 (l.foldl (Bh id m) ((CR,false,[]):Km)).2.2.length 20],.a (AN (l.foldl (Bh id m) ((CR,false,[]):Km)).2.2)]:=by
 have c1:=TD ⟨id,many,l⟩;refine zD A4 Tryz.func125 ?_;unfold Calls.d Calls.cells at *;refine wd G8 [1] A0 A0 ?_;refine O9 T.get 7 9 7 8 ⟨[(0,.d (.agg [.i .i64 id,.i .i64 many,AN l])),(1,.fn (.func 126) [] [.ptr 0 0 3,.ptr 1 0 15,.ptr 2 0 20,.ptr 3 0 1]),(2,.ptr 4 0 3),(3,.ptr 5 0 1),(4,.ptr 6 0 3),(5,.ptr 8 0 3)],[.c [.pY id,.pY many,.d (AN l0)],.c (mX m),.c (CB CR),.c [.pq false],.c [.pY id,.pY many,.d (AN l)],.c [.fn (.func 126) [] [.ptr 0 0 3,.ptr 1 0 15,.ptr 2 0 20,.ptr 3 0 1]],.c [.pY 0,.pY 0,.e0],.a (AN []),.c [.pY id,.pY many,.sl 7 0 20]],28⟩ mixed rfl rfl rfl ?_ ?_ ?_
 .refine wd G8 [] A0 A0 ?_ [(0,7),(1,7),(2,7),(3,7),(0,9),(1,9),(2,9),(3,9)];exact⟨rfl,.inl rfl⟩
 .refine wd G8 [] A0 A0 ?_ [(0,7),(1,7),(2,7),(3,7),(4,7),(5,7),(0,8),(1,8),(2,8),(3,8)];exact⟨rfl,.inr rfl⟩
 have d1:=Ds.mk [] (c1);refine wd G8 [] A0 A0 ?_;clear d1;refine zG (K:=fun r _ H'=>H'=[.c [.pY id,.pY many,.d (AN l0)],.c (mX m),.c (CB (l.foldl (Bh id m) ((CR,false,[]):Km)).1),.c [.pq ((l.foldl (Bh id m) ((CR,false,[]):Km)).2.1)],.c [.pY id,.pY many,.d (AN l)],.c [.fn (.func 126) [] [.ptr 0 0 3,.ptr 1 0 15,.ptr 2 0 20,.ptr 3 0 1]],.c [.pY 0,.pY 0,.e0],.a (AN (l.foldl (Bh id m) ((CR,false,[]):Km)).2.2),.c [.pY id,.pY many,.sl 7 (l.foldl (Bh id m) ((CR,false,[]):Km)).2.2.length 20],.c [.pY id,.pY many,.d (AN l)],.lp r]) ?_ ?_
 .intro r hr;have hk:=hr.ok (k:=10) rfl
  have hY:∀(x:Call)(s:Km),ET id many x=true->AD x.msg->(s.2.2.length<=1048576)->YT Tryz.prog 10 [.d (.agg [.i .i64 x.id,.i .u8 x.msg.kind,.i .i64 x.msg.call,.i .i64 x.msg.src,.i .i64 x.msg.dst,.i .i64 x.msg.key,.b x.msg.slow,.b x.msg.done,.i .i64 x.msg.place,.i .i64 x.msg.pred,.is x.msg.list,.s x.msg.item.key,.i .i64 x.msg.item.value,.i .i64 x.msg.item.version,.b x.msg.item.gone,.i .i64 x.msg.code,.i .u8 x.why,.i .i64 x.ref,.i .i64 x.sent,.i .i64 x.tries])] [.c [.pY id,.pY many,.d (AN l0)],.c (mX m),.c (CB s.1),.c [.pq s.2.1],.c [.pY id,.pY many,.d (AN l)],.c [.fn (.func 126) [] [.ptr 0 0 3,.ptr 1 0 15,.ptr 2 0 20,.ptr 3 0 1]],.c [.pY 0,.pY 0,.e0],.a (AN s.2.2),.c [.pY id,.pY many,.sl 7 s.2.2.length 20],.c [.pY id,.pY many,.d (AN l)],.lp r,.c (CB x)] fun v K=>v= .pq true/\K=[.c [.pY id,.pY many,.d (AN l0)],.c (mX m),.c (CB (Bh id m s x).1),.c [.pq ((Bh id m s x).2.1)],.c [.pY id,.pY many,.d (AN l)],.c [.fn (.func 126) [] [.ptr 0 0 3,.ptr 1 0 15,.ptr 2 0 20,.ptr 3 0 1]],.c [.pY 0,.pY 0,.e0],.a (AN (Bh id m s x).2.2),.c [.pY id,.pY many,.sl 7 (Bh id m s x).2.2.length 20],.c [.pY id,.pY many,.d (AN l)],.lp r,.c (CB x)]:=by
   intro x s hx hm hsz;obtain⟨b1,b2,b3,b4,b5,b6,b7,b8⟩:=EB.1 hx
   have hk6:1<=x.msg.kind/\x.msg.kind<=6:=by
    unfold A2.asks at b2;simpa only[qH,qJ]using b2
   obtain⟨cl,fd,o⟩:=s;dsimp only at hsz
   cases hof:Mb id m x with
   |true=>
    have c2:=closeD id many l0 m cl fd x hk6 true hof;rw[Bool.or_true,if_pos rfl]at c2;have e:Bh id m (cl,fd,o) x=(x,true,o):=by unfold Bh;rw[hof];rfl
    rw[e];clear e;refine AZ hr rfl rfl rfl ?_;unfold HK CB at *;simp only[qV,qX]at *;refine wd G8 [] A0 A0 ?_;refine zR ?_;have d1:=Ds.mk [0,1,2,3,12] (c2);refine wd G8 [] A0 A0 ?_;clear d1;refine⟨⟨[],[.c [.pY id,.pY many,.d (AN l0)],.c (mX m),.c (CB x),.c [.pq true],.c [.pY id,.pY many,.d (AN l)],.c [.fn (.func 126) [] [.ptr 0 0 3,.ptr 1 0 15,.ptr 2 0 20,.ptr 3 0 1]],.c [.pY 0,.pY 0,.e0],.a (AN o),.c [.pY id,.pY many,.sl 7 o.length 20],.c [.pY id,.pY many,.d (AN l)],.lp r.busy,.c (CB x)],_⟩,(have nC:=qQ @AN.eq_1 (qQ @Ac.eq_1 @Call.cells.eq_1);A1.cn rfl),qG _,rfl,rfl,rfl⟩
   |false=>
    have c2:=closeD id many l0 m cl fd x hk6 false hof;rw[Bool.or_false,if_neg (by decide)]at c2;have e:Bh id m (cl,fd,o) x=(cl,fd,o++[x]):=by unfold Bh;rw[hof];rfl
    rw[e];clear e;refine AZ hr rfl rfl rfl ?_;unfold HK CB at *;simp only[qV,qX]at *;refine wd G8 [] A0 A0 ?_;refine zR ?_;have d1:=Ds.mk [0,1,2,3,12] (c2);refine wd G8 [] A0 A0 ?_;clear d1;refine⟨⟨[],[.c [.pY id,.pY many,.d (AN l0)],.c (mX m),.c (CB cl),.c [.pq fd],.c [.pY id,.pY many,.d (AN l)],.c [.fn (.func 126) [] [.ptr 0 0 3,.ptr 1 0 15,.ptr 2 0 20,.ptr 3 0 1]],.c [.pY 0,.pY 0,.e0],.a (AN (o++[x])),.c [.pY id,.pY many,.sl 7 (o++[x]).length 20],.c [.pY id,.pY many,.d (AN l)],.lp r.busy,.c (CB x)],_⟩,(have nC:=qQ @AN.eq_1 (qQ @Ac.eq_1 @Call.cells.eq_1);A1.cn rfl),qG _,rfl,rfl,rfl⟩
  refine zT A4 Tryz.func251 ?_;refine wd Sg [] A0 A0 ?_;refine Cu (fun j:Nat=>j<=l.length) (fun j:Nat=>[(8,.pY j)]) (fun j=>[(2,.c (CB ((l.take j).foldl (Bh id m) ((CR,false,[]):Km)).1)),(3,.c [.pq (((l.take j).foldl (Bh id m) ((CR,false,[]):Km)).2.1)]),(7,.a (AN ((l.take j).foldl (Bh id m) ((CR,false,[]):Km)).2.2)),(8,.c [.pY id,.pY many,.sl 7 ((l.take j).foldl (Bh id m) ((CR,false,[]):Km)).2.2.length 20])]) (fun j=>l.length-j) 0 (qP _) (fun _=>rfl) (fun _=>rfl) ?_ ?_
  .exact A1.ck rfl
  intro j hj
  by_cases hjl:j<l.length
  .obtain⟨x,hx⟩:=AT hjl;have hxm:=rE hx;have c3:=P2 x (hl x hxm);unfold Call.d Call.cells at c3;have hy:=hY x ((l.take j).foldl (Bh id m) ((CR,false,[]):Km)) (hc x hxm) (hl x hxm) (hs j);have hf:(Bh id m) ((l.take j).foldl (Bh id m) ((CR,false,[]):Km)) x=((l.take (j+1)).foldl (Bh id m) ((CR,false,[]):Km)):=by rw[AQ hx,List.foldl_append];rfl
   rw[hf]at hy;have ix1:=hx;have q1:=@hy;refine wd Sg [] A0 (A6 @c3) ?_;clear q1 ix1;with_reducible repeat' first|constructor|intro hc;try simp only[AB]at hc
   refine⟨j+1,hjl,om,qG _,?_⟩;exact A1.ck rfl
  .have e:j=l.length:=om
   subst e;rw[qx];refine wd Sg [] A0 A0 ?_;with_reducible repeat' first|constructor|intro hc;try simp only[AB]at hc
   exact⟨_,A1.refl _,qG _,_,_,rfl,rfl,rfl⟩
 .rintro r hr x H' rfl;refine .inl ⟨rfl,?_⟩;refine wd G8 [] A0 A0 ?_;exact⟨⟨[(4,.ptr 6 0 3)],[.c [.pY id,.pY many,.d (AN l0)],.c (mX m),.c (CB (l.foldl (Bh id m) ((CR,false,[]):Km)).1),.c [.pq ((l.foldl (Bh id m) ((CR,false,[]):Km)).2.1)],.gone,.gone,.c [.pY id,.pY many,.sl 7 (l.foldl (Bh id m) ((CR,false,[]):Km)).2.2.length 20],.a (AN (l.foldl (Bh id m) ((CR,false,[]):Km)).2.2)],_⟩,(A1.ck rfl),qA,_,_,rfl,rfl,rfl,rfl⟩
abbrev H7:List Nat:=[0,1,2,3,4,5,6,7,8,16]
theorem Tb(id:Int)(m:A2):∀(l:List Call)(s:Km),(∀x∈l,Mb id m x=false)->l.foldl (Bh id m) s=(s.1,s.2.1,s.2.2++l)
 |[],s,_=>by simp
 |x::r,s,h=>by
  rw[tV,Tb id m r _ (fun y hy=>h y (sZ _ hy))];unfold Bh;rw[h x (sQ ..)];simp
theorem cX(id:Int)(m:A2):∀(l:List Call)(s:Km),(l.Pairwise fun x y=>x.id<y.id)->l.foldl (Bh id m) s=match l.find? (Mb id m)with
  |some x=>(x,true,s.2.2++l.filter fun y=> !Mb id m y)
  |none=>(s.1,s.2.1,s.2.2++l)
 |[],s,_=>by simp
 |x::r,s,h=>by
  obtain⟨h1,h2⟩:=uq.1 h
  cases hx:Mb id m x with
  |true=>
   have hr:∀y∈r,Mb id m y=false:=fun y hy=>by
    cases e:Mb id m y with
    |false=>rfl
    |true=>
     exfalso;have:=h1 y hy;unfold Mb at hx e;simp only[qH,qJ]at hx e;omega
   rw[tV,Tb id m r _ hr,List.find?_cons,hx];unfold Bh;rw[hx];have hf:r.filter (fun y=> !Mb id m y)=r:=List.filter_eq_self.2 fun y hy=>by rw[hr y hy];rfl
   simp[hx,hf]
  |false=>
   rw[tV,cX id m r _ h2,List.find?_cons,hx];unfold Bh;rw[hx];cases r.find? (Mb id m)<;>simp[hx]
theorem YZ(c:Calls)(m:A2)(hl:∀x∈c.op,AD x.msg)(hn:c.op.length<=1048576)(hm:m.list.length<9223372036854775807):qB 47 [c.d,m.d] (.tup [(Ar c m).1.d,(Ar c m).2.1.d,.b (Ar c m).2.2]):=by
 have c1:=ON c hl;have c2:=Wi.BV m hm;have c3:=R4 c hl hn
 cases hc:BG c&&m.right with
 |false=>
  have hT:Ar c m=(c,CR,false):=by unfold Ar;rw[hc];rfl
  rw[hT];refine zF A4 Tryz.func47 ?_;unfold Wi.A2.d Wi.A2.cells Calls.d Calls.cells Call.d Call.cells at*
  cases h1:BG c with
  |false=>
   rw[h1]at c1;refine wd H7 [] A0 (AX @c1 @c3) ?_ [] true;exact Ag (qQ @A5.eq_1 @AA.eq_1)
  |true=>
   rw[h1,rC]at hc;rw[h1]at c1;rw[hc]at c2;refine wd H7 [] A0 (C3 @c1 @c2 @c3) ?_ [] true;exact Ag (qQ @A5.eq_1 @AA.eq_1)
 |true=>
  rw[qH]at hc;obtain⟨_,k2,k3⟩:=CC.1 hc.1
  have hsz:∀j,(fun s:Km=>s.2.2.length<=1048576) ((c.op.take j).foldl (Bh c.id m) ((CR,false,[]):Km)):=fun j=>by
   have h0:(c.op.take j).length<=c.op.length:=by rw[rM];omega
   have hp:(c.op.take j).Pairwise fun x y=>x.id<y.id:=k3.sublist (List.take_sublist ..);rw[cX c.id m _ _ hp]
   have h1:=List.length_filter_le (fun y=> !Mb c.id m y) (c.op.take j)
   cases(c.op.take j).find? (Mb c.id m)with
   |some x=>dsimp only;rw[qX];omega
   |none=>dsimp only;rw[qX];omega
  have c4:=Yc c.id c.many c.op c.op m hl hn k2 hsz;have hf:=cX c.id m c.op ((CR,false,[]):Km) k3
  have hT:Ar c m=match c.op.find? (Mb c.id m)with
    |some x=>(⟨c.id,c.many,c.op.filter fun y=> !Mb c.id m y⟩,x,true)
    |none=>(c,CR,false):=by unfold Ar;rw[hc.1,hc.2];rfl
  rw[hT];rw[hf]at c4;rw[hc.1]at c1;rw[hc.2]at c2;clear hf hT hsz k2 k3;generalize c.op.find? (Mb c.id m)=fx at *;generalize(c.op.filter fun y=> !Mb c.id m y)=fl at *;refine zF A4 Tryz.func47 ?_
  cases fx with
  |some x=>
   dsimp only at c4|-;rw[qX]at c4;unfold CB at c4;unfold Wi.A2.d Wi.A2.cells Calls.d Calls.cells Call.d Call.cells at *;refine wd H7 [4] A0 (AX @c1 @c2) ?_ [] true;refine Ah (A1.KA 4 10 (.is []) rfl rfl rfl rfl trivial) sm ?_;have d1:=Ds.mk [0,1,4,5] (c4);refine wd H7 [5] A0 A0 ?_ [] true;clear d1;refine wd H7 [] A0 A0 ?_ [(1,3),(2,3),(2,4)] true;exact Ag (qQ @A5.eq_1 @AA.eq_1)
  |none=>
   dsimp only at c4|-;rw[qX]at c4;unfold CB at c4;unfold Wi.A2.d Wi.A2.cells Calls.d Calls.cells Call.d Call.cells at *;refine wd H7 [4] A0 (AX @c1 @c2) ?_ [] true;refine Ah (A1.KA 4 10 (.is []) rfl rfl rfl rfl trivial) sm ?_;have d1:=Ds.mk [0,1,4,5] (c4);refine wd H7 [5] A0 A0 ?_ [] true;clear d1;refine wd H7 [] A0 A0 ?_ [(1,3),(2,3),(2,4)] true;exact Ag (qQ @A5.eq_1 @AA.eq_1)
abbrev CS:List Nat:=[0,1,2,3,4,5,6,10,11,12,13,14,17,26,53]
theorem Yb(c:Calls)(m:A2)(why ref now:Int)(hl:∀x∈c.op,AD x.msg)(hn:c.op.length<=1048576)(hm:AD m):qB 153 [c.d,m.d,.i .u8 why,.i .i64 ref,.i .i64 now] (.tup [(B1 c m why ref now).1.d,(B1 c m why ref now).2.1.d,.i .i64 (B1 c m why ref now).2.2]):=by
 have c1:=ON c hl;have c2:=R4 c hl hn;have c3:=QC now;have c5:=DG m hm
 cases hc:BG c with
 |false=>
  have hT:B1 c m why ref now=(c,A5,2):=by unfold B1;rw[hc];rfl
  rw[hc]at c1;rw[hT];clear c3 c5 hT hc;refine zF A4 Tryz.func153 ?_;unfold Wi.A2.d Wi.A2.cells Calls.d Calls.cells at *;refine wd CS [] A0 (AX @c1 @c2) ?_ [] true;exact Ag (qQ @A5.eq_1 @AA.eq_1)
 |true=>
 have hh:=(CC.1 hc).1;rw[hc]at c1
 by_cases h1:c.op.length=16
 .have f1:((c.op.length:Int)==16)=true:=A9 om;have hT:B1 c m why ref now=(c,A5,100):=by unfold B1;rw[hc,if_pos rfl,if_pos (.inl h1)]
  rw[hT];clear c3 c5 hT hc;refine zF A4 Tryz.func153 ?_;unfold Wi.A2.d Wi.A2.cells Calls.d Calls.cells at *;refine wd CS [] (A6 f1) (AX @c1 @c2) ?_ [] true;exact Ag (qQ @A5.eq_1 @AA.eq_1)
 have f1:((c.op.length:Int)==16)=false:=eq_false' om
 by_cases h2:c.many=1048576
 .have f2:=A9 h2;have hT:B1 c m why ref now=(c,A5,100):=by unfold B1;rw[hc,if_pos rfl,if_pos (.inr h2)]
  rw[hT];clear c3 c5 hT hc;refine zF A4 Tryz.func153 ?_;unfold Wi.A2.d Wi.A2.cells Calls.d Calls.cells at *;refine wd CS [] (AX f1 f2) (AX @c1 @c2) ?_ [] true;exact Ag (qQ @A5.eq_1 @AA.eq_1)
 have f2:=eq_false' h2;have c4:=WO c.id (c.many+1);have e4:Pz c.id (c.many+1)=(c.id*1048576+(c.many+1),0):=if_pos ⟨hh.1,om,om⟩;rw[e4]at c4;have hp:=Wi.E3 hh.1;obtain⟨q,hq⟩:∃q:A2,q={m with call:=c.id*1048576+(c.many+1),src:=c.id}:=⟨_,rfl⟩;have hql:AD q:=by rw[hq];exact hm
 have c6:=Wi.FK q;have c7:=Wi.BV q (lm hql);have c8:=DG q hql
 have hT:B1 c m why ref now=if Gz now&&(q.asks&&q.right)then(⟨c.id,c.many+1,c.op++[⟨c.id*1048576+(c.many+1),q,why,ref,now,1⟩]⟩,q,0)else(c,A5,2):=by
  unfold B1;rw[hc,if_pos rfl,if_neg om,hq]
 rw[hT];clear hT c5 e4;generalize q.asks=qa at *;generalize q.right=qr at *;subst hq;generalize hid:c.id*1048576+(c.many+1)=k at *;refine zF A4 Tryz.func153 ?_;unfold Wi.A2.d Wi.A2.cells Calls.d Calls.cells at*
 cases ht:Gz now with
 |false=>
  rw[ht]at c3;refine wd CS [7] (AX f1 f2) (AX @c1 @c4) ?_ [] true;refine wd CS [8] A0 A0 ?_ [(1,4),(2,4)] true;refine wd CS [] A0 (AX @c2 @c3) ?_ [] true;exact Ag (qQ @A5.eq_1 @AA.eq_1)
 |true=>
 rw[ht]at c3
 cases qa with
 |false=>
  refine wd CS [7] (AX f1 f2) (AX @c1 @c4) ?_ [] true;refine wd CS [8] A0 A0 ?_ [(1,4),(2,4)] true;refine wd CS [] A0 (C3 @c2 @c3 @c6) ?_ [] true;exact Ag (qQ @A5.eq_1 @AA.eq_1)
 |true=>
 cases qr with
 |false=>
  refine wd CS [7] (AX f1 f2) (AX @c1 @c4) ?_ [] true;refine wd CS [8] A0 A0 ?_ [(1,4),(2,4)] true;refine wd CS [] A0 (Kl @c2 @c3 @c6 @c7) ?_ [] true;exact Ag (qQ @A5.eq_1 @AA.eq_1)
 |true=>
  have c9:=bX c.id c.many c.op hl hn;unfold Calls.d Calls.cells at c9;refine wd CS [7] (AX f1 f2) (AX @c1 @c4) ?_ [] true;refine wd CS [8] A0 A0 ?_ [(1,4),(2,4)] true;have d1:=Ds.mk [] (c9);refine wd CS [11] A0 (C3 @c3 @c6 @c7) ?_ [] true;clear d1;have ow:Lv [69]:=trivial;refine wd CS [12] A0 (A6 @c8) ?_ [(0,9),(1,9)] true;clear ow;refine wd CS [] A0 (A6 @c8) ?_ [(1,3)] true;refine⟨_,_,rfl,rfl,?_⟩;simp[H8,AP,Aj,AF,AN,List.map_append,sO,vF,Call.cells]
def Pv(l:List (A2×Int)):Prop:=∀a∈l,a.1.list=[]
theorem dJ(id:Int)(j:Job)(o:Int)(l:List Int):∀m∈(HY id j o l).asks,m.list=[]:=fun m hm=>by
 unfold HY at hm;simp only[List.mem_map]at hm;obtain⟨p,_,rfl⟩:=hm;rfl
theorem iK(v:View)(j:Job):∀m∈(Eg v j).asks,m.list=[]:=by
 unfold Eg;split
 .simp
 split
 .dsimp only;split
  .intro m hm;rw[uU]at hm;subst hm;unfold XQ;split<;>rfl
  .simp
 split
 .simp
 split
 .exact dJ _ _ _ _
 split
 .simp[HP]
 split
 .simp
 .simp[Qu]
theorem iN(v:View)(j:Job)(m:A2):∀q∈(B8 v j m).asks,q.list=[]:=by
 unfold B8;split
 .split
  .split
   .exact iK _ _
   .simp
  split
  .split
   .exact dJ _ _ _ _
   .simp
  split
  .split<;>simp
  split
  .split<;>simp
  .simp
 .simp
theorem Ws(p o:Int):Pv (Gl p o):=by
 unfold Gl Pv;split
 .simp[HP]
 split<;>simp
theorem lh(n:Node)(w:Int)(e:Bool)(c:JC)(h:∀m∈c.asks,m.list=[]):Pv (As n w e c).2:=fun a ha=>by
 unfold As at ha;simp only[List.mem_map]at ha;obtain⟨m,hm,rfl⟩:=ha;exact h m hm
theorem iA(n:Node)(c:Call)(m:A2):Pv (BS n c m).2:=by
 unfold BS;split
 .split
  .dsimp only;unfold Bv;split
   .split
    .exact fun a ha=>by cases ha
    .dsimp only;split
     .dsimp only;exact Ws _ _
     .dsimp only;exact Ws _ _
   .exact fun a ha=>by cases ha
  split
  .exact lh _ _ _ _ (iN _ _ _)
  .exact fun a ha=>by cases ha
 .exact fun a ha=>by cases ha
theorem NB.op16{n:Node}(h:NB n):n.calls.op.length<=16:=by
 have:=(CC.1 h.cB.1).1;omega
theorem WP.size{s t:NS}(h:WP s t):t.2.length<=s.2.length+16:=by
 obtain⟨g,e,_,e2⟩:=h.sent;have:=h.nb.op16;rw[e,qj];omega
theorem ZT{s:NS}(h:NB s.1)(l:List (A2×Int)):(Fe s l).2.length<=s.2.length+16:=(Ns l h).h.size
abbrev E8:List Nat:=[0,1,2,4,5,6,7,9,10,31]
abbrev KV(l:List Fl):D:=.sl 3 (l.map Fl.cells)
abbrev nH(n:Node)(g:List Fl):List A3:=[.c (hC n (.sl 1 g.length 3)),.a (KV g)]
abbrev aC(a:A2×Int):List AV:=[.pz a.1.kind,.pY a.1.call,.pY a.1.src,.pY a.1.dst,.pY a.1.key,.pq a.1.slow,.pq a.1.done,.pY a.1.place,.pY a.1.pred,.qF a.1.list,.qE a.1.item.key,.pY a.1.item.value,.pY a.1.item.version,.pq a.1.item.gone,.pY a.1.code,.pz a.2]
theorem dl(l:List (A2×Int)):qC 152 [.d (AC l)] [] (.fn (.func 230) [] [.ptr 0 0 1]) [.c [.d (AC l)]]:=by
 refine zC A4 Tryz.func152 ?_;refine wd [0,1,2] [] A0 A0 ?_;exact OM
theorem Xv(n:Node)(g:List Fl)(m:A2)(hm:m.list.length<9223372036854775807)(hg:g.length<=1048576):qC 46 [.ptr 0 0 77,.d m.d] (nH n g) (.tup []) (nH n (g++NP m)):=by
 have c1:=Wi.an m hm;refine zC A4 Tryz.func46 ?_;unfold Wi.A2.d Wi.A2.cells at *;have hT:NP m=if(B7 m).2=0 then[⟨m.dst,(B7 m).1,false⟩]else[]:=rfl
 generalize B7 m=p at *;obtain⟨pb,pe⟩:=p;dsimp only at c1 hT;rw[hT]
 by_cases h:pe=0
 .have f1:=A9 h;rw[if_pos h];unfold nH hC;refine wd [0,1,3,4,5,12] [] (A6 f1) (A6 @c1) ?_ [(0,9),(1,9),(2,9),(3,9),(4,9),(0,10)]
  (have nC:=qQ @KV.eq_1 @Fl.cells.eq_1;exact oX)
 .have f1:=eq_false' h;rw[if_neg h,rJ];unfold nH hC;refine wd [0,1,3,4,5,12] [] (A6 f1) (A6 @c1) ?_;exact OM
theorem Vg(c:Calls)(m:A2)(why ref now:Int)(h:m.list=[]):(B1 c m why ref now).2.1.list=[]:=by
 unfold B1;split
 .split
  .rfl
  .dsimp only;split
   .exact h
   .rfl
 .rfl
abbrev oH(s:NS)(l:List (A2×Int)):List A3:=[.c (hC s.1 (.sl 1 s.2.length 3)),.a (KV s.2),.c [.ptr 0 0 77],.c [.d (AC l)]]
theorem ie(n:Node)(g:List Fl)(l:List (A2×Int))(h:NB n)(hl:Pv l)(hn:l.length<=1000000)(hg:g.length<=1000000):qC 82 [.ptr 0 0 77,.d (AC l)] (nH n g) (.tup []) (nH (Fe (n,g) l).1 (Fe (n,g) l).2):=by
 have c1:=dl l;refine zC A4 Tryz.func82 ?_;unfold nH;have d1:=Ds.mk [] (c1);refine wd E8 [] A0 A0 ?_;clear d1;refine zG (K:=fun r _ H'=>H'=oH (Fe (n,g) l) l++[.lp r]) ?_ ?_
 .intro r hr;have hk:=hr.ok (k:=4) rfl
  have hY:∀(s:NS)(x:A2×Int),NB s.1->x.1.list=[]->s.2.length<=1000100->YT Tryz.prog 4 [.d (.agg (Bz x))] (oH s l++[.lp r,.c (aC x)]) fun v K=>v= .pq true/\K=oH (IA s x) l++[.lp r,.c (aC x)]:=by
   rintro⟨N,G⟩ x hN hx hG;dsimp only at hN hG;have hb:=hN.hok;have c2:=Yb N.calls x.1 x.2 0 N.clock hb.ok.cl hb.ok.cn (by unfold AD;rw[hx];exact qP _);have c3:=hZ N hb x.2;have hT:IA (N,G) x=if(B1 N.calls x.1 x.2 0 N.clock).2.2=0 then({N with calls:=(B1 N.calls x.1 x.2 0 N.clock).1},G++NP (B1 N.calls x.1 x.2 0 N.clock).2.1)else(Ee N x.2,G):=rfl;rw[hT];have hml:=Vg N.calls x.1 x.2 0 N.clock hx;clear hT;generalize B1 N.calls x.1 x.2 0 N.clock=q at *;obtain⟨q1,q2,q3⟩:=q;generalize Ee N x.2=B at *;dsimp only at *;refine AZ hr rfl rfl rfl ?_;unfold Calls.d Calls.cells Wi.A2.d Wi.A2.cells at c2;unfold Node.d Node.cells View.cells Calls.cells Job.cells at c3
   by_cases hq:q3=0
   .have f1:=A9 hq;rw[if_pos hq];have c4:=Xv {N with calls:=q1} G q2 (by rw[hml];exact qA) om;unfold Wi.A2.d Wi.A2.cells at c4;unfold nH at c4;unfold hC aC Bz at *;refine wd E8 [] A0 A0 ?_;refine zR ?_;refine wd E8 [3] A0 A0 ?_;apply av (E:=T.get) 19 20 7 8 mixed rfl (by simp(decide:=true) [Ae,A3.ok,AV.oks,AV.ok,hk])
    case h1=>
     refine wd E8 [] A0 (A6 @c2) ?_ [(0,19),(1,19),(2,19),(3,19),(4,19),(5,19),(6,19),(7,19),(8,19),(9,19),(10,19),(11,19),(12,19),(13,19),(0,20),(1,20),(2,20),(3,20),(4,20),(5,20),(6,20),(7,20),(8,20),(9,20),(10,20),(11,20),(12,20),(13,20)];exact⟨rfl,.inl rfl⟩
    case h2=>
     refine wd E8 [] A0 (A6 @c2) ?_ [(0,19),(1,19),(2,19),(3,19),(4,19),(5,19),(6,19),(7,19),(8,19),(9,19),(10,19),(11,19),(12,19),(13,19),(0,20),(1,20),(2,20),(3,20),(4,20),(5,20),(6,20),(7,20),(8,20),(9,20),(10,20),(11,20),(12,20),(13,20)];have e:Ib (sw 7 8) r.env=r.env:=by rw[hr.2.2.2.1];rfl
     refine⟨rfl,.inr ?_⟩;show(⟨_,[_,_,_,_,.lp {r.busy with env:=Ib (sw 7 8) r.env},_,_,_,_],_⟩:St)=_;rw[e];rfl
    case hab=>rfl
    case hQ=>
     have d1:=Ds.mk [0,1] (c4);refine wd E8 [] (A6 f1) A0 ?_;clear d1;with_reducible repeat' first|constructor|intro hc;try simp only[AB]at hc
     exact jX rfl (A1.ck rfl)
   .have f1:=eq_false' hq;rw[if_neg hq];unfold hC aC Bz at *;refine wd E8 [] A0 A0 ?_;refine zR ?_;refine wd E8 [3] A0 A0 ?_;apply av (E:=T.get) 19 20 7 8 mixed rfl (by simp(decide:=true) [Ae,A3.ok,AV.oks,AV.ok,hk])
    case h1=>
     refine wd E8 [] A0 (A6 @c2) ?_ [(0,19),(1,19),(2,19),(3,19),(4,19),(5,19),(6,19),(7,19),(8,19),(9,19),(10,19),(11,19),(12,19),(13,19),(0,20),(1,20),(2,20),(3,20),(4,20),(5,20),(6,20),(7,20),(8,20),(9,20),(10,20),(11,20),(12,20),(13,20)];exact⟨rfl,.inl rfl⟩
    case h2=>
     refine wd E8 [] A0 (A6 @c2) ?_ [(0,19),(1,19),(2,19),(3,19),(4,19),(5,19),(6,19),(7,19),(8,19),(9,19),(10,19),(11,19),(12,19),(13,19),(0,20),(1,20),(2,20),(3,20),(4,20),(5,20),(6,20),(7,20),(8,20),(9,20),(10,20),(11,20),(12,20),(13,20)];have e:Ib (sw 7 8) r.env=r.env:=by rw[hr.2.2.2.1];rfl
     refine⟨rfl,.inr ?_⟩;show(⟨_,[_,_,_,_,.lp {r.busy with env:=Ib (sw 7 8) r.env},_,_,_,_],_⟩:St)=_;rw[e];rfl
    case hab=>rfl
    case hQ=>
     refine wd E8 [] (A6 f1) (A6 @c3) ?_;with_reducible repeat' first|constructor|intro hc;try simp only[AB]at hc
     exact jX rfl (A1.ck rfl)
  refine zT A4 Tryz.func230 ?_;refine wd [0,1,4,5,6,7,8,14] [] A0 A0 ?_;refine Cu (fun j:Nat=>j<=l.length) (fun j:Nat=>[(7,.pY j)]) (fun j=>[(0,.c (hC (Fe (n,g) (l.take j)).1 (.sl 1 (Fe (n,g) (l.take j)).2.length 3))),(1,.a (KV (Fe (n,g) (l.take j)).2))]) (fun j=>l.length-j) 0 (qP _) (fun _=>rfl) (fun _=>rfl) ?_ ?_
  .exact A1.ck rfl
  intro j hj
  by_cases hjl:j<l.length
  .obtain⟨x,hx⟩:=AT hjl;have hz:=ZT (s:=(n,g)) h (l.take j);have hy:=hY (Fe (n,g) (l.take j)) x (Ns (l.take j) (s:=(n,g)) h).nb (hl x (rE hx)) (by dsimp only at hz;omega)
   have e1:IA (Fe (n,g) (l.take j)) x=Fe (n,g) (l.take (j+1)):=by
    rw[AQ hx];unfold Fe;rw[List.foldl_append];rfl
   rw[e1]at hy;unfold oH Bz aC at hy;simp only[qV,qX]at hy;have ix1:=hx;have q1:=@hy;refine wd [0,1,4,5,6,7,8,14] [] A0 A0 ?_;clear q1 ix1;with_reducible repeat' first|constructor|intro hc;try simp only[AB]at hc
   refine⟨j+1,hjl,om,qG _,?_⟩;exact A1.ck rfl
  .have e:j=l.length:=om
   subst e;rw[qx];refine wd [0,1,4,5,6,7,8,14] [] A0 A0 ?_;with_reducible repeat' first|constructor|intro hc;try simp only[AB]at hc
   exact⟨_,A1.refl _,qG _,_,_,rfl,rfl,rfl⟩
 .rintro r hr x H' rfl;refine .inl ⟨rfl,?_⟩;refine wd E8 [] A0 A0 ?_;exact OM
theorem jQ(n n':Node)(g:List Fl)(l:List (A2×Int))(h:NB n')(hl:Pv l)(hn:l.length<=1000000)(hg:g.length<=1000000):qC 48 [.ptr 0 0 77,.d n'.d,.d (AC l)] (nH n g) (.tup []) (nH (IV g (n',l)).1 (IV g (n',l)).2):=by
 have c1:=ie n' g l h hl hn hg;have hT:IV g (n',l)=Fe (n',g) l:=rfl;rw[hT];generalize Fe (n',g) l=q at *;refine zC A4 Tryz.func48 ?_;unfold nH at *;unfold Node.d Node.cells View.cells Calls.cells Job.cells;have d1:=Ds.mk [0,1] (c1);refine wd [0,1,2,4] [] A0 A0 ?_;clear d1;exact OM
theorem cf(n:Node)(w:Int)(e:Bool)(c:JC)(h:c.asks.length<=3):(As n w e c).2.length<=3:=by
 unfold As;dsimp only;rw[rZ];exact h
theorem Pu(p o:Int):(Gl p o).length<=3:=by
 unfold Gl;split
 .simp
 split<;>simp
theorem Z5(n:Node)(c:Call)(m:A2):(BS n c m).2.length<=3:=by
 unfold BS;split
 .split
  .dsimp only;unfold Bv;split
   .split
    .exact qP _
    .dsimp only;split
     .dsimp only;exact Pu _ _
     .dsimp only;exact Pu _ _
   .exact qP _
  split
  .exact cf _ _ _ _ (LU _ _ _ ((IQ n c.why).item.key.length+m.item.key.length) (Nat.le_add_right ..) (Nat.le_add_left ..)).1
  .exact qP _
 .exact qP _
theorem TV{α:Type}(p:α->Bool):∀l:List α,(l.findIdx? p=none/\l.find? p=none)\/∃k x,l.findIdx? p=some k/\l[k]? =some x/\l.find? p=some x
 |[]=> .inl ⟨rfl,rfl⟩
 |a::r=>by
  cases h:p a with
  |true=>exact .inr ⟨0,a,by rw[List.findIdx?_cons,h];rfl,rfl,by rw[List.find?_cons,h]⟩
  |false=>
   rcases TV p r with⟨h1,h2⟩|⟨k,x,h1,h2,h3⟩
   .exact .inl ⟨by rw[List.findIdx?_cons,h,h1];rfl,by rw[List.find?_cons,h];exact h2⟩
   .exact .inr ⟨k+1,x,by rw[List.findIdx?_cons,h,h1];rfl,by simpa using h2,by rw[List.find?_cons,h];exact h3⟩
theorem Uf(l:List Past)(s c:Int):(KB l s c= -1/\Be l s c=(A5,false))\/∃(k:Nat)(x:Past),KB l s c=k/\l[k]? =some x/\Be l s c=(x.told,true):=by
 have e:JX s c=fun p=>decide (p.src=s)&&decide (p.call=c):=rfl;rcases TV (JX s c) l with⟨h1,h2⟩|⟨k,x,h1,h2,h3⟩
 .refine .inl ⟨by unfold KB;rw[h1],?_⟩;rw[e]at h2;unfold Be;rw[h2]
 .refine .inr ⟨k,x,by unfold KB;rw[h1],h2,?_⟩;rw[e]at h3;unfold Be;rw[h3]
theorem GY(l:List Past)(s c:Int)(hl:∀x∈l,AD x.told)(hn:l.length<=1048576):qB 119 [AH l,.i .i64 s,.i .i64 c] (.tup [(Be l s c).1.d,.b (Be l s c).2]):=by
 have c1:=fN s c;have c2:=Oa l s c om;rcases Uf l s c with⟨h1,h2⟩|⟨k,x,h1,h2,h3⟩
 .rw[h1]at c2;rw[h2];refine zF A4 Tryz.func119 ?_;have d1:=Ds.mk [] (c1);have d2:=Ds.mk [1,2] (c2);refine wd [0,1,2,6,7,8,15] [] A0 A0 ?_;clear d2 d1;exact Ag (qQ @Wi.A2.d.eq_1 (qQ @Wi.A2.cells.eq_1 (qQ @A5.eq_1 @AA.eq_1)))
 .rw[h1]at c2;rw[h3];have c3:=DG x.told (hl x (rE h2));have f1:decide ((k:Int)<0)=false:=qO om;refine zF A4 Tryz.func119 ?_;unfold Wi.A2.d Wi.A2.cells at *;have d1:=Ds.mk [] (c1);have d2:=Ds.mk [1,2] (c2);have ix1:=h2;refine wd [0,1,2,6,7,8,15] [] (A6 f1) (A6 @c3) ?_;clear ix1 d2 d1;exact zE
theorem mj(m:A2)(hm:AD m):qB 194 [m.d] (.tup [(if m.right&& !m.asks then Past.d ⟨m.dst,m.call,m⟩else NF.d),.i .i64 (if m.right&& !m.asks then 0 else 2)]):=by
 have c1:=Wi.BV m (lm hm);have c2:=Wi.FK m;have c3:=DG m hm;refine zF A4 Tryz.func194 ?_;unfold Wi.A2.d Wi.A2.cells Past.d Past.cells at*
 cases hr:m.right with
 |false=>
  rw[hr]at c1;refine wd [0,1,2,3,10] [] A0 (A6 @c1) ?_;exact Ag (qQ @A5.eq_1 @AA.eq_1)
 |true=>
 rw[hr]at c1
 cases ha:m.asks with
 |true=>
  rw[ha]at c2;refine wd [0,1,2,3,10] [] A0 (AX @c1 @c2) ?_;exact Ag (qQ @A5.eq_1 @AA.eq_1)
 |false=>
  rw[ha]at c2;refine wd [0,1,2,3,10] [] A0 (C3 @c1 @c2 @c3) ?_;exact zE
abbrev M3:List Nat:=[0,1,2,3,4,5,25]
theorem Y4(m:A2):qB 183 [m.d] (BQ m).d:=by
 have c1:=Wi.FK m
 cases h:m.asks with
 |false=>
  have hT:BQ m=A5:=by unfold BQ;rw[h];rfl
  rw[h]at c1;rw[hT];clear h hT;refine zF A4 Tryz.func183 ?_;unfold Wi.A2.d Wi.A2.cells at *;refine wd [0,1,2,5] [] A0 (A6 @c1) ?_;exact Ag (qQ @A5.eq_1 @AA.eq_1)
 |true=>
  have hT:BQ m=⟨m.kind+6,m.call,m.dst,m.src,0,false,false,0,0,[],AA,0⟩:=by unfold BQ;rw[h];rfl
  have hk:1<=m.kind/\m.kind<=6:=by
   unfold A2.asks at h;simpa only[qH,qJ]using h
  have f1:(m.kind+6)%256=m.kind+6:=om
  rw[h]at c1;rw[hT];clear h hT;refine zF A4 Tryz.func183 ?_;unfold Wi.A2.d Wi.A2.cells at *;refine wd [0,1,2,5] [] (A6 f1) (A6 @c1) ?_;exact Ag @AA.eq_1
theorem iC(v:View)(m:A2)(hb:v.base.length<=1000)(hl:v.list.length<=1000)(hm:AD m):qB 189 [v.d,m.d] (MQ v m).d:=by
 have c1:=Bg v hb hl;have c2:=Wi.BV m (lm hm);have c3:=Y4 m;have c4:=WQ v m.key m.slow hb hl;have hT:MQ v m=if(AS v&&decide (m.kind=4))&&(decide (m.dst=v.id)&&m.right)then{BQ m with place:=(FY v m.key m.slow).1,done:=(FY v m.key m.slow).2}else A5:=rfl
 rw[hT];clear hT;generalize BQ m=t at *;generalize FY v m.key m.slow=h at *;obtain⟨h1,h2⟩:=h;refine zF A4 Tryz.func189 ?_;unfold Wi.A2.d Wi.A2.cells View.d View.cells at*
 cases hv:AS v with
 |false=>
  rw[hv]at c1;refine wd M3 [] A0 (A6 @c1) ?_ [] true;exact Ag (qQ @A5.eq_1 @AA.eq_1)
 |true=>
 rw[hv]at c1
 by_cases hk:m.kind=4
 case neg=>
  have f1:=BJ hk;rw[qO hk];refine wd M3 [] (A6 f1) (A6 @c1) ?_ [] true;exact Ag (qQ @A5.eq_1 @AA.eq_1)
 case pos=>
 have f1:=BF hk;rw[qM hk]
 by_cases hd:m.dst=v.id
 case neg=>
  have f2:=BJ hd;rw[qO hd];refine wd M3 [] (AX f1 f2) (A6 @c1) ?_ [] true;exact Ag (qQ @A5.eq_1 @AA.eq_1)
 case pos=>
 have f2:=BF hd;rw[qM hd]
 cases hr:m.right with
 |false=>
  rw[hr]at c2;refine wd M3 [] (AX f1 f2) (AX @c1 @c2) ?_ [] true;exact Ag (qQ @A5.eq_1 @AA.eq_1)
 |true=>
  rw[hr]at c2;refine wd M3 [] (AX f1 f2) (Kl @c1 @c2 @c3 @c4) ?_ [] true;exact zE
theorem mh(n:Int):qB 314 [.i .i64 n] (.b (Ai n)):=by
 refine zF A4 Tryz.func314 ?_;refine wd [0,2] [] A0 A0 ?_;with_reducible repeat' first|constructor|intro hc;try simp only[AB]at hc
 all_goals(refine⟨_,_,rfl,rfl,?_⟩;simp only[Bn];refine congrArg D.b ?_;unfold Ai;grind)
theorem YU(id:Int)(base list:List Int)(pred:Int)(f:Nat->Int):qC 272 [.ptr 0 0 20] [.c (vC id base list pred f)] (.fn (.func 313) [] [.ptr 1 0 1]) [.c (vC id base list pred f),.c [.ptr 0 0 20]]:=by
 refine zD A4 Tryz.func272 ?_;refine wd [0,1,2] [] A0 A0 ?_;exact⟨_,(A1.ck rfl),qA,_,_,rfl,rfl,rfl,rfl⟩
theorem V1(id:Int)(base list:List Int)(pred:Int)(f:Nat->Int)(x:Int):qC 313 [.pY x,.ptr 1 0 1] [.c (vC id base list pred f),.c [.ptr 0 0 20]] (.pq (JP ⟨id,base,list,pred,f⟩ x)) [.c (vC id base list pred f),.c [.ptr 0 0 20]]:=by
 have c1:=mh x;have c2:=Oe pred x id;have hT:JP ⟨id,base,list,pred,f⟩ x=((Ai x&&decide (x≠id))&&(decide (pred= -1)||Ir pred x id)):=rfl;rw[hT];refine zD A4 Tryz.func313 ?_;unfold vC
 cases h1:Ai x with
 |false=>
  rw[h1]at c1;refine wd [0,1,3,14] [] A0 (A6 @c1) ?_;exact⟨_,(A1.ck rfl),qA,_,_,rfl,rfl,rfl,rfl⟩
 |true=>
 rw[h1]at c1
 by_cases h2:x=id
 .have f2:=A9 h2;rw[qO (show ¬x≠id from fun h=>h h2)];refine wd [0,1,3,14] [] (A6 f2) (A6 @c1) ?_;exact⟨_,(A1.ck rfl),qA,_,_,rfl,rfl,rfl,rfl⟩
 have f2:=eq_false' h2;rw[qM h2]
 by_cases h3:pred= -1
 .have f3:=A9 h3;rw[qM h3];refine wd [0,1,3,14] [] (AX f2 f3) (A6 @c1) ?_;exact⟨_,(A1.ck rfl),qA,_,_,rfl,rfl,rfl,rfl⟩
 .have f3:=eq_false' h3;rw[qO h3];simp only[rC,su];generalize Ir pred x id=b at *;refine wd [0,1,3,14] [] (AX f2 f3) (AX @c1 @c2) ?_;exact⟨_,(A1.ck rfl),qA,_,_,rfl,rfl,rfl,rfl⟩
theorem eR(l:List Int):qC 273 [.qF l] [] (.fn (.func 315) [] [.ptr 0 0 1]) [.c [.qF l]]:=by
 refine zD A4 Tryz.func273 ?_;refine wd [0,1,2] [] A0 A0 ?_;exact⟨_,(A1.ck rfl),qP _,_,_,rfl,rfl,rfl,rfl⟩
theorem EI(n:Node)(m:A2)(hn:Hp n)(hm:AD m):qB 118 [n.d,m.d] (.b (Bc n m)):=by
 have c1:=Wi.FK m;have c2:=Wi.BV m (lm hm);have c3:=Az n hn;have hT:Bc n m=((m.asks&&m.right)&&(decide (m.dst=n.view.id)&&Ak n)):=rfl;rw[hT];clear hT hn hm;refine zF A4 Tryz.func118 ?_;generalize m.asks=a at *;generalize m.right=r at *;generalize Ak n=rn at *;unfold Wi.A2.d Wi.A2.cells Node.d Node.cells View.cells Calls.cells Job.cells at *;simp only[qV,qX]at*
 cases a with
 |false=>
  refine wd [0,1,2,3,4] [] A0 (A6 @c1) ?_;exact zE
 |true=>
 cases r with
 |false=>
  refine wd [0,1,2,3,4] [] A0 (AX @c1 @c2) ?_;exact zE
 |true=>
 by_cases hd:m.dst=n.view.id
 .have f1:=A9 hd;rw[qM hd]
  cases rn<;>
  .refine wd [0,1,2,3,4] [] (A6 f1) (C3 @c1 @c2 @c3) ?_;exact zE
 .have f1:=eq_false' hd;rw[qO hd];refine wd [0,1,2,3,4] [] (A6 f1) (AX @c1 @c2) ?_;exact zE
abbrev K2:List Nat:=[0,1,2,4,5,6,7,13,15,16,19]
theorem Vq(v:View)(x:Int)(hb:v.base.length<=1000)(hl:v.list.length<=1000):qB 187 [v.d,.is [x]] (DI v x).d:=by
 have c1:=Jq v (tJ hb (by decide)) (tJ hl (by decide));have c2:=Bg v hb hl;obtain⟨id,base,list,pred,f⟩:=v;have c3:=YU id base list pred f;have c4:=eR [x];have c5:=V1 id base list pred f x;refine zF A4 Tryz.func187 ?_
 cases h1:AS ⟨id,base,list,pred,f⟩with
 |false=>
  have hT:DI ⟨id,base,list,pred,f⟩ x=⟨id,base,list,pred,f⟩:=by unfold DI;rw[h1];rfl
  rw[hT];rw[h1]at c2;unfold View.d View.cells vC at *;have d1:=Ds.mk [2] (c3);refine wd K2 [] A0 (AX @c1 @c2) ?_ [] true;clear d1;exact zE
 |true=>
 obtain⟨q,hq⟩:∃q,q=if JP ⟨id,base,list,pred,f⟩ x then x else pred:=⟨_,rfl⟩
 have hT:DI ⟨id,base,list,pred,f⟩ x=⟨id,base,list,q,f⟩:=by
  unfold DI;rw[h1,hq,rC];split<;>rfl
 rw[hT];rw[h1]at c2;clear hT h1;unfold View.d View.cells vC at *;have d1:=Ds.mk [2] (c3);have d2:=Ds.mk [] (c4);refine wd K2 [] A0 (AX @c1 @c2) ?_ [] true;clear d2 d1;refine Ah (A1.KA 1 1 (.is []) rfl rfl rfl rfl trivial) sm ?_;refine Ah (A1.KA 1 2 (.is []) rfl rfl rfl rfl trivial) sm ?_;refine zG (K:=fun r _ H'=>H'=[.c (vC id base list pred f),.c (vC 0 [] [] 0 fun _=>0),.c (vC id base list q f),.c [.ptr 2 0 20],.c [.fn (.func 313) [] [.ptr 3 0 1]],.c [.qF ([x])],.lp r]) ?_ ?_
 .intro r hr;have hk:=hr.ok (k:=6) rfl
  have hY:YT Tryz.prog 6 [.pY x] [.c (vC id base list pred f),.c (vC 0 [] [] 0 fun _=>0),.c (vC id base list pred f),.c [.ptr 2 0 20],.c [.fn (.func 313) [] [.ptr 3 0 1]],.c [.qF ([x])],.lp r] fun w K=>w= .pq true/\K=[.c (vC id base list pred f),.c (vC 0 [] [] 0 fun _=>0),.c (vC id base list q f),.c [.ptr 2 0 20],.c [.fn (.func 313) [] [.ptr 3 0 1]],.c [.qF ([x])],.lp r]:=by
   refine AZ hr rfl rfl rfl ?_;unfold vC;refine wd K2 [] A0 A0 ?_ [] true;refine zR ?_
   cases hB:JP ⟨id,base,list,pred,f⟩ x with
   |true=>
    rw[hB]at c5 hq;rw[if_pos rfl]at hq;subst hq;have d1:=Ds.mk [2,3] (c5);refine wd K2 [] A0 A0 ?_ [] true;clear d1;exact jX rfl (A1.ck rfl)
   |false=>
    rw[hB]at c5 hq;rw[if_neg (by decide)]at hq;subst hq;have d1:=Ds.mk [2,3] (c5);refine wd K2 [] A0 A0 ?_ [] true;clear d1;exact jX rfl (A1.ck rfl)
  unfold vC at hY;refine zT A4 Tryz.func315 ?_;have un:No 2:=trivial;have q1:=@hY;refine wd [0,1,4,5,6,7,8,14] [] A0 A0 ?_;clear q1 un;exact⟨_,A1.refl _,qG _,_,_,rfl,rfl,rfl⟩
 .rintro r hr y H' rfl;refine .inl ⟨rfl,?_⟩;unfold vC;refine wd K2 [] A0 A0 ?_ [] true;exact zE
abbrev aH(n:Node)(m t:A2):List A3:=[.c (AJ n),.c [.ptr 0 0 76],.c (mX m),.c (mX t)]
abbrev aMap:List (D×AV):=[(.i .u8 1,.fn (.func 184) [] [.ptr 1 0 1,.ptr 3 0 15]),(.i .u8 2,.fn (.func 185) [] [.ptr 3 0 15]),(.i .u8 3,.fn (.func 186) [] [.ptr 1 0 1,.ptr 2 0 15,.ptr 3 0 15]),(.i .u8 4,.fn (.func 188) [] [.ptr 1 0 1,.ptr 2 0 15]),(.i .u8 5,.fn (.func 190) [] [.ptr 1 0 1,.ptr 2 0 15,.ptr 3 0 15]),(.i .u8 6,.fn (.func 192) [] [.ptr 1 0 1,.ptr 2 0 15,.ptr 3 0 15])]
theorem Ep(n:Node)(m:A2):qC 120 [.ptr 0 0 76,.d m.d] [.c (AJ n)] (.mp 4) (aH n m (BQ m)++[.m aMap]):=by
 have c1:=Y4 m;refine zC A4 Tryz.func120 ?_;unfold aH;unfold Wi.A2.d Wi.A2.cells at *;simp only[qV,qX];refine wd [0,1,2,3,4,5] [] A0 (A6 @c1) ?_;exact OM
theorem kz(n:Node)(m t:A2)(hl:n.view.list.length<=1000):qC 184 [.ptr 1 0 1,.ptr 3 0 15] (aH n m t) (.d (Wi.A2.d {t with pred:=n.view.pred,list:=n.view.list})) (aH n m {t with pred:=n.view.pred,list:=n.view.list}):=by
 have c1:=JR n.view.list om;refine zC A4 Tryz.func184 ?_;refine wd [0,1,2] [] A0 (A6 @c1) ?_;exact OM
theorem l8(t:A2):qC 185 [.ptr 0 0 15] [.c (mX t)] (.d t.d) [.c (mX t)]:=by
 refine zC A4 Tryz.func185 ?_;refine wd [0,1] [] A0 A0 ?_;exact OM
theorem l9(n:Node)(m t:A2)(hb:n.view.base.length<=1000)(hl:n.view.list.length<=1000):qC 186 [.ptr 1 0 1,.ptr 2 0 15,.ptr 3 0 15] (aH n m t) (.d t.d) (aH {n with view:=DI n.view m.src} m t):=by
 have c1:=Vq n.view m.src hb hl;generalize DI n.view m.src=w at *;refine zC A4 Tryz.func186 ?_;unfold View.d View.cells at c1;refine wd [0,1,2,3] [] A0 (A6 @c1) ?_ [(0,7),(1,7),(2,7),(3,7),(4,7)];exact OM
theorem lA(n:Node)(m t:A2)(hb:n.view.base.length<=1000)(hl:n.view.list.length<=1000)(hm:AD m):qC 188 [.ptr 1 0 1,.ptr 2 0 15] (aH n m t) (.d (MQ n.view m).d) (aH n m t):=by
 have c1:=iC n.view m hb hl hm;generalize MQ n.view m=w at *;refine zC A4 Tryz.func188 ?_;unfold View.d View.cells Wi.A2.d Wi.A2.cells at c1;refine wd [0,1,2] [] A0 (A6 @c1) ?_;exact OM
theorem lB(n:Node)(m t:A2)(hn:n.keep.length<=1048576):qC 190 [.ptr 1 0 1,.ptr 2 0 15,.ptr 3 0 15] (aH n m t) (.d (Wi.A2.d {t with code:=(Dx n.keep m.item).2})) (aH {n with keep:=(Dx n.keep m.item).1} m {t with code:=(Dx n.keep m.item).2}):=by
 have c1:=XP n.keep m.item hn;generalize Dx n.keep m.item=w at *;obtain⟨w1,w2⟩:=w;refine zC A4 Tryz.func190 ?_;unfold Item.d Item.cells at c1;dsimp only at c1|-;refine wd [0,1,2,3] [] A0 (A6 @c1) ?_;exact OM
theorem lC(n:Node)(m t:A2)(hn:n.keep.length<=1048576):qC 192 [.ptr 1 0 1,.ptr 2 0 15,.ptr 3 0 15] (aH n m t) (.d (Wi.A2.d {t with item:=(Cf n.keep m.item.key).1,code:=(Cf n.keep m.item.key).2})) (aH n m {t with item:=(Cf n.keep m.item.key).1,code:=(Cf n.keep m.item.key).2}):=by
 have c1:=XN n.keep m.item.key hn;generalize Cf n.keep m.item.key=w at *;obtain⟨w1,w2⟩:=w;refine zC A4 Tryz.func192 ?_;unfold Item.d Item.cells at c1;dsimp only at c1|-;refine wd [0,1,2,3] [] A0 (A6 @c1) ?_;exact OM
end Nd
end Go.Proofs.YtkljbfejbakooaaGreatDoor
namespace Go.Proofs.YtkljbfejbakooaaGreatDoor
namespace Wi
open Go.Gar
abbrev BU:List Nat:=[0,1,2,3,4,5,7,11,29,30,42,49,61,77,89,96,105]
theorem eZ(m:Nat)(hm:m<=1099511627776):qC 298 [.pY m] [] (.tup [.sl 0 (BP m).length 1,.pY 0]) [.a (.by (BP m))]:=by
 have hs:=size_le m om;refine zD A4 Tryz.func298 ?_;refine wd [0,2,3,4,10,12] [] A0 A0 ?_;with_reducible repeat' first|constructor|intro hc;try simp only[AB]at hc
 refine Ah (A1.e0 4 (.by []) rfl rfl rfl trivial) sm ?_;refine An (fun k=>k<=size m) (fun k:Nat=>⟨[(0,.pY (m/256^k:Nat)),(2,.e0),(3,.pY 0),(4,.d (.by (FJ m k)))],[],27⟩) (fun k=>size m-k) 0 (qP _) ?_ sm ?_
 .exact A1.ck rfl
 intro k hk;have hsp:=size_pos (n:=m) (k:=k);have hle:m/256^k<=m:=Nat.div_le_self _ _;have hll:(FJ m k).length=k:=by simp[FJ]
 by_cases hkm:k<size m
 .have hp:=hsp.2 hkm
  have e1:((m/256^k:Nat):Int).tmod 256=((m/256^k%256:Nat):Int):=by
   rw[Int.tmod_eq_emod_of_nonneg om];rfl
  have e2:((m/256^k%256:Nat):Int)%256=((m/256^k%256:Nat):Int):=om
  have e3:((m/256^k:Nat):Int).tdiv 256=((m/256^(k+1):Nat):Int):=by
   rw[Int.tdiv_eq_ediv_of_nonneg om,Nat.pow_succ,<-Nat.div_div_eq_div_mul];rfl
  have e4:(UInt8.ofNat (m/256^k%256)::FJ m k)=FJ m (k+1):=(Hb m k).symm;have hle':m/256^(k+1)<=m:=Nat.div_le_self _ _;have ow:Lv [16]:=trivial;refine wd [0,2,3,4,10,12] [] (Kl e1 e2 e3 e4) A0 ?_;clear ow;with_reducible repeat' first|constructor|intro hc;try simp only[AB]at hc
  rotate_left
  .rw[e3];exact Ip rfl (MN _ om)
  refine⟨k+1,hkm,om,qP _,?_⟩;refine A1.trans' (A1.cY 4 0 (x:=.by (FJ m (k+1))) (congrArg (fun z=>some (A3.a (D.by z))) e4) rfl rfl) ?_ (qP _);exact A1.ck rfl
 .have e:k=size m:=om
  subst e;have h0:m/256^size m=0:=Nat.eq_zero_of_not_pos (fun h=>absurd (hsp.1 h) (Nat.lt_irrefl _));have e5:((size m:Nat):Int)%256=size m:=om
  have e6:FJ m (size m)=Gj m:=rfl;have e7:(Gj m).length=size m:=by simp[Gj]
  have ow:Lv [24]:=trivial;refine wd [0,2,3,4,10,12] [] (Kl h0 e5 e6 e7) A0 ?_;clear ow;with_reducible repeat' first|constructor|intro hc;try simp only[AB]at hc
  refine⟨⟨[(2,.sl 0 (BP m).length 1),(3,.pY 0)],[.a (.by (BP m))],Tryz.f298.ntmps⟩,?_,qP _,_,_,rfl,rfl,rfl,rfl⟩;exact(have nC:=qQ @BP.eq_1 (qQ e6 e7);A1.cn rfl)
theorem Zq(s:List UInt8)(h:s.length<=255):qC 228 [.qE s] [] (.tup [.sl 0 (BZ s).length 1,.pY 0]) [.a (.by (BZ s))]:=by
 have h1:decide ((s.length:Int)>255)=false:=by simp;omega
 have h2:(s.length:Int)%256=s.length:=om
 refine zD A4 Tryz.func228 ?_;have ow:Lv [10]:=trivial;refine wd [0,2,3,6] [] (AX h1 h2) A0 ?_;clear ow;with_reducible repeat' first|constructor|intro hc;try simp only[AB]at hc
 refine⟨⟨[(2,.sl 0 (BZ s).length 1),(3,.pY 0)],[.a (.by (BZ s))],Tryz.f228.ntmps⟩,?_,qP _,_,_,rfl,rfl,rfl,rfl⟩;exact(have nC:=@BZ.eq_1;A1.cn rfl)
theorem Ow(n:Int)(hf:fits n=true):qC 225 [.pY n] [] (.sl 0 (BP n.toNat).length 1) [.a (.by (BP n.toNat))]:=by
 obtain⟨e,hm⟩:=B0 hf;have hp:=eZ n.toNat hm;rw[e]at hp;refine zD A4 Tryz.func225 ?_;have d1:=Ds.mk [] (hp);refine wd [0,2,3] [] A0 A0 ?_;clear d1;with_reducible repeat' first|constructor|intro hc;try simp only[AB]at hc
 exact⟨⟨[(2,.sl 0 (BP n.toNat).length 1)],[.a (.by (BP n.toNat))],Tryz.f225.ntmps⟩,(A1.ck rfl),qP _,_,_,rfl,rfl,rfl,rfl⟩
theorem Bp(n:Int)(hf:fits n=true):qB 225 [.i .i64 n] (.by (BP n.toNat)):=by
 refine EP (ds:=[.i .i64 n]) (Ow n hf) ?_;simp[KL,AP]
theorem SF(b:Bool):qB 226 [.b b] (.i .i64 (CP b)):=by
 refine zF A4 Tryz.func226 ?_;cases b
 .refine wd [0,2,3] [] A0 A0 ?_;with_reducible repeat' first|constructor|intro hc;try simp only[AB]at hc
  exact Ag @CP.eq_1
 .refine wd [0,2,3] [] A0 A0 ?_;with_reducible repeat' first|constructor|intro hc;try simp only[AB]at hc
  exact Ag @CP.eq_1
theorem ZZ(x:Item)(hk:x.key.length<=255)(hv:fits x.value=true)(hn:fits x.version=true):qC 227 [.d x.d] [] (.sl 1 (BM x).length 1) [.gone,.a (.by (BM x))]:=by
 obtain⟨k,v,n,g⟩:=x;have ht:=Zq k hk;have h1:=Bp v hv;have h2:=Bp n hn;have h3:=SF g;have h4:=Bp (CP g) (D5 g);have l1:=Bd v.toNat (B0 hv).2;have l2:=Bd n.toNat (B0 hn).2;have l3:=Bd (CP g).toNat (B0 (D5 g)).2;have l0:(BZ k).length=k.length+1:=rfl;refine zD A4 Tryz.func227 ?_;simp only at hk;unfold Item.d Item.cells;have d1:=Ds.mk [] (ht);refine wd [0,1,2,3] [] A0 (Kl @h1 @h2 @h3 @h4) ?_ [(5,4),(6,4)];clear d1;with_reducible repeat' first|constructor|intro hc;try simp only[AB]at hc
 refine⟨⟨[(2,.sl 1 (BM ⟨k,v,n,g⟩).length 1)],[.gone,.a (.by (BM ⟨k,v,n,g⟩))],Tryz.f227.ntmps⟩,?_,qP _,_,_,rfl,rfl,rfl,rfl⟩;exact A1.cut rfl (by repeat'(first|exact tZ|refine qQ (by(first|rfl|((with_reducible_and_instances refine congrArg (fun z=>some (AV.d (D.i _ z))) ?_);omega)|(refine congrArg (fun z=>some (AV.d (D.i _ z))) (?_:(_:Int)=_);omega)|(refine congrArg some ?_;simp only[BM,A7,qm,rJ];done)|(refine congrArg some ?_;simp[BM,A7,qm,rJ];done))) ?_)) (by repeat'(first|exact tZ|refine qQ (Or.inr rfl) ?_|refine qQ (Or.inl ⟨rfl,rfl⟩) ?_|refine qQ (Or.inr (by simp only[BM,A7,qm,rJ])) ?_|refine qQ (Or.inr (by simp[BM,A7,qm,rJ])) ?_)) (by first|rfl|(simp(decide:=true) [Ae,A3.ok,AV.oks,AV.ok,hk];done)) rfl
theorem UJ(x:Item)(hk:x.key.length<=255)(hv:fits x.value=true)(hn:fits x.version=true):qB 227 [x.d] (.by (BM x)):=by
 refine EP (ds:=[x.d]) (ZZ x hk hv hn) ?_;simp[KL,AP]
theorem N9(m:A2)(hl:m.list.length<9223372036854775807):qB 145 [m.d] (.tup [.by (ID m).1,.i .i64 (ID m).2]):=by
 have hR:=Jh m hl
 cases h:m.right with
 |false=>
  rw[h]at hR;have e:ID m=([],2):=by unfold ID;rw[h];rfl
  unfold A2.d A2.cells at *;refine zF A4 Tryz.func145 ?_;refine wd BU [] A0 (A6 @hR) ?_;with_reducible repeat' first|constructor|intro hc;try simp only[AB]at hc
  exact Ag e
 |true=>
 rw[h]at hR;have e:ID m=(B4 m,0):=by unfold ID;rw[if_pos h]
 have hlen:=J9 h;obtain⟨⟨k1,k2⟩,⟨p1,p2⟩,_,⟨c1,c2⟩,hb,hh⟩:=Fy h;have ha:=L3 h;have fk:fits m.kind=true:=CX om;have fc:fits m.call=true:=CX om;have n0:=Ow m.kind fk;have n1:=Bp m.call fc;have n2:=Bp m.src (BO p1);have n3:=Bp m.dst (BO p2);have l0:=Bd m.kind.toNat (B0 fk).2;have l1:=Bd m.call.toNat (B0 fc).2;have l2:=Bd m.src.toNat (B0 (BO p1)).2;have l3:=Bd m.dst.toNat (B0 (BO p2)).2;rw[e];clear e ha c1 c2 h hb;obtain⟨k,c,s,d,ky,sl,dn,pl,pr,l,⟨ik,iv,ir,ig⟩,co⟩:=m;unfold A2.d A2.cells at *;simp only at *;refine zF A4 Tryz.func145 ?_;have d1:=Ds.mk [] (n0);refine wd BU [4] A0 (Kl @hR @n1 @n2 @n3) ?_ [(4,3),(5,3),(8,3),(9,3),(8,7),(9,7),(12,3),(13,3),(12,7),(13,7),(12,11),(13,11)];clear d1;with_reducible repeat' first|constructor|intro hc;try simp only[AB]at hc
 have hkind:k=1\/k=2\/k=3\/k=4\/k=5\/k=6\/k=7\/k=8\/k=9\/k=10\/k=11\/k=12:=om
 clear hR n0 n1 n2 n3 k1 k2 hl;unfold A2.has at hh;rcases hkind with rfl|rfl|rfl|rfl|rfl|rfl|rfl|rfl|rfl|rfl|rfl|rfl
 .refine wd BU [] A0 A0 ?_ [(5,4),(6,4)];with_reducible repeat' first|constructor|intro hc;try simp only[AB]at hc
  refine⟨_,_,rfl,rfl,?_⟩;simp[H8,AP,Aj,AF,B4,BI,A7,BM,BZ,qm,rJ,qV,qX,Int.reduceEq,qw,ql]
 .refine wd BU [] A0 A0 ?_ [(5,4),(6,4)];with_reducible repeat' first|constructor|intro hc;try simp only[AB]at hc
  refine⟨_,_,rfl,rfl,?_⟩;simp[H8,AP,Aj,AF,B4,BI,A7,BM,BZ,qm,rJ,qV,qX,Int.reduceEq,qw,ql]
 .refine wd BU [] A0 A0 ?_ [(5,4),(6,4)];with_reducible repeat' first|constructor|intro hc;try simp only[AB]at hc
  refine⟨_,_,rfl,rfl,?_⟩;simp[H8,AP,Aj,AF,B4,BI,A7,BM,BZ,qm,rJ,qV,qX,Int.reduceEq,qw,ql]
 .simp only[Int.reduceEq,qw,ql,qH,rO,qJ]at hh;have hb:=SF sl;have n4:=Bp ky (BO hh);have l4:=Bd (ky).toNat (B0 (BO hh)).2;have n5:=Bp (CP sl) (D5 sl);have l5:=Bd ((CP sl)).toNat (B0 (D5 sl)).2;refine wd BU [] A0 (C3 @hb @n4 @n5) ?_ [(5,4),(6,4)];with_reducible repeat' first|constructor|intro hc;try simp only[AB]at hc
  refine⟨_,_,rfl,rfl,?_⟩;simp[H8,AP,Aj,AF,B4,BI,A7,BM,BZ,qm,rJ,qV,qX,Int.reduceEq,qw,ql]
 .simp only[Int.reduceEq,qw,ql,qH,rO,qJ]at hh;obtain⟨a1,a2,a3⟩:=FZ hh;have hq:=UJ ⟨ik,iv,ir,ig⟩ a1 a2 a3;have lq:=Jf hh;unfold Item.d Item.cells at hq;refine wd BU [] A0 (A6 @hq) ?_ [(5,4),(6,4)];with_reducible repeat' first|constructor|intro hc;try simp only[AB]at hc
  refine⟨_,_,rfl,rfl,?_⟩;simp[H8,AP,Aj,AF,B4,BI,A7,BM,BZ,qm,rJ,qV,qX,Int.reduceEq,qw,ql]
 .simp only[Int.reduceEq,qw,ql,qH,rO,qJ]at hh;obtain⟨a1,a2,a3⟩:=FZ hh.1;have a1:ik.length<=255:=a1;have hq:=ed ik;have et:textS ik=(BZ ik,0):=by unfold textS BZ;rw[if_neg om]
  rw[et]at hq;have lq:(BZ ik).length=ik.length+1:=rfl;refine wd BU [] A0 (A6 @hq) ?_ [(5,4),(6,4)];with_reducible repeat' first|constructor|intro hc;try simp only[AB]at hc
  refine⟨_,_,rfl,rfl,?_⟩;simp[H8,AP,Aj,AF,B4,BI,A7,BM,BZ,qm,rJ,qV,qX,Int.reduceEq,qw,ql]
 .simp only[Int.reduceEq,qw,ql,qH,rO,qJ]at hh;have hL:=J6 hh.2
  have hf:fits (pr+1)=true:=by
   rcases hh.1 with h|h
   .subst h;rfl
   .exact CX (by have:=E3 h;omega)
  have hpr: -1<=pr/\pr<=1099511627776:=by simp[fits]at hf;omega
  have n4:=Bp (pr+1) hf;have l4:=Bd ((pr+1)).toNat (B0 hf).2;have hq:=Go.Proofs.YtkljbfejbakooaaGreatDoor.eX l;have et:Gw l=(UInt8.ofNat l.length::A7 l,0):=by unfold Gw;rw[if_neg om,if_pos hL.2]
  rw[et]at hq;simp only at hq;have lq:=EH l hL.2;have lq2:(UInt8.ofNat l.length::A7 l).length=(A7 l).length+1:=rfl;generalize hLL:UInt8.ofNat l.length::A7 l=LL at hq lq2;refine wd BU [] A0 (AX @n4 @hq) ?_ [(5,4),(6,4)];with_reducible repeat' first|constructor|intro hc;try simp only[AB]at hc
  refine⟨_,_,rfl,rfl,?_⟩;simp[H8,AP,Aj,AF,B4,BI,A7,BM,BZ,qm,rJ,qV,qX,Int.reduceEq,qw,ql,hLL]
 .refine wd BU [] A0 A0 ?_ [(5,4),(6,4)];with_reducible repeat' first|constructor|intro hc;try simp only[AB]at hc
  refine⟨_,_,rfl,rfl,?_⟩;simp[H8,AP,Aj,AF,B4,BI,A7,BM,BZ,qm,rJ,qV,qX,Int.reduceEq,qw,ql]
 .refine wd BU [] A0 A0 ?_ [(5,4),(6,4)];with_reducible repeat' first|constructor|intro hc;try simp only[AB]at hc
  refine⟨_,_,rfl,rfl,?_⟩;simp[H8,AP,Aj,AF,B4,BI,A7,BM,BZ,qm,rJ,qV,qX,Int.reduceEq,qw,ql]
 .simp only[Int.reduceEq,qw,ql,qH,rO,qJ]at hh;have hb:=SF dn;have n4:=Bp pl (BO hh);have l4:=Bd (pl).toNat (B0 (BO hh)).2;have n5:=Bp (CP dn) (D5 dn);have l5:=Bd ((CP dn)).toNat (B0 (D5 dn)).2;refine wd BU [] A0 (C3 @hb @n4 @n5) ?_ [(5,4),(6,4)];with_reducible repeat' first|constructor|intro hc;try simp only[AB]at hc
  refine⟨_,_,rfl,rfl,?_⟩;simp[H8,AP,Aj,AF,B4,BI,A7,BM,BZ,qm,rJ,qV,qX,Int.reduceEq,qw,ql]
 .simp only[Int.reduceEq,qw,ql,qH,rO,qJ]at hh;have hf:fits co=true:=by rcases hh with h|h<;>rw[h]<;>rfl
  have n4:=Bp co hf;have l4:=Bd (co).toNat (B0 hf).2;refine wd BU [] A0 (A6 @n4) ?_ [(5,4),(6,4)];with_reducible repeat' first|constructor|intro hc;try simp only[AB]at hc
  refine⟨_,_,rfl,rfl,?_⟩;simp[H8,AP,Aj,AF,B4,BI,A7,BM,BZ,qm,rJ,qV,qX,Int.reduceEq,qw,ql]
 .simp only[Int.reduceEq,qw,ql,qH,rO,qJ]at hh;rcases hh with⟨h0,h1⟩|⟨h0,h1⟩
  .subst h0;have n4:=Bp (0:Int) rfl;have l4:=Bd ((0:Int)).toNat (B0 rfl).2;obtain⟨a1,a2,a3⟩:=FZ h1;have hq:=UJ ⟨ik,iv,ir,ig⟩ a1 a2 a3;have lq:=Jf h1;unfold Item.d Item.cells at hq;have l4:(BP 0).length<=7:=l4;refine wd BU [] A0 (AX @n4 @hq) ?_ [(5,4),(6,4)];with_reducible repeat' first|constructor|intro hc;try simp only[AB]at hc
   refine⟨_,_,rfl,rfl,?_⟩;simp[H8,AP,Aj,AF,B4,BI,A7,BM,BZ,qm,rJ,qV,qX,Int.reduceEq,qw,ql,show Int.toNat 0=0 from rfl]
  .subst h0;have n4:=Bp (201:Int) rfl;have l4:=Bd ((201:Int)).toNat (B0 rfl).2;have l4:(BP 201).length<=7:=l4;refine wd BU [] A0 (A6 @n4) ?_ [(5,4),(6,4)];with_reducible repeat' first|constructor|intro hc;try simp only[AB]at hc
   refine⟨_,_,rfl,rfl,?_⟩;simp[H8,AP,Aj,AF,B4,BI,A7,BM,BZ,qm,rJ,qV,qX,Int.reduceEq,qw,ql]
end Wi
end Go.Proofs.YtkljbfejbakooaaGreatDoor
namespace Go.Proofs.YtkljbfejbakooaaGreatDoor
namespace Nd
open Go.Gar
open Wi (A2 B5 AU A5 B6 mC B7 Ad)
abbrev Nz:List Nat:=[0,1,2,3,12,35]
def FI(m:A2):Bool:=decide (20<m.list.length)||decide (100<m.item.key.length)
theorem Vr(c:Calls):∃b:Bool,qB 29 [c.d] (.b b)/\(b=false->c.op.length<=30/\∀x∈c.op,FI x.msg=false):=by
 refine⟨(c.op.take 31).any (fun x=>FI x.msg)||decide (30<c.op.length),?_,fun h=> ?_⟩
 .obtain⟨R,hR⟩:∃R,R=((c.op.take 31).any (fun x=>FI x.msg)||decide (30<c.op.length)):=⟨_,rfl⟩;rw[<-hR];refine zF A4 Tryz.func29 ?_;unfold Calls.d Calls.cells;refine wd Nz [] A0 A0 ?_;refine CF (fun k=>k<=c.op.length/\k<=31/\(c.op.take k).any (fun x=>FI x.msg)=false) (fun k:Nat=>[(3,.pY k)]) (fun k=>c.op.length-k) 0 ⟨qP _,qP _,rfl⟩ (fun _=>rfl) ?_ ?_
  .exact A1.ck rfl
  rintro k ⟨hk,hk2,hpre⟩
  by_cases hkl:k<c.op.length
  .by_cases h31:k<31
   .have f1:decide ((k:Int)<(c.op.length:Int))=true:=qM om;have f2:decide ((k:Int)<=30)=true:=qM om;obtain⟨x,hx⟩:=AT hkl;have hA:=GN (p:=fun x:Call=>FI x.msg) hx;rw[hpre,su]at hA;have hL:FI x.msg=(decide (20<x.msg.list.length)||decide (100<x.msg.item.key.length)):=rfl
    have h2:(c.op.take (k+1)).any (fun x=>FI x.msg)=true->R=true:=fun e=>by
     rw[hR,show c.op.take 31=c.op.take (k+1)++(c.op.drop (k+1)).take (31-(k+1))by rw[<-List.take_add];congr 1;omega,List.any_append,e];rfl
    have ix1:=hx;refine wd Nz [] (AX f1 f2) A0 ?_;clear ix1;with_reducible repeat' first|constructor|intro hc;try simp only[AB]at hc
    all_goals first
     |(refine⟨_,_,rfl,rfl,?_⟩;simp only[H8];refine congrArg D.b ?_;grind)
     |(refine⟨k+1,⟨hkl,om,by rw[hA];grind⟩,om,qG _,?_⟩;exact A1.ck rfl)
   .have f1:decide ((k:Int)<(c.op.length:Int))=true:=qM om;have f2:decide ((k:Int)<=30)=false:=qO om
    have hF:decide ((c.op.length:Int)>30)=R:=by
     have e:k=31:=om
     subst e;rw[hR,hpre,su];exact decide_eq_decide.2 om
    refine wd Nz [] (C3 f1 f2 hF) A0 ?_;exact zE
  .have f1:decide ((k:Int)<(c.op.length:Int))=false:=qO om
   have hF:decide ((c.op.length:Int)>30)=R:=by
    have e:k=c.op.length:=om
    rw[hR,show c.op.take 31=c.op.take k by rw[sS om,sS om],hpre,su];exact decide_eq_decide.2 om
   refine wd Nz [] (AX f1 hF) A0 ?_;exact zE
 .rw[Bool.or_eq_false_iff,uJ]at h;refine⟨om,fun x hx=> ?_⟩;rw[sS om]at h;exact Bool.eq_false_iff.2 (uF.1 h.1 x hx)
end Nd
end Go.Proofs.YtkljbfejbakooaaGreatDoor
