/- Part 29 of a proof. Conditions: those that its theorems state. -/
import Derived.Test.YthlmmkmeoblbhaaGreatQ15
import Derived.Test.YthlmmkmeoblbhaaGreatQ28
set_option linter.unusedSimpArgs false
set_option linter.unusedVariables false
set_option linter.unnecessarySimpa false
set_option maxHeartbeats 40000000
set_option maxRecDepth 4000
namespace Go.Proofs.YthlmmkmeoblbhaaGreat
namespace Nd
open Go.Gar
open Wi (AE BE Ay AU C2 CG Ac)
def GC(A2:Ao)(g:Af):Prop:=(g.harmed=false/\∃m:AE,m.right=true/\Ej A2 m=false/\g.by_=(CG m).1)\/(g.harmed=true/\(Ac g.by_).2≠0)
structure NC (n:A6):Prop where
 f:Fine n
 s:∀p∈n.BL,Ej n.A4.A2 p.AA=false
structure RX (c:CS):Prop where
 w:CW c
 j:CJ c
 n:∀n∈c.nodes,NC n
 g:∀g∈c.bag.grams,GC c.A2 g
variable {A2:Ao}{m:AE}
theorem Tx(h:m.AG≠7):Ej A2 m=false:=by
 unfold Ej;rw[yY h];rfl
variable {g:Af}
theorem Zo{id:Int}(h:tI id g):GC A2 g:=by
 obtain⟨m,h1,h2,h3,rfl⟩:=h;exact .inl ⟨rfl,m,h1,Tx (by have:=HL.1 h2;omega),rfl⟩
theorem kX(h:GC A2 g):Fg A2 g=false:=by
 unfold Fg;rcases h with⟨_,m,h1,h2,h3⟩|⟨_,h⟩
 .rw[h3,Px h1,h2,q0W]
 .rw[yY h];rfl
variable {c:CS}
theorem fP(h:RX c):NA c.c c.bag.grams=true:=by
 unfold NA;rw[h.w.right,zy,yU,q0H,q0H,q0O,q0O];constructor
 .intro n hn;have hc:=h.n n hn;have hb:=(h.w.n.nb n hn).2;show ¬GO c.A2 n=true;rw[<-hb,Bool.not_eq_true];unfold GO;have h1:FI n.A4.id n.A4.A8 n.A4.A2=false:=hc.f.l;rw[h1,q0N,q14];refine⟨?_,?_⟩
  .by_cases hp:n.A3=1\/n.A3=2
   .rw[hc.f.o hp,q0W]
   .rw[yY (fun e=>hp (.inl e)),yY (fun e=>hp (.inr e))];rfl
  .rw[q0O];intro p hp;unfold Kl;rw[hc.s p hp];exact q1C
 .intro g hg;show ¬Fg c.A2 g=true;rw[kX (h.g g hg)];exact q1C
variable {n:A6}
theorem sd(h:NB n)(k:NC n):NC (EW n).1/\∀g∈(EW n).2,GC n.A4.A2 g:=by
 have a:=si h;refine⟨⟨fp h k.f,?_⟩,fun g hg=>Zo (a.g g hg)⟩;rw[a.BL,(X4 h).2.1.A2];exact k.s
theorem uF(h:NB n)(k:NC n)(AR:Int){x:AL}(hx:x.AH.length<=big):NC (Gg n AR x).1.1/\∀g∈(Gg n AR x).1.2,GC n.A4.A2 g:=by
 have a:=uH h AR hx;refine⟨⟨?_,?_⟩,fun g hg=>Zo (a.g g hg)⟩
 .unfold Gg;split
  .split
   .exact Gk (h.start hx) (ND k.f)
   .exact k.f
  .exact k.f
 .rw[a.BL,(Xc h AR x hx).A2];exact k.s
theorem XZ(hs:E7 n m=true)(h7:(BC n m).2.AG=7):(BC n m).2.A8=n.A4.A8:=by
 have ha:=(Gu.1 hs).1;have hk:=HL.1 ha;unfold BC at h7|-;rw[Jp ha]at h7|-;dsimp only at h7|-;split
 .rfl
 .rename_i h1;rw[zO h1]at h7;exfalso;split at h7
  .dsimp only at h7;omega
  split at h7
  .dsimp only at h7;omega
  split at h7
  .unfold Sl at h7;rw[Jp ha]at h7;dsimp only at h7;split at h7
   .dsimp only at h7;omega
   .cases h7
  split at h7
  .dsimp only at h7;omega
  split at h7
  .dsimp only at h7;omega
  .cases h7
theorem oc(h:NB n)(k:NC n)(hs:E7 n m=true):(∀p∈(Bv n m).1.BL,Ej n.A4.A2 p.AA=false)/\Ej n.A4.A2 (Bv n m).2=false:=by
 have ht:Ej n.A4.A2 (BC n m).2=false:=by
  by_cases h7:(BC n m).2.AG=7
  .unfold Ej;rw[XZ hs h7,(K2 hs).2.2.1];have h1:FI n.A4.id n.A4.A8 n.A4.A2=false:=k.f.l;rw[h1,q0W]
  .exact Tx h7
 unfold Bv;rw[zN hs];split
 .rename_i hf;obtain⟨p,hp,_,_,e⟩:=Pv hf;refine⟨k.s,?_⟩;dsimp only;rw[e];exact k.s p hp
 .refine⟨fun p hp=> ?_,ht⟩;rcases VS hp with hp|rfl
  .have:(BC n m).1.BL=n.BL:=(PE h hs).2.2.2.2.2.1;exact k.s p hp
  .exact ht
theorem sX(h:NB n)(k:NC n)(hg:GC n.A4.A2 g):NC (ET n g.by_).1/\∀x∈(ET n g.by_).2,GC n.A4.A2 x:=by
 rcases hg with⟨_,m,h1,h2,h3⟩|⟨_,hh⟩
 .rw[h3]
  have hF:Fine (ET n (CG m).1).1:=fj h k.f h1 fun h7=>by
   unfold Ej at h2;rw[yX h7,zy]at h2;exact h2
  have hB:=(X1 h (CG m).1).2.1.A2
  have hS:(∀p∈(ET n (CG m).1).1.BL,Ej n.A4.A2 p.AA=false)/\∀x∈(ET n (CG m).1).2,GC n.A4.A2 x:=by
   unfold ET;rw[zN h.r,Px h1];split
   .exact⟨k.s,fun x hx=>(by cases hx)⟩
   rename_i hd;dsimp only at hd|-;have hd':m.dst=n.A4.id:=q1A fun e=>hd (.inr e)
   split
   .rename_i ha;have hs:E7 n m=true:=Gu.2 ⟨ha,h1,hd',h.r⟩;have a:=oc h k hs;have t:=(Og h hs).2.2.2.2.2.2.2.2.1;refine⟨a.1,fun x hx=> ?_⟩;rw[Cu t,q00]at hx;subst hx;exact .inl ⟨rfl,_,t,a.2,rfl⟩
   split
   .have hn:=h.close m;have sa:SA n.A4.id n.BL ({n with AI:=(Bi n.AI m).1},[]):=⟨hn,rfl,rfl,fun x hx=>(by cases hx)⟩;have a:=Om (g:=[]) sa (OC {n with AI:=(Bi n.AI m).1} (Bi n.AI m).2.1 m) (hn.heard (q0E (MF h1) (by decide)));refine⟨?_,fun x hx=>Zo (a.g x hx)⟩;rw[a.BL];exact k.s
   .exact⟨k.s,fun x hx=>(by cases hx)⟩
  refine⟨⟨hF,?_⟩,hS.2⟩;rw[hB];exact hS.1
 .have e:ET n g.by_=({n with bad:=if n.bad<1099511627776 then n.bad+1 else n.bad},[]):=by
   unfold ET;rw[zN h.r,zN (.inl hh)]
  rw[e];exact⟨⟨⟨k.f.l,k.f.o⟩,k.s⟩,fun x hx=>(by cases hx)⟩
theorem mO(h:NB n):∀g∈GP n,GC A2 g:=by
 intro g hg;obtain⟨k,hk⟩:=q0e.1 hg;obtain⟨x,m,_,h2,h3,_,_,h6⟩:=(Uq h).2 k g hk;subst h6;exact .inl ⟨rfl,m,h2,Tx om,rfl⟩
theorem me{p:Int}(hp:BE p=true)(hb:Ga A2=true):NC (De p A2).1:=by
 obtain⟨e,h,_⟩:=T7 hp hb;have h0:(newT p A2).2=0:=q1A fun hn=>by unfold De at e;rw[zO hn]at e;cases e
 have e1:De p A2=(⟨(newT p A2).1,0,⟨p,0,[]⟩,[],0,0,Hb,Hb,Hb,0,[],[],0⟩,0):=by unfold De;rw[zN h0,zN hp]
 have hl:(newT p A2).1.A8=[]:=by unfold newT newV;split<;>rfl
 rw[e1];refine⟨⟨?_,fun k=>by dsimp only at k;omega⟩,fun p hp=>(by cases hp)⟩;show FI _ (newT p A2).1.A8 _=false;rw[hl];rfl
theorem OT:∀(l:List Af){b:Bg.Dr}{g:Af},g∈(Bg.I4 b l).grams->g∈b.grams\/g∈l
 |[],_,_,h=> .inl h
 |x::r,b,g,h=>by
  rcases OT r (b:=Bg.step b x) h with h|h
  .unfold Bg.step at h;split at h
   .rcases q04.1 h with h|h
    .exact .inl h
    .rw[q00]at h;subst h;exact .inr (q02 ..)
   .exact .inl h
  .exact .inr (q05 _ h)
theorem so{u:UInt8}{m:Int}(h0:0<=m)(h1:m<=255)(h:UInt8.ofNat (Bg.ZW u m).toNat=u):m=0:=by
 have hx:=Bg.em u m
 have h2:(Bg.ZW u m).toNat=u.toNat:=by
  have:=congrArg UInt8.toNat h;rw[q0o]at this;omega
 unfold Bg.ZW Cx at h2;simp only[Sp]at h2
 have hb:∀a b:BitVec 8,((((a^^^b).toNat:Int))%256).toNat=a.toNat->b=0#8:=by
  intro a b hh;have h3:(a^^^b).toNat<256:=(a^^^b).isLt;have h4:(a^^^b).toNat=a.toNat:=om
  have h5:a^^^b=a:=BitVec.eq_of_toNat_eq h4;have h6:a^^^(a^^^b)=0#8:=by rw[h5,BitVec.xor_self]
  rw[<-BitVec.xor_assoc,BitVec.xor_self,BitVec.zero_xor]at h6;exact h6
 have hu:(BitVec.ofInt 8 (u.toNat:Int)).toNat=u.toNat:=by
  have:=u.toNat_lt;rw[BitVec.toNat_ofInt];omega
 have h3:=hb (BitVec.ofInt 8 (u.toNat:Int)) (BitVec.ofInt 8 m) (by rw[hu];exact h2);have h4:=congrArg BitVec.toNat h3;rw[BitVec.toNat_ofInt]at h4;simp at h4;omega
theorem qY{i:Nat}{m:Int}(hg:GC A2 g)(hh:g.harmed=false)(hi:i<g.by_.length)(h0:0<=m)(h1:m<=255)(hm:m≠0):GC A2 (Bg.O9 g i m):=by
 refine .inr ⟨rfl,fun e=> ?_⟩;rcases hg with⟨_,q,q1,_,q3⟩|⟨e,_⟩
 .have hp:=Wi.LS q1;rw[Wi.Wm q1]at q3;dsimp only at q3;have e2:(Ac (Bg.IT g.by_ i m)).2=0:=e
  have e3:(Wi.Bl (Bg.IT g.by_ i m)).2=0:=by
   unfold Ac at e2;split at e2
   .assumption
   .exact e2
  rcases Wi.TI (b:=Bg.IT g.by_ i m) (p:=(Wi.Bl (Bg.IT g.by_ i m)).1) (e:=(Wi.Bl (Bg.IT g.by_ i m)).2) rfl with⟨_,k2,k3⟩|⟨k,_⟩|⟨k,_⟩
  .generalize(Wi.Bl (Bg.IT g.by_ i m)).1=q' at k2 k3;unfold Bg.IT at k3;rw[q3]at k3 hi;have:=qG (p:=Wi.Ei q) (q:=q') om k2 hi k3;exact hm (so h0 h1 this)
  .omega
  .omega
 .rw[hh]at e;cases e
theorem S9(h:RX c){i:Nat}{m:A6}(hi:c.nodes[i]? =some n){b:Bg.Dr}(hb:∀g∈b.grams,GC c.A2 g){gs:List Af}(hm:NC m)(hg:∀g∈gs,GC c.A2 g)(hw:CW (If ⟨c.nodes.set i m,c.gone,c.A2,b⟩ gs))(hj:CJ (If ⟨c.nodes.set i m,c.gone,c.A2,b⟩ gs)):RX (If ⟨c.nodes.set i m,c.gone,c.A2,b⟩ gs):=by
 refine⟨hw,hj,fun x hx=> ?_,fun g hg'=> ?_⟩
 .rcases q0t hx with hx|rfl
  .exact h.n x hx
  .exact hm
 .rcases OT gs hg' with hg'|hg'
  .exact hb g hg'
  .exact hg g hg'
theorem Vu(h:RX c){r:Bg.Dr×Int}(hw:CW (Nn c r).1)(hr:∀g∈r.1.grams,GC c.A2 g):RX (Nn c r).1:=by
 unfold Nn at *;split
 .rename_i e;rw[zN e]at hw;exact⟨hw,h.j,h.n,hr⟩
 .exact h
theorem kU(h:RX c)(p:Int):RX (J9 c p).1:=by
 have hw:=(ei h.w p).w;have hj:CJ (J9 c p).1:=Ol h.j ⟨1,p,0,0,[],AN⟩;unfold J9 at*
 cases hi:DX c.nodes p with
 |none=>exact h
 |some i=>
  obtain⟨n,h1,h2,h3,_⟩:=h.w.node hi;have hn:=zM h1;rw[hi]at hw hj;dsimp only at hw hj|-;rw[h2]at hw hj|-;have a:=sd h3 (h.n n hn);rw[(h.w.n.nb n hn).2]at a;exact S9 h h1 h.g a.1 a.2 hw hj
theorem dH(h:RX c)(p AR:Int){x:AL}(hx:x.AH.length<=big)(hj:CJ (IK c p AR x).1):RX (IK c p AR x).1:=by
 have hw:=(Zq h.w p AR hx).w;unfold IK at*
 cases hi:DX c.nodes p with
 |none=>exact h
 |some i=>
  obtain⟨n,h1,h2,h3,_⟩:=h.w.node hi;have hn:=zM h1;rw[hi]at hw hj;dsimp only at hw hj|-;rw[h2]at hw hj|-;have a:=uF h3 (h.n n hn) AR hx;rw[(h.w.n.nb n hn).2]at a;split
  .rename_i e;rw[zN e]at hw hj;exact S9 h h1 h.g a.1 a.2 hw hj
  .exact h
theorem Xh(h:RX c)(p:Int):RX (DU c p).1:=by
 have hw:=(SF h.w p).w;have hj:CJ (DU c p).1:=Ol h.j ⟨2,p,0,0,[],AN⟩;unfold DU at *;split
 .rename_i ha;rw[zN ha]at hw hj;have hE:∀g∈(c.bag.grams.eraseIdx p.toNat),GC c.A2 g:=fun g hg=>h.g g (q1P hg)
  have hG:GC c.A2 (c.bag.grams.getD p.toNat Bg.Fx):=by
   obtain⟨k,e,hk⟩:=Bg.HO ha;obtain⟨x,hx⟩:=AS hk;rw[e,q0m,zJ,hx];exact h.g x (zM hx)
  generalize c.bag.grams.getD p.toNat Bg.Fx=g at *;unfold Uh at*
  cases hi:DX c.nodes g.to with
  |none=>
   rw[hi]at hw hj;exact⟨hw,hj,h.n,hE⟩
  |some i=>
   obtain⟨n,h1,h2,h3,_⟩:=h.w.node hi;have hn:=zM h1;rw[hi]at hw hj;dsimp only at hw hj|-;rw[h2]at hw hj|-;have a:=sX h3 (h.n n hn) (g:=g) (by rw[(h.w.n.nb n hn).2];exact hG);rw[(h.w.n.nb n hn).2]at a;exact S9 (b:=⟨c.bag.grams.eraseIdx p.toNat,c.bag.lost⟩) h h1 hE a.1 a.2 hw hj
 .exact h
theorem kT(h:RX c)(p:Int):RX (HP c p).1:=by
 have hw:=(dj h.w p).w;have hj:CJ (HP c p).1:=Ol h.j ⟨7,p,0,0,[],AN⟩;unfold HP at *;split
 .rename_i hc;rw[zN hc]at hw hj
  have hp:BE p=true:=by
   unfold QM at hc;rw[yU]at hc;exact hc.1
  refine⟨hw,hj,fun n hn=> ?_,h.g⟩;rcases Qv.1 hn with rfl|hn
  .exact me hp h.w.n.b
  .exact h.n n hn
 .exact h
theorem Xi(h:RX c)(p:Int)(lv:Bool)(hj:CJ (GL c p lv).1):RX (GL c p lv).1:=by
 have hw:=(WH h.w p lv).w;unfold GL at*
 cases hi:DX c.nodes p with
 |none=>exact h
 |some i=>
  obtain⟨n,h1,h2,h3,_⟩:=h.w.node hi;rw[hi]at hw hj;dsimp only at hw hj|-;rw[h2]at hw hj|-;split
  .exact h
  .rename_i hc;rw[zO hc]at hw hj;refine⟨hw,hj,fun x hx=>h.n x (q1P hx),fun g hg=> ?_⟩;dsimp only at hg;split at hg
   .rcases OT _ hg with hg|hg
    .exact h.g g hg
    .exact mO h3 g hg
   .exact h.g g hg
theorem kR(h:RX c)(s:Step):RX (Sj c s).1:=by
 unfold Sj;split
 .rename_i hc;have hw:=(PG h.w (dV h.w.b s.a s.b s.c)).w;refine Vu h hw ?_;unfold Bg.LI;split
  .rename_i ha;rw[yU]at ha;obtain⟨k,e,hk⟩:=Bg.HO ha.1;obtain⟨x,hx⟩:=AS hk
   have hG:c.bag.grams.getD s.a.toNat Bg.Fx=x:=by
    rw[e,q0m,zJ,hx];rfl
   have ho:=ha.2;rw[hG]at ho|-;unfold Bg.Sk at ho;simp only[yU,yc,q0H,q1Q]at ho;intro g hg;rcases q0t hg with hg|rfl
   .exact h.g g hg
   .exact qY (h.g x (zM hx)) ho.1.2 om hc.1 hc.2 ho.2
  .exact h.g
 .exact h
theorem Xj(h:RX c){s:Step}(hk:s.AG≠6)(hx:s.AC.AH.length<=big):RX (stepS c s).1:=by
 have hj:=Ol h.j s;unfold stepS at hj|-;split
 .exact kU h _
 rename_i k1;rw[zO k1]at hj;split
 .exact Xh h _
 rename_i k2;rw[zO k2]at hj;split
 .refine Vu h (PG h.w (dI h.w.b _)).w ?_;unfold Bg.Ke;split
  .exact fun g hg=>h.g g (q1P hg)
  .exact h.g
 rename_i k3;rw[zO k3]at hj;split
 .refine Vu h (PG h.w (ZT h.w.b _)).w ?_;unfold Bg.Hn;split
  .rename_i ha;obtain⟨k,e,hk⟩:=Bg.HO ha;obtain⟨x,hx⟩:=AS hk;intro g hg;rcases OT _ hg with hg|hg
   .exact h.g g hg
   .rw[q00,e,q0m,zJ,hx]at hg;subst hg;exact h.g _ (zM hx)
  .exact h.g
 rename_i k4;rw[zO k4]at hj;split
 .exact kR h s
 rename_i k5;rw[zO k5,zO hk]at hj;split
 .exact kT h _
 rename_i k7;rw[zO k7]at hj;split
 .rename_i k8;rw[zN k8]at hj;exact Xi h _ _ hj
 rename_i k8;rw[zO k8]at hj;split
 .rename_i k9;rw[zN k9]at hj;exact Xi h _ _ hj
 rename_i k9;rw[zO k9]at hj;split
 .rename_i k10;rw[zN k10]at hj;exact dH h _ _ hx hj
 rename_i k10;rw[zO k10]at hj;split
 .rename_i k11;rw[zN k11]at hj;exact dH h _ _ (x:=⟨s.AC.AH,0,0,false⟩) hx hj
 .exact h
theorem qH(h:Ga A2=true):RX (newS A2).1:=by
 have hw:=ul h;have e:newS A2=(⟨A2.map fun p=>(De p A2).1,[],A2,⟨[],0⟩⟩,0):=zN h
 have hpl:∀p∈A2,BE p=true:=by
  unfold Ga at h;simp only[yU]at h;exact(Oc.1 h.2.2).1
 rw[e]at hw|-;refine⟨hw,fun n hn=> ?_,fun n hn=> ?_,fun g hg=>(by cases hg)⟩
 .obtain⟨p,hp,rfl⟩:=q0q.1 hn;exact mf _ _
 .obtain⟨p,hp,rfl⟩:=q0q.1 hn;exact me (hpl p hp) h
theorem dG{c:CS}(h:RX c):∀(l:List Step),(∀s∈l,s.AG≠6/\s.AC.AH.length<=big)->RX (He c l)
 |[],_=>h
 |s::r,hl=>dG (Xj h (hl s (q02 ..)).1 (hl s (q02 ..)).2) r fun x hx=>hl x (q05 _ hx)
abbrev Ma:BK:=[0,1,4,5,6,7,8,15,23,30,42]
theorem md(A2:Ao):OK A2=((newS A2).1.c,(newS A2).2):=by
 cases h:Ga A2 with
 |true=>
  have hpl:∀p∈A2,BE p=true:=by
   have:=h;unfold Ga at this;simp only[yU]at this;exact(Oc.1 this.2.2).1
  have e1:newS A2=(⟨A2.map fun p=>(De p A2).1,[],A2,⟨[],0⟩⟩,0):=zN h;have e2:OK A2=(⟨A2.map fun b=>(I3 b A2).1,[],A2,[],0⟩,0):=zN h;rw[e1,e2];have e3:(A2.map fun b=>(I3 b A2).1)=A2.map fun p=>(De p A2).1:=List.map_congr_left fun p hp=>by rw[dx (hpl p hp) h]
  rw[e3];rfl
 |false=>
  have hn:¬(decide (2<=A2.length)&&(decide (A2.length<=4)&&Hk A2))=true:=by
   intro e;unfold Ga at h;rw[e]at h;cases h
  have e1:newS A2=(⟨[],[],[],⟨[],0⟩⟩,2):=zO (by rw[h];exact q1C);have e2:OK A2=(X8,2):=zO hn;rw[e1,e2];rfl
theorem iI(A2:Ao)(hb:∀y∈A2,i64 y)(hl:A2.length<=1000):yA 7 [.is A2] (.tup [(newS A2).1.c.d,.yE (newS A2).2]):=by
 have:=TX A2 hb hl;rwa [md]at this
def Il(l:List Step):List Step:=l.filter fun s=>decide (s.AG≠6)
theorem jP{l:List Step}{k:Nat}{x:Step}(hx:l[k]? =some x):Il (l.take (k+1))=Il (l.take k)++(if x.AG=6 then[]else[x]):=by
 unfold Il;rw[AM hx,List.filter_append]
 by_cases h:x.AG=6<;>simp[h]
theorem cG(l:List Step)(hl:l.length<=1000000):yA 8 [stepsD l] (stepsD (Il l)):=by
 refine zF AK Tryz.func8 ?_;unfold stepsD;refine A9 [0,2,3,4,8,16] ?_;with_reducible repeat' first|constructor|intro hc
 refine Av (A5.EQ 3 (.sl 9 []) rfl rfl rfl (by simp[Aq])) sm ?_;refine CO (fun k=>k<=l.length) (fun k:Nat=>[(3,.sl 0 (Il (l.take k)).length 9),(4,.y5 k)]) (fun k=>[(0,.a (.sl 9 ((Il (l.take k)).map Step.A1)))]) (fun k=>l.length-k) 0 (yx _) (fun _=>rfl) (fun _=>rfl) ?_ ?_
 .exact A5.cut rfl (by repeat'(first|exact zi|refine yg (by(first|rfl|((with_reducible_and_instances refine congrArg (fun z=>some (AV.d (D.i _ z))) ?_);omega)|(refine congrArg (fun z=>some (AV.d (D.i _ z))) (?_:(_:Int)=_);omega)|(refine congrArg some ?_;simp only[Il];done)|(refine congrArg some ?_;simp[Il];done))) ?_)) (by repeat'(first|exact zi|refine yg (q0D rfl) ?_|refine yg (q0w ⟨rfl,rfl⟩) ?_|refine yg (q0D (by simp only[Il])) ?_|refine yg (q0D (by simp[Il])) ?_)) (by first|rfl|(simp(decide:=true) [Ai,AF.ok,AV.oks,AV.ok,hk];done)) rfl
 intro k hk;have htl:(Il (l.take k)).length<=k:=q0E (q0b _ _) (q0Q _ _)
 by_cases hkl:k<l.length
 .obtain⟨x,hx⟩:=AS hkl;have hn:=jP hx
  by_cases h6:x.AG=6
  .rw[zN h6,q07]at hn;have f1:=BJ h6;have ix1:=hx;refine Ae [0,2,3,4,8,16] ?_ (AQ f1);clear ix1;with_reducible repeat' first|constructor|intro hc
   refine⟨k+1,hkl,om,yV _,?_⟩;exact A5.cut rfl (by repeat'(first|exact zi|refine yg (by(first|rfl|((with_reducible_and_instances refine congrArg (fun z=>some (AV.d (D.i _ z))) ?_);omega)|(refine congrArg (fun z=>some (AV.d (D.i _ z))) (?_:(_:Int)=_);omega)|(refine congrArg some ?_;simp only[hn];done)|(refine congrArg some ?_;simp[hn];done))) ?_)) (by repeat'(first|exact zi|refine yg (q0D rfl) ?_|refine yg (q0w ⟨rfl,rfl⟩) ?_|refine yg (q0D (by simp only[hn])) ?_|refine yg (q0D (by simp[hn])) ?_)) (by first|rfl|(simp(decide:=true) [Ai,AF.ok,AV.oks,AV.ok,hk];done)) rfl
  .rw[zO h6]at hn;have f1:=Bp h6;have ix1:=hx;refine Ae [0,2,3,4,8,16] ?_ (AQ f1);clear ix1;with_reducible repeat' first|constructor|intro hc
   refine⟨k+1,hkl,om,yV _,?_⟩;exact A5.cut rfl (by repeat'(first|exact zi|refine yg (by(first|rfl|((with_reducible_and_instances refine congrArg (fun z=>some (AV.d (D.i _ z))) ?_);omega)|(refine congrArg (fun z=>some (AV.d (D.i _ z))) (?_:(_:Int)=_);omega)|(refine congrArg some ?_;simp only[hn,zS,zV,zh,Step.A1,yw,yu,zI];done)|(refine congrArg some ?_;simp[hn,zS,zV,zh,Step.A1,yw,yu,zI];done))) ?_)) (by repeat'(first|exact zi|refine yg (q0D rfl) ?_|refine yg (q0w ⟨rfl,rfl⟩) ?_|refine yg (q0D (by simp only[hn,zS,zV,zh,Step.A1,yw,yu,zI])) ?_|refine yg (q0D (by simp[hn,zS,zV,zh,Step.A1,yw,yu,zI])) ?_)) (by first|rfl|(simp(decide:=true) [Ai,AF.ok,AV.oks,AV.ok,hk];done)) rfl
 .have e:k=l.length:=om
  subst e;rw[zU];refine A9 [0,2,3,4,8,16] ?_;with_reducible repeat' first|constructor|intro hc
  exact BO @stepsD.eq_1
abbrev ccD(c:CS):yq:=[.d (A7 c.nodes),.yD c.gone,.yD c.A2,.d (.sl 3 (c.bag.grams.map Af.A1)),.y5 c.bag.lost]
theorem dF(h:RX c):yA 10 [c.c.d] (.b true):=by
 have:=RU c.c c.bag.grams h.w.cok rfl (fun g hg=>q0E (h.w.b.s g hg) (by decide));rwa [fP h]at this
theorem Tg(A2:Ao)(l:List Step)(hb:∀y∈A2,i64 y)(hn:A2.length<=9223372036854775807)(hl:l.length<=9223372036854775807):yA 3 [.is A2,stepsD l] (.b true):=by
 have c1:=Ii l hl;have c2:=cF;refine zF AK Tryz.func3 ?_
 cases hs:Na l with
 |true=>
  rw[hs]at c1;refine AP Ma ?_ (B1 @c1 @c2);with_reducible repeat' first|constructor|intro hc
  exact zE
 |false=>
 rw[hs]at c1
 by_cases h9:A2.length>9
 .have f1:decide ((A2.length:Int)>9)=true:=yX om;refine AD Ma ?_ (AQ f1) (B1 @c1 @c2);with_reducible repeat' first|constructor|intro hc
  exact zE
 have f1:decide ((A2.length:Int)>9)=false:=yY om;have c3:=iI A2 hb om
 by_cases hr:Ga A2=true
 case neg=>
  have e1:newS A2=(⟨[],[],[],⟨[],0⟩⟩,2):=zO hr;rw[e1]at c3;unfold CS.c BF.d BF.A1 at c3;dsimp only at c3;refine AD Ma ?_ (AQ f1) (DO @c1 @c2 @c3);with_reducible repeat' first|constructor|intro hc
  exact zE
 case pos=>
 have hc:=qH hr;have h0:(newS A2).2=0:=by unfold newS;rw[zN hr]
 rw[h0]at c3;generalize(newS A2).1=q0 at*
 have hl60:l.length<=60/\∀s∈l,bigS s=false:=by
  unfold Na at hs;rw[q14,zn,q0O]at hs;exact⟨om,fun s h=>by simpa using hs.1 s h⟩
 have c4:=cG l om
 have hm:∀s∈Il l,s.AG≠6/\s.AC.AH.length<=big:=fun s h=>by
  unfold Il at h;obtain⟨h1,h2⟩:=List.mem_filter.1 h;have:=hl60.2 s h1;unfold bigS at this;refine⟨q1H h2,?_⟩;simp only[q14,zn]at this;have hbig:big=9223372036854775807\/100000<=big:=by decide
  omega
 have hml:(Il l).length<=60:=q0E (q0b _ _) hl60.1;generalize Il l=m at *;clear hs hl60 hr h0 hb hn hl;unfold CS.c BF.d BF.A1 at c3;dsimp only at c3;unfold stepsD at c4 c1|-;refine AD Ma ?_ (AQ f1) (DO @c1 @c3 @c4);with_reducible repeat' first|constructor|intro hc
 clear c1 c3 c4;refine CO (fun k=>k<=m.length) (fun k:Nat=>[(8,.y5 k)]) (fun k=>[(0,.c (ccD (He q0 (m.take k))))]) (fun k=>m.length-k) 0 (yx _) (fun _=>rfl) (fun _=>rfl) ?_ ?_
 .exact A5.cut rfl (by repeat'(first|exact zi|refine yg (by(first|rfl|((with_reducible_and_instances refine congrArg (fun z=>some (AV.d (D.i _ z))) ?_);omega)|(refine congrArg (fun z=>some (AV.d (D.i _ z))) (?_:(_:Int)=_);omega)|(refine congrArg some ?_;simp only[He];done)|(refine congrArg some ?_;simp[He];done))) ?_)) (by repeat'(first|exact zi|refine yg (q0D rfl) ?_|refine yg (q0w ⟨rfl,rfl⟩) ?_|refine yg (q0D (by simp only[He])) ?_|refine yg (q0D (by simp[He])) ?_)) (by first|rfl|(simp(decide:=true) [Ai,AF.ok,AV.oks,AV.ok,hk];done)) rfl
 intro k hk;have hck:=dG hc (m.take k) fun s h=>hm s (List.mem_of_mem_take h)
 by_cases hkl:k<m.length
 .obtain⟨s,hx⟩:=AS hkl;have hs:=hm s (zM hx)
  have hnx:He q0 (m.take (k+1))=(stepS (He q0 (m.take k)) s).1:=by
   unfold He;rw[AM hx,q19];rfl
  have c5:=gz (He q0 (m.take k)) [s] hck.w hck.j sm (fun x hx=>by rw[q00.1 hx];exact hs.2);have hn1:=Xj hck hs.1 hs.2;have c6:=dF hn1;rw[show He (He q0 (m.take k)) [s]=(stepS (He q0 (m.take k)) s).1 from rfl]at c5;rw[<-hnx]at c5 c6;clear hn1 hnx hck;unfold CS.c BF.d BF.A1 at c5 c6;unfold stepsD at c5;simp only[zV,zh,Step.A1]at c5;dsimp only at c5 c6;have ix1:=hx;refine AP Ma ?_ (B1 @c5 @c6);clear ix1;with_reducible repeat' first|constructor|intro hc
  refine⟨k+1,hkl,om,yV _,?_⟩;exact A5.ck rfl
 .have e:k=m.length:=om
  have c6:=dF hck;subst e;unfold CS.c BF.d BF.A1 at c6;dsimp only at c6;refine AP Ma ?_ (B1 @c6 @c2);with_reducible repeat' first|constructor|intro hc
  exact zE
end Nd
end Go.Proofs.YthlmmkmeoblbhaaGreat
