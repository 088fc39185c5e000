/- Part 37 of a proof. Conditions: those that its theorems state. -/
import Derived.Test.YtamjpnmjpponpaaGreatDoorC30
import Derived.Test.YtamjpnmjpponpaaGreatDoorC36
set_option linter.unusedSimpArgs false
set_option linter.unusedVariables false
set_option linter.unnecessarySimpa false
set_option maxHeartbeats 40000000
set_option maxRecDepth 4000
namespace Go.Proofs.YtamjpnmjpponpaaGreatDoor
namespace Nd
open Go.Gar
open Wi (AF BV B7 AU Bp Cp Bc)
variable {L:Nat}
theorem dG(v:AG)(j:B9)(h:j.left.length<=L)(hL:3<=L):(GB v j).job.left.length<=L:=by
 unfold GB;split
 .exact zi _
 split
 .exact h
 split
 .exact zi _
 split
 .have:=(VS v.id ⟨j.AR,j.A5,j.Ap,j.AC,j.Ap.CF,j.left,j.Aa⟩ j.Ap.CF v.AB).2.2;omega
 split
 .exact h
 split
 .exact zi _
 .exact h
theorem rP(v:AG)(j:B9)(m:AF)(h:j.left.length<=L)(hL:3<=L):(CH v j m).job.left.length<=L:=by
 unfold CH;split
 .split
  .split
   .exact dG v _ h hL
   .exact h
  split
  .split
   .have:=(VS v.id j j.Ao m.AB).2.2;omega
   .exact h
  split
  .split
   .exact q0L (Qg j m.B8 m.Aa).2 h
   .exact h
  split
  .split
   .exact zi _
   .exact h
  .exact h
 .exact h
theorem rM(v:AG)(j:B9)(d:Int)(h:j.left.length<=L)(hL:3<=L):(CE v j d).job.left.length<=L:=by
 unfold CE;split
 .split
  .split
   .exact dG v _ h hL
   .exact h
  split
  .split
   .exact zi _
   .exact h
  split
  .exact q0L (Qg j d 210).2 h
  .exact h
 .exact h
variable {K:Nat}
theorem rE(n:AA)(c:Al)(m:AF)(h:JB L K n)(hL:3<=L)(hm:m.AC.AI.length<=K):JB L K (D4 n c m).1:=by
 have hj:=VR c.Bd h;unfold D4;split
 .split
  .exact⟨h.f,h.m,h.c⟩
  split
  .exact VH _ _ _ _ h ⟨rP _ _ _ hj.l hL,(Nr n.A7 (Gr n c.Bd) m K hj.k hm).2.1⟩
  .exact h
 .exact h
theorem v7(n:AA)(c:Al)(h:JB L K n)(hL:3<=L):JB L K (Dz n c).1:=by
 have hj:=VR c.Bd h;unfold Dz;split
 .dsimp only;split
  .exact⟨h.f,h.m,h.c⟩
  split
  .refine VH {n with A7:=Bu n.A7 c.BD.dst} _ _ _ ⟨h.f,h.m,h.c⟩ ⟨rM _ _ _ hj.l hL,?_⟩;rw[(Nq (Bu n.A7 c.BD.dst) (Gr n c.Bd) c.BD.dst).2.1];exact hj.k
  .exact⟨h.f,h.m,h.c⟩
 .exact h
variable {v:AG}{A5 BH:Int}{m:AF}
theorem oS(h:0<=A5):0<=(Dm v A5 BH m).1.A5:=by
 unfold Dm;split
 .split
  .exact q1C _
  .dsimp only;split
   .exact(by decide:(0:Int)<=2)
   .exact(by decide:(0:Int)<=3)
 .exact h
theorem oP{d:Int}(h:0<=A5):0<=(F6 v A5 BH d).A5:=by
 unfold F6;split
 .split
  .exact q1C _
  .exact h
 .exact h
variable {n:AA}{w AR AP:Int}{x:AS}
theorem oT(h:0<=n.A5):0<=(Bq n w AR AP x).1.A5:=by
 unfold Bq;split
 .rw[(GZ ..).A5];exact h
 .exact h
variable {c:Al}
theorem mQ(h:0<=n.A5):0<=(D4 n c m).1.A5:=by
 unfold D4;split
 .split
  .exact oS h
  split
  .rw[(GZ ..).A5];exact h
  .exact h
 .exact h
theorem rX(h:0<=n.A5):0<=(Dz n c).1.A5:=by
 unfold Dz;split
 .dsimp only;split
  .exact oP h
  split
  .rw[(GZ ..).A5];exact h
  .exact h
 .exact h
theorem qR(h:0<=n.A5):0<=(GA n w).A5:=by
 unfold GA;split
 .split
  .exact q1C _
  split
  .rw[(GZ ..).A5];exact h
  .exact h
 .exact h
abbrev big:Nat:=9223372036854775807
structure NL (n:AA):Prop where
 f:n.AQ.left.length<=1000
 m:n.AX.left.length<=1000
 c:n.AW.left.length<=1000
theorem NL.of(h:JB 1000 K n):NL n:=⟨h.f.l,h.m.l,h.c.l⟩
structure NB (n:AA):Prop where
 r:BL n=true
 l:NL n
 ph:0<=n.A5
theorem NB.j(h:NB n)(K:Nat):JB 1000 (n.AQ.AC.AI.length+(n.AX.AC.AI.length+(n.AW.AC.AI.length+K))) n:=
 ⟨⟨h.l.f,om⟩,⟨h.l.m,om⟩,⟨h.l.c,om⟩⟩
theorem Mu(h:m.right=true):Ay m:=by
 unfold Ay;unfold AF.right at h;rw[zO,zO]at h
 by_cases h7:m.AN=7
 .have:=h.2.2;unfold AF.has at this;simp only[h7]at this;simp only[show ¬((7:Int)=4)by decide,show ¬((7:Int)=5)by decide,show ¬((7:Int)=6)by decide,q0U,q0X]at this;rw[zO]at this;have h3:=this.2;unfold Wi.F1 at h3;simp only[zO,zW]at h3;omega
 .have hb:=of_decide_eq_true h.2.1
  have e:m.bare.AB=m.AB:=by
   unfold AF.bare
   repeat' split
   all_goals first|rfl|(exfalso;omega)
  rw[<-e,hb];show(AF.empty m).AB.length<=1048576;exact zi _
theorem NB.FG(h:NB n):Hm n:=by
 obtain⟨_,_,_,hv,hc,_,hk,hs,_⟩:=B2.1 h.r;have hv:=Dh hv
 have hl:n.A7.AB.length<=3/\rT n.A7.id 0 n.A7.AB=true:=by
  have:=hv.2.2.1;unfold CU at this;rw[zO,zW]at this;exact this
 have hb:n.A7.A6.length<=4:=by
  have:=hv.2.1;unfold Cn at this;simp only[zO,zW]at this;omega
 obtain⟨⟨_,_,_,c1⟩,c2,_⟩:=C0.1 hc.2;obtain⟨s1,s2,_⟩:=Hb.1 hs;have:=(DJ.1 hk).1;have:=h.l.f;have:=h.l.m;have:=h.l.c;exact⟨Xb hv.1,fun y hy=>Xb (nz _ _ _ hl.2 y hy),om,om,fun x hx=>Mu (Dj.1 (c2 x hx)).1,om,fun x hx=>Mu (Mq.1 (s2 x hx)).1,om,om,om,om,om⟩
theorem NB.hok(h:NB n):wd n:=⟨h.FG,h.ph,h.l.f,h.l.m,h.l.c,zi _,zi _,zi _⟩
theorem NB.start(h:NB n)(hx:x.AI.length<=big):NB (Bq n w AR AP x).1:=
 ⟨(Yg ..).1.right h.r,.of (sM n w AR AP x (h.j x.AI.length) (by decide) om),oT h.ph⟩
theorem NB.heard(h:NB n)(hm:m.AC.AI.length<=big):NB (D4 n c m).1:=
 ⟨(XV ..).right h.r,.of (rE n c m (h.j m.AC.AI.length) (by decide) om),mQ h.ph⟩
theorem NB.lost(h:NB n):NB (Dz n c).1:=⟨(dP ..).right h.r,.of (v7 n c (h.j 0) (by decide)),rX h.ph⟩
theorem NB.busy(h:NB n):NB (GA n w):=⟨(bq ..).right h.r,.of (uX n w (h.j 0)),qR h.ph⟩
theorem NB.Ac{n:AA}(h:NB n){c:Calls}(hi:c.id=n.Ac.id)(hc:Bw c=true):NB {n with Ac:=c}:=by
 refine⟨?_,⟨h.l.f,h.l.m,h.l.c⟩,h.ph⟩;obtain⟨a1,a2,a3,a4,a5,a6,a7,a8,a9⟩:=B2.1 h.r;exact B2.2 ⟨a1,a2,a3,a4,⟨hi.trans a5.1,hc⟩,a6,a7,a8,a9⟩
theorem NB.cB{n:AA}(h:NB n):Bw n.Ac=true/\n.Ac.id=n.A7.id:=(B2.1 h.r).2.2.2.2.1.symm
def MS(id:Int)(g:B0):Prop:=∃m:AF,m.right=true/\m.B8=id/\g=⟨m.dst,(Cp m).1,false⟩
theorem FO(h:m.right=true):GO m=[⟨m.dst,(Cp m).1,false⟩]:=by
 unfold GO;rw[Wi.s6 h,zn rfl]
structure jS (s t:NS):Prop where
 A7:ND s.1.A7 t.1.A7
 AB:t.1.A7.AB=s.1.A7.AB
 Am:t.1.Am=s.1.Am
 BZ:t.1.BZ=s.1.BZ
 last:t.1.last=s.1.last
 bad:t.1.bad=s.1.bad
 Ad:s.1.Ac.Ad<=t.1.Ac.Ad
 keep:t.1.keep=s.1.keep
 nb:NB t.1
 y4:t.1.A5=0\/(t.1.A5=s.1.A5/\t.1.BH=s.1.BH)
 CZ:∃g:List B0,t.2=s.2++g/\(∀x∈g,MS s.1.A7.id x)/\t.1.Ac.op.length=s.1.Ac.op.length+g.length
variable {s:NS}
theorem jS.refl(h:NB s.1):jS s s:=⟨.refl _,rfl,rfl,rfl,rfl,rfl,q1C _,rfl,h,.inr ⟨rfl,rfl⟩,[],sm,fun x hx=>(by cases hx),rfl⟩
variable {t:NS}
theorem jS.trans{u:NS}(h:jS s t)(k:jS t u):jS s u:=by
 obtain⟨g1,a1,a2,a3⟩:=h.CZ;obtain⟨g2,b1,b2,b3⟩:=k.CZ;refine⟨h.A7.trans k.A7,k.AB.trans h.AB,k.Am.trans h.Am,k.BZ.trans h.BZ,k.last.trans h.last,k.bad.trans h.bad,Int.le_trans h.Ad k.Ad,k.keep.trans h.keep,k.nb,?_,g1++g2,by rw[b1,a1,q0Z],fun x hx=> ?_,by rw[q04];omega⟩
 .rcases k.y4 with e|⟨e1,e2⟩
  .exact .inl e
  .rw[e1,e2];exact h.y4
 .rcases q0W.1 hx with hx|hx
  .exact a2 x hx
  .rw[<-h.A7.id];exact b2 x hx
theorem ZN(n:AA)(w:Int):(GA n w).A7.AB=n.A7.AB/\(GA n w).keep=n.keep/\((GA n w).A5=0\/((GA n w).A5=n.A5/\(GA n w).BH=n.BH)):=by
 unfold GA;split
 .split
  .exact⟨rfl,rfl,.inl rfl⟩
  split
  .have g:=GZ n w false ⟨Dg (DW (Gr n w) 100),[],false⟩;refine⟨g.AB,?_,.inr ⟨g.A5,g.BH⟩⟩;unfold B5;simp only[q0E,q0U]
   have hp:∀(a:AA)(j:B9),(QL a w j).keep=a.keep:=fun a j=>by
    unfold QL;repeat' split
    all_goals rfl
   split
   .unfold I0;exact hp _ _
   .exact hp _ _
  .exact⟨rfl,rfl,.inr ⟨rfl,rfl⟩⟩
 .exact⟨rfl,rfl,.inr ⟨rfl,rfl⟩⟩
theorem Y5(h:NB s.1)(a:AF×Int):jS s (PN s a):=by
 unfold PN;split
 .rename_i he;obtain⟨h1,h2,h3,q,hq,h4,h5,e⟩:=dZ h.cB.1 he;have hr:=aY h.cB.1 he;rw[e]at hr|-;refine⟨.refl _,rfl,rfl,rfl,rfl,rfl,by dsimp only;omega,rfl,h.Ac rfl hr,.inr ⟨rfl,rfl⟩,GO q,rfl,fun x hx=> ?_,?_⟩
  .rw[FO h4,q0e]at hx;exact⟨q,h4,by rw[hq];exact h.cB.2,hx⟩
  .rw[FO h4];simp
 .have b:=bq s.1 a.2;have p:=ZN s.1 a.2;exact⟨b.A7,p.1,b.Am,b.BZ,b.last,b.bad,by rw[b.Ac];exact q1C _,p.2.1,h.busy,p.2.2,[],sm,fun x hx=>(by cases hx),by rw[b.Ac];rfl⟩
theorem LZ:∀(l:List (AF×Int)){s:NS},NB s.1->jS s (FB s l)
 |[],s,h=> .refl h
 |a::r,s,h=>(Y5 h a).trans (LZ r (Y5 h a).nb)
theorem dx(l:List AS)(x:AS):l.length<=(F3 l x).1.length:=by
 unfold F3;split
 .split
  .split
   .simp
   .exact zN _
  .split
   .exact zN _
   .have:=Sz l x.AI;simp only[q04,q02,q0D,q1H];omega
 .exact zN _
theorem oL(k:List AS)(j:B9):k.length<=(EK k j).1.length:=by
 unfold EK;split
 .exact dx ..
 .split<;>exact zN _
theorem SF(n:AA)(w:Int)(e:Bool)(c:JC):n.keep.length<=(B5 n w e c).1.keep.length:=by
 unfold B5
 have hs:n.keep.length<=(if c.own then EK n.keep c.job else(n.keep,c.job)).1.length:=by
  split
  .exact oL ..
  .exact zN _
 generalize(if c.own then EK n.keep c.job else(n.keep,c.job))=s at*
 have hp:∀(a:AA)(j:B9),(QL a w j).keep=a.keep:=fun a j=>by
  unfold QL;repeat' split
  all_goals rfl
 dsimp only;split
 .unfold I0;dsimp only;rw[hp];exact hs
 .rw[hp];exact hs
theorem ia(n:AA)(w AR AP:Int)(x:AS):n.keep.length<=(Bq n w AR AP x).1.keep.length:=by
 unfold Bq;split
 .exact SF ..
 .exact zN _
theorem Zx(n:AA)(c:Al)(m:AF):n.keep.length<=(D4 n c m).1.keep.length:=by
 unfold D4;split
 .split
  .exact zN _
  split
  .exact SF ..
  .exact zN _
 .exact zN _
theorem gY(n:AA)(c:Al):n.keep.length<=(Dz n c).1.keep.length:=by
 unfold Dz;split
 .dsimp only;split
  .exact zN _
  split
  .exact SF {n with A7:=Bu n.A7 c.BD.dst} _ _ _
  .exact zN _
 .exact zN _
structure Of (s t:NS):Prop where
 A7:ND s.1.A7 t.1.A7
 Am:t.1.Am=s.1.Am
 Ad:s.1.Ac.Ad<=t.1.Ac.Ad
 keep:s.1.keep.length<=t.1.keep.length
 bad:t.1.bad=s.1.bad
 nb:NB t.1
 CZ:∃g:List B0,t.2=s.2++g/\(∀x∈g,MS s.1.A7.id x)/\t.1.Ac.op.length=s.1.Ac.op.length+g.length
theorem jS.h{s t:NS}(h:jS s t):Of s t:=⟨h.A7,h.Am,h.Ad,by rw[h.keep];exact zN _,h.bad,h.nb,h.CZ⟩
theorem Of.refl(h:NB s.1):Of s s:=(jS.refl h).h
theorem Of.trans{u:NS}(h:Of s t)(k:Of t u):Of s u:=by
 obtain⟨g1,a1,a2,a3⟩:=h.CZ;obtain⟨g2,b1,b2,b3⟩:=k.CZ;refine⟨h.A7.trans k.A7,k.Am.trans h.Am,Int.le_trans h.Ad k.Ad,q0L h.keep k.keep,k.bad.trans h.bad,k.nb,g1++g2,by rw[b1,a1,q0Z],fun x hx=> ?_,by rw[q04];omega⟩;rcases q0W.1 hx with hx|hx
 .exact a2 x hx
 .rw[<-h.A7.id];exact b2 x hx
variable {g:List B0}
theorem Of.of{w:AA}(hv:ND n.A7 w.A7)(h1:w.Am=n.Am)(h2:w.Ac=n.Ac)(h3:n.keep.length<=w.keep.length)(h5:w.bad=n.bad)(h4:NB w):Of (n,g) (w,g):=
 ⟨hv,h1,by rw[h2];exact q1C _,h3,h5,h4,[],sm,fun x hx=>(by cases hx),by rw[h2];rfl⟩
theorem bN{r:AA×List (AF×Int)}(s:jQ n r.1)(hk:n.keep.length<=r.1.keep.length)(h:NB r.1):Of (n,g) (Em g r):=
 (Of.of s.A7 s.Am s.Ac hk s.bad h).trans (LZ r.2 (s:=(r.1,g)) h).h
theorem Qq(h:NB n)(hx:x.AI.length<=big):Of (n,g) (Em g (Bq n w AR AP x)):=bN (Yg ..).1 (ia ..) (h.start hx)
theorem rD(h:NB n)(hm:m.AC.AI.length<=big):Of (n,g) (Em g (D4 n c m)):=bN (XV ..) (Zx ..) (h.heard hm)
theorem nF(h:NB n):Of (n,g) (Em g (Dz n c)):=bN (dP ..) (gY ..) h.lost
theorem Qi:∀(l:List Al){s:NS},NB s.1->Of s (l.foldl (fun s x=>Em s.2 (Dz s.1 x)) s)
 |[],s,h=> .refl h
 |x::r,s,h=>(nF (g:=s.2) h (c:=x)).trans (Qi r (nF (g:=s.2) h (c:=x)).nb)
theorem NB.Am{n:AA}(h:NB n)(hc:n.Am<1099511627776):NB {n with Am:=n.Am+1}:=by
 refine⟨?_,⟨h.l.f,h.l.m,h.l.c⟩,h.ph⟩;obtain⟨a1,a2,a3,a4,a5,a6,a7,a8,a9⟩:=B2.1 h.r;exact B2.2 ⟨⟨by dsimp only;omega,by dsimp only;omega⟩,a2,a3,a4,a5,a6,a7,a8,a9⟩
theorem NB.late(h:NB n)(now:Int):NB {n with Ac:=(Ch n.Ac now).1}:=h.Ac (dM ..).1 (aN h.cB.1)
theorem RR(hv:Aq v=true)(hs:Cl A5 BH=true)(h0:0<=A5):Cl (Cm v A5 BH).1.1 (Cm v A5 BH).1.2=true/\0<=(Cm v A5 BH).1.1:=by
 unfold Cm;split
 .refine⟨?_,(by decide:(0:Int)<=1)⟩;show Cl 1 (FM v)=true;unfold Cl;rw[zx (by decide),<-Eh,(U6 hv).1];rfl
 .exact⟨hs,h0⟩
theorem NB.y4(h:NB n){p o:Int}(hs:Cl p o=true)(h0:0<=p):NB {n with A5:=p,BH:=o}:=by
 refine⟨?_,⟨h.l.f,h.l.m,h.l.c⟩,h0⟩;obtain⟨a1,a2,a3,a4,a5,a6,a7,a8,a9⟩:=B2.1 h.r;exact B2.2 ⟨a1,a2,a3,a4,a5,hs,a7,a8,a9⟩
theorem NB.rv(h:NB n):Aq n.A7=true:=(B2.1 h.r).2.2.2.1
theorem eE(h:NB s.1):Of s (Mv s):=by
 have hb:=RR h.rv (B2.1 h.r).2.2.2.2.2.1 h.ph;have hn:=h.y4 hb.1 hb.2;have h1:Of (s.1,s.2) ({s.1 with A5:=(Cm s.1.A7 s.1.A5 s.1.BH).1.1,BH:=(Cm s.1.A7 s.1.A5 s.1.BH).1.2},s.2):=Of.of (.refl _) rfl rfl (zN _) rfl hn;exact h1.trans (LZ _ (s:=({s.1 with A5:=(Cm s.1.A7 s.1.A5 s.1.BH).1.1,BH:=(Cm s.1.A7 s.1.A5 s.1.BH).1.2},s.2)) hn).h
theorem nq(h:NB s.1):Of s (Q3 s):=by
 unfold Q3;split
 .exact(LZ _ h).h
 .exact .refl h
theorem Yt{v:AG}(hv:Aq v=true):∀(k i:Nat)(f:Nat->Int),(∀j,j<16->F2 v.id (f j)=true)->∀j,j<16->F2 v.id ((IE v k i f).1 j)=true
 |0,i,f,h=>h
 |k+1,i,f,h=>by
  unfold IE;split
  .refine Yt hv k (i+1) _ fun j hj=> ?_;unfold Vz
   split
   .split
    .simp[F2]
    .rename_i hne;simp[F2,(U6 hv).1,hne]
   .exact h j hj
  .exact h
theorem Yr(v:AG):∀(k i:Nat)(f:Nat->Int)(j:Nat),(IE v k i f).2=some j->j<i+k
 |0,i,f,j,h=>by unfold IE at h;cases h
 |k+1,i,f,j,h=>by
  unfold IE at h;split at h
  .have:=Yr v k (i+1) _ j h;omega
  .cases h;omega
theorem XG{f:Nat->Int}{p:Int->Bool}:(D6 f).all p=true↔∀j,j<16->p (f j)=true:=by
 rw[q0T];constructor
 .intro h j hj;refine h _ ?_;rcases Mn hj with rfl|rfl|rfl|rfl|rfl|rfl|rfl|rfl|rfl|rfl|rfl|rfl|rfl|rfl|rfl|rfl<;>simp[D6]
 .intro h x hx;simp only[D6,q0O,List.not_mem_nil,or_false]at hx;rcases hx with rfl|rfl|rfl|rfl|rfl|rfl|rfl|rfl|rfl|rfl|rfl|rfl|rfl|rfl|rfl|rfl<;>exact h _ (by decide)
theorem eX(hv:Aq v=true)(i:Int):ND v (walkT v i).1/\(walkT v i).1.AB=v.AB/\0<=(walkT v i).2.1/\(walkT v i).2.1<16:=by
 unfold walkT;rw[zn hv];dsimp only;generalize hi:(if 0<=i/\i<16 then i.toNat else 0)=i0
 have hi0:i0<16:=by
  rw[<-hi];split<;>omega
 obtain⟨h1,h2,h3,h4,h5⟩:=Dh hv;have ho:=Yt hv (16-i0) i0 v.f (XG.1 h5);have hl:=Yr v (16-i0) i0 v.f;generalize IE v (16-i0) i0 v.f=r at *;obtain⟨f,o⟩:=r
 have hr:∀w:AG,w={v with f:=f}->ND v w:=fun w hw=>by
  subst hw;exact⟨rfl,rfl,fun _=>L8 h1 h2 h3 h4 (XG.2 ho)⟩
 cases o with
 |none=>exact⟨hr _ rfl,rfl,q1C _,(by decide:(0:Int)<16)⟩
 |some k=>
  have:=hl k rfl;exact⟨hr _ rfl,rfl,by dsimp only;omega,by dsimp only;omega⟩
theorem NB.A7{n:AA}(h:NB n){v:AG}(hv:ND n.A7 v){k:Int}(hk:0<=k/\k<16):NB {n with A7:=v,next:=k}:=by
 refine⟨?_,⟨h.l.f,h.l.m,h.l.c⟩,h.ph⟩;obtain⟨a1,a2,a3,a4,a5,a6,a7,a8,a9⟩:=B2.1 h.r;refine B2.2 ⟨a1,a2,hk,hv.right a4,⟨a5.1.trans hv.id.symm,a5.2⟩,a6,a7,a8,?_⟩;exact(nd (n:=n) (w:={n with A7:=v,next:=k}) rfl hv.id).trans a9
theorem XC(h:NB s.1):Of s (IZ s):=by
 have hw:=eX h.rv s.1.next;have hn:=h.A7 hw.1 hw.2.2;have h1:Of (s.1,s.2) ({s.1 with A7:=(walkT s.1.A7 s.1.next).1,next:=(walkT s.1.A7 s.1.next).2.1},s.2):=Of.of hw.1 rfl rfl (zN _) rfl hn;unfold IZ;split
 .dsimp only;split
  .exact h1.trans (Qq hn (by decide))
  .exact h1
 .exact .refl h
theorem NB.last{n:AA}(h:NB n)(k:AL):NB {n with last:=k}:=by
 refine⟨?_,⟨h.l.f,h.l.m,h.l.c⟩,h.ph⟩;exact B2.2 (B2.1 h.r)
theorem Xf{k:List AS}(h:Cg k=true)(hx:x∈k):x.AI.length<=20:=by
 have:=(DJ.1 h).2.1 x hx;unfold Wi.B7 Wi.Bp at this;simp only[zO,zW]at this;omega
theorem Vf{k:List AS}{AI:AL}(h:(FV k AI).2=true):Cg k=true/\(FV k AI).1∈k:=by
 unfold FV at h|-;split
 .rename_i hc;rw[zO,zW]at hc;refine⟨hc.2,?_⟩;dsimp only;generalize(if hasK k AI=true then Cc k AI+1 else Cc k AI)=a;have:(if k.length<=a then 0 else a)<k.length:=by split<;>omega
  rw[zo,zV this];exact q0q this
 .rename_i hc;rw[zx hc]at h;cases h
theorem nO(h:NB s.1):Of s (Ic s):=by
 unfold Ic;split
 .rename_i hc;rw[zO]at hc;have hx:=Vf hc.2;have hk:=Xf hx.1 hx.2;dsimp only;have h1:Of (s.1,s.2) ({s.1 with last:=(FV s.1.keep s.1.last).1.AI},s.2):=Of.of (.refl _) rfl rfl (zN _) rfl (h.last _);exact h1.trans (Qq (h.last _) (q0L hk (by decide)))
 .exact .refl h
theorem eR(h:NB n):NB (Gz n).1/\ND n.A7 (Gz n).1.A7/\(Gz n).1.Am=(if n.Am>=1099511627776 then n.Am else n.Am+1)/\n.Ac.Ad<=(Gz n).1.Ac.Ad/\n.keep.length<=(Gz n).1.keep.length/\(∀g∈(Gz n).2,MS n.A7.id g)/\(Gz n).2.length<=48:=by
 unfold Gz;split
 .rename_i hc
  have hc:n.Am>=1099511627776:=by
   rcases hc with hc|hc
   .exact hc
   .rw[h.r]at hc;cases hc
  rw[zn hc];exact⟨h,.refl _,rfl,q1C _,zN _,fun g hg=>(by cases hg),zi _⟩
 .rename_i hc
  have hlt:n.Am<1099511627776:=by
   rcases Int.lt_or_le n.Am 1099511627776 with hl|hl
   .exact hl
   .exact absurd (.inl hl) hc
  rw[zx om];have h1:=h.Am hlt;have hcb:=h.cB;have h2:=h1.late (n.Am+1);have hm:=(gT (c:=n.Ac) (now:=n.Am+1) hcb.1).1;have hl:=mn n.Ac (n.Am+1) hcb.1;have hi:=dM n.Ac (n.Am+1)
  have hq:∀l:List AF,(∀m∈l,m.right=true/\m.BY=true/\m.B8=n.Ac.id)->(∀g∈l.flatMap GO,MS n.A7.id g)/\(l.flatMap GO).length=l.length:=by
   intro l
   induction l with
   |nil=>exact fun _=>⟨fun g hg=>(by cases hg),rfl⟩
   |cons m r ih=>
    intro hr;obtain⟨i1,i2⟩:=ih fun m hm=>hr m (q0P _ hm)
    have hm:=hr m (q0J ..);rw[List.flatMap_cons,FO hm.1];refine⟨fun g hg=> ?_,by rw[q04,i2];simp;omega⟩;rcases q0W.1 hg with hg|hg
    .rw[q0e]at hg;exact⟨m,hm.1,hm.2.2.trans hcb.2,hg⟩
    .exact i1 g hg
  obtain⟨q1,q2⟩:=hq _ hm;have a:=Qi (Ch n.Ac (n.Am+1)).2.2 (s:=({n with Am:=n.Am+1,Ac:=(Ch n.Ac (n.Am+1)).1},[]++(Ch n.Ac (n.Am+1)).2.1.flatMap GO)) h2;change Of _ (Q0 ({n with Am:=n.Am+1},[]))at a;have b:=a.trans (eE a.nb);have c:=b.trans (nq b.nb);have d:=c.trans (XC c.nb);have e:=d.trans (nO d.nb);obtain⟨g,g1,g2,g3⟩:=e.CZ;have h16:=(C0.1 e.nb.cB.1).1.2.2.2;refine⟨e.nb,e.A7,e.Am,by have:=e.Ad;dsimp only at this;omega,e.keep,fun x hx=> ?_,?_⟩
  .rw[g1]at hx;rw[zZ]at hx;rcases q0W.1 hx with hx|hx
   .exact q1 x hx
   .exact g2 x hx
  .rw[g1,zZ,q04,q2];dsimp only at g3;omega
def MN(l:List (AF×Int)):Prop:=∀a∈l,a.1.AB=[]
theorem md(id:Int)(j:B9)(o:Int)(l:Ai):∀m∈(MJ id j o l).BY,m.AB=[]:=fun m hm=>by
 unfold MJ at hm;simp only[q1L]at hm;obtain⟨p,_,rfl⟩:=hm;rfl
theorem VP(v:AG)(j:B9):∀m∈(GB v j).BY,m.AB=[]:=by
 unfold GB;split
 .simp
 split
 .dsimp only;split
  .intro m hm;rw[q0e]at hm;subst hm;unfold dN;split<;>rfl
  .simp
 split
 .simp
 split
 .exact md _ _ _ _
 split
 .simp[Ki]
 split
 .simp
 .simp[ZC]
theorem ut(v:AG)(w p:Int)(x:AS):∀m∈(Ei v w p x).BY,m.AB=[]:=by
 unfold Ei;split
 .exact VP _ _
 .simp
theorem rO(v:AG)(j:B9)(m:AF):∀q∈(CH v j m).BY,q.AB=[]:=by
 unfold CH;split
 .split
  .split
   .exact VP _ _
   .simp
  split
  .split
   .exact md _ _ _ _
   .simp
  split
  .split<;>simp
  split
  .split<;>simp
  .simp
 .simp
theorem rL(v:AG)(j:B9)(d:Int):∀q∈(CE v j d).BY,q.AB=[]:=by
 unfold CE;split
 .split
  .split
   .exact VP _ _
   .simp
  split
  .split<;>simp
  split<;>simp
 .simp
theorem Um(p o:Int):MN (G9 p o):=by
 unfold G9 MN;split
 .simp[Ki]
 split<;>simp
theorem Zo(n:AA)(w:Int)(e:Bool)(c:JC)(h:∀m∈c.BY,m.AB=[]):MN (B5 n w e c).2:=fun a ha=>by
 unfold B5 at ha;simp only[q1L]at ha;obtain⟨m,hm,rfl⟩:=ha;exact h m hm
theorem W3(n:AA)(w AR AP:Int)(x:AS):MN (Bq n w AR AP x).2:=by
 unfold Bq;split
 .exact Zo _ _ _ _ (ut _ _ _ _)
 .exact fun a ha=>by cases ha
theorem rC(n:AA)(c:Al)(m:AF):MN (D4 n c m).2:=by
 unfold D4;split
 .split
  .dsimp only;unfold Dm;split
   .split
    .exact fun a ha=>by cases ha
    .dsimp only;split
     .dsimp only;exact Um _ _
     .dsimp only;exact Um _ _
   .exact fun a ha=>by cases ha
  split
  .exact Zo _ _ _ _ (rO _ _ _)
  .exact fun a ha=>by cases ha
 .exact fun a ha=>by cases ha
theorem v6(n:AA)(c:Al):MN (Dz n c).2:=by
 unfold Dz;split
 .dsimp only;split
  .exact fun a ha=>by cases ha
  split
  .exact Zo _ _ _ _ (rL _ _ _)
  .exact fun a ha=>by cases ha
 .exact fun a ha=>by cases ha
theorem qL(v:AG)(p o:Int):MN (Cm v p o).2:=by
 unfold Cm;split
 .dsimp only;exact Um _ _
 .exact fun a ha=>by cases ha
theorem NB.xl(h:NB n):n.Ac.op.length<=16:=by
 have:=(C0.1 h.cB.1).1;omega
theorem Of.size(h:Of s t):t.2.length<=s.2.length+16:=by
 obtain⟨g,e,_,e2⟩:=h.CZ;have:=h.nb.xl;rw[e,q04];omega
theorem gw(h:NB s.1)(l:List (AF×Int)):(FB s l).2.length<=s.2.length+16:=(LZ l h).h.size
end Nd
end Go.Proofs.YtamjpnmjpponpaaGreatDoor
namespace Go.Proofs.YtamjpnmjpponpaaGreatDoor
namespace Bg
open Go.Gar
open Nd (B0)
def small(l:List B0):Prop:=∀g∈l,g.by_.length<=100000
theorem Hc{l:List B0}(h:small l){k:Nat}{x:B0}(hx:l[k]? =some x):x.by_.length<=100000:=h x (q00 hx)
theorem AY{α:Type}{l:List α}{k:Nat}{x:α}(hx:l[k]? =some x):l.take (k+1)=l.take k++[x]:=by
 rw[q1S,hx];rfl
end Bg
end Go.Proofs.YtamjpnmjpponpaaGreatDoor
namespace Go.Proofs.YtamjpnmjpponpaaGreatDoor
namespace Nd
open Go.Gar
open Wi (AF BV B7 AU Bp Cp Bc)
variable {m:AF}
theorem aw(h:m.right=true):(1<=m.AN/\m.AN<13)/\BV m.B8=true/\BV m.dst=true/\m.B8≠m.dst/\m.asker*1048576+1<=m.Ae/\m.Ae<m.asker*1048576+1+1048576:=by
 unfold AF.right AF.Iy at h;simp only[zO,zW]at h;obtain⟨⟨⟨⟨⟨⟨⟨h1,h2⟩,h3⟩,h4⟩,h5⟩,h6⟩,h7⟩,_⟩:=h;exact⟨⟨h1,h2⟩,h3,h4,h5,h6,h7⟩
theorem NI:m.BY=true↔1<=m.AN/\m.AN<=6:=by
 unfold AF.BY;rw[zO,zW,zW]
theorem s7(h1:7<=m.AN/\m.AN<13)(h2:BV m.B8=true)(h3:BV m.dst=true)(h4:m.B8≠m.dst)(h5:m.dst*1048576+1<=m.Ae)(h6:m.Ae<m.dst*1048576+1+1048576)(hb:m.bare=m.empty)(hh:m.has=true):m.right=true:=by
 have ha:m.asker=m.dst:=by
  unfold AF.asker;rw[zx];rw[NI];omega
 unfold AF.right AF.Iy;rw[ha];simp only[zO,zW];exact⟨⟨⟨⟨⟨⟨⟨om,h1.2⟩,h2⟩,h3⟩,h4⟩,h5⟩,h6⟩,hb,hh⟩
theorem o3(x:Int):∀(l:Ai)(f:Int),rT x f l=true->(∀p∈l,Bb p=true/\Ba x p>f)/\l.Nodup
 |[],_,_=>⟨fun p hp=>(by cases hp),List.nodup_nil⟩
 |p::r,f,h=>by
  unfold rT at h;simp only[zO,zW]at h;obtain⟨i1,i2⟩:=o3 x r _ h.2;refine⟨fun q hq=> ?_,List.nodup_cons.2 ⟨fun hp=> ?_,i2⟩⟩
  .rcases q0O.1 hq with rfl|hq
   .exact h.1
   .have:=i1 q hq;have:=h.1.2;exact⟨(i1 q hq).1,om⟩
  .have:=(i1 p hp).2;omega
theorem VX{v:AG}(hv:Aq v=true):Wi.F1 v.AB v.id=true:=by
 obtain⟨_,_,h3,_,_⟩:=Dh hv;unfold CU at h3;rw[zO,zW]at h3;obtain⟨h4,h5⟩:=o3 v.id v.AB 0 h3.2;unfold Wi.F1 Wi.Fw;simp only[zO,zW,q0T];refine⟨⟨fun p hp=>⟨by rw[<-Eh];exact(h4 p hp).1,?_⟩,h5⟩,h3.1⟩;rintro rfl;have:=(h4 _ hp).2;unfold Ba at this;omega
theorem tK{id n:Int}(h:F2 id n=true)(h1:n≠ -1):Bb n=true:=by
 unfold F2 at h;rw[q0j,zW,zO]at h;rcases h with h|h
 .exact absurd h h1
 .exact h.1
theorem um{v:AG}{k:Int}{BA:Bool}(hv:Aq v=true):Bb (Eg v k BA).1=true:=by
 have hfi:=U6 hv;obtain⟨_,_,h3,_,h5⟩:=Dh hv;unfold CU at h3;rw[zO]at h3;have hl:=(o3 v.id v.AB 0 h3.2).1;unfold Eg;rw[zn hv];split
 .exact hfi.1
 split
 .exact hfi.1
 .have hk:∀q∈xh v,Bb q=true:=by
   intro q hq;unfold xh at hq;rcases q0O.1 hq with rfl|hq
   .exact hfi.1
   rcases q0W.1 hq with hq|hq
   .exact(hl q hq).1
   .have h1:=List.mem_filter.1 hq;exact tK (q0T.1 h5 q h1.1) (by simpa using h1.2)
  have AI:∀(l:Ai)(p:Int),(∀q∈l,Bb q=true)->Bb p=true->Bb (l.foldl (H9 v.id k) p)=true:=by
   intro l
   induction l with
   |nil=>exact fun p _ h=>h
   |cons q r ih=>
    intro p hq hp;rw[q0p];refine ih _ (fun q' h=>hq q' (q0P _ h)) ?_;unfold H9;split
    .exact hq q (q0J ..)
    .exact hp
  exact AI _ _ hk hfi.1
theorem nu{l:List AS}{x:AS}(h:Cg l=true)(hx:B7 x=true):(F3 l x).2=0\/(F3 l x).2=200:=by
 unfold F3;rw[h,hx];simp only[q1c,q0X];split
 .exact .inl rfl
 split
 .exact .inr rfl
 .exact .inl rfl
theorem mG{l:List AS}{AI:AL}(h:Cg l=true):((Dx l AI).2=0/\B7 (Dx l AI).1=true)\/((Dx l AI).2=201/\(Dx l AI).1=An):=by
 unfold Dx;split
 .rename_i hc;rw[zO]at hc;obtain⟨x,hx,_,hg⟩:=Jw hc.2;exact .inl ⟨rfl,by dsimp only;rw[hg];exact(DJ.1 h).2.1 x (q00 hx)⟩
 .exact .inr ⟨rfl,rfl⟩
theorem Yi(h:m.BY=true):CY m=⟨m.AN+6,m.Ae,m.dst,m.B8,0,false,false,0,0,[],An,0⟩:=by
 unfold CY;rw[zn h]
variable {n:AA}
theorem Mw:D9 n m=true↔m.BY=true/\m.right=true/\m.dst=n.A7.id/\BL n=true:=by
 unfold D9;simp only[zO,zW,and_assoc]
theorem Uj(h:D9 n m=true):(CL n m).2.right=true/\(CL n m).2.BY=false/\(CL n m).2.B8=n.A7.id/\(CL n m).2.dst=m.B8/\(CL n m).2.Ae=m.Ae:=by
 obtain⟨ha,hr,hd,hn⟩:=Mw.1 h;obtain⟨_,_,_,hv,_,_,hk,_,_⟩:=B2.1 hn;have hk6:=NI.1 ha;obtain⟨_,h2,h3,h4,h5,h6⟩:=aw hr;have hask:m.asker=m.B8:=by unfold AF.asker;rw[zn ha]
 rw[hask]at h5 h6
 have hhas:m.has=true:=by
  unfold AF.right at hr;simp only[zO]at hr;exact hr.2.2
 have AI:∀t:AF,t.AN=m.AN+6->t.B8=m.dst->t.dst=m.B8->t.Ae=m.Ae->t.bare=t.empty->t.has=true->t.right=true/\t.BY=false/\t.B8=n.A7.id/\t.dst=m.B8/\t.Ae=m.Ae:=by
  intro t e1 e2 e3 e4 e5 e6;refine⟨s7 om (by rw[e2];exact h3) (by rw[e3];exact h2) (by rw[e2,e3];exact fun e=>h4 e.symm) (by rw[e3,e4];exact h5) (by rw[e3,e4];exact h6) e5 e6,?_,e2.trans hd,e3,e4⟩
  cases e:t.BY with
  |false=>rfl
  |true=>have:=NI.1 e;omega
 unfold CL;rw[Yi ha];dsimp only;have hkk:m.AN=1\/m.AN=2\/m.AN=3\/m.AN=4\/m.AN=5\/m.AN=6:=om
 rcases hkk with e|e|e|e|e|e
 .rw[zn e];refine AI _ rfl rfl rfl rfl ?_ ?_
  .unfold AF.bare AF.empty;simp[e]
  .unfold AF.has;simp only[e,show((1:Int)+6)=7 by decide,show ¬((7:Int)=4)by decide,show ¬((7:Int)=5)by decide,show ¬((7:Int)=6)by decide,q0U,q0X];rw[zO,hd];refine⟨?_,VX hv⟩;have ho:=(Dh hv).2.2.2.1;rw[q0j,zW]
   by_cases hp:n.A7.AH= -1
   .exact .inl hp
   .right;rw[<-Eh];exact tK ho hp
 .rw[zx om,zn e];refine AI _ rfl rfl rfl rfl ?_ ?_
  .unfold AF.bare AF.empty;simp[e]
  .unfold AF.has;simp[e]
 .rw[zx om,zx om,zn e];refine AI _ rfl rfl rfl rfl ?_ ?_
  .unfold AF.bare AF.empty;simp[e]
  .unfold AF.has;simp[e]
 .rw[zx om,zx om,zx om,zn e]
  have eh:P5 n.A7 m={CY m with AP:=(Eg n.A7 m.AI m.BA).1,done:=(Eg n.A7 m.AI m.BA).2}:=by
   unfold P5;rw[hv,zU e,zU hd,hr];rfl
  rw[eh,Yi ha];refine AI _ rfl rfl rfl rfl ?_ ?_
  .unfold AF.bare AF.empty;simp[e]
  .unfold AF.has;simp only[e,show((4:Int)+6)=10 by decide,show ¬((10:Int)=4)by decide,show ¬((10:Int)=5)by decide,show ¬((10:Int)=6)by decide,show ¬((10:Int)=7)by decide,q0U,q0X];rw[<-Eh];exact um hv
 .rw[zx om,zx om,zx om,zx om,zn e];refine AI _ rfl rfl rfl rfl ?_ ?_
  .unfold AF.bare AF.empty;simp[e]
  .have hi:B7 m.AC=true:=by
    unfold AF.has at hhas;simpa only[e,show ¬((5:Int)=4)by decide,q0U,q0X]using hhas
   unfold AF.has;simp only[e,show((5:Int)+6)=11 by decide,show ¬((11:Int)=4)by decide,show ¬((11:Int)=5)by decide,show ¬((11:Int)=6)by decide,show ¬((11:Int)=7)by decide,show ¬((11:Int)=10)by decide,q0U,q0X];rw[q0j,zW,zW];exact nu hk hi
 .rw[zx om,zx om,zx om,zx om,zx om,zn e];refine AI _ rfl rfl rfl rfl ?_ ?_
  .unfold AF.bare AF.empty;simp[e]
  .unfold AF.has;simp only[e,show((6:Int)+6)=12 by decide,show ¬((12:Int)=4)by decide,show ¬((12:Int)=5)by decide,show ¬((12:Int)=6)by decide,show ¬((12:Int)=7)by decide,show ¬((12:Int)=10)by decide,show ¬((12:Int)=11)by decide,q0U,q0X];rw[q0j,zO,zO,zW,zW,zW];exact mG hk
theorem ew(h:NB n)(hs:D9 n m=true):NB (CL n m).1/\ND n.A7 (CL n m).1.A7/\(CL n m).1.A7.AB=n.A7.AB/\(CL n m).1.Am=n.Am/\(CL n m).1.Ac=n.Ac/\(CL n m).1.BZ=n.BZ/\n.keep.length<=(CL n m).1.keep.length/\(CL n m).1.bad=n.bad/\(CL n m).1.A5=n.A5/\(CL n m).1.BH=n.BH:=by
 have hself:NB n/\ND n.A7 n.A7/\n.A7.AB=n.A7.AB/\n.Am=n.Am/\n.Ac=n.Ac/\n.BZ=n.BZ/\n.keep.length<=n.keep.length/\n.bad=n.bad/\n.A5=n.A5/\n.BH=n.BH:=⟨h,.refl _,rfl,rfl,rfl,rfl,zN _,rfl,rfl,rfl⟩;obtain⟨ha,hr,hd,hn⟩:=Mw.1 hs;unfold CL;dsimp only;split
 .exact hself
 split
 .exact hself
 split
 .have hv:ND n.A7 (EX n.A7 m.B8):=by
   unfold EX;split
   .rename_i hc;rw[zO]at hc;refine⟨rfl,rfl,fun _=> ?_⟩;obtain⟨h1,h2,h3,h4,h5⟩:=Dh h.rv;refine L8 h1 h2 h3 ?_ h5;have hb:=hc.2;unfold LQ at hb;simp only[zO,zW]at hb;show F2 n.A7.id m.B8=true;unfold F2;rw[hb.1.1,zU hb.1.2];simp
   .exact .refl _
  have hnx:=(B2.1 h.r).2.2.1;have hl:(EX n.A7 m.B8).AB=n.A7.AB:=by unfold EX;split<;>rfl
  exact⟨h.A7 hv hnx,hv,hl,rfl,rfl,rfl,zN _,rfl,rfl,rfl⟩
 split
 .exact hself
 split
 .refine⟨⟨?_,⟨h.l.f,h.l.m,h.l.c⟩,h.ph⟩,.refl _,rfl,rfl,rfl,rfl,dx ..,rfl,rfl,rfl⟩;obtain⟨a1,a2,a3,a4,a5,a6,a7,a8,a9⟩:=B2.1 h.r;exact B2.2 ⟨a1,a2,a3,a4,a5,a6,T2 a7,a8,a9⟩
 split
 .exact hself
 .exact hself
theorem NB.BZ{n:AA}(h:NB n){l:List Past}(hl:FX l=true)(ho:∀p∈l,p.AD.B8=n.A7.id):NB {n with BZ:=l}:=by
 refine⟨?_,⟨h.l.f,h.l.m,h.l.c⟩,h.ph⟩;obtain⟨a1,a2,a3,a4,a5,a6,a7,a8,a9⟩:=B2.1 h.r;refine B2.2 ⟨a1,a2,a3,a4,a5,a6,a7,hl,?_⟩;unfold PP;rw[q0h,q0s];intro p hp;have:=ho p hp;simpa using this
theorem NB.own(h:NB n):∀p∈n.BZ,p.AD.B8=n.A7.id:=by
 have:=(B2.1 h.r).2.2.2.2.2.2.2.2;unfold PP at this;rw[q0h,q0s]at this;intro p hp;simpa using this p hp
theorem iO{l:List Past}{t:AF}{p:Past}(h:p∈EB l t):p∈l\/p=⟨t.dst,t.Ae,t⟩:=by
 unfold EB at h;split at h
 .split at h
  .exact .inl h
  .have:=List.mem_of_mem_drop h;rw[q0W,q0e]at this;exact this
 .exact .inl h
theorem Ye(h:NB n)(hs:D9 n m=true):NB (BI n m).1/\ND n.A7 (BI n m).1.A7/\(BI n m).1.A7.AB=n.A7.AB/\(BI n m).1.Am=n.Am/\(BI n m).1.Ac=n.Ac/\n.keep.length<=(BI n m).1.keep.length/\(BI n m).1.bad=n.bad/\((BI n m).1.A5=n.A5/\(BI n m).1.BH=n.BH)/\
  (BI n m).2.right=true/\(BI n m).2.BY=false/\(BI n m).2.B8=n.A7.id/\(BI n m).2.dst=m.B8/\(BI n m).2.Ae=m.Ae/\Cr (BI n m).1.BZ m.B8 m.Ae=((BI n m).2,true):=by
 have hsn:=(B2.1 h.r).2.2.2.2.2.2.2.1;unfold BI;rw[zn hs];split
 .rename_i hf;obtain⟨p,hp,e1,e2,e3⟩:=iP hf;obtain⟨b1,b2,b3,b4⟩:=Mq.1 ((Hb.1 hsn).2.1 p hp);refine⟨h,.refl _,rfl,rfl,rfl,zN _,rfl,⟨rfl,rfl⟩,?_⟩;dsimp only;rw[e3];refine⟨b1,b2,h.own p hp,b3.trans e1,b4.trans e2,?_⟩;rw[<-e3,<-hf]
 .rename_i hf;rw[Bool.not_eq_true]at hf;obtain⟨t1,t2,t3,t4,t5⟩:=Uj hs;obtain⟨a1,a2,a3,a4,a5,a6,a7,a8,a9,a10⟩:=ew h hs;have hr:=YY (t:=(CL n m).2) hsn;refine⟨a1.BZ hr fun p hp=> ?_,a2,a3,a4,a5,a7,a8,⟨a9,a10⟩,t1,t2,t3,t4,t5,?_⟩
  .rw[a2.id];rcases iO hp with hp|rfl
   .exact h.own p hp
   .exact t3
  .dsimp only;rw[<-t4,<-t5];refine YW hsn t1 t2 ?_;rw[t4,t5];exact hf
theorem US(h:m.right=true):m.AC.AI.length<=20:=by
 have hz:(An:AS).AI.length<=20:=by decide
 have hi:∀x:AS,B7 x=true->x.AI.length<=20:=fun x hx=>by
  unfold Wi.B7 Wi.Bp at hx;simp only[zO,zW]at hx;omega
 unfold AF.right at h;simp only[zO,zW]at h;have hb:=h.2.1;have hh:=h.2.2
 by_cases h5:m.AN=5
 .unfold AF.has at hh;simp only[h5,show ¬((5:Int)=4)by decide,q0U,q0X]at hh;exact hi _ hh
 by_cases h6:m.AN=6
 .unfold AF.has at hh;simp only[h6,show ¬((6:Int)=4)by decide,show ¬((6:Int)=5)by decide,q0U,q0X]at hh;rw[zO]at hh;exact hi _ hh.1
 by_cases h12:m.AN=12
 .unfold AF.has at hh;simp only[h12,show ¬((12:Int)=4)by decide,show ¬((12:Int)=5)by decide,show ¬((12:Int)=6)by decide,show ¬((12:Int)=7)by decide,show ¬((12:Int)=10)by decide,show ¬((12:Int)=11)by decide,q0U,q0X]at hh;rw[q0j,zO,zO,zW,zW,zW]at hh;rcases hh with hh|hh
  .exact hi _ hh.2
  .rw[hh.2];exact hz
 .have e:m.bare.AC=m.AC:=by
   unfold AF.bare
   repeat' split
   all_goals first|rfl|(exfalso;omega)
  rw[<-e,hb];exact hz
theorem NB.bad{n:AA}(h:NB n){k:Int}(hk:0<=k):NB {n with bad:=k}:=by
 refine⟨?_,⟨h.l.f,h.l.m,h.l.c⟩,h.ph⟩;obtain⟨a1,a2,a3,a4,a5,a6,a7,a8,a9⟩:=B2.1 h.r;exact B2.2 ⟨a1,hk,a3,a4,a5,a6,a7,a8,a9⟩
theorem NB.close(h:NB n)(m:AF):NB {n with Ac:=(D8 n.Ac m).1}:=by
 refine h.Ac ?_ (Wy h.cB.1);unfold D8;split
 .split<;>rfl
 .rfl
theorem eL(h:NB n)(b:AL):NB (Im n b).1/\ND n.A7 (Im n b).1.A7/\(Im n b).1.Am=n.Am/\n.keep.length<=(Im n b).1.keep.length/\(∀g∈(Im n b).2,MS n.A7.id g)/\(Im n b).2.length<=16:=by
 unfold Im;rw[zn h.r];split
 .refine⟨h.bad ?_,.refl _,rfl,zN _,fun g hg=>(by cases hg),zi _⟩;have:=(B2.1 h.r).2.1;split<;>omega
 rename_i hc;split
 .rename_i ha
  by_cases hs:D9 n (Bc b).1=true
  .obtain⟨a1,a2,_,a4,_,a6,_,_,t1,_,t3,_⟩:=Ye h hs;refine⟨a1,a2,a4,a6,fun g hg=> ?_,?_⟩
   .dsimp only at hg;rw[FO t1,q0e]at hg;exact⟨_,t1,t3,hg⟩
   .dsimp only;rw[FO t1];exact(by decide:(1:Nat)<=16)
  .have e:BI n (Bc b).1=(n,AU):=by unfold BI;rw[zx hs]
   rw[e]
   have hz:GO AU=[]:=by
    unfold GO;rw[zx];unfold Wi.Cp;rw[Wi.bR];decide
   refine⟨h,.refl _,rfl,zN _,fun g hg=> ?_,?_⟩
   .dsimp only at hg;rw[hz]at hg;cases hg
   .dsimp only;rw[hz];exact zi _
 split
 .rename_i hk;obtain⟨k1,k2,_⟩:=Wx hk;have hn:=h.close (Bc b).1;have a:=rD (g:=[]) hn (c:=(D8 n.Ac (Bc b).1).2.1) (m:=(Bc b).1) (q0L (US k2) (by decide));obtain⟨g,g1,g2,g3⟩:=a.CZ;have h16:=(C0.1 a.nb.cB.1).1.2.2.2;refine⟨a.nb,a.A7,a.Am,a.keep,fun x hx=> ?_,?_⟩
  .rw[g1]at hx;exact g2 x (by simpa using hx)
  .rw[g1];simp only[zZ];omega
 .exact⟨h,.refl _,rfl,zN _,fun g hg=>(by cases hg),zi _⟩
theorem kB(h:NB n)(AR:Int)(x:AS)(hx:x.AI.length<=big):NB (Jl n AR x).1.1/\(Jl n AR x).1.1.Am=n.Am/\(∀g∈(Jl n AR x).1.2,MS n.A7.id g)/\(Jl n AR x).1.2.length<=16/\((Jl n AR x).2=0\/(Jl n AR x).1=(n,[])):=by
 have hself:NB n/\n.Am=n.Am/\(∀g∈([]:List B0),MS n.A7.id g)/\([]:List B0).length<=16:=⟨h,rfl,fun g hg=>(by cases hg),zi _⟩;unfold Jl;split
 .split
  .have a:=Qq (g:=[]) h (w:=7) (AR:=AR) (AP:=0) hx;obtain⟨g,g1,g2,g3⟩:=a.CZ;have h16:=(C0.1 a.nb.cB.1).1.2.2.2;refine⟨a.nb,a.Am,fun x hx=> ?_,?_,.inl rfl⟩
   .dsimp only at hx;rw[g1]at hx;exact g2 x (by simpa using hx)
   .dsimp only;rw[g1];simp only[zZ];omega
  .exact⟨hself.1,hself.2.1,hself.2.2.1,hself.2.2.2,.inr rfl⟩
 .exact⟨hself.1,hself.2.1,hself.2.2.1,hself.2.2.2,.inr rfl⟩
theorem Nu(h:NB n){i:Nat}{x:AS}(hi:(Gl n.A7.id (n.Ac.Ad+1+i)).2=0)(hx:x∈n.keep):(L3 n i x).right=true:=by
 obtain⟨_,_,_,hv,hc,_,hk,_,_⟩:=B2.1 h.r;have hit:=(DJ.1 hk).2.1 x hx;have hp:=(Dh hv).1;have hf:=U6 hv;unfold Gl at hi;split at hi
 .rename_i hcall;have e:(Gl n.A7.id (n.Ac.Ad+1+i)).1=n.A7.id*1048576+(n.Ac.Ad+1+i):=by unfold Gl;rw[zn hcall]
  have ha:(L3 n i x).asker=n.A7.id:=rfl;unfold AF.right AF.Iy;rw[ha];simp only[zO,zW];unfold L3;rw[e];refine⟨⟨⟨⟨⟨⟨⟨(by decide:(1:Int)<=5),(by decide:(5:Int)<13)⟩,hcall.1⟩,by rw[<-Eh];exact hf.1⟩,fun e=>hf.2 e.symm⟩,by dsimp only;omega⟩,by dsimp only;omega⟩,?_,?_⟩
  .unfold AF.bare AF.empty;simp
  .unfold AF.has;simp[hit]
 .cases hi
theorem UF{n:AA}(h:NB n):∀(l:List AS)(i:Nat),(∀x∈l,x∈n.keep)->(∀g∈FN n i l,MS n.A7.id g)
 |[],i,_=>fun g hg=>(by cases hg)
 |x::r,i,hl=>fun g hg=>by
  unfold FN at hg;split at hg
  .rename_i hi;have hr:=Nu h hi (hl x (q0J ..));rcases q0W.1 hg with hg|hg
   .rw[FO hr,q0e]at hg;exact⟨_,hr,rfl,hg⟩
   .exact UF h r (i+1) (fun y hy=>hl y (q0P _ hy)) g hg
  .cases hg
theorem mt(h:NB n):∀g∈GL n,MS n.A7.id g:=by
 unfold GL;rw[zn h.r];exact UF h n.keep 0 fun x hx=>hx
theorem SS{n:AA}(h:NB n):∀(l:List AS)(i:Nat),(∀x∈l,x∈n.keep)->(FN n i l).length=min l.length (1048576-(n.Ac.Ad.toNat+i))/\∀k g,(FN n i l)[k]? =some g->∃x,l[k]? =some x/\(L3 n (i+k) x).right=true/\g=⟨FM n.A7,(Cp (L3 n (i+k) x)).1,false⟩
 |[],i,_=>⟨by unfold FN;simp,fun k g hg=>(by unfold FN at hg;simp at hg)⟩
 |x::r,i,hl=>by
  have hm:=(C0.1 h.cB.1).1;have hp:BV n.A7.id=true:=by rw[<-Eh];exact(Dh h.rv).1
  obtain⟨i1,i2⟩:=SS h r (i+1) (fun y hy=>hl y (q0P _ hy));unfold FN;split
  .rename_i hi;have hr:=Nu h hi (hl x (q0J ..))
   have hle:n.Ac.Ad+1+i<=1048576:=by
    unfold Gl at hi;split at hi
    .rename_i hc;exact hc.2.2
    .cases hi
   rw[FO hr];refine⟨?_,fun k g hg=> ?_⟩
   .rw[q04,i1];simp only[q02,q0B];omega
   .cases k with
    |zero=>
     simp only[zY,zZ,q1a,zf]at hg;exact⟨x,rfl,hr,hg.symm⟩
    |succ k=>
     simp only[zY,zZ,q1Q]at hg;obtain⟨y,h1,h2,h3⟩:=i2 k g hg;rw[show i+1+k=i+(k+1)by omega]at h2 h3;exact⟨y,by simpa using h1,h2,h3⟩
  .rename_i hi
   have hgt:¬(n.Ac.Ad+1+i<=1048576):=fun hle=>hi (by
    unfold Gl
    rw[zn ⟨hp,om,hle⟩])
   refine⟨?_,fun k g hg=>(by simp at hg)⟩;rw[q0B];omega
theorem gV(h:NB n):(GL n).length=min n.keep.length (1048576-n.Ac.Ad.toNat)/\∀(k:Nat)(g:B0),(GL n)[k]? =some g->∃(x:AS)(m:AF),n.keep[k]? =some x/\m.right=true/\m.AN=5/\m.AC=x/\m.dst=FM n.A7/\g=⟨m.dst,(Cp m).1,false⟩:=by
 obtain⟨h1,h2⟩:=SS h n.keep 0 fun x hx=>hx;unfold GL
 rw[zn h.r];refine⟨by rw[h1];rfl,fun k g hg=> ?_⟩;obtain⟨x,a1,a2,a3⟩:=h2 k g hg;exact⟨x,_,a1,a2,rfl,rfl,rfl,a3⟩
theorem XW(l:List AA)(p:Int):decide (JI (NJ p) l<0)= !(Es l p):=by
 have:=dA (NJ p) l;unfold Es;rw[<-this]
 by_cases h:JI (NJ p) l>=0
 .rw[zU h,zQ om];rfl
 .rw[zQ h,zU om];rfl
end Nd
end Go.Proofs.YtamjpnmjpponpaaGreatDoor
