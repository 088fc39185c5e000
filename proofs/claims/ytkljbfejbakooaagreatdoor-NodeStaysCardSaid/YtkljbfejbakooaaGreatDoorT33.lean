/- Part 33 of a proof. Conditions: those that its theorems state. -/
import Derived.Test.YtkljbfejbakooaaGreatDoorT28
import Derived.Test.YtkljbfejbakooaaGreatDoorT32
set_option linter.unusedSimpArgs false
set_option linter.unusedVariables false
set_option linter.unnecessarySimpa false
set_option maxHeartbeats 40000000
set_option maxRecDepth 4000
namespace Go.Proofs.YtkljbfejbakooaaGreatDoor
namespace Nd
open Go.Gar
open Wi (AC Bp BE AN Bc C6 BP)
variable {L:Nat}
theorem cA(v:AD)(j:An)(h:j.left.length<=L)(hL:3<=L):(EH v j).job.left.length<=L:=by
 unfold EH;split
 .exact xQ _
 split
 .exact h
 split
 .exact xQ _
 split
 .have:=(VB v.id ⟨j.AL,j.A5,j.Ak,j.A9,j.Ak.Cj,j.left,j.AQ⟩ j.Ak.Cj v.A8).2.2;omega
 split
 .exact h
 split
 .exact xQ _
 .exact h
theorem pJ(v:AD)(j:An)(m:AC)(h:j.left.length<=L)(hL:3<=L):(C5 v j m).job.left.length<=L:=by
 unfold C5;split
 .split
  .split
   .exact cA v _ h hL
   .exact h
  split
  .split
   .have:=(VB v.id j j.AO m.A8).2.2;omega
   .exact h
  split
  .split
   .exact zB (QP j m.As m.AQ).2 h
   .exact h
  split
  .split
   .exact xQ _
   .exact h
  .exact h
 .exact h
theorem pH(v:AD)(j:An)(d:Int)(h:j.left.length<=L)(hL:3<=L):(C3 v j d).job.left.length<=L:=by
 unfold C3;split
 .split
  .split
   .exact cA v _ h hL
   .exact h
  split
  .split
   .exact xQ _
   .exact h
  split
  .exact zB (QP j d 210).2 h
  .exact h
 .exact h
variable {K:Nat}
theorem p8(n:AA)(c:AW)(m:AC)(h:JB L K n)(hL:3<=L)(hm:m.A9.AH.length<=K):JB L K (Cd n c m).1:=by
 have hj:=VA c.BQ h;unfold Cd;split
 .split
  .exact⟨h.f,h.m,h.c⟩
  split
  .exact V0 _ _ _ _ h ⟨pJ _ _ _ hj.l hL,(Nf n.A7 (H6 n c.BQ) m K hj.k hm).2.1⟩
  .exact h
 .exact h
theorem tG(n:AA)(c:AW)(h:JB L K n)(hL:3<=L):JB L K (Cv n c).1:=by
 have hj:=VA c.BQ h;unfold Cv;split
 .dsimp only;split
  .exact⟨h.f,h.m,h.c⟩
  split
  .refine V0 {n with A7:=BU n.A7 c.Ao.dst} _ _ _ ⟨h.f,h.m,h.c⟩ ⟨pH _ _ _ hj.l hL,?_⟩;rw[(Na (BU n.A7 c.Ao.dst) (H6 n c.BQ) c.Ao.dst).2.1];exact hj.k
  .exact⟨h.f,h.m,h.c⟩
 .exact h
variable {v:AD}{A5 B8:Int}{m:AC}
theorem mz(h:0<=A5):0<=(Cb v A5 B8 m).1.A5:=by
 unfold Cb;split
 .split
  .exact q0C _
  .dsimp only;split
   .exact(by decide:(0:Int)<=2)
   .exact(by decide:(0:Int)<=3)
 .exact h
theorem mu{d:Int}(h:0<=A5):0<=(DW v A5 B8 d).A5:=by
 unfold DW;split
 .split
  .exact q0C _
  .exact h
 .exact h
variable {n:AA}{w AL AT:Int}{x:AK}
theorem nB(h:0<=n.A5):0<=(Bh n w AL AT x).1.A5:=by
 unfold Bh;split
 .rw[(Cz ..).A5];exact h
 .exact h
variable {c:AW}
theorem kP(h:0<=n.A5):0<=(Cd n c m).1.A5:=by
 unfold Cd;split
 .split
  .exact mz h
  split
  .rw[(Cz ..).A5];exact h
  .exact h
 .exact h
theorem pQ(h:0<=n.A5):0<=(Cv n c).1.A5:=by
 unfold Cv;split
 .dsimp only;split
  .exact mu h
  split
  .rw[(Cz ..).A5];exact h
  .exact h
 .exact h
theorem oU(h:0<=n.A5):0<=(GL n w).A5:=by
 unfold GL;split
 .split
  .exact q0C _
  split
  .rw[(Cz ..).A5];exact h
  .exact h
 .exact h
abbrev big:Nat:=9223372036854775807
structure NL (n:AA):Prop where
 f:n.AP.left.length<=1000
 m:n.Ai.left.length<=1000
 c:n.Ah.left.length<=1000
theorem NL.of(h:JB 1000 K n):NL n:=⟨h.f.l,h.m.l,h.c.l⟩
structure NB (n:AA):Prop where
 r:Av n=true
 l:NL n
 ph:0<=n.A5
theorem NB.j(h:NB n)(K:Nat):JB 1000 (n.AP.A9.AH.length+(n.Ai.A9.AH.length+(n.Ah.A9.AH.length+K))) n:=
 ⟨⟨h.l.f,om⟩,⟨h.l.m,om⟩,⟨h.l.c,om⟩⟩
theorem K4(h:m.right=true):Am m:=by
 unfold Am;unfold AC.right at h;rw[xI,xI]at h
 by_cases h7:m.AR=7
 .have:=h.2.2;unfold AC.has at this;simp only[h7]at this;simp only[show ¬((7:Int)=4)by decide,show ¬((7:Int)=5)by decide,show ¬((7:Int)=6)by decide,yC,yG]at this;rw[xI]at this;have h3:=this.2;unfold Wi.Et at h3;simp only[xI,xK]at h3;omega
 .have hb:=of_decide_eq_true h.2.1
  have e:m.bare.A8=m.A8:=by
   unfold AC.bare
   repeat' split
   all_goals first|rfl|(exfalso;omega)
  rw[<-e,hb];show(AC.empty m).A8.length<=1048576;exact xQ _
theorem NB.FV(h:NB n):Fe n:=by
 obtain⟨_,_,_,hv,hc,_,hk,hs,_⟩:=Aq.1 h.r;have hv:=Cw hv
 have hl:n.A7.A8.length<=3/\rT n.A7.id 0 n.A7.A8=true:=by
  have:=hv.2.2.1;unfold CO at this;rw[xI,xK]at this;exact this
 have hb:n.A7.AB.length<=4:=by
  have:=hv.2.1;unfold Cl at this;simp only[xI,xK]at this;omega
 obtain⟨⟨_,_,_,c1⟩,c2,_⟩:=Bz.1 hc.2;obtain⟨s1,s2,_⟩:=Hr.1 hs;have:=(Dg.1 hk).1;have:=h.l.f;have:=h.l.m;have:=h.l.c;exact⟨Ri hv.1,fun y hy=>Ri (mO _ _ _ hl.2 y hy),om,om,fun x hx=>K4 (Dq.1 (c2 x hx)).1,om,fun x hx=>K4 (Mr.1 (s2 x hx)).1,om,om,om,om,om⟩
theorem NB.hok(h:NB n):ui n:=⟨h.FV,h.ph,h.l.f,h.l.m,h.l.c,xQ _,xQ _,xQ _⟩
theorem NB.start(h:NB n)(hx:x.AH.length<=big):NB (Bh n w AL AT x).1:=
 ⟨(O1 ..).1.right h.r,.of (qE n w AL AT x (h.j x.AH.length) (by decide) om),nB h.ph⟩
theorem NB.heard(h:NB n)(hm:m.A9.AH.length<=big):NB (Cd n c m).1:=
 ⟨(Rf ..).right h.r,.of (p8 n c m (h.j m.A9.AH.length) (by decide) om),kP h.ph⟩
theorem NB.lost(h:NB n):NB (Cv n c).1:=⟨(VJ ..).right h.r,.of (tG n c (h.j 0) (by decide)),pQ h.ph⟩
theorem NB.busy(h:NB n):NB (GL n w):=⟨(bO ..).right h.r,.of (sB n w (h.j 0)),oU h.ph⟩
theorem NB.AX{n:AA}(h:NB n){c:Calls}(hi:c.id=n.AX.id)(hc:Bs c=true):NB {n with AX:=c}:=by
 refine⟨?_,⟨h.l.f,h.l.m,h.l.c⟩,h.ph⟩;obtain⟨a1,a2,a3,a4,a5,a6,a7,a8,a9⟩:=Aq.1 h.r;exact Aq.2 ⟨a1,a2,a3,a4,⟨hi.trans a5.1,hc⟩,a6,a7,a8,a9⟩
theorem NB.cB{n:AA}(h:NB n):Bs n.AX=true/\n.AX.id=n.A7.id:=(Aq.1 h.r).2.2.2.2.1.symm
def MR(id:Int)(g:Dp):Prop:=∃m:AC,m.right=true/\m.As=id/\g=⟨m.dst,(C6 m).1,false⟩
theorem Fc(h:m.right=true):GG m=[⟨m.dst,(C6 m).1,false⟩]:=by
 unfold GG;rw[Wi.Vb h,if_pos rfl]
structure gu (s t:NS):Prop where
 A7:OP s.1.A7 t.1.A7
 A8:t.1.A7.A8=s.1.A7.A8
 Aj:t.1.Aj=s.1.Aj
 BO:t.1.BO=s.1.BO
 last:t.1.last=s.1.last
 bad:t.1.bad=s.1.bad
 AU:s.1.AX.AU<=t.1.AX.AU
 keep:t.1.keep=s.1.keep
 nb:NB t.1
 tx:t.1.A5=0\/(t.1.A5=s.1.A5/\t.1.B8=s.1.B8)
 C0:∃g:List Dp,t.2=s.2++g/\(∀x∈g,MR s.1.A7.id x)/\t.1.AX.op.length=s.1.AX.op.length+g.length
variable {s:NS}
theorem gu.refl(h:NB s.1):gu s s:=⟨.refl _,rfl,rfl,rfl,rfl,rfl,q0C _,rfl,h,.inr ⟨rfl,rfl⟩,[],sm,fun x hx=>(by cases hx),rfl⟩
theorem gu.trans{t u:NS}(h:gu s t)(k:gu t u):gu s u:=by
 obtain⟨g1,a1,a2,a3⟩:=h.C0;obtain⟨g2,b1,b2,b3⟩:=k.C0;refine⟨h.A7.trans k.A7,k.A8.trans h.A8,k.Aj.trans h.Aj,k.BO.trans h.BO,k.last.trans h.last,k.bad.trans h.bad,Int.le_trans h.AU k.AU,k.keep.trans h.keep,k.nb,?_,g1++g2,by rw[b1,a1,yB],fun x hx=> ?_,by rw[y9];omega⟩
 .rcases k.tx with e|⟨e1,e2⟩
  .exact .inl e
  .rw[e1,e2];exact h.tx
 .rcases yx.1 hx with hx|hx
  .exact a2 x hx
  .rw[<-h.A7.id];exact b2 x hx
theorem Yy(n:AA)(w:Int):(GL n w).A7.A8=n.A7.A8/\(GL n w).keep=n.keep/\((GL n w).A5=0\/((GL n w).A5=n.A5/\(GL n w).B8=n.B8)):=by
 unfold GL;split
 .split
  .exact⟨rfl,rfl,.inl rfl⟩
  split
  .have g:=Cz n w false ⟨CU (CS (H6 n w) 100),[],false⟩;refine⟨g.A8,?_,.inr ⟨g.A5,g.B8⟩⟩;unfold B6;simp only[yJ,yC]
   have hp:∀(a:AA)(j:An),(Q3 a w j).keep=a.keep:=fun a j=>by
    unfold Q3;repeat' split
    all_goals rfl
   split
   .unfold FF;exact hp _ _
   .exact hp _ _
  .exact⟨rfl,rfl,.inr ⟨rfl,rfl⟩⟩
 .exact⟨rfl,rfl,.inr ⟨rfl,rfl⟩⟩
theorem Xi(h:NB s.1)(a:AC×Int):gu s (P6 s a):=by
 unfold P6;split
 .rename_i he;obtain⟨h1,h2,h3,q,hq,h4,h5,e⟩:=ca h.cB.1 he;have hr:=Zp h.cB.1 he;rw[e]at hr|-;refine⟨.refl _,rfl,rfl,rfl,rfl,rfl,by dsimp only;omega,rfl,h.AX rfl hr,.inr ⟨rfl,rfl⟩,GG q,rfl,fun x hx=> ?_,?_⟩
  .rw[Fc h4,zV]at hx;exact⟨q,h4,by rw[hq];exact h.cB.2,hx⟩
  .rw[Fc h4];simp
 .have b:=bO s.1 a.2;have p:=Yy s.1 a.2;exact⟨b.A7,p.1,b.Aj,b.BO,b.last,b.bad,by rw[b.AX];exact q0C _,p.2.1,h.busy,p.2.2,[],sm,fun x hx=>(by cases hx),by rw[b.AX];rfl⟩
theorem Ij:∀(l:List (AC×Int)){s:NS},NB s.1->gu s (FC s l)
 |[],s,h=> .refl h
 |a::r,s,h=>(Xi h a).trans (Ij r (Xi h a).nb)
theorem cv(l:List AK)(x:AK):l.length<=(FI l x).1.length:=by
 unfold FI;split
 .split
  .split
   .simp
   .exact xH _
  .split
   .exact xH _
   .have:=SR l x.AH;simp only[y9,xw,yM,List.length_drop];omega
 .exact xH _
theorem mn(k:List AK)(j:An):k.length<=(EK k j).1.length:=by
 unfold EK;split
 .exact cv ..
 .split<;>exact xH _
theorem Rb(n:AA)(w:Int)(e:Bool)(c:JC):n.keep.length<=(B6 n w e c).1.keep.length:=by
 unfold B6
 have hs:n.keep.length<=(if c.own then EK n.keep c.job else(n.keep,c.job)).1.length:=by
  split
  .exact mn ..
  .exact xH _
 generalize(if c.own then EK n.keep c.job else(n.keep,c.job))=s at*
 have hp:∀(a:AA)(j:An),(Q3 a w j).keep=a.keep:=fun a j=>by
  unfold Q3;repeat' split
  all_goals rfl
 dsimp only;split
 .unfold FF;dsimp only;rw[hp];exact hs
 .rw[hp];exact hs
theorem gR(n:AA)(w AL AT:Int)(x:AK):n.keep.length<=(Bh n w AL AT x).1.keep.length:=by
 unfold Bh;split
 .exact Rb ..
 .exact xH _
theorem ZO(n:AA)(c:AW)(m:AC):n.keep.length<=(Cd n c m).1.keep.length:=by
 unfold Cd;split
 .split
  .exact xH _
  split
  .exact Rb ..
  .exact xH _
 .exact xH _
theorem fI(n:AA)(c:AW):n.keep.length<=(Cv n c).1.keep.length:=by
 unfold Cv;split
 .dsimp only;split
  .exact xH _
  split
  .exact Rb {n with A7:=BU n.A7 c.Ao.dst} _ _ _
  .exact xH _
 .exact xH _
structure Mz (s t:NS):Prop where
 A7:OP s.1.A7 t.1.A7
 Aj:t.1.Aj=s.1.Aj
 AU:s.1.AX.AU<=t.1.AX.AU
 keep:s.1.keep.length<=t.1.keep.length
 bad:t.1.bad=s.1.bad
 nb:NB t.1
 C0:∃g:List Dp,t.2=s.2++g/\(∀x∈g,MR s.1.A7.id x)/\t.1.AX.op.length=s.1.AX.op.length+g.length
theorem gu.h{s t:NS}(h:gu s t):Mz s t:=⟨h.A7,h.Aj,h.AU,by rw[h.keep];exact xH _,h.bad,h.nb,h.C0⟩
theorem Mz.refl(h:NB s.1):Mz s s:=(gu.refl h).h
theorem Mz.trans{t u:NS}(h:Mz s t)(k:Mz t u):Mz s u:=by
 obtain⟨g1,a1,a2,a3⟩:=h.C0;obtain⟨g2,b1,b2,b3⟩:=k.C0;refine⟨h.A7.trans k.A7,k.Aj.trans h.Aj,Int.le_trans h.AU k.AU,zB h.keep k.keep,k.bad.trans h.bad,k.nb,g1++g2,by rw[b1,a1,yB],fun x hx=> ?_,by rw[y9];omega⟩;rcases yx.1 hx with hx|hx
 .exact a2 x hx
 .rw[<-h.A7.id];exact b2 x hx
variable {g:List Dp}
theorem Mz.of{w:AA}(hv:OP n.A7 w.A7)(h1:w.Aj=n.Aj)(h2:w.AX=n.AX)(h3:n.keep.length<=w.keep.length)(h5:w.bad=n.bad)(h4:NB w):Mz (n,g) (w,g):=
 ⟨hv,h1,by rw[h2];exact q0C _,h3,h5,h4,[],sm,fun x hx=>(by cases hx),by rw[h2];rfl⟩
theorem ae{r:AA×List (AC×Int)}(s:iH n r.1)(hk:n.keep.length<=r.1.keep.length)(h:NB r.1):Mz (n,g) (Ei g r):=
 (Mz.of s.A7 s.Aj s.AX hk s.bad h).trans (Ij r.2 (s:=(r.1,g)) h).h
theorem Vt(h:NB n)(hx:x.AH.length<=big):Mz (n,g) (Ei g (Bh n w AL AT x)):=ae (O1 ..).1 (gR ..) (h.start hx)
theorem p7(h:NB n)(hm:m.A9.AH.length<=big):Mz (n,g) (Ei g (Cd n c m)):=ae (Rf ..) (ZO ..) (h.heard hm)
theorem Zd(h:NB n):Mz (n,g) (Ei g (Cv n c)):=ae (VJ ..) (fI ..) h.lost
theorem Nj:∀(l:List AW){s:NS},NB s.1->Mz s (l.foldl (fun s x=>Ei s.2 (Cv s.1 x)) s)
 |[],s,h=> .refl h
 |x::r,s,h=>(Zd (g:=s.2) h (c:=x)).trans (Nj r (Zd (g:=s.2) h (c:=x)).nb)
theorem NB.Aj{n:AA}(h:NB n)(hc:n.Aj<1099511627776):NB {n with Aj:=n.Aj+1}:=by
 refine⟨?_,⟨h.l.f,h.l.m,h.l.c⟩,h.ph⟩;obtain⟨a1,a2,a3,a4,a5,a6,a7,a8,a9⟩:=Aq.1 h.r;exact Aq.2 ⟨⟨by dsimp only;omega,by dsimp only;omega⟩,a2,a3,a4,a5,a6,a7,a8,a9⟩
theorem NB.late(h:NB n)(now:Int):NB {n with AX:=(CH n.AX now).1}:=h.AX (cN ..).1 (Zc h.cB.1)
theorem Me(hv:Al v=true)(hs:CZ A5 B8=true)(h0:0<=A5):CZ (Cc v A5 B8).1.1 (Cc v A5 B8).1.2=true/\0<=(Cc v A5 B8).1.1:=by
 unfold Cc;split
 .refine⟨?_,(by decide:(0:Int)<=1)⟩;show CZ 1 (FK v)=true;unfold CZ;rw[if_neg (by decide),<-H5,(Te hv).1];rfl
 .exact⟨hs,h0⟩
theorem NB.tx(h:NB n){p o:Int}(hs:CZ p o=true)(h0:0<=p):NB {n with A5:=p,B8:=o}:=by
 refine⟨?_,⟨h.l.f,h.l.m,h.l.c⟩,h0⟩;obtain⟨a1,a2,a3,a4,a5,a6,a7,a8,a9⟩:=Aq.1 h.r;exact Aq.2 ⟨a1,a2,a3,a4,a5,hs,a7,a8,a9⟩
theorem NB.rv(h:NB n):Al n.A7=true:=(Aq.1 h.r).2.2.2.1
theorem Vm(h:NB s.1):Mz s (K5 s):=by
 have hb:=Me h.rv (Aq.1 h.r).2.2.2.2.2.1 h.ph;have hn:=h.tx hb.1 hb.2;have h1:Mz (s.1,s.2) ({s.1 with A5:=(Cc s.1.A7 s.1.A5 s.1.B8).1.1,B8:=(Cc s.1.A7 s.1.A5 s.1.B8).1.2},s.2):=Mz.of (.refl _) rfl rfl (xH _) rfl hn;exact h1.trans (Ij _ (s:=({s.1 with A5:=(Cc s.1.A7 s.1.A5 s.1.B8).1.1,B8:=(Cc s.1.A7 s.1.A5 s.1.B8).1.2},s.2)) hn).h
theorem Zv(h:NB s.1):Mz s (LA s):=by
 unfold LA;split
 .exact(Ij _ h).h
 .exact .refl h
theorem YU{v:AD}(hv:Al v=true):∀(k i:Nat)(f:Nat->Int),(∀j,j<16->FO v.id (f j)=true)->∀j,j<16->FO v.id ((IP v k i f).1 j)=true
 |0,i,f,h=>h
 |k+1,i,f,h=>by
  unfold IP;split
  .refine YU hv k (i+1) _ fun j hj=> ?_;unfold Vq
   split
   .split
    .simp[FO]
    .rename_i hne;simp[FO,(Te hv).1,hne]
   .exact h j hj
  .exact h
theorem YS(v:AD):∀(k i:Nat)(f:Nat->Int)(j:Nat),(IP v k i f).2=some j->j<i+k
 |0,i,f,j,h=>by unfold IP at h;cases h
 |k+1,i,f,j,h=>by
  unfold IP at h;split at h
  .have:=YS v k (i+1) _ j h;omega
  .cases h;omega
theorem Ww{f:Nat->Int}{p:Int->Bool}:(E3 f).all p=true↔∀j,j<16->p (f j)=true:=by
 rw[yc];constructor
 .intro h j hj;refine h _ ?_;rcases Q1 hj with rfl|rfl|rfl|rfl|rfl|rfl|rfl|rfl|rfl|rfl|rfl|rfl|rfl|rfl|rfl|rfl<;>simp[E3]
 .intro h x hx;simp only[E3,yP,List.not_mem_nil,or_false]at hx;rcases hx with rfl|rfl|rfl|rfl|rfl|rfl|rfl|rfl|rfl|rfl|rfl|rfl|rfl|rfl|rfl|rfl<;>exact h _ (by decide)
theorem Vy(hv:Al v=true)(i:Int):OP v (walkT v i).1/\(walkT v i).1.A8=v.A8/\0<=(walkT v i).2.1/\(walkT v i).2.1<16:=by
 unfold walkT;rw[if_pos hv];dsimp only;generalize hi:(if 0<=i/\i<16 then i.toNat else 0)=i0
 have hi0:i0<16:=by
  rw[<-hi];split<;>omega
 obtain⟨h1,h2,h3,h4,h5⟩:=Cw hv;have ho:=YU hv (16-i0) i0 v.f (Ww.1 h5);have hl:=YS v (16-i0) i0 v.f;generalize IP v (16-i0) i0 v.f=r at *;obtain⟨f,o⟩:=r
 have hr:∀w:AD,w={v with f:=f}->OP v w:=fun w hw=>by
  subst hw;exact⟨rfl,rfl,fun _=>LB h1 h2 h3 h4 (Ww.2 ho)⟩
 cases o with
 |none=>exact⟨hr _ rfl,rfl,q0C _,(by decide:(0:Int)<16)⟩
 |some k=>
  have:=hl k rfl;exact⟨hr _ rfl,rfl,by dsimp only;omega,by dsimp only;omega⟩
theorem NB.A7{n:AA}(h:NB n){v:AD}(hv:OP n.A7 v){k:Int}(hk:0<=k/\k<16):NB {n with A7:=v,next:=k}:=by
 refine⟨?_,⟨h.l.f,h.l.m,h.l.c⟩,h.ph⟩;obtain⟨a1,a2,a3,a4,a5,a6,a7,a8,a9⟩:=Aq.1 h.r;refine Aq.2 ⟨a1,a2,hk,hv.right a4,⟨a5.1.trans hv.id.symm,a5.2⟩,a6,a7,a8,?_⟩;exact(mD (n:=n) (w:={n with A7:=v,next:=k}) rfl hv.id).trans a9
theorem RU(h:NB s.1):Mz s (G9 s):=by
 have hw:=Vy h.rv s.1.next;have hn:=h.A7 hw.1 hw.2.2;have h1:Mz (s.1,s.2) ({s.1 with A7:=(walkT s.1.A7 s.1.next).1,next:=(walkT s.1.A7 s.1.next).2.1},s.2):=Mz.of hw.1 rfl rfl (xH _) rfl hn;unfold G9;split
 .dsimp only;split
  .exact h1.trans (Vt hn (by decide))
  .exact h1
 .exact .refl h
theorem NB.last{n:AA}(h:NB n)(k:AJ):NB {n with last:=k}:=by
 refine⟨?_,⟨h.l.f,h.l.m,h.l.c⟩,h.ph⟩;exact Aq.2 (Aq.1 h.r)
theorem Rj{k:List AK}(h:Ck k=true)(hx:x∈k):x.AH.length<=20:=by
 have:=(Dg.1 h).2.1 x hx;unfold Wi.BE Wi.Bc at this;simp only[xI,xK]at this;omega
theorem QS{k:List AK}{AH:AJ}(h:(Fi k AH).2=true):Ck k=true/\(Fi k AH).1∈k:=by
 unfold Fi at h|-;split
 .rename_i hc;rw[xI,xK]at hc;refine⟨hc.2,?_⟩;dsimp only;generalize(if hasK k AH=true then CY k AH+1 else CY k AH)=a;have:(if k.length<=a then 0 else a)<k.length:=by split<;>omega
  rw[xu,xP this];exact q00 this
 .rename_i hc;rw[if_neg hc]at h;cases h
theorem lR(h:NB s.1):Mz s (Hh s):=by
 unfold Hh;split
 .rename_i hc;rw[xI]at hc;have hx:=QS hc.2;have hk:=Rj hx.1 hx.2;dsimp only;have h1:Mz (s.1,s.2) ({s.1 with last:=(Fi s.1.keep s.1.last).1.AH},s.2):=Mz.of (.refl _) rfl rfl (xH _) rfl (h.last _);exact h1.trans (Vt (h.last _) (zB hk (by decide)))
 .exact .refl h
theorem dM(h:NB n):NB (GP n).1/\OP n.A7 (GP n).1.A7/\(GP n).1.Aj=(if n.Aj>=1099511627776 then n.Aj else n.Aj+1)/\n.AX.AU<=(GP n).1.AX.AU/\n.keep.length<=(GP n).1.keep.length/\(∀g∈(GP n).2,MR n.A7.id g)/\(GP n).2.length<=48:=by
 unfold GP;split
 .rename_i hc
  have hc:n.Aj>=1099511627776:=by
   rcases hc with hc|hc
   .exact hc
   .rw[h.r]at hc;cases hc
  rw[if_pos hc];exact⟨h,.refl _,rfl,q0C _,xH _,fun g hg=>(by cases hg),xQ _⟩
 .rename_i hc
  have hlt:n.Aj<1099511627776:=by
   rcases Int.lt_or_le n.Aj 1099511627776 with hl|hl
   .exact hl
   .exact absurd (.inl hl) hc
  rw[if_neg om];have h1:=h.Aj hlt;have hcb:=h.cB;have h2:=h1.late (n.Aj+1);have hm:=(fC (c:=n.AX) (now:=n.Aj+1) hcb.1).1;have hl:=l8 n.AX (n.Aj+1) hcb.1;have hi:=cN n.AX (n.Aj+1)
  have hq:∀l:List AC,(∀m∈l,m.right=true/\m.BN=true/\m.As=n.AX.id)->(∀g∈l.flatMap GG,MR n.A7.id g)/\(l.flatMap GG).length=l.length:=by
   intro l
   induction l with
   |nil=>exact fun _=>⟨fun g hg=>(by cases hg),rfl⟩
   |cons m r ih=>
    intro hr;obtain⟨i1,i2⟩:=ih fun m hm=>hr m (yQ _ hm)
    have hm:=hr m (yT ..);rw[List.flatMap_cons,Fc hm.1];refine⟨fun g hg=> ?_,by rw[y9,i2];simp;omega⟩;rcases yx.1 hg with hg|hg
    .rw[zV]at hg;exact⟨m,hm.1,hm.2.2.trans hcb.2,hg⟩
    .exact i1 g hg
  obtain⟨q1,q2⟩:=hq _ hm;have a:=Nj (CH n.AX (n.Aj+1)).2.2 (s:=({n with Aj:=n.Aj+1,AX:=(CH n.AX (n.Aj+1)).1},[]++(CH n.AX (n.Aj+1)).2.1.flatMap GG)) h2;change Mz _ (L0 ({n with Aj:=n.Aj+1},[]))at a;have b:=a.trans (Vm a.nb);have c:=b.trans (Zv b.nb);have d:=c.trans (RU c.nb);have e:=d.trans (lR d.nb);obtain⟨g,g1,g2,g3⟩:=e.C0;have h16:=(Bz.1 e.nb.cB.1).1.2.2.2;refine⟨e.nb,e.A7,e.Aj,by have:=e.AU;dsimp only at this;omega,e.keep,fun x hx=> ?_,?_⟩
  .rw[g1]at hx;rw[xY]at hx;rcases yx.1 hx with hx|hx
   .exact q1 x hx
   .exact g2 x hx
  .rw[g1,xY,y9,q2];dsimp only at g3;omega
theorem UG(h:m.right=true):BP (C6 m).1=(m,0):=by
 rw[Wi.Vb h];exact Wi.nI h
end Nd
end Go.Proofs.YtkljbfejbakooaaGreatDoor
namespace Go.Proofs.YtkljbfejbakooaaGreatDoor
namespace Nd
open Go.Gar
open Wi (AC Bp BE AN Bc mC C6 BP)
abbrev Qj:Aw:=[0,1,2,3,4,5,6,19]
abbrev M8:Aw:=[0,1,4,5,6,7,15,23,29]
abbrev OF:Aw:=[0,1,2,3,4,5,25]
theorem dJ(m:AC):xB 183 [m.d] (CV m).d:=by
 have c1:=Wi.H9 m
 cases h:m.BN with
 |false=>
  have hT:CV m=AN:=by unfold CV;rw[h];rfl
  rw[h]at c1;rw[hT];clear h hT;refine zF AF Tryz.func183 ?_;unfold Wi.AC.d Wi.AC.A0 at *;refine wd [0,1,2,5] [] A4 (AM @c1) ?_;exact BL (xU @AN.eq_1 @AY.eq_1)
 |true=>
  have hT:CV m=⟨m.AR+6,m.Aa,m.dst,m.As,0,false,false,0,0,[],AY,0⟩:=by unfold CV;rw[h];rfl
  have hk:1<=m.AR/\m.AR<=6:=by
   unfold AC.BN at h;simpa only[xI,xK]using h
  have f1:(m.AR+6)%256=m.AR+6:=om
  rw[h]at c1;rw[hT];clear h hT;refine zF AF Tryz.func183 ?_;unfold Wi.AC.d Wi.AC.A0 at *;refine wd [0,1,2,5] [] (AM f1) (AM @c1) ?_;exact BL @AY.eq_1
theorem jH(v:AD)(A5 B8:Int)(hb:v.AB.length<=1000)(hl:v.A8.length<=1000)(h0:0<=A5):xB 108 [v.d,.agg [.i .u8 A5,.i .i64 B8]] (.tup [.agg [.i .u8 (Cc v A5 B8).1.1,.i .i64 (Cc v A5 B8).1.2],Ab (Cc v A5 B8).2]):=by
 have c1:=BV v hb hl;have c2:=Qa A5 B8;have c3:=JZ v hb hl
 have c4:Al v=true->xB 169 [.agg [.i .u8 1,.i .i64 (FK v)]] (Ab (GK 1 (FK v))):=fun hv=>QB 1 (FK v) (by decide) (by
  unfold CZ
  rw[if_neg (by decide),<-H5,(Te hv).1];rfl)
 refine zF AF Tryz.func108 ?_;unfold AD.d AD.A0 at*
 cases hv:Al v with
 |false=>
  have hT:Cc v A5 B8=((A5,B8),[]):=by unfold Cc;rw[hv];rfl
  rw[hv]at c1;rw[hT];refine wd Qj [] A4 (AM @c1) ?_;exact zE
 |true=>
 have c4:=c4 hv;rw[hv]at c1
 cases hs:CZ A5 B8 with
 |false=>
  have hT:Cc v A5 B8=((A5,B8),[]):=by unfold Cc;rw[hv,hs];rfl
  rw[hs]at c2;rw[hT];refine wd Qj [] A4 (Ax @c1 @c2) ?_;exact zE
 |true=>
 rw[hs]at c2
 by_cases hp:A5=0
 .have hT:Cc v A5 B8=((1,FK v),GK 1 (FK v)):=by unfold Cc;rw[hv,hs,xM hp];rfl
  have f1:=C2 hp;rw[hT];generalize GK 1 (FK v)=ak at *;generalize FK v=fi at *;refine wd Qj [] (AM f1) (KQ @c1 @c2 @c3 @c4) ?_;exact zE
 .have hT:Cc v A5 B8=((A5,B8),[]):=by unfold Cc;rw[hv,hs,xO hp];rfl
  have f1:=C4 hp;rw[hT];refine wd Qj [] (AM f1) (Ax @c1 @c2) ?_;exact zE
theorem mV(v:AD)(hb:v.AB.length<=1000)(hl:v.A8.length<=1000):xB 110 [v.d] (.tup [.i .i64 (Pn v).1,.b (Pn v).2]):=by
 have c1:=BV v hb hl;have hT:Pn v=if Al v&&decide (v.AG≠ -1)then(v.AG,true)else(0,false):=rfl
 rw[hT];clear hT;refine zF AF Tryz.func110 ?_;unfold AD.d AD.A0 at*
 cases hv:Al v with
 |false=>
  rw[hv]at c1;refine wd [0,1,2,3,11] [] A4 (AM @c1) ?_;exact zE
 |true=>
 rw[hv]at c1
 by_cases hp:v.AG= -1
 .have f1:=AS hp;have hf:decide (v.AG≠ -1)=false:=xO (fun h=>h hp);rw[hf];refine wd [0,1,2,3,11] [] (AM f1) (AM @c1) ?_;exact zE
 .have f1:=eq_false' hp;have hf:decide (v.AG≠ -1)=true:=xM hp;rw[hf];refine wd [0,1,2,3,11] [] (AM f1) (AM @c1) ?_;exact zE
theorem ko(l:List AK)(AH:AJ)(hn:l.length<=1048576):xB 115 [BX l,.s AH] (.tup [(Fi l AH).1.d,.b (Fi l AH).2]):=by
 have c1:=QQ l om;refine zF AF Tryz.func115 ?_
 by_cases h0:l.length=0
 .have f1:((l.length:Int)==0)=true:=AS om;have hT:Fi l AH=(AY,false):=by unfold Fi;rw[if_neg (by simp[h0])]
  rw[hT];refine wd M8 [] (AM f1) A4 ?_;exact BL (xU @AK.d.eq_1 (xU @AK.A0.eq_1 @AY.eq_1))
 have f1:((l.length:Int)==0)=false:=eq_false' om
 cases hk:Ck l with
 |false=>
  have hT:Fi l AH=(AY,false):=by unfold Fi;rw[hk,zY];rfl
  rw[hk]at c1;rw[hT];refine wd M8 [] (AM f1) (AM @c1) ?_;exact BL (xU @AK.d.eq_1 (xU @AK.A0.eq_1 @AY.eq_1))
 |true=>
 have c2:=Zx l AH (Dg.1 hk).2.2 hn;rw[hk]at c1;have hple:=SR l AH
 have hT:Fi l AH=(l.getD (if l.length<=(if hasK l AH then CY l AH+1 else CY l AH)then 0 else(if hasK l AH then CY l AH+1 else CY l AH)) AY,true):=by
  unfold Fi;rw[hk,xM om];rfl
 rw[hT];clear hT;generalize CY l AH=p at *;generalize hasK l AH=b at *;have key':∃a:Nat,(if b=true then p+1 else p)=a/\a<=p+1:=⟨_,rfl,by split<;>omega⟩;obtain⟨a,ha,hap⟩:=key';rw[ha]
 by_cases hal:l.length<=a
 .rw[if_pos hal];obtain⟨x,hx⟩:=BB (show 0<l.length by omega);have gx:l.getD 0 AY=x:=getD_at hx;have hx':l[(0:Nat)]? =some x:=hx;rw[gx]
  cases b with
  |true=>
   rw[if_pos rfl]at ha;have f2:decide ((p:Int)+1>=(l.length:Int))=true:=xM om;have ix1:=hx';refine wd M8 [] (Ax f1 f2) (Ax @c1 @c2) ?_;clear ix1;exact BL (xU @AK.d.eq_1 @AK.A0.eq_1)
  |false=>
   rw[if_neg (by decide)]at ha;have f2:decide ((p:Int)>=(l.length:Int))=true:=xM om;have ix1:=hx';refine wd M8 [] (Ax f1 f2) (Ax @c1 @c2) ?_;clear ix1;exact BL (xU @AK.d.eq_1 @AK.A0.eq_1)
 .rw[if_neg hal];obtain⟨x,hx⟩:=BB (show a<l.length by omega);have gx:l.getD a AY=x:=getD_at hx;rw[gx]
  cases b with
  |true=>
   rw[if_pos rfl]at ha;subst ha;have f2:decide ((p:Int)+1>=(l.length:Int))=false:=xO om;have ix1:=hx;refine wd M8 [] (Ax f1 f2) (Ax @c1 @c2) ?_;clear ix1;exact BL (xU @AK.d.eq_1 @AK.A0.eq_1)
  |false=>
   rw[if_neg (by decide)]at ha;subst ha;have f2:decide ((p:Int)>=(l.length:Int))=false:=xO om;have ix1:=hx;refine wd M8 [] (Ax f1 f2) (Ax @c1 @c2) ?_;clear ix1;exact BL (xU @AK.d.eq_1 @AK.A0.eq_1)
theorem pA(v:AD)(m:AC)(hb:v.AB.length<=1000)(hl:v.A8.length<=1000)(hm:Am m):xB 189 [v.d,m.d] (Oj v m).d:=by
 have c1:=BV v hb hl;have c2:=Wi.CX m (lm hm);have c3:=dJ m;have c4:=an v m.AH m.B4 hb hl;have hT:Oj v m=if(Al v&&decide (m.AR=4))&&(decide (m.dst=v.id)&&m.right)then{CV m with AT:=(Eo v m.AH m.B4).1,done:=(Eo v m.AH m.B4).2}else AN:=rfl
 rw[hT];clear hT;generalize CV m=t at *;generalize Eo v m.AH m.B4=h at *;obtain⟨h1,h2⟩:=h;refine zF AF Tryz.func189 ?_;unfold Wi.AC.d Wi.AC.A0 AD.d AD.A0 at*
 cases hv:Al v with
 |false=>
  rw[hv]at c1;refine wd OF [] A4 (AM @c1) ?_ [] true;exact BL (xU @AN.eq_1 @AY.eq_1)
 |true=>
 rw[hv]at c1
 by_cases hk:m.AR=4
 case neg=>
  have f1:=C4 hk;rw[xO hk];refine wd OF [] (AM f1) (AM @c1) ?_ [] true;exact BL (xU @AN.eq_1 @AY.eq_1)
 case pos=>
 have f1:=C2 hk;rw[xM hk]
 by_cases hd:m.dst=v.id
 case neg=>
  have f2:=C4 hd;rw[xO hd];refine wd OF [] (Ax f1 f2) (AM @c1) ?_ [] true;exact BL (xU @AN.eq_1 @AY.eq_1)
 case pos=>
 have f2:=C2 hd;rw[xM hd]
 cases hr:m.right with
 |false=>
  rw[hr]at c2;refine wd OF [] (Ax f1 f2) (Ax @c1 @c2) ?_ [] true;exact BL (xU @AN.eq_1 @AY.eq_1)
 |true=>
  rw[hr]at c2;refine wd OF [] (Ax f1 f2) (KQ @c1 @c2 @c3 @c4) ?_ [] true;exact zE
def MP(l:List (AC×Int)):Prop:=∀a∈l,a.1.A8=[]
theorem kj(id:Int)(j:An)(o:Int)(l:Ad):∀m∈(JM id j o l).BN,m.A8=[]:=fun m hm=>by
 unfold JM at hm;simp only[List.mem_map]at hm;obtain⟨p,_,rfl⟩:=hm;rfl
theorem V8(v:AD)(j:An):∀m∈(EH v j).BN,m.A8=[]:=by
 unfold EH;split
 .simp
 split
 .dsimp only;split
  .intro m hm;rw[zV]at hm;subst hm;unfold cP;split<;>rfl
  .simp
 split
 .simp
 split
 .exact kj _ _ _ _
 split
 .simp[J9]
 split
 .simp
 .simp[UW]
theorem sx(v:AD)(w p:Int)(x:AK):∀m∈(Ep v w p x).BN,m.A8=[]:=by
 unfold Ep;split
 .exact V8 _ _
 .simp
theorem pI(v:AD)(j:An)(m:AC):∀q∈(C5 v j m).BN,q.A8=[]:=by
 unfold C5;split
 .split
  .split
   .exact V8 _ _
   .simp
  split
  .split
   .exact kj _ _ _ _
   .simp
  split
  .split<;>simp
  split
  .split<;>simp
  .simp
 .simp
theorem pG(v:AD)(j:An)(d:Int):∀q∈(C3 v j d).BN,q.A8=[]:=by
 unfold C3;split
 .split
  .split
   .exact V8 _ _
   .simp
  split
  .split<;>simp
  split<;>simp
 .simp
theorem UX(p o:Int):MP (GK p o):=by
 unfold GK MP;split
 .simp[J9]
 split<;>simp
theorem ZG(n:AA)(w:Int)(e:Bool)(c:JC)(h:∀m∈c.BN,m.A8=[]):MP (B6 n w e c).2:=fun a ha=>by
 unfold B6 at ha;simp only[List.mem_map]at ha;obtain⟨m,hm,rfl⟩:=ha;exact h m hm
theorem Vs(n:AA)(w AL AT:Int)(x:AK):MP (Bh n w AL AT x).2:=by
 unfold Bh;split
 .exact ZG _ _ _ _ (sx _ _ _ _)
 .exact fun a ha=>by cases ha
theorem oz(n:AA)(c:AW)(m:AC):MP (Cd n c m).2:=by
 unfold Cd;split
 .split
  .dsimp only;unfold Cb;split
   .split
    .exact fun a ha=>by cases ha
    .dsimp only;split
     .dsimp only;exact UX _ _
     .dsimp only;exact UX _ _
   .exact fun a ha=>by cases ha
  split
  .exact ZG _ _ _ _ (pI _ _ _)
  .exact fun a ha=>by cases ha
 .exact fun a ha=>by cases ha
theorem tE(n:AA)(c:AW):MP (Cv n c).2:=by
 unfold Cv;split
 .dsimp only;split
  .exact fun a ha=>by cases ha
  split
  .exact ZG _ _ _ _ (pG _ _ _)
  .exact fun a ha=>by cases ha
 .exact fun a ha=>by cases ha
theorem oO(v:AD)(p o:Int):MP (Cc v p o).2:=by
 unfold Cc;split
 .dsimp only;exact UX _ _
 .exact fun a ha=>by cases ha
theorem NB.tP{n:AA}(h:NB n):n.AX.op.length<=16:=by
 have:=(Bz.1 h.cB.1).1;omega
theorem Mz.size{s t:NS}(h:Mz s t):t.2.length<=s.2.length+16:=by
 obtain⟨g,e,_,e2⟩:=h.C0;have:=h.nb.tP;rw[e,y9];omega
theorem fY{s:NS}(h:NB s.1)(l:List (AC×Int)):(FC s l).2.length<=s.2.length+16:=(Ij l h).h.size
abbrev FY:Aw:=[0,1,2,4,5,6,7,9,10,31]
abbrev GZ(l:List Dp):D:=.sl 3 (l.map Dp.A0)
abbrev nH(n:AA)(g:List Dp):xS:=[.c (hC n (.sl 1 g.length 3)),.a (GZ g)]
abbrev aC(a:AC×Int):xD:=[.wz a.1.AR,.wo a.1.Aa,.wo a.1.As,.wo a.1.dst,.wo a.1.AH,.wu a.1.B4,.wu a.1.done,.wo a.1.AT,.wo a.1.AG,.xG a.1.A8,.xE a.1.A9.AH,.wo a.1.A9.B2,.wo a.1.A9.AZ,.wu a.1.A9.gone,.wo a.1.AQ,.wz a.2]
theorem lb(l:List (AC×Int)):xC 152 [.d (Ab l)] [] (.fn (.func 230) [] [.ptr 0 0 1]) [.c [.d (Ab l)]]:=by
 refine zC AF Tryz.func152 ?_;refine wd [0,1,2] [] A4 A4 ?_;exact Hc
theorem QY(n:AA)(g:List Dp)(m:AC)(hm:m.A8.length<9223372036854775807)(hg:g.length<=1048576):xC 46 [.ptr 0 0 77,.d m.d] (nH n g) (.tup []) (nH n (g++GG m)):=by
 have c1:=Wi.iK m hm;refine zC AF Tryz.func46 ?_;unfold Wi.AC.d Wi.AC.A0 at *;have hT:GG m=if(C6 m).2=0 then[⟨m.dst,(C6 m).1,false⟩]else[]:=rfl
 generalize C6 m=p at *;obtain⟨pb,pe⟩:=p;dsimp only at c1 hT;rw[hT]
 by_cases h:pe=0
 .have f1:=AS h;rw[if_pos h];unfold nH hC;refine wd [0,1,3,4,5,12] [] (AM f1) (AM @c1) ?_ [(0,9),(1,9),(2,9),(3,9),(4,9),(0,10)]
  (have nC:=xU @GZ.eq_1 @Dp.A0.eq_1;exact vQ)
 .have f1:=eq_false' h;rw[if_neg h,yK];unfold nH hC;refine wd [0,1,3,4,5,12] [] (AM f1) (AM @c1) ?_;exact Hc
theorem Zn(c:Calls)(m:AC)(BQ ref now:Int)(h:m.A8=[]):(Bt c m BQ ref now).2.1.A8=[]:=by
 unfold Bt;split
 .split
  .rfl
  .dsimp only;split
   .exact h
   .rfl
 .rfl
abbrev oH(s:NS)(l:List (AC×Int)):xS:=[.c (hC s.1 (.sl 1 s.2.length 3)),.a (GZ s.2),.c [.ptr 0 0 77],.c [.d (Ab l)]]
theorem VX(n:AA)(g:List Dp)(l:List (AC×Int))(h:NB n)(hl:MP l)(hn:l.length<=1000000)(hg:g.length<=1000000):xC 82 [.ptr 0 0 77,.d (Ab l)] (nH n g) (.tup []) (nH (FC (n,g) l).1 (FC (n,g) l).2):=by
 have c1:=lb l;refine zC AF Tryz.func82 ?_;unfold nH;have d1:=Ds.mk [] (c1);refine wd FY [] A4 A4 ?_;clear d1;refine zG (K:=fun r _ H'=>H'=oH (FC (n,g) l) l++[.lp r]) ?_ ?_
 .intro r hr;have hk:=hr.ok (k:=4) rfl
  have hY:∀(s:NS)(x:AC×Int),NB s.1->x.1.A8=[]->s.2.length<=1000100->YT Tryz.prog 4 [.d (.agg (DC x))] (oH s l++[.lp r,.c (aC x)]) fun v K=>v= .wu true/\K=oH (P6 s x) l++[.lp r,.c (aC x)]:=by
   rintro⟨N,G⟩ x hN hx hG;dsimp only at hN hG;have hb:=hN.hok;have c2:=dy N.AX x.1 x.2 0 N.Aj hb.ok.cl hb.ok.cn (by unfold Am;rw[hx];exact xQ _);have c3:=ou N hb x.2;have hT:P6 (N,G) x=if(Bt N.AX x.1 x.2 0 N.Aj).2.2=0 then({N with AX:=(Bt N.AX x.1 x.2 0 N.Aj).1},G++GG (Bt N.AX x.1 x.2 0 N.Aj).2.1)else(GL N x.2,G):=rfl;rw[hT];have hml:=Zn N.AX x.1 x.2 0 N.Aj hx;clear hT;generalize Bt N.AX x.1 x.2 0 N.Aj=q at *;obtain⟨q1,q2,q3⟩:=q;generalize GL N x.2=B at *;dsimp only at *;refine BD hr rfl rfl rfl ?_;unfold Calls.d Calls.A0 Wi.AC.d Wi.AC.A0 at c2;unfold AA.d AA.A0 AD.A0 Calls.A0 An.A0 at c3
   by_cases hq:q3=0
   .have f1:=AS hq;rw[if_pos hq];have c4:=QY {N with AX:=q1} G q2 (by rw[hml];exact xA) om;unfold Wi.AC.d Wi.AC.A0 at c4;unfold nH at c4;unfold hC aC DC at *;refine wd FY [] A4 A4 ?_;refine zR ?_;refine wd FY [3] A4 A4 ?_;apply iR (E:=T.get) 19 20 7 8 mixed rfl (by simp(decide:=true) [BY,AI.ok,AV.oks,AV.ok,hk])
    case h1=>
     refine wd FY [] A4 (AM @c2) ?_ [(0,19),(1,19),(2,19),(3,19),(4,19),(5,19),(6,19),(7,19),(8,19),(9,19),(10,19),(11,19),(12,19),(13,19),(0,20),(1,20),(2,20),(3,20),(4,20),(5,20),(6,20),(7,20),(8,20),(9,20),(10,20),(11,20),(12,20),(13,20)];exact⟨rfl,.inl rfl⟩
    case h2=>
     refine wd FY [] A4 (AM @c2) ?_ [(0,19),(1,19),(2,19),(3,19),(4,19),(5,19),(6,19),(7,19),(8,19),(9,19),(10,19),(11,19),(12,19),(13,19),(0,20),(1,20),(2,20),(3,20),(4,20),(5,20),(6,20),(7,20),(8,20),(9,20),(10,20),(11,20),(12,20),(13,20)];have e:KV (sw 7 8) r.env=r.env:=by rw[hr.2.2.2.1];rfl
     refine⟨rfl,.inr ?_⟩;show(⟨_,[_,_,_,_,.lp {r.busy with env:=KV (sw 7 8) r.env},_,_,_,_],_⟩:St)=_;rw[e];rfl
    case hab=>rfl
    case hQ=>
     have d1:=Ds.mk [0,1] (c4);refine wd FY [] (AM f1) A4 ?_;clear d1;with_reducible repeat' first|constructor|intro hc
     exact gr rfl (A6.ck rfl)
   .have f1:=eq_false' hq;rw[if_neg hq];unfold hC aC DC at *;refine wd FY [] A4 A4 ?_;refine zR ?_;refine wd FY [3] A4 A4 ?_;apply iR (E:=T.get) 19 20 7 8 mixed rfl (by simp(decide:=true) [BY,AI.ok,AV.oks,AV.ok,hk])
    case h1=>
     refine wd FY [] A4 (AM @c2) ?_ [(0,19),(1,19),(2,19),(3,19),(4,19),(5,19),(6,19),(7,19),(8,19),(9,19),(10,19),(11,19),(12,19),(13,19),(0,20),(1,20),(2,20),(3,20),(4,20),(5,20),(6,20),(7,20),(8,20),(9,20),(10,20),(11,20),(12,20),(13,20)];exact⟨rfl,.inl rfl⟩
    case h2=>
     refine wd FY [] A4 (AM @c2) ?_ [(0,19),(1,19),(2,19),(3,19),(4,19),(5,19),(6,19),(7,19),(8,19),(9,19),(10,19),(11,19),(12,19),(13,19),(0,20),(1,20),(2,20),(3,20),(4,20),(5,20),(6,20),(7,20),(8,20),(9,20),(10,20),(11,20),(12,20),(13,20)];have e:KV (sw 7 8) r.env=r.env:=by rw[hr.2.2.2.1];rfl
     refine⟨rfl,.inr ?_⟩;show(⟨_,[_,_,_,_,.lp {r.busy with env:=KV (sw 7 8) r.env},_,_,_,_],_⟩:St)=_;rw[e];rfl
    case hab=>rfl
    case hQ=>
     refine wd FY [] (AM f1) (AM @c3) ?_;with_reducible repeat' first|constructor|intro hc
     exact gr rfl (A6.ck rfl)
  refine zT AF Tryz.func230 ?_;refine wd [0,1,4,5,6,7,8,14] [] A4 A4 ?_;refine Ct (fun j:Nat=>j<=l.length) (fun j:Nat=>[(7,.wo j)]) (fun j=>[(0,.c (hC (FC (n,g) (l.take j)).1 (.sl 1 (FC (n,g) (l.take j)).2.length 3))),(1,.a (GZ (FC (n,g) (l.take j)).2))]) (fun j=>l.length-j) 0 (xQ _) (fun _=>rfl) (fun _=>rfl) ?_ ?_
  .exact A6.ck rfl
  intro j hj
  by_cases hjl:j<l.length
  .obtain⟨x,hx⟩:=BB hjl;have hz:=fY (s:=(n,g)) h (l.take j);have hy:=hY (FC (n,g) (l.take j)) x (Ij (l.take j) (s:=(n,g)) h).nb (hl x (yH hx)) (by dsimp only at hz;omega)
   have e1:P6 (FC (n,g) (l.take j)) x=FC (n,g) (l.take (j+1)):=by
    rw[Au hx];unfold FC;rw[q04];rfl
   rw[e1]at hy;unfold oH DC aC at hy;simp only[xX,xY]at hy;have ix1:=hx;have q1:=@hy;refine wd [0,1,4,5,6,7,8,14] [] A4 A4 ?_;clear q1 ix1;with_reducible repeat' first|constructor|intro hc
   refine⟨j+1,hjl,om,xH _,?_⟩;exact A6.ck rfl
  .have e:j=l.length:=om
   subst e;rw[yD];refine wd [0,1,4,5,6,7,8,14] [] A4 A4 ?_;with_reducible repeat' first|constructor|intro hc
   exact⟨_,A6.refl _,xH _,_,_,rfl,rfl,rfl⟩
 .rintro r hr x H' rfl;refine .inl ⟨rfl,?_⟩;refine wd FY [] A4 A4 ?_;exact Hc
theorem O3(n n':AA)(g:List Dp)(l:List (AC×Int))(h:NB n')(hl:MP l)(hn:l.length<=1000000)(hg:g.length<=1000000):xC 48 [.ptr 0 0 77,.d n'.d,.d (Ab l)] (nH n g) (.tup []) (nH (Ei g (n',l)).1 (Ei g (n',l)).2):=by
 have c1:=VX n' g l h hl hn hg;have hT:Ei g (n',l)=FC (n',g) l:=rfl;rw[hT];generalize FC (n',g) l=q at *;refine zC AF Tryz.func48 ?_;unfold nH at *;unfold AA.d AA.A0 AD.A0 Calls.A0 An.A0;have d1:=Ds.mk [0,1] (c1);refine wd [0,1,2,4] [] A4 A4 ?_;clear d1;exact Hc
abbrev Hn:Aw:=[0,1,2,4,5,6,7,8,9,10,11,16,24,26,27,35]
abbrev s6(f:Nat->Int):xD:=[.wo (f 0),.wo (f 1),.wo (f 2),.wo (f 3),.wo (f 4),.wo (f 5),.wo (f 6),.wo (f 7),.wo (f 8),.wo (f 9),.wo (f 10),.wo (f 11),.wo (f 12),.wo (f 13),.wo (f 14),.wo (f 15)]
abbrev gw(id:Int)(AB A8:Ad)(AG:Int)(f0:Nat->Int)(a b:Int)(c:Bool)(f:Nat->Int)(i:Int):xS:=[.c (vC id AB A8 AG f0),.c (vC 0 [] [] 0 fun _=>0),.c [.wo a],.c [.wo b],.c [.wu c],.c (s6 f),.c [.wo i]]
theorem js(v:AD)(i:Int)(hb:v.AB.length<=1000)(hl:v.A8.length<=1000):xB 113 [v.d,.i .i64 i] (.tup [(walkT v i).1.d,.i .i64 (walkT v i).2.1,.i .i64 (walkT v i).2.2.1,.b (walkT v i).2.2.2]):=by
 have c1:=BV v hb hl;have c2:=Hk v om om;have k1:=fun(j:Nat)(hr:Al v=true)(hj:j<16)=>jr v j hr om om hb hl
 have c4:=fun g:Nat->Int=>Ws v g hb hl;have c5:=ba v (FK v)
 refine zF AF Tryz.func113 ?_
 cases hr:Al v with
 |false=>
  have hT:walkT v i=(v,0,0,false):=by unfold walkT;rw[hr];rfl
  rw[hT];rw[hr]at c1;obtain⟨id,AB,A8,AG,f⟩:=v;unfold AD.d AD.A0 at *;refine wd Hn [] A4 (Ax @c1 @c2) ?_ [] true;exact zE
 |true=>
 rw[hr]at c1;obtain⟨k,hk⟩:∃k:Nat,k=if 0<=i/\i<16 then i.toNat else 0:=⟨_,rfl⟩
 have hT:walkT v i=match IP v (16-k) k v.f with
  |(f,none)=>({v with f:=f},0,0,false)
  |(f,some k)=>({v with f:=f},k,X5 v.id k,true):=by unfold walkT;rw[hr,if_pos rfl,hk];rfl
 rw[hT];clear hT c2;have k2:=fun j hj=>k1 j hr hj
 clear k1
 have hF:∀(j:Nat)(f:Nat->Int),j<16->IP v (16-j) j f=if JY v.id (X5 v.id j) (FK v)then IP v (16-(j+1)) (j+1) (Vq f j (if FK v=v.id then -1 else FK v))else(f,some j):=fun j f hj=>by
  rw[show 16-j=(16-(j+1))+1 by omega];rfl
 obtain⟨id,AB,A8,AG,f0⟩:=v;dsimp only at hF|-;unfold AD.d AD.A0 at *;have hk1:0<=i/\i<16->(k:Int)=i:=fun h=>by rw[hk,if_pos h];omega
 have hk2:¬(0<=i/\i<16)->(k:Int)=0:=fun h=>by rw[hk,if_neg h];rfl
 have hk3:k<16:=om
 clear hk;refine wd Hn [6] A4 (AM @c1) ?_ [] true;with_reducible repeat' first|constructor|intro hc
 all_goals
  refine BC (S':=⟨[(1,.wo k),(2,.ptr 0 0 20),(4,.ptr 1 0 20),(5,.ptr 2 0 1),(6,.ptr 3 0 1),(7,.ptr 4 0 1),(8,.ptr 5 0 16)],[.c (vC id AB A8 AG f0),.c [.wo 0,.e0,.e0,.wo 0,.wo 0,.wo 0,.wo 0,.wo 0,.wo 0,.wo 0,.wo 0,.wo 0,.wo 0,.wo 0,.wo 0,.wo 0,.wo 0,.wo 0,.wo 0,.wo 0],.c [.wo 0],.c [.wo 0],.c [.wu false],.c (s6 f0)],_⟩) (A6.ck rfl) xA ?_;refine BC (A6.JF 1 1 (.is []) rfl rfl rfl rfl trivial) sm ?_;refine BC (A6.JF 1 2 (.is []) rfl rfl rfl rfl trivial) sm ?_;clear hk1 hk2
  try clear hc
  have c6:=kA k;have d1:=Ds.mk [] (c6);refine wd Hn [] A4 A4 ?_ [] true;clear d1;refine zG (K:=fun r _ H'=>(∃F,IP ⟨id,AB,A8,AG,f0⟩ (16-k) k f0=(F,none)/\H'=gw id AB A8 AG f0 0 0 false F 16++[.lp r])\/(∃(F:Nat->Int)(j:Nat),IP ⟨id,AB,A8,AG,f0⟩ (16-k) k f0=(F,some j)/\H'=gw id AB A8 AG f0 j (X5 id j) true F j++[.lp (r.left (.goto 0))])) ?_ ?_
  .intro r hr;have hk:=xU (hr.ok (k:=7) rfl) (fun q=>show AV.oks q (vC id AB A8 AG f0)=true from rfl);refine zT AF Tryz.func253 ?_;refine wd [0,1,4,10] [] A4 A4 ?_;refine Ct (fun s:Nat×(Nat->Int)=>s.1<=16/\IP ⟨id,AB,A8,AG,f0⟩ (16-s.1) s.1 s.2=IP ⟨id,AB,A8,AG,f0⟩ (16-k) k f0) (fun _=>[]) (fun s=>[(5,.c (s6 s.2)),(6,.c [.wo s.1])]) (fun s=>16-s.1) (k,f0) ⟨om,rfl⟩ (fun _=>rfl) (fun _=>rfl) ?_ ?_
   .exact A6.ck rfl
   rintro⟨j,f⟩ ⟨hj,hw⟩;dsimp only at hj hw
   by_cases hjl:j<16
   .have f1:decide ((j:Int)<16)=true:=xM om;rw[hF j f hjl]at hw;have c7:=k2 j hjl
    cases hu:JY id (X5 id j) (FK ⟨id,AB,A8,AG,f0⟩)with
    |true=>
     rw[hu]at c7 hw;rw[if_pos rfl]at c7 hw
     have hY:YT Tryz.prog 7 [.wo j] (gw id AB A8 AG f0 0 0 false f j++[.lp r]) fun v K=>v= .wu true/\K=gw id AB A8 AG f0 0 0 false (Vq f j (if FK ⟨id,AB,A8,AG,f0⟩=id then -1 else FK ⟨id,AB,A8,AG,f0⟩)) j++[.lp r]:=by
      refine BD hr rfl rfl rfl ?_;generalize(if FK ⟨id,AB,A8,AG,f0⟩=id then -1 else FK ⟨id,AB,A8,AG,f0⟩)=ow at *;unfold gw s6;simp only[xX,xY];refine wd Hn [] A4 A4 ?_ [] true;refine zR ?_;rcases Q1 hjl with rfl|rfl|rfl|rfl|rfl|rfl|rfl|rfl|rfl|rfl|rfl|rfl|rfl|rfl|rfl|rfl
      all_goals
       refine wd Hn [] A4 (Ax @c7 @c5) ?_ [] true;exact gr rfl (A6.ck rfl)
     unfold gw at hY;simp only[xX,xY]at hY;have q1:=@hY;refine wd [0,1,4,10] [] (AM f1) A4 ?_;clear q1;refine⟨(j+1,_),⟨hjl,hw⟩,by dsimp only;omega,xH _,?_⟩;exact A6.ck rfl
    |false=>
     rw[hu]at c7 hw;rw[if_neg (by decide)]at c7 hw;have c8:=Tb id j
     have hY:YT Tryz.prog 7 [.wo j] (gw id AB A8 AG f0 0 0 false f j++[.lp r]) fun v K=>v= .wu false/\K=gw id AB A8 AG f0 j (X5 id j) true f j++[.lp (r.left (.goto 0))]:=by
      refine BD hr rfl rfl rfl ?_;unfold gw s6;simp only[xX,xY];refine wd Hn [] A4 A4 ?_ [] true;refine zR ?_;refine wd Hn [] A4 (Ax @c7 @c8) ?_ [] true;exact gEnd rfl (A6.ck rfl)
     unfold gw at hY;simp only[xX,xY]at hY;have q1:=@hY;refine wd [0,1,4,10] [] (AM f1) A4 ?_;clear q1;exact⟨_,A6.refl _,xH _,_,_,rfl,rfl,.inr ⟨f,j,hw.symm,rfl⟩⟩
   .have e:j=16:=om
    subst e;refine wd [0,1,4,10] [] A4 A4 ?_;exact⟨_,A6.refl _,xH _,_,_,rfl,rfl,.inl ⟨f,hw.symm,rfl⟩⟩
  .rintro r hr y H' (⟨F,h,rfl⟩|⟨F,j,h,rfl⟩)
   .refine .inl ⟨rfl,?_⟩;rw[h];have c7:=c4 F;unfold gw s6;simp only[xX,xY];refine wd Hn [] A4 (AM @c7) ?_ [(3,6),(4,6),(5,6),(4,7),(5,7),(5,8)] true;exact BL (xU @AD.d.eq_1 @AD.A0.eq_1)
   .refine .inr ⟨.goto 0,rfl,?_⟩;rw[h];have c7:=c4 F;unfold gw s6;simp only[xX,xY];refine wd Hn [] A4 (AM @c7) ?_ [(3,6),(4,6),(5,6),(4,7),(5,7),(5,8)] true;exact BL (xU @AD.d.eq_1 @AD.A0.eq_1)
theorem Wv{α:Type}(p:α->Bool):∀l:List α,(l.findIdx? p=none/\l.find? p=none)\/∃k x,l.findIdx? p=some k/\l[k]? =some x/\l.find? p=some x
 |[]=> .inl ⟨rfl,rfl⟩
 |a::r=>by
  cases h:p a with
  |true=>exact .inr ⟨0,a,by rw[List.findIdx?_cons,h];rfl,rfl,by rw[List.find?_cons,h]⟩
  |false=>
   rcases Wv p r with⟨h1,h2⟩|⟨k,x,h1,h2,h3⟩
   .exact .inl ⟨by rw[List.findIdx?_cons,h,h1];rfl,by rw[List.find?_cons,h];exact h2⟩
   .exact .inr ⟨k+1,x,by rw[List.findIdx?_cons,h,h1];rfl,by simpa using h2,by rw[List.find?_cons,h];exact h3⟩
theorem YG(l:List Past)(s c:Int):(ML l s c= -1/\Cr l s c=(AN,false))\/∃(k:Nat)(x:Past),ML l s c=k/\l[k]? =some x/\Cr l s c=(x.AE,true):=by
 have e:La s c=fun p=>decide (p.As=s)&&decide (p.Aa=c):=rfl;rcases Wv (La s c) l with⟨h1,h2⟩|⟨k,x,h1,h2,h3⟩
 .refine .inl ⟨by unfold ML;rw[h1],?_⟩;rw[e]at h2;unfold Cr;rw[h2]
 .refine .inr ⟨k,x,by unfold ML;rw[h1],h2,?_⟩;rw[e]at h3;unfold Cr;rw[h3]
theorem IF(l:List Past)(s c:Int)(hl:∀x∈l,Am x.AE)(hn:l.length<=1048576):xB 119 [B5 l,.i .i64 s,.i .i64 c] (.tup [(Cr l s c).1.d,.b (Cr l s c).2]):=by
 have c1:=nW s c;have c2:=RX l s c om;rcases YG l s c with⟨h1,h2⟩|⟨k,x,h1,h2,h3⟩
 .rw[h1]at c2;rw[h2];refine zF AF Tryz.func119 ?_;have d1:=Ds.mk [] (c1);have d2:=Ds.mk [1,2] (c2);refine wd [0,1,2,6,7,8,15] [] A4 A4 ?_;clear d2 d1;exact BL (xU @Wi.AC.d.eq_1 (xU @Wi.AC.A0.eq_1 (xU @AN.eq_1 @AY.eq_1)))
 .rw[h1]at c2;rw[h3];have c3:=ER x.AE (hl x (yH h2));have f1:decide ((k:Int)<0)=false:=xO om;refine zF AF Tryz.func119 ?_;unfold Wi.AC.d Wi.AC.A0 at *;have d1:=Ds.mk [] (c1);have d2:=Ds.mk [1,2] (c2);have ix1:=h2;refine wd [0,1,2,6,7,8,15] [] (AM f1) (AM @c3) ?_;clear ix1 d2 d1;exact zE
theorem tz(m:AC)(hm:Am m):xB 194 [m.d] (.tup [(if m.right&& !m.BN then Past.d ⟨m.dst,m.Aa,m⟩else Pt.d),.i .i64 (if m.right&& !m.BN then 0 else 2)]):=by
 have c1:=Wi.CX m (lm hm);have c2:=Wi.H9 m;have c3:=ER m hm;refine zF AF Tryz.func194 ?_;unfold Wi.AC.d Wi.AC.A0 Past.d Past.A0 at*
 cases hr:m.right with
 |false=>
  rw[hr]at c1;refine wd [0,1,2,3,10] [] A4 (AM @c1) ?_;exact BL (xU @AN.eq_1 @AY.eq_1)
 |true=>
 rw[hr]at c1
 cases ha:m.BN with
 |true=>
  rw[ha]at c2;refine wd [0,1,2,3,10] [] A4 (Ax @c1 @c2) ?_;exact BL (xU @AN.eq_1 @AY.eq_1)
 |false=>
  rw[ha]at c2;refine wd [0,1,2,3,10] [] A4 (Ci @c1 @c2 @c3) ?_;exact zE
end Nd
end Go.Proofs.YtkljbfejbakooaaGreatDoor
namespace Go.Proofs.YtkljbfejbakooaaGreatDoor
open Go.Gar
abbrev Hv:Aw:=[0,1,2,6,7,8,9,14,20,32]
theorem uj(a x b:Int)(ha:i64 a)(hx:i64 x)(hb:i64 b):xB 149 [.i .i64 a,.i .i64 x,.i .i64 b] (.b (Ee a x b)):=by
 have c1:=Di a ha;have c2:=Di b hb;have c3:=Di x hx;have c4:=QX a x ha hx;have c5:=QX a b ha hb;refine zF AF Tryz.func149 ?_
 by_cases h:Cp a=Cp b
 .have f1:=AS h;have hT:Ee a x b=decide (Cp x≠Cp a):=if_pos h
  by_cases h2:Cp x=Cp a
  .have f2:=C2 h2;have hT2:Ee a x b=false:=by rw[hT];simp[h2]
   refine wd [0,1,2,6,11] [] (Ax f1 f2) (Ci @c1 @c2 @c3) ?_;exact BL hT2
  .have f2:=C4 h2;have hT2:Ee a x b=true:=by rw[hT];simp[h2]
   refine wd [0,1,2,6,11] [] (Ax f1 f2) (Ci @c1 @c2 @c3) ?_;exact BL hT2
 .have f1:=eq_false' h;have hT:Ee a x b=decide (B1 a x>0/\B1 a x<B1 a b):=if_neg h
  by_cases h2:B1 a x>0
  .have f2:decide (B1 a x>0)=true:=xM h2;have hT2:Ee a x b=decide (B1 a x<B1 a b):=by rw[hT];simp[h2]
   refine wd [0,1,2,6,11] [] (Ax f1 f2) (MX @c1 @c2 @c3 @c4 @c5) ?_;exact BL hT2
  .have f2:decide (B1 a x>0)=false:=xO h2;have hT2:Ee a x b=false:=by rw[hT];simp[h2]
   refine wd [0,1,2,6,11] [] (Ax f1 f2) (MX @c1 @c2 @c3 @c4 @c5) ?_;exact BL hT2
theorem iN(x:Int)(l AB:Ad)(hx:i64 x)(hl:∀y∈l,i64 y)(hb:∀y∈AB,i64 y)(hn:l.length<=1000)(hm:AB.length<=1000):xB 73 [.i .i64 x,.is l,.is AB] (.b (Fw x l AB)):=by
 refine zF AF Tryz.func73 ?_;refine wd Hv [] A4 A4 ?_;refine BS (fun k=>k<=l.length/\i64 (ahead x l k)/\Fw x l AB=Fw (ahead x l k) (l.drop k) AB) (fun k:Nat=>⟨[(0,.wo x),(1,.xG l),(2,.xG AB),(6,.wu false),(7,.wo (ahead x l k)),(8,.wo k)],[],37⟩) (fun k=>l.length-k) 0 ⟨xQ _,hx,rfl⟩ ?_ (xH _) ?_
 .exact(have nC:=@ahead.eq_1;A6.cn rfl)
 rintro k ⟨hk,hA,hS⟩
 by_cases hkl:k<l.length
 .obtain⟨p,hp⟩:=BB hkl;have gp:=DX hp;have hpi:=hl p (yH hp)
  have hd:l.drop k=p::l.drop (k+1):=by
   rw[zS hkl];rw[xP hkl]at hp;cases hp;rfl
  have hN:ahead x l (k+1)=p:=gp;rw[hd]at hS;generalize hat:ahead x l k=a at *;refine wd Hv [] (AM gp) A4 ?_;with_reducible repeat' first|constructor|intro hc
  refine BS (fun j=>j<=AB.length/\∀b∈AB.take j,Ee a b p=false) (fun j:Nat=>⟨[(0,.wo x),(1,.xG l),(2,.xG AB),(6,.wu false),(7,.wo a),(8,.wo k),(9,.wo j)],[],37⟩) (fun j=>AB.length-j) 0 ⟨xQ _,fun _ h=>by cases h⟩ ?_ (xH _) ?_
  .exact A6.ck rfl
  rintro j ⟨hj,hpre⟩
  by_cases hjl:j<AB.length
  .obtain⟨b,hbj⟩:=BB hjl;have gb:=DX hbj;have c1:=uj a b p hA (hb b (yH hbj)) hpi
   cases hI:Ee a b p with
   |true=>
    rw[hI]at c1
    have hT:Fw x l AB=true:=by
     rw[hS];show(AB.any _||_)=true;rw[ry (g:=fun b=>Ee a b p) hbj hI];rfl
    refine wd Hv [] (Ax gp gb) (AM @c1) ?_;with_reducible repeat' first|constructor|intro hc
    exact BL hT
   |false=>
    rw[hI]at c1;have hpre':=gY (g:=fun b=>Ee a b p) hbj hI hpre;refine wd Hv [] (Ax gp gb) (AM @c1) ?_;with_reducible repeat' first|constructor|intro hc
    refine⟨j+1,⟨hjl,hpre'⟩,om,xH _,?_⟩;exact A6.ck rfl
  .have e:j=AB.length:=om
   subst e;rw[yD]at hpre
   have hS':Fw x l AB=Fw p (l.drop (k+1)) AB:=by
    rw[hS];show(AB.any _||_)=_;rw[show AB.any (fun b=>Ee a b p)=false from zM.2 fun b hb=>by rw[hpre b hb];simp];rfl
   rw[<-hN]at hS' hpi;refine wd Hv [] (AM gp) A4 ?_;with_reducible repeat' first|constructor|intro hc
   refine⟨k+1,⟨hkl,hpi,hS'⟩,om,xH _,?_⟩;exact(have nC:=hN;A6.cn rfl)
 .have e:k=l.length:=om
  subst e;have hT:Fw x l AB=false:=by rw[hS,List.drop_length];rfl
  refine wd Hv [] A4 A4 ?_;with_reducible repeat' first|constructor|intro hc
  exact BL hT
end Go.Proofs.YtkljbfejbakooaaGreatDoor
namespace Go.Proofs.YtkljbfejbakooaaGreatDoor
namespace Nd
open Go.Gar
open Wi (AC Bp BE AN Bc mC C6 BP)
abbrev Qm:Aw:=[0,1,2,3,12,35]
def H7(m:AC):Bool:=decide (20<m.A8.length)||decide (100<m.A9.AH.length)
theorem aA(c:Calls):∃b:Bool,xB 29 [c.d] (.b b)/\(b=false->c.op.length<=30/\∀x∈c.op,H7 x.Ao=false):=by
 refine⟨(c.op.take 31).any (fun x=>H7 x.Ao)||decide (30<c.op.length),?_,fun h=> ?_⟩
 .obtain⟨R,hR⟩:∃R,R=((c.op.take 31).any (fun x=>H7 x.Ao)||decide (30<c.op.length)):=⟨_,rfl⟩;rw[<-hR];refine zF AF Tryz.func29 ?_;unfold Calls.d Calls.A0;refine wd Qm [] A4 A4 ?_;refine DD (fun k=>k<=c.op.length/\k<=31/\(c.op.take k).any (fun x=>H7 x.Ao)=false) (fun k:Nat=>[(3,.wo k)]) (fun k=>c.op.length-k) 0 ⟨xQ _,xQ _,rfl⟩ (fun _=>rfl) ?_ ?_
  .exact A6.ck rfl
  rintro k ⟨hk,hk2,hpre⟩
  by_cases hkl:k<c.op.length
  .by_cases h31:k<31
   .have f1:decide ((k:Int)<(c.op.length:Int))=true:=xM om;have f2:decide ((k:Int)<=30)=true:=xM om;obtain⟨x,hx⟩:=BB hkl;have hA:=Gw (p:=fun x:AW=>H7 x.Ao) hx;rw[hpre,zJ]at hA;have hL:H7 x.Ao=(decide (20<x.Ao.A8.length)||decide (100<x.Ao.A9.AH.length)):=rfl
    have h2:(c.op.take (k+1)).any (fun x=>H7 x.Ao)=true->R=true:=fun e=>by
     rw[hR,show c.op.take 31=c.op.take (k+1)++(c.op.drop (k+1)).take (31-(k+1))by rw[<-List.take_add];congr 1;omega,List.any_append,e];rfl
    have ix1:=hx;refine wd Qm [] (Ax f1 f2) A4 ?_;clear ix1;with_reducible repeat' first|constructor|intro hc
    all_goals first
     |(refine⟨_,_,rfl,rfl,?_⟩;simp only[IT];refine congrArg D.b ?_;grind)
     |(refine⟨k+1,⟨hkl,om,by rw[hA];grind⟩,om,xH _,?_⟩;exact A6.ck rfl)
   .have f1:decide ((k:Int)<(c.op.length:Int))=true:=xM om;have f2:decide ((k:Int)<=30)=false:=xO om
    have hF:decide ((c.op.length:Int)>30)=R:=by
     have e:k=31:=om
     subst e;rw[hR,hpre,zJ];exact decide_eq_decide.2 om
    refine wd Qm [] (Ci f1 f2 hF) A4 ?_;exact zE
  .have f1:decide ((k:Int)<(c.op.length:Int))=false:=xO om
   have hF:decide ((c.op.length:Int)>30)=R:=by
    have e:k=c.op.length:=om
    rw[hR,show c.op.take 31=c.op.take k by rw[zI om,zI om],hpre,zJ];exact decide_eq_decide.2 om
   refine wd Qm [] (Ax f1 hF) A4 ?_;exact zE
 .rw[q08,zK]at h;refine⟨om,fun x hx=> ?_⟩;rw[zI om]at h;exact Bool.eq_false_iff.2 (zM.1 h.1 x hx)
end Nd
end Go.Proofs.YtkljbfejbakooaaGreatDoor
