/- Part 34 of a proof. Conditions: those that its theorems state. -/
import Derived.Test.YtkljbfejbakooaaGreatDoorT33
set_option linter.unusedSimpArgs false
set_option linter.unusedVariables false
set_option linter.unnecessarySimpa false
set_option maxHeartbeats 40000000
set_option maxRecDepth 4000
namespace Go.Proofs.YtkljbfejbakooaaGreatDoor
namespace Nd
open Go.Gar
open Wi (AC Bp BE AN Bc C6 BP)
variable {m:AC}
theorem Sc(h:m.right=true):(1<=m.AR/\m.AR<13)/\Bp m.As=true/\Bp m.dst=true/\m.As≠m.dst/\m.asker*1048576+1<=m.Aa/\m.Aa<m.asker*1048576+1+1048576:=by
 unfold AC.right AC.Iy at h;simp only[xI,xK]at h;obtain⟨⟨⟨⟨⟨⟨⟨h1,h2⟩,h3⟩,h4⟩,h5⟩,h6⟩,h7⟩,_⟩:=h;exact⟨⟨h1,h2⟩,h3,h4,h5,h6,h7⟩
theorem ND:m.BN=true↔1<=m.AR/\m.AR<=6:=by
 unfold AC.BN;rw[xI,xK,xK]
theorem pt(h1:7<=m.AR/\m.AR<13)(h2:Bp m.As=true)(h3:Bp m.dst=true)(h4:m.As≠m.dst)(h5:m.dst*1048576+1<=m.Aa)(h6:m.Aa<m.dst*1048576+1+1048576)(hb:m.bare=m.empty)(hh:m.has=true):m.right=true:=by
 have ha:m.asker=m.dst:=by
  unfold AC.asker;rw[if_neg];rw[ND];omega
 unfold AC.right AC.Iy;rw[ha];simp only[xI,xK];exact⟨⟨⟨⟨⟨⟨⟨om,h1.2⟩,h2⟩,h3⟩,h4⟩,h5⟩,h6⟩,hb,hh⟩
theorem mR(x:Int):∀(l:Ad)(f:Int),rT x f l=true->(∀p∈l,BW p=true/\B1 x p>f)/\l.Nodup
 |[],_,_=>⟨fun p hp=>(by cases hp),List.nodup_nil⟩
 |p::r,f,h=>by
  unfold rT at h;simp only[xI,xK]at h;obtain⟨i1,i2⟩:=mR x r _ h.2;refine⟨fun q hq=> ?_,List.nodup_cons.2 ⟨fun hp=> ?_,i2⟩⟩
  .rcases yP.1 hq with rfl|hq
   .exact h.1
   .have:=i1 q hq;have:=h.1.2;exact⟨(i1 q hq).1,om⟩
  .have:=(i1 p hp).2;omega
variable {v:AD}
theorem VH(hv:Al v=true):Wi.Et v.A8 v.id=true:=by
 obtain⟨_,_,h3,_,_⟩:=Cw hv;unfold CO at h3;rw[xI,xK]at h3;obtain⟨h4,h5⟩:=mR v.id v.A8 0 h3.2;unfold Wi.Et Wi.GF;simp only[xI,xK,yc];refine⟨⟨fun p hp=>⟨by rw[<-H5];exact(h4 p hp).1,?_⟩,h5⟩,h3.1⟩;rintro rfl;have:=(h4 _ hp).2;unfold B1 at this;omega
theorem qt{id n:Int}(h:FO id n=true)(h1:n≠ -1):BW n=true:=by
 unfold FO at h;rw[yL,xK,xI]at h;rcases h with h|h
 .exact absurd h h1
 .exact h.1
theorem su{k:Int}{B4:Bool}(hv:Al v=true):BW (Eo v k B4).1=true:=by
 have hfi:=Te hv;obtain⟨_,_,h3,_,h5⟩:=Cw hv;unfold CO at h3;rw[xI]at h3;have hl:=(mR v.id v.A8 0 h3.2).1;unfold Eo;rw[if_pos hv];split
 .exact hfi.1
 split
 .exact hfi.1
 .have hk:∀q∈vk v,BW q=true:=by
   intro q hq;unfold vk at hq;rcases yP.1 hq with rfl|hq
   .exact hfi.1
   rcases yx.1 hq with hq|hq
   .exact(hl q hq).1
   .have h1:=List.mem_filter.1 hq;exact qt (yc.1 h5 q h1.1) (by simpa using h1.2)
  have AH:∀(l:Ad)(p:Int),(∀q∈l,BW q=true)->BW p=true->BW (l.foldl (HO v.id k) p)=true:=by
   intro l
   induction l with
   |nil=>exact fun p _ h=>h
   |cons q r ih=>
    intro p hq hp;rw[zH];refine ih _ (fun q' h=>hq q' (yQ _ h)) ?_;unfold HO;split
    .exact hq q (yT ..)
    .exact hp
  exact AH _ _ hk hfi.1
variable {x:AK}
theorem mH{l:List AK}(h:Ck l=true)(hx:BE x=true):(FI l x).2=0\/(FI l x).2=200:=by
 unfold FI;rw[h,hx];simp only[zh,yG];split
 .exact .inl rfl
 split
 .exact .inr rfl
 .exact .inl rfl
theorem kK{l:List AK}{AH:AJ}(h:Ck l=true):((E6 l AH).2=0/\BE (E6 l AH).1=true)\/((E6 l AH).2=201/\(E6 l AH).1=AY):=by
 unfold E6;split
 .rename_i hc;rw[xI]at hc;obtain⟨x,hx,_,hg⟩:=Jq hc.2;exact .inl ⟨rfl,by dsimp only;rw[hg];exact(Dg.1 h).2.1 x (yH hx)⟩
 .exact .inr ⟨rfl,rfl⟩
theorem YN(h:m.BN=true):CV m=⟨m.AR+6,m.Aa,m.dst,m.As,0,false,false,0,0,[],AY,0⟩:=by
 unfold CV;rw[if_pos h]
variable {n:AA}
theorem Mt:D3 n m=true↔m.BN=true/\m.right=true/\m.dst=n.A7.id/\Av n=true:=by
 unfold D3;simp only[xI,xK,and_assoc]
theorem UT(h:D3 n m=true):(CF n m).2.right=true/\(CF n m).2.BN=false/\(CF n m).2.As=n.A7.id/\(CF n m).2.dst=m.As/\(CF n m).2.Aa=m.Aa:=by
 obtain⟨ha,hr,hd,hn⟩:=Mt.1 h;obtain⟨_,_,_,hv,_,_,hk,_,_⟩:=Aq.1 hn;have hk6:=ND.1 ha;obtain⟨_,h2,h3,h4,h5,h6⟩:=Sc hr;have hask:m.asker=m.As:=by unfold AC.asker;rw[if_pos ha]
 rw[hask]at h5 h6
 have hhas:m.has=true:=by
  unfold AC.right at hr;simp only[xI]at hr;exact hr.2.2
 have AH:∀t:AC,t.AR=m.AR+6->t.As=m.dst->t.dst=m.As->t.Aa=m.Aa->t.bare=t.empty->t.has=true->t.right=true/\t.BN=false/\t.As=n.A7.id/\t.dst=m.As/\t.Aa=m.Aa:=by
  intro t e1 e2 e3 e4 e5 e6;refine⟨pt om (by rw[e2];exact h3) (by rw[e3];exact h2) (by rw[e2,e3];exact fun e=>h4 e.symm) (by rw[e3,e4];exact h5) (by rw[e3,e4];exact h6) e5 e6,?_,e2.trans hd,e3,e4⟩
  cases e:t.BN with
  |false=>rfl
  |true=>have:=ND.1 e;omega
 unfold CF;rw[YN ha];dsimp only;have hkk:m.AR=1\/m.AR=2\/m.AR=3\/m.AR=4\/m.AR=5\/m.AR=6:=om
 rcases hkk with e|e|e|e|e|e
 .rw[if_pos e];refine AH _ rfl rfl rfl rfl ?_ ?_
  .unfold AC.bare AC.empty;simp[e]
  .unfold AC.has;simp only[e,show((1:Int)+6)=7 by decide,show ¬((7:Int)=4)by decide,show ¬((7:Int)=5)by decide,show ¬((7:Int)=6)by decide,yC,yG];rw[xI,hd];refine⟨?_,VH hv⟩;have ho:=(Cw hv).2.2.2.1;rw[yL,xK]
   by_cases hp:n.A7.AG= -1
   .exact .inl hp
   .right;rw[<-H5];exact qt ho hp
 .rw[if_neg om,if_pos e];refine AH _ rfl rfl rfl rfl ?_ ?_
  .unfold AC.bare AC.empty;simp[e]
  .unfold AC.has;simp[e]
 .rw[if_neg om,if_neg om,if_pos e];refine AH _ rfl rfl rfl rfl ?_ ?_
  .unfold AC.bare AC.empty;simp[e]
  .unfold AC.has;simp[e]
 .rw[if_neg om,if_neg om,if_neg om,if_pos e]
  have eh:Oj n.A7 m={CV m with AT:=(Eo n.A7 m.AH m.B4).1,done:=(Eo n.A7 m.AH m.B4).2}:=by
   unfold Oj;rw[hv,xM e,xM hd,hr];rfl
  rw[eh,YN ha];refine AH _ rfl rfl rfl rfl ?_ ?_
  .unfold AC.bare AC.empty;simp[e]
  .unfold AC.has;simp only[e,show((4:Int)+6)=10 by decide,show ¬((10:Int)=4)by decide,show ¬((10:Int)=5)by decide,show ¬((10:Int)=6)by decide,show ¬((10:Int)=7)by decide,yC,yG];rw[<-H5];exact su hv
 .rw[if_neg om,if_neg om,if_neg om,if_neg om,if_pos e];refine AH _ rfl rfl rfl rfl ?_ ?_
  .unfold AC.bare AC.empty;simp[e]
  .have hi:BE m.A9=true:=by
    unfold AC.has at hhas;simpa only[e,show ¬((5:Int)=4)by decide,yC,yG]using hhas
   unfold AC.has;simp only[e,show((5:Int)+6)=11 by decide,show ¬((11:Int)=4)by decide,show ¬((11:Int)=5)by decide,show ¬((11:Int)=6)by decide,show ¬((11:Int)=7)by decide,show ¬((11:Int)=10)by decide,yC,yG];rw[yL,xK,xK];exact mH hk hi
 .rw[if_neg om,if_neg om,if_neg om,if_neg om,if_neg om,if_pos e];refine AH _ rfl rfl rfl rfl ?_ ?_
  .unfold AC.bare AC.empty;simp[e]
  .unfold AC.has;simp only[e,show((6:Int)+6)=12 by decide,show ¬((12:Int)=4)by decide,show ¬((12:Int)=5)by decide,show ¬((12:Int)=6)by decide,show ¬((12:Int)=7)by decide,show ¬((12:Int)=10)by decide,show ¬((12:Int)=11)by decide,yC,yG];rw[yL,xI,xI,xK,xK,xK];exact kK hk
theorem de(h:NB n)(hs:D3 n m=true):NB (CF n m).1/\OP n.A7 (CF n m).1.A7/\(CF n m).1.A7.A8=n.A7.A8/\(CF n m).1.Aj=n.Aj/\(CF n m).1.AX=n.AX/\(CF n m).1.BO=n.BO/\n.keep.length<=(CF n m).1.keep.length/\(CF n m).1.bad=n.bad/\(CF n m).1.A5=n.A5/\(CF n m).1.B8=n.B8:=by
 have hself:NB n/\OP n.A7 n.A7/\n.A7.A8=n.A7.A8/\n.Aj=n.Aj/\n.AX=n.AX/\n.BO=n.BO/\n.keep.length<=n.keep.length/\n.bad=n.bad/\n.A5=n.A5/\n.B8=n.B8:=⟨h,.refl _,rfl,rfl,rfl,rfl,xH _,rfl,rfl,rfl⟩;obtain⟨ha,hr,hd,hn⟩:=Mt.1 hs;unfold CF;dsimp only;split
 .exact hself
 split
 .exact hself
 split
 .have hv:OP n.A7 (Eg n.A7 m.As):=by
   unfold Eg;split
   .rename_i hc;rw[xI]at hc;refine⟨rfl,rfl,fun _=> ?_⟩;obtain⟨h1,h2,h3,h4,h5⟩:=Cw h.rv;refine LB h1 h2 h3 ?_ h5;have hb:=hc.2;unfold LQ at hb;simp only[xI,xK]at hb;show FO n.A7.id m.As=true;unfold FO;rw[hb.1.1,xM hb.1.2];simp
   .exact .refl _
  have hnx:=(Aq.1 h.r).2.2.1;have hl:(Eg n.A7 m.As).A8=n.A7.A8:=by unfold Eg;split<;>rfl
  exact⟨h.A7 hv hnx,hv,hl,rfl,rfl,rfl,xH _,rfl,rfl,rfl⟩
 split
 .exact hself
 split
 .refine⟨⟨?_,⟨h.l.f,h.l.m,h.l.c⟩,h.ph⟩,.refl _,rfl,rfl,rfl,rfl,cv ..,rfl,rfl,rfl⟩;obtain⟨a1,a2,a3,a4,a5,a6,a7,a8,a9⟩:=Aq.1 h.r;exact Aq.2 ⟨a1,a2,a3,a4,a5,a6,SS a7,a8,a9⟩
 split
 .exact hself
 .exact hself
theorem NB.BO{n:AA}(h:NB n){l:List Past}(hl:GI l=true)(ho:∀p∈l,p.AE.As=n.A7.id):NB {n with BO:=l}:=by
 refine⟨?_,⟨h.l.f,h.l.m,h.l.c⟩,h.ph⟩;obtain⟨a1,a2,a3,a4,a5,a6,a7,a8,a9⟩:=Aq.1 h.r;refine Aq.2 ⟨a1,a2,a3,a4,a5,a6,a7,hl,?_⟩;unfold P7;rw[zf,zM];intro p hp;have:=ho p hp;simpa using this
theorem NB.own(h:NB n):∀p∈n.BO,p.AE.As=n.A7.id:=by
 have:=(Aq.1 h.r).2.2.2.2.2.2.2.2;unfold P7 at this;rw[zf,zM]at this;intro p hp;simpa using this p hp
theorem gF{l:List Past}{t:AC}{p:Past}(h:p∈EJ l t):p∈l\/p=⟨t.dst,t.Aa,t⟩:=by
 unfold EJ at h;split at h
 .split at h
  .exact .inl h
  .have:=List.mem_of_mem_drop h;rw[yx,zV]at this;exact this
 .exact .inl h
theorem Sl(h:NB n)(hs:D3 n m=true):NB (BH n m).1/\OP n.A7 (BH n m).1.A7/\(BH n m).1.A7.A8=n.A7.A8/\(BH n m).1.Aj=n.Aj/\(BH n m).1.AX=n.AX/\n.keep.length<=(BH n m).1.keep.length/\(BH n m).1.bad=n.bad/\((BH n m).1.A5=n.A5/\(BH n m).1.B8=n.B8)/\
  (BH n m).2.right=true/\(BH n m).2.BN=false/\(BH n m).2.As=n.A7.id/\(BH n m).2.dst=m.As/\(BH n m).2.Aa=m.Aa/\Cr (BH n m).1.BO m.As m.Aa=((BH n m).2,true):=by
 have hsn:=(Aq.1 h.r).2.2.2.2.2.2.2.1;unfold BH;rw[if_pos hs];split
 .rename_i hf;obtain⟨p,hp,e1,e2,e3⟩:=gG hf;obtain⟨b1,b2,b3,b4⟩:=Mr.1 ((Hr.1 hsn).2.1 p hp);refine⟨h,.refl _,rfl,rfl,rfl,xH _,rfl,⟨rfl,rfl⟩,?_⟩;dsimp only;rw[e3];refine⟨b1,b2,h.own p hp,b3.trans e1,b4.trans e2,?_⟩;rw[<-e3,<-hf]
 .rename_i hf;rw[Bool.not_eq_true]at hf;obtain⟨t1,t2,t3,t4,t5⟩:=UT hs;obtain⟨a1,a2,a3,a4,a5,a6,a7,a8,a9,a10⟩:=de h hs;have hr:=YE (t:=(CF n m).2) hsn;refine⟨a1.BO hr fun p hp=> ?_,a2,a3,a4,a5,a7,a8,⟨a9,a10⟩,t1,t2,t3,t4,t5,?_⟩
  .rw[a2.id];rcases gF hp with hp|rfl
   .exact h.own p hp
   .exact t3
  .dsimp only;rw[<-t4,<-t5];refine YC hsn t1 t2 ?_;rw[t4,t5];exact hf
theorem PK(h:m.right=true):m.A9.AH.length<=20:=by
 have hz:(AY:AK).AH.length<=20:=by decide
 have hi:∀x:AK,BE x=true->x.AH.length<=20:=fun x hx=>by
  unfold Wi.BE Wi.Bc at hx;simp only[xI,xK]at hx;omega
 unfold AC.right at h;simp only[xI,xK]at h;have hb:=h.2.1;have hh:=h.2.2
 by_cases h5:m.AR=5
 .unfold AC.has at hh;simp only[h5,show ¬((5:Int)=4)by decide,yC,yG]at hh;exact hi _ hh
 by_cases h6:m.AR=6
 .unfold AC.has at hh;simp only[h6,show ¬((6:Int)=4)by decide,show ¬((6:Int)=5)by decide,yC,yG]at hh;rw[xI]at hh;exact hi _ hh.1
 by_cases h12:m.AR=12
 .unfold AC.has at hh;simp only[h12,show ¬((12:Int)=4)by decide,show ¬((12:Int)=5)by decide,show ¬((12:Int)=6)by decide,show ¬((12:Int)=7)by decide,show ¬((12:Int)=10)by decide,show ¬((12:Int)=11)by decide,yC,yG]at hh;rw[yL,xI,xI,xK,xK,xK]at hh;rcases hh with hh|hh
  .exact hi _ hh.2
  .rw[hh.2];exact hz
 .have e:m.bare.A9=m.A9:=by
   unfold AC.bare
   repeat' split
   all_goals first|rfl|(exfalso;omega)
  rw[<-e,hb];exact hz
theorem NB.bad{n:AA}(h:NB n){k:Int}(hk:0<=k):NB {n with bad:=k}:=by
 refine⟨?_,⟨h.l.f,h.l.m,h.l.c⟩,h.ph⟩;obtain⟨a1,a2,a3,a4,a5,a6,a7,a8,a9⟩:=Aq.1 h.r;exact Aq.2 ⟨a1,hk,a3,a4,a5,a6,a7,a8,a9⟩
theorem NB.close(h:NB n)(m:AC):NB {n with AX:=(D9 n.AX m).1}:=by
 refine h.AX ?_ (WY h.cB.1);unfold D9;split
 .split<;>rfl
 .rfl
theorem dI(h:NB n)(b:AJ):NB (HV n b).1/\OP n.A7 (HV n b).1.A7/\(HV n b).1.Aj=n.Aj/\n.keep.length<=(HV n b).1.keep.length/\(∀g∈(HV n b).2,MR n.A7.id g)/\(HV n b).2.length<=16:=by
 unfold HV;rw[if_pos h.r];split
 .refine⟨h.bad ?_,.refl _,rfl,xH _,fun g hg=>(by cases hg),xQ _⟩;have:=(Aq.1 h.r).2.1;split<;>omega
 rename_i hc;split
 .rename_i ha
  by_cases hs:D3 n (BP b).1=true
  .obtain⟨a1,a2,_,a4,_,a6,_,_,t1,_,t3,_⟩:=Sl h hs;refine⟨a1,a2,a4,a6,fun g hg=> ?_,?_⟩
   .dsimp only at hg;rw[Fc t1,zV]at hg;exact⟨_,t1,t3,hg⟩
   .dsimp only;rw[Fc t1];exact(by decide:(1:Nat)<=16)
  .have e:BH n (BP b).1=(n,AN):=by unfold BH;rw[if_neg hs]
   rw[e]
   have hz:GG AN=[]:=by
    unfold GG;rw[if_neg];unfold Wi.C6;rw[Wi.am];decide
   refine⟨h,.refl _,rfl,xH _,fun g hg=> ?_,?_⟩
   .dsimp only at hg;rw[hz]at hg;cases hg
   .dsimp only;rw[hz];exact xQ _
 split
 .rename_i hk;obtain⟨k1,k2,_⟩:=WX hk;have hn:=h.close (BP b).1;have a:=p7 (g:=[]) hn (c:=(D9 n.AX (BP b).1).2.1) (m:=(BP b).1) (zB (PK k2) (by decide));obtain⟨g,g1,g2,g3⟩:=a.C0;have h16:=(Bz.1 a.nb.cB.1).1.2.2.2;refine⟨a.nb,a.A7,a.Aj,a.keep,fun x hx=> ?_,?_⟩
  .rw[g1]at hx;exact g2 x (by simpa using hx)
  .rw[g1];simp only[xY];omega
 .exact⟨h,.refl _,rfl,xH _,fun g hg=>(by cases hg),xQ _⟩
theorem s8(h:NB n)(AL:Int)(x:AK)(hx:x.AH.length<=big):NB (OW n AL x).1.1/\(OW n AL x).1.1.Aj=n.Aj/\(∀g∈(OW n AL x).1.2,MR n.A7.id g)/\(OW n AL x).1.2.length<=16/\((OW n AL x).2=0\/(OW n AL x).1=(n,[])):=by
 have hself:NB n/\n.Aj=n.Aj/\(∀g∈([]:List Dp),MR n.A7.id g)/\([]:List Dp).length<=16:=⟨h,rfl,fun g hg=>(by cases hg),xQ _⟩;unfold OW;split
 .split
  .have a:=Vt (g:=[]) h (w:=7) (AL:=AL) (AT:=0) hx;obtain⟨g,g1,g2,g3⟩:=a.C0;have h16:=(Bz.1 a.nb.cB.1).1.2.2.2;refine⟨a.nb,a.Aj,fun x hx=> ?_,?_,.inl rfl⟩
   .dsimp only at hx;rw[g1]at hx;exact g2 x (by simpa using hx)
   .dsimp only;rw[g1];simp only[xY];omega
  .exact⟨hself.1,hself.2.1,hself.2.2.1,hself.2.2.2,.inr rfl⟩
 .exact⟨hself.1,hself.2.1,hself.2.2.1,hself.2.2.2,.inr rfl⟩
theorem Ni(h:NB n){i:Nat}(hi:(Gx n.A7.id (n.AX.AU+1+i)).2=0)(hx:x∈n.keep):(L1 n i x).right=true:=by
 obtain⟨_,_,_,hv,hc,_,hk,_,_⟩:=Aq.1 h.r;have hit:=(Dg.1 hk).2.1 x hx;have hp:=(Cw hv).1;have hf:=Te hv;unfold Gx at hi;split at hi
 .rename_i hcall;have e:(Gx n.A7.id (n.AX.AU+1+i)).1=n.A7.id*1048576+(n.AX.AU+1+i):=by unfold Gx;rw[if_pos hcall]
  have ha:(L1 n i x).asker=n.A7.id:=rfl;unfold AC.right AC.Iy;rw[ha];simp only[xI,xK];unfold L1;rw[e];refine⟨⟨⟨⟨⟨⟨⟨(by decide:(1:Int)<=5),(by decide:(5:Int)<13)⟩,hcall.1⟩,by rw[<-H5];exact hf.1⟩,fun e=>hf.2 e.symm⟩,by dsimp only;omega⟩,by dsimp only;omega⟩,?_,?_⟩
  .unfold AC.bare AC.empty;simp
  .unfold AC.has;simp[hit]
 .cases hi
theorem Tp{n:AA}(h:NB n):∀(l:List AK)(i:Nat),(∀x∈l,x∈n.keep)->(∀g∈Fb n i l,MR n.A7.id g)
 |[],i,_=>fun g hg=>(by cases hg)
 |x::r,i,hl=>fun g hg=>by
  unfold Fb at hg;split at hg
  .rename_i hi;have hr:=Ni h hi (hl x (yT ..));rcases yx.1 hg with hg|hg
   .rw[Fc hr,zV]at hg;exact⟨_,hr,rfl,hg⟩
   .exact Tp h r (i+1) (fun y hy=>hl y (yQ _ hy)) g hg
  .cases hg
theorem lB(h:NB n):∀g∈Iz n,MR n.A7.id g:=by
 unfold Iz;rw[if_pos h.r];exact Tp h n.keep 0 fun x hx=>hx
theorem Rt{n:AA}(h:NB n):∀(l:List AK)(i:Nat),(∀x∈l,x∈n.keep)->(Fb n i l).length=min l.length (1048576-(n.AX.AU.toNat+i))/\∀k g,(Fb n i l)[k]? =some g->∃x,l[k]? =some x/\(L1 n (i+k) x).right=true/\g=⟨FK n.A7,(C6 (L1 n (i+k) x)).1,false⟩
 |[],i,_=>⟨by unfold Fb;simp,fun k g hg=>(by unfold Fb at hg;simp at hg)⟩
 |x::r,i,hl=>by
  have hm:=(Bz.1 h.cB.1).1;have hp:Bp n.A7.id=true:=by rw[<-H5];exact(Cw h.rv).1
  obtain⟨i1,i2⟩:=Rt h r (i+1) (fun y hy=>hl y (yQ _ hy));unfold Fb;split
  .rename_i hi;have hr:=Ni h hi (hl x (yT ..))
   have hle:n.AX.AU+1+i<=1048576:=by
    unfold Gx at hi;split at hi
    .rename_i hc;exact hc.2.2
    .cases hi
   rw[Fc hr];refine⟨?_,fun k g hg=> ?_⟩
   .rw[y9,i1];simp only[xw,yI];omega
   .cases k with
    |zero=>
     simp only[xX,xY,q0G,xJ]at hg;exact⟨x,rfl,hr,hg.symm⟩
    |succ k=>
     simp only[xX,xY,q0H]at hg;obtain⟨y,h1,h2,h3⟩:=i2 k g hg;rw[show i+1+k=i+(k+1)by omega]at h2 h3;exact⟨y,by simpa using h1,h2,h3⟩
  .rename_i hi
   have hgt:¬(n.AX.AU+1+i<=1048576):=fun hle=>hi (by
    unfold Gx
    rw[if_pos ⟨hp,om,hle⟩])
   refine⟨?_,fun k g hg=>(by simp at hg)⟩;rw[yI];omega
theorem fG(h:NB n):(Iz n).length=min n.keep.length (1048576-n.AX.AU.toNat)/\∀(k:Nat)(g:Dp),(Iz n)[k]? =some g->∃(x:AK)(m:AC),n.keep[k]? =some x/\m.right=true/\m.AR=5/\m.A9=x/\m.dst=FK n.A7/\g=⟨m.dst,(C6 m).1,false⟩:=by
 obtain⟨h1,h2⟩:=Rt h n.keep 0 fun x hx=>hx;unfold Iz
 rw[if_pos h.r];refine⟨by rw[h1];rfl,fun k g hg=> ?_⟩;obtain⟨x,a1,a2,a3⟩:=h2 k g hg;exact⟨x,_,a1,a2,rfl,rfl,rfl,a3⟩
variable {AB:Ad}
theorem sk1{x p:Int}:Fw x [p] AB=false↔∀b∈AB,Ee x b p=false:=by
 unfold Fw Fw;rw[Bool.or_false,zM];simp only[Bool.not_eq_true]
theorem vY(hv:Al v=true)(h:Fw v.id v.A8 v.AB=false):Fw v.id [FK v] v.AB=false:=by
 obtain⟨h1,h2,h3,_,_⟩:=Cw hv;have ef:FK v=vp (J8 v.id v.AB) v.A8:=by unfold FK;rw[if_pos hv]
 rw[ef]
 cases hl:v.A8 with
 |cons p r=>
  show Fw v.id [p] v.AB=false;rw[hl]at h;unfold Fw at h;rw[q08]at h;unfold Fw Fw;rw[h.1];rfl
 |nil=>
  show Fw v.id [J8 v.id v.AB] v.AB=false;have ha:=db h1 h2;have ho:=R0 h1 h2;have hp:=FG h1;have hq:=FG ho.2.1;rw[sk1];intro b hb;unfold Ee;rw[if_neg (by unfold Cp;have:=ho.2.2;omega),zK];rintro⟨e1,e2⟩
  by_cases hbi:b=v.id
  .subst hbi;unfold B1 at e1;omega
  .have:=ha.1 b hb hbi;omega
theorem u0{x p q:Int}(h:Fw x [q] AB=false)(hb:Ee x p q=true):Fw x [p] AB=false:=by
 rw[sk1]at h|-;intro b hbb;have h1:=h b hbb
 cases e:Ee x b p with
 |false=>rfl
 |true=>
  exfalso;unfold Ee at h1 hb e;have z:∀y:Int,Cp x=Cp y↔B1 x y=0:=fun y=>by unfold Cp B1;omega
  have w:∀y:Int,Cp y=Cp x↔B1 x y=0:=fun y=>by unfold Cp B1;omega
  simp only[z,w,ne_eq]at h1 hb e;split at h1<;>split at hb<;>split at e<;>simp only[xK,zK]at h1 hb e<;>omega
structure Fine (n:AA):Prop where
 l:pc n=false
 o:n.A5=1\/n.A5=2->Fw n.A7.id [n.B8] n.A7.AB=false
theorem Fine.of{w:AA}(h:Fine n)(hv:OP n.A7 w.A7)(hl:w.A7.A8=n.A7.A8)(hp:w.A5=0\/(w.A5=n.A5/\w.B8=n.B8)):Fine w:=by
 refine⟨by rw[Zh hv hl];exact h.l,fun k=> ?_⟩;rcases hp with e|⟨e1,e2⟩
 .omega
 .rw[e1]at k;rw[hv.id,hv.AB,e2];exact h.o k
theorem Tg{s t:NS}(h:gu s t)(k:Fine s.1):Fine t.1:=k.of h.A7 h.A8 h.tx
theorem I7{g:List Dp}{l:List (AC×Int)}(h:NB n)(k:Fine n):Fine (FC (n,g) l).1:=Tg (Ij l (s:=(n,g)) h) k
theorem eU{c:AW}(h:NB n)(k:Fine n):Fine (Cv n c).1:=by
 refine⟨pR k.l,fun hp=> ?_⟩;have hs:=(VJ n c).A7;rw[hs.id,hs.AB]
 have AH:(Cv n c).1.A5=0\/((Cv n c).1.A5=n.A5/\(Cv n c).1.B8=n.B8):=by
  unfold Cv;split
  .dsimp only;split
   .unfold DW;split
    .split
     .exact .inl rfl
     .exact .inr ⟨rfl,rfl⟩
    .exact .inr ⟨rfl,rfl⟩
   split
   .exact .inr ⟨(Cz ..).A5,(Cz ..).B8⟩
   .exact .inr ⟨rfl,rfl⟩
  .exact .inr ⟨rfl,rfl⟩
 rcases AH with e|⟨e1,e2⟩
 .omega
 .rw[e1]at hp;rw[e2];exact k.o hp
theorem RS{w AL AT:Int}(k:Fine n):Fine (Bh n w AL AT x).1:=by
 refine k.of (O1 ..).1.A7 (O1 ..).2 (.inr ?_);unfold Bh;split
 .exact⟨(Cz ..).A5,(Cz ..).B8⟩
 .exact⟨rfl,rfl⟩
theorem RR:∀(l:List AW){s:NS},NB s.1->Fine s.1->Fine (l.foldl (fun s x=>Ei s.2 (Cv s.1 x)) s).1
 |[],s,_,k=>k
 |x::r,s,h,k=>RR r (Zd (g:=s.2) h (c:=x)).nb (I7 (g:=s.2) h.lost (eU h k))
theorem eW(h:NB n)(k:Fine n):Fine (GP n).1:=by
 unfold GP;split
 .exact k
 .rename_i hc
  have hlt:n.Aj<1099511627776:=by
   rcases Int.lt_or_le n.Aj 1099511627776 with hl|hl
   .exact hl
   .exact absurd (.inl hl) hc
  have h1:=h.Aj hlt;have h2:=h1.late (n.Aj+1);have a:=Nj (CH n.AX (n.Aj+1)).2.2 (s:=({n with Aj:=n.Aj+1,AX:=(CH n.AX (n.Aj+1)).1},[]++(CH n.AX (n.Aj+1)).2.1.flatMap GG)) h2;have ka:=RR (CH n.AX (n.Aj+1)).2.2 (s:=({n with Aj:=n.Aj+1,AX:=(CH n.AX (n.Aj+1)).1},[]++(CH n.AX (n.Aj+1)).2.1.flatMap GG)) h2 ⟨k.l,k.o⟩;change Mz _ (L0 ({n with Aj:=n.Aj+1},[]))at a;change Fine (L0 ({n with Aj:=n.Aj+1},[])).1 at ka;generalize L0 ({n with Aj:=n.Aj+1},[])=s at *;have hs:=a.nb;clear a h1 h2 hlt hc;have hb:=Vm hs
  have kb:Fine (K5 s).1:=by
   have hbs:=Me hs.rv (Aq.1 hs.r).2.2.2.2.2.1 hs.ph;refine I7 (hs.tx hbs.1 hbs.2) ⟨ka.l,fun hp=> ?_⟩;dsimp only at hp|-;unfold Cc at hp|-;split
   .exact vY hs.rv ka.l
   .rename_i hc;rw[if_neg hc]at hp;exact ka.o hp
  generalize K5 s=s1 at *;have hc:=Zv hb.nb
  have kc:Fine (LA s1).1:=by
   unfold LA;split
   .exact Tg (Ij _ hb.nb) kb
   .exact kb
  generalize LA s1=s2 at *;have hd:=RU hc.nb
  have kd:Fine (G9 s2).1:=by
   have hw:=Vy hc.nb.rv s2.1.next;have hn:=hc.nb.A7 hw.1 hw.2.2;have kn:Fine {s2.1 with A7:=(walkT s2.1.A7 s2.1.next).1,next:=(walkT s2.1.A7 s2.1.next).2.1}:=kc.of hw.1 hw.2.1 (.inr ⟨rfl,rfl⟩);unfold G9;split
   .dsimp only;split
    .exact I7 (hn.start (by decide)) (RS kn)
    .exact kn
   .exact kc
  generalize G9 s2=s3 at *;unfold Hh;split
  .rename_i hx;rw[xI]at hx;have hx:=QS hx.2;have hk:=Rj hx.1 hx.2;dsimp only;exact I7 ((hd.nb.last _).start (zB hk (by decide))) (RS ⟨kd.l,kd.o⟩)
  .exact kd
theorem ZE{c:AW}(h:NB n)(k:Fine n)(hm:Fw m.As m.A8 n.A7.AB=false):Fine (Cd n c m).1:=by
 refine⟨kR h.ph k.l hm k.o,?_⟩;have hs:=(Rf n c m).A7;rw[hs.id,hs.AB];unfold Cd;rw[if_pos h.r];split
 .unfold Cb;split
  .rename_i hc;simp only[xI]at hc;split
   .intro hp;replace hp:(0:Int)=1\/(0:Int)=2:=hp;omega
   .rename_i h3;dsimp only;split
    .rename_i hb;intro _;have hcn:=hc.2.2;unfold Uf at hcn;simp only[xI,xK]at hcn;have ho:=k.o (.inl hb.1);rw[<-hcn.2.2.1]at ho;exact u0 ho hb.2.2
    .intro hp;replace hp:(3:Int)=1\/(3:Int)=2:=hp;omega
  .exact k.o
 split
 .intro hp;rw[(Cz ..).A5]at hp;rw[(Cz ..).B8];exact k.o hp
 .exact k.o
theorem XS(h:m.right=true)(hk:m.AR≠7):m.A8=[]:=by
 unfold AC.right at h;simp only[xI,xK]at h
 have e:m.bare.A8=m.A8:=by
  unfold AC.bare
  repeat' split
  all_goals first|rfl|(exfalso;omega)
 rw[<-e,h.2.1];rfl
theorem eV(h:NB n)(k:Fine n)(hr:m.right=true)(hm:m.AR=7->Fw m.As m.A8 n.A7.AB=false):Fine (HV n (C6 m).1).1:=by
 have hl:Fw m.As m.A8 n.A7.AB=false:=by
  by_cases h7:m.AR=7
  .exact hm h7
  .rw[XS hr h7];rfl
 unfold HV;rw[if_pos h.r,UG hr];split
 .exact⟨k.l,k.o⟩
 split
 .by_cases hs:D3 n m=true
  .obtain⟨_,a2,a3,_,_,_,_,a8,_⟩:=Sl h hs;exact k.of a2 a3 (.inr a8)
  .have e:BH n m=(n,AN):=by unfold BH;rw[if_neg hs]
   dsimp only;rw[e];exact k
 split
 .have hn:=h.close m;have kn:Fine {n with AX:=(D9 n.AX m).1}:=⟨k.l,k.o⟩;exact I7 (hn.heard (zB (PK hr) (by decide))) (ZE hn kn hl)
 .exact k
theorem pw(n:AA)(h:Fe n):xB 30 [n.d] (.b (P7 n)):=by
 refine zF AF Tryz.func30 ?_;have hn:n.BO.length<=1048576:=h.sn;have hT:P7 n= !(n.BO.any fun p=>decide (p.AE.As≠n.A7.id)):=rfl;generalize hq:(fun p:Past=>decide (p.AE.As≠n.A7.id))=q at *;have hq':∀x:Past,(x.AE.As !=n.A7.id)=q x:=fun x=>by rw[<-hq];by_cases e:x.AE.As=n.A7.id<;>simp[e]
 refine wd [0,1,2,3,8,21] [] A4 A4 ?_;refine DD (fun k=>k<=n.BO.length/\(n.BO.take k).any q=false) (fun k:Nat=>[(3,.wo k)]) (fun k=>n.BO.length-k) 0 ⟨xQ _,rfl⟩ (fun _=>rfl) ?_ ?_
 .exact A6.ck rfl
 rintro k ⟨hk,hpre⟩
 by_cases hkl:k<n.BO.length
 .obtain⟨x,hx⟩:=BB hkl;have hA:=Gw (p:=q) hx;rw[hpre,zJ]at hA;have f1:=hq' x
  cases hb:q x with
  |true=>
   rw[hb]at f1;have ix1:=hx;refine wd [0,1,2,3,8,21] [] (AM f1) A4 ?_;clear ix1;with_reducible repeat' first|constructor|intro hc
   refine⟨_,_,rfl,rfl,?_⟩;simp only[Cy];rw[hT,bL hx hb];rfl
  |false=>
   rw[hb]at f1;have ix1:=hx;refine wd [0,1,2,3,8,21] [] (AM f1) A4 ?_;clear ix1;with_reducible repeat' first|constructor|intro hc
   refine⟨k+1,⟨hkl,by rw[hA,hb]⟩,om,xH _,?_⟩;exact A6.ck rfl
 .have e:k=n.BO.length:=om
  subst e;rw[yD]at hpre;refine wd [0,1,2,3,8,21] [] A4 A4 ?_;with_reducible repeat' first|constructor|intro hc
  refine⟨_,_,rfl,rfl,?_⟩;simp only[Cy];rw[hT,hpre];rfl
theorem PL(n:AA)(h:Fe n):xB 9 [n.d] (.b (Av n)):=by
 have c1:=pw n h;have c2:=YB n.A7 h.id h.li (by have:=h.vb;omega) (by have:=h.vl;omega);have c3:=fz n.AX h.cl (by have:=h.cn;omega);have c4:=me n.BO h.sl (by have:=h.sn;omega);have c5:=mf n.A5 n.B8;have c6:=mZ n.keep (by have:=h.kn;omega);have hT:Av n=((decide (0<=n.Aj)&&decide (n.Aj<=1099511627776))&&(decide (0<=n.bad)&&((decide (0<=n.next)&&decide (n.next<16))&&(Al n.A7&&((decide (n.AX.id=n.A7.id)&&Bs n.AX)&&(CZ n.A5 n.B8&&(Ck n.keep&&(GI n.BO&&P7 n)))))))):=rfl;unfold AD.d AD.A0 at c2;unfold Calls.d Calls.A0 at c3;refine zF AF Tryz.func9 ?_;generalize Av n=R at *;generalize P7 n=g1 at *;generalize Al n.A7=g2 at *;generalize Bs n.AX=g3 at *;generalize GI n.BO=g4 at *;generalize CZ n.A5 n.B8=g5 at *;generalize Ck n.keep=g6 at *;clear h;refine wd [0,1,2] [] A4 (zq6 @c1 @c2 @c3 @c4 @c5 @c6) ?_;with_reducible repeat' first|constructor|intro hc
 all_goals(clear c1 c2 c3 c4 c5 c6;refine⟨_,_,rfl,rfl,?_⟩;simp only[Cy];refine congrArg D.b ?_;rw[hT];clear hT;grind)
end Nd
end Go.Proofs.YtkljbfejbakooaaGreatDoor
namespace Go.Proofs.YtkljbfejbakooaaGreatDoor
namespace Nd
open Go.Gar
open Wi (AC Bp BE AN Bc mC C6 BP)
abbrev OL:Aw:=[0,1,2,3,4,51,56,79,84,94]
structure GB (n:AA):Prop where
 vb:n.A7.AB.length<=20
 vl:n.A7.A8.length<=20
 cn:n.AX.op.length<=30
 cl:∀x∈n.AX.op,H7 x.Ao=false
 sn:n.BO.length<=60
 kn:n.keep.length<=40
 ln:n.last.length<=100
 f:n.AP.left.length<=20
 m:n.Ai.left.length<=20
 c:n.Ah.left.length<=20
 sl:∀x∈n.BO,H7 x.AE=false
 kl:∀x∈n.keep,x.AH.length<=100
theorem U7(n:AA):∃b:Bool,xB 8 [n.d] (.b b)/\(b=false->GB n):=by
 obtain⟨g,c2,hg⟩:=aA n.AX;have c1:=gg n.A7;refine⟨(decide (n.A7.AB.length>20\/n.A7.A8.length>20)||(g||(decide ((n.BO.length:Int)>60)||(decide ((n.keep.length:Int)>40)||(decide ((n.last.length:Int)>100)||(decide ((n.AP.left.length:Int)>20)||(decide ((n.Ai.left.length:Int)>20)||decide ((n.Ah.left.length:Int)>20))))))))||(n.BO.any (fun x=>H7 x.AE)||n.keep.any (fun x=>decide (100<x.AH.length))),?_,fun h=> ?_⟩
 .obtain⟨b1,hb1⟩:∃b1,b1=decide (n.A7.AB.length>20\/n.A7.A8.length>20):=⟨_,rfl⟩;rw[<-hb1]at c1|-;obtain⟨S,hS⟩:∃S,S=n.BO.any (fun x=>H7 x.AE):=⟨_,rfl⟩;obtain⟨K,hK⟩:∃K,K=n.keep.any (fun x=>decide (100<x.AH.length)):=⟨_,rfl⟩;rw[<-hS,<-hK];refine zF AF Tryz.func8 ?_;unfold AD.d AD.A0 at c1;unfold Calls.d Calls.A0 at c2;unfold AA.d AA.A0 AD.A0 Calls.A0 An.A0;clear hb1 hg;refine wd OL [] A4 (Ax @c1 @c2) ?_;with_reducible repeat' first|constructor|intro hc
  all_goals try(refine⟨_,_,rfl,rfl,?_⟩;simp only[IT];refine congrArg D.b ?_;grind)
  refine DD (fun k=>k<=n.BO.length/\(n.BO.take k).any (fun x=>H7 x.AE)=false) (fun k:Nat=>[(3,.wo k)]) (fun k=>n.BO.length-k) 0 ⟨xQ _,rfl⟩ (fun _=>rfl) ?_ ?_
  .exact A6.ck rfl
  rintro k ⟨hk,hpre⟩
  by_cases hkl:k<n.BO.length
  .have f1:decide ((k:Int)<(n.BO.length:Int))=true:=xM om;obtain⟨x,hx⟩:=BB hkl;have hA:=Gw (p:=fun x:Past=>H7 x.AE) hx;rw[hpre,zJ]at hA;have hL:H7 x.AE=(decide (20<x.AE.A8.length)||decide (100<x.AE.A9.AH.length)):=rfl
   have h2:H7 x.AE=true->S=true:=fun e=>by
    rw[hS];exact q0R.2 ⟨x,yH hx,e⟩
   have ix1:=hx;refine wd OL [] (AM f1) A4 ?_;clear ix1;with_reducible repeat' first|constructor|intro hc
   all_goals first
    |(refine⟨_,_,rfl,rfl,?_⟩;simp only[IT];refine congrArg D.b ?_;grind)
    |(refine⟨k+1,⟨hkl,by rw[hA];grind⟩,om,xH _,?_⟩;exact A6.ck rfl)
  .have f1:decide ((k:Int)<(n.BO.length:Int))=false:=xO om;have e:k=n.BO.length:=om
   subst e;rw[yD]at hpre;rw[hpre]at hS;refine wd OL [] (AM f1) A4 ?_;refine DD (fun k=>k<=n.keep.length/\(n.keep.take k).any (fun x=>decide (100<x.AH.length))=false) (fun k:Nat=>[(4,.wo k)]) (fun k=>n.keep.length-k) 0 ⟨xQ _,rfl⟩ (fun _=>rfl) ?_ ?_
   .exact A6.ck rfl
   rintro k ⟨hk,hpre⟩
   by_cases hkl:k<n.keep.length
   .have f1:decide ((k:Int)<(n.keep.length:Int))=true:=xM om;obtain⟨x,hx⟩:=BB hkl;have hA:=Gw (p:=fun x:AK=>decide (100<x.AH.length)) hx;rw[hpre,zJ]at hA
    have h2:100<x.AH.length->K=true:=fun e=>by
     rw[hK];exact q0R.2 ⟨x,yH hx,xM e⟩
    have ix1:=hx;refine wd OL [] (AM f1) A4 ?_;clear ix1;with_reducible repeat' first|constructor|intro hc
    all_goals first
     |(refine⟨_,_,rfl,rfl,?_⟩;simp only[IT];refine congrArg D.b ?_;grind)
     |(refine⟨k+1,⟨hkl,by rw[hA];grind⟩,om,xH _,?_⟩;exact A6.ck rfl)
   .have f1:decide ((k:Int)<(n.keep.length:Int))=false:=xO om;have e:k=n.keep.length:=om
    subst e;rw[yD]at hpre;rw[hpre]at hK;refine wd OL [] (AM f1) A4 ?_
    all_goals(refine⟨_,_,rfl,rfl,?_⟩;simp only[IT];refine congrArg D.b ?_;grind)
 .simp only[q08,zK]at h;obtain⟨⟨h1,h2,h3,h4,h5,h6,h7,h8⟩,h9,h10⟩:=h;obtain⟨g1,g2⟩:=hg h2
  exact⟨om,om,g1,g2,om,om,om,om,om,om,fun x hx=>Bool.eq_false_iff.2 (zM.1 h9 x hx),fun x hx=>by
   have:=zM.1 h10 x hx;simp only[xK]at this
   omega⟩
end Nd
end Go.Proofs.YtkljbfejbakooaaGreatDoor
namespace Go.Proofs.YtkljbfejbakooaaGreatDoor
namespace Nd
open Go.Gar
open Wi (AC Bp BE AN Bc mC C6 BP)
set_option maxRecDepth 100000
theorem Rw{m:AC}(h:H7 m=false):Am m:=by
 unfold H7 at h;simp only[q08,zK]at h;unfold Am;omega
variable {n:AA}
theorem qi(g:GB n)(w:TG n):Fe n:=by
 have:=g.vb;have:=g.vl;have:=g.cn;have:=g.sn;have:=g.kn;have:=g.f;have:=g.m;have:=g.c;exact⟨w.id,w.li,om,om,fun x hx=>Rw (g.cl x hx),om,fun x hx=>Rw (g.sl x hx),om,om,om,om,om⟩
theorem ve(g:GB n)(w:TG n)(r:Av n=true):NB n:=by
 have:=g.f;have:=g.m;have:=g.c;exact⟨r,⟨om,om,om⟩,w.ph⟩
theorem Sg(h:NB n):xB 9 [n.d] (.b true):=by
 have:=PL n h.FV;rwa [h.r]at this
end Nd
end Go.Proofs.YtkljbfejbakooaaGreatDoor
