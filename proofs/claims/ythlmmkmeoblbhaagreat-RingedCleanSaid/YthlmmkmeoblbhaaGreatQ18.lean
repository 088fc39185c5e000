/- Part 18 of a proof. Conditions: those that its theorems state. -/
import Derived.Test.YthlmmkmeoblbhaaGreatQ14
import Derived.Test.YthlmmkmeoblbhaaGreatQ17
set_option linter.unusedSimpArgs false
set_option linter.unusedVariables false
set_option linter.unnecessarySimpa false
set_option maxHeartbeats 40000000
set_option maxRecDepth 4000
namespace Go.Proofs.YthlmmkmeoblbhaaGreat
namespace Nd
open Go.Gar
open Wi (AE BE Ay CG Ac)
structure CS where
 nodes:List A6
 gone:Ao
 A2:Ao
 bag:Bg.Dr
def CS.c(c:CS):BF:=⟨c.nodes,c.gone,c.A2,c.bag.grams.map Af.A1,c.bag.lost⟩
structure Step where
 AG:Int
 a:Int
 b:Int
 c:Int
 bytes:AT
 AC:AL
def Step.A1(s:Step):yo:=[.i .u8 s.AG,.yE s.a,.yE s.b,.yE s.c,.by s.bytes,.s s.AC.AH,.yE s.AC.BD,.yE s.AC.Aa,.b s.AC.gone]
def Step.d(s:Step):D:=.agg s.A1
abbrev stepsD(l:List Step):D:=.sl 9 (l.map Step.A1)
def DX(l:List A6)(p:Int):yW:=l.findIdx? (GZ p)
def If(c:CS)(g:List Af):CS:=⟨c.nodes,c.gone,c.A2,Bg.I4 c.bag g⟩
def oe(c:CS)(i:Nat)(n:A6):CS:=⟨c.nodes.set i n,c.gone,c.A2,c.bag⟩
def Nn(c:CS)(r:Bg.Dr×Int):CS×Int:=if r.2=0 then(⟨c.nodes,c.gone,c.A2,r.1⟩,0)else(c,r.2)
def J9(c:CS)(p:Int):CS×Int:=match DX c.nodes p with
 |some i=>(If (oe c i (EW (c.nodes.getD i D2)).1) (EW (c.nodes.getD i D2)).2,0)
 |none=>(c,2)
def IK(c:CS)(p AR:Int)(x:AL):CS×Int:=match DX c.nodes p with
 |some i=>if(Gg (c.nodes.getD i D2) AR x).2=0 then(If (oe c i (Gg (c.nodes.getD i D2) AR x).1.1) (Gg (c.nodes.getD i D2) AR x).1.2,0)else(c,(Gg (c.nodes.getD i D2) AR x).2)
 |none=>(c,2)
def Uh(c:CS)(b:Bg.Dr)(g:Af):CS:=match DX c.nodes g.to with
 |some i=>If ⟨c.nodes.set i (ET (c.nodes.getD i D2) g.by_).1,c.gone,c.A2,b⟩ (ET (c.nodes.getD i D2) g.by_).2
 |none=>⟨c.nodes,c.gone,c.A2,⟨b.grams,IntKind.wrap .i64 (b.lost+1)⟩⟩
def DU(c:CS)(a:Int):CS×Int:=if c.bag.OD a then(Uh c ⟨c.bag.grams.eraseIdx a.toNat,c.bag.lost⟩ (c.bag.grams.getD a.toNat Bg.Fx),0)else(c,2)
def U7(l:List A6)(p:Int):Nat->Nat
 |0=>0
 |k+1=>if(l.getD k D2).A4.id<p then k+1 else U7 l p k
def PW{α:Type}(l:List α)(a:Nat)(n:α):List α:=l.take a++n::l.drop a
def QM(c:CS)(p:Int):Bool:=BE p&&(!(By c.nodes p)&&(!(decide (p∈c.gone))&&decide (c.nodes.length<12)))
def HP(c:CS)(p:Int):CS×Int:=if QM c p then(⟨PW c.nodes (U7 c.nodes p c.nodes.length) (De p c.A2).1,c.gone,c.A2,c.bag⟩,0)else(c,2)
def GL(c:CS)(p:Int)(lv:Bool):CS×Int:=match DX c.nodes p with
 |some i=>if p∈c.A2\/c.gone.length>=1000 then(c,2)else(⟨c.nodes.eraseIdx i,c.gone++[p],c.A2,if lv then Bg.I4 c.bag (GP (c.nodes.getD i D2))else c.bag⟩,0)
 |none=>(c,2)
def Sj(c:CS)(s:Step):CS×Int:=if 0<=s.c/\s.c<=255 then Nn c (Bg.LI c.bag s.a s.b s.c)else(c,2)
def m5(c:CS)(s:Step):CS×Int:=if BE s.a=true/\s.bytes.length<=120 then(If c [⟨s.a,s.bytes,false⟩],0)else(c,2)
def stepS(c:CS)(s:Step):CS×Int:=
 if s.AG=1 then J9 c s.a
 else if s.AG=2 then DU c s.a
 else if s.AG=3 then Nn c (Bg.Ke c.bag s.a)
 else if s.AG=4 then Nn c (Bg.Hn c.bag s.a)
 else if s.AG=5 then Sj c s
 else if s.AG=6 then m5 c s
 else if s.AG=7 then HP c s.a
 else if s.AG=8 then GL c s.a false
 else if s.AG=9 then GL c s.a true
 else if s.AG=10 then IK c s.a 2 s.AC
 else if s.AG=11 then IK c s.a 3 ⟨s.AC.AH,0,0,false⟩
 else(c,2)
def Ga(A2:Ao):Bool:=decide (2<=A2.length)&&(decide (A2.length<=4)&&Hk A2)
def newS(A2:Ao):CS×Int:=if Ga A2 then(⟨A2.map fun p=>(De p A2).1,[],A2,⟨[],0⟩⟩,0)else(⟨[],[],[],⟨[],0⟩⟩,2)
structure BB (b:Bg.Dr):Prop where
 n:b.grams.length<=400
 s:∀g∈b.grams,g.by_.length<=120
structure CN (l:List A6) (gone A2:Ao):Prop where
 b:Ga A2=true
 n:l.length<=12
 r:(ids l).Pairwise (·<·)
 nb:∀n∈l,NB n/\n.A4.A2=A2
 bn:∀p∈A2,p∈ids l
 gl:gone.length<=1000
 gp:∀p∈gone,BE p=true/\p∉ids l
 gd:gone.Nodup
structure CW (c:CS):Prop where
 n:CN c.nodes c.gone c.A2
 b:BB c.bag
variable {l:List A6}{p:Int}
theorem WV:p∈ids l↔By l p=true:=by
 unfold ids By;rw[q0q,q1E];constructor
 .rintro⟨n,h1,h2⟩;exact⟨n,h1,by unfold GZ;exact yX h2⟩
 .rintro⟨n,h1,h2⟩;exact⟨n,h1,q1H h2⟩
theorem Qr{k:Nat}{x:A6}(h:l[k]? =some x):(ids l)[k]? =some x.A4.id:=by unfold ids;rw[q03,h];rfl
variable {i:Nat}
theorem TA(h:DX l p=some i):∃n,l[i]? =some n/\n.A4.id=p/\l.getD i D2=n:=by
 obtain⟨h1,h2,_⟩:=List.findIdx?_eq_some_iff_getElem.1 h;exact⟨l[i],yj h1,q1H h2,by simp[h1]⟩
theorem M3(l:List A6)(p:Int):E3 (GZ p) l=(match DX l p with|some i=>(i:Int)|none=> -1):=rfl
theorem X6{l:Ao}(h:l.Pairwise (·<·)){j:Nat}{x y:Int}(hx:l[i]? =some x)(hy:l[j]? =some y)(hij:i<j):x<y:=by
 obtain⟨h1,rfl⟩:=yZ.1 hx;obtain⟨h2,rfl⟩:=yZ.1 hy;exact q0L.1 h i j h1 h2 hij
theorem Oc{l:Ao}:Hk l=true↔(∀x∈l,BE x=true)/\l.Pairwise (·<·):=by
 unfold Hk;rw[Ex];constructor
 .intro h
  have hg:∀k (hk:k<l.length),BE l[k]=true/\(k=0\/l.getD (k-1) 0<l[k]):=fun k hk=>by
   have:=h k hk;unfold Ps at this;rw[yU,yc,El hk]at this;exact this
  refine⟨fun x hx=> ?_,q0L.2 ?_⟩
  .obtain⟨k,hk,rfl⟩:=q0d.1 hx;exact(hg k hk).1
  .intro i j hi hj hij
   induction j with
   |zero=>omega
   |succ j ih=>
    have h1:=(hg (j+1) hj).2;rcases h1 with h1|h1
    .omega
    rw[Nat.add_sub_cancel,El (show j<l.length by omega)]at h1
    by_cases e:i=j
    .subst e;exact h1
    .have:=ih om om;omega
 .rintro⟨h1,h2⟩ k hk;unfold Ps;rw[yU,yc,El hk];refine⟨h1 _ (q0a hk),?_⟩
  by_cases h0:k=0
  .exact .inl h0
  .rw[El (show k-1<l.length by omega)];exact .inr (q0L.1 h2 (k-1) k om hk om)
variable {n:A6}
theorem NB.pl(h:NB n):BE n.A4.id=true:=by rw[<-CU];exact(Bz h.rv).1
variable {gone A2:Ao}
theorem CN.pl(h:CN l gone A2):∀p∈ids l,BE p=true:=fun p hp=>by
 obtain⟨n,h1,rfl⟩:=q0q.1 hp;exact(h.nb n h1).1.pl
variable {c:CS}
theorem CW.right(h:CW c):Bs c.c=true:=by
 have hb:=h.n.b;unfold Ga at hb;unfold Bs Uk;simp only[yU,yc]at hb|-;refine⟨⟨hb.1,hb.2.1,hb.2.2,h.n.n,Oc.2 ⟨h.n.pl,h.n.r⟩,h.n.gl,?_⟩,?_,?_,?_⟩
 .show(c.bag.grams.map Af.A1).length<=400;rw[zY];exact h.b.n
 .rw[q0I];intro n hn;unfold Kh;rw[yU,yc];exact⟨(h.n.nb n hn).1.r,(h.n.nb n hn).2⟩
 .rw[q0I];exact fun p hp=>WV.1 (h.n.bn p hp)
 .rw[Ex];intro k hk;replace hk:k<c.gone.length:=hk;unfold Ui;show(BE (c.gone.getD k 0)&&(!(By c.nodes (c.gone.getD k 0))&& !(decide (c.gone.getD k 0∈c.gone.take k))))=true;have hm:c.gone.getD k 0∈c.gone:=by rw[El hk];exact q0a hk
  obtain⟨g1,g2⟩:=h.n.gp _ hm;simp only[yU,q0H,zn];refine⟨g1,?_,TC.1 h.n.gd k hk⟩
  cases hq:By c.nodes (c.gone.getD k 0)with
  |false=>rfl
  |true=>exact absurd (WV.2 hq) g2
theorem CW.cok(h:CW c):Ve c.c:=by
 have hb:=h.n.b;unfold Ga at hb;simp only[yU,yc]at hb;refine⟨?_,fun n hn=>(h.n.nb n hn).1.P5,?_,?_,?_⟩
 .show c.nodes.length<=1048576;have:=h.n.n;omega
 .show c.gone.length<=1048576;have:=h.n.gl;omega
 .show c.A2.length<=1048576;omega
 .show(c.bag.grams.map Af.A1).length<=1048576;rw[zY];have:=h.b.n;omega
variable {b:Bg.Dr}
theorem sR(h:BB b)(g:Af):BB (Bg.step b g):=by
 unfold Bg.step;split
 .rename_i hc;refine⟨by simp only[yw,yu,zI];omega,fun x hx=> ?_⟩;rcases q04.1 hx with hx|hx
  .exact h.s x hx
  .rw[q00.1 hx];exact hc.2
 .exact⟨h.n,h.s⟩
theorem TO:∀(l:List Af){b:Bg.Dr},BB b->BB (Bg.I4 b l)
 |[],_,h=>h
 |g::r,_,h=>TO r (sR h g)
theorem SI(h:BB b)(k:Nat)(n:Int):BB ⟨b.grams.eraseIdx k,n⟩:=
 ⟨q0E (List.length_eraseIdx_le ..) h.n,fun g hg=>h.s g (q1P hg)⟩
theorem dI(h:BB b)(p:Int):BB (Bg.Ke b p).1:=by
 unfold Bg.Ke;split
 .exact SI h _ _
 .exact h
theorem ZT(h:BB b)(p:Int):BB (Bg.Hn b p).1:=by
 unfold Bg.Hn;split
 .exact TO _ h
 .exact h
theorem dV(h:BB b)(p i m:Int):BB (Bg.LI b p i m).1:=by
 unfold Bg.LI;split
 .rename_i hc;simp only[yU]at hc;obtain⟨k,e,hk⟩:=Bg.HO hc.1;subst e;refine⟨by simp only[q0y];exact h.n,fun g hg=> ?_⟩;rcases q0t hg with hg|rfl
  .exact h.s g hg
  .obtain⟨x,hx⟩:=AS hk;have:b.grams.getD ((k:Int).toNat) Bg.Fx=x:=by rw[q0m,zJ,hx];rfl
   rw[this];have h1:=h.s x (zM hx);show(Bg.IT x.by_ i.toNat m).length<=120;rw[Bg.Uj];exact h1
 .exact h
theorem Xc(h:NB n)(AR:Int)(x:AL)(hx:x.AH.length<=big):N6 n.A4 (Gg n AR x).1.1.A4:=by
 unfold Gg;split
 .split
  .exact(R7 (g:=[]) h (w:=7) (AR:=AR) (AY:=0) hx).A4
  .exact .refl _
 .exact .refl _
variable {m:A6}
theorem qj(hi:l[i]? =some n)(he:m.A4.id=n.A4.id):ids (l.set i m)=ids l:=by
 unfold ids;rw[List.map_set];refine List.ext_getElem? fun k=> ?_
 rw[q18];split
 .rename_i e;subst e;have hk:=(yZ.1 hi).1;rw[zN (by rw[zY];exact hk),q03,hi,he];rfl
 .rfl
theorem CN.set(h:CN l gone A2)(hi:l[i]? =some n)(hm:NB m)(hv:N6 n.A4 m.A4):CN (l.set i m) gone A2:=by
 have e:=qj hi hv.id;refine⟨h.b,by rw[q0y];exact h.n,by rw[e];exact h.r,fun x hx=> ?_,by rw[e];exact h.bn,h.gl,by rw[e];exact h.gp,h.gd⟩;rcases q0t hx with hx|rfl
 .exact h.nb x hx
 .exact⟨hm,hv.A2.trans (h.nb n (zM hi)).2⟩
theorem PV(l:List A6)(i:Nat):ids (l.eraseIdx i)=(ids l).eraseIdx i:=V0 _ l i
theorem mem_erase{l:Ao}(h:l.Pairwise (·<·))(hp:l[i]? =some p)(x:Int):x∈l.eraseIdx i↔x∈l/\x≠p:=by
 rw[List.mem_eraseIdx_iff_getElem?];constructor
 .rintro⟨j,h1,h2⟩;refine⟨zM h2,fun e=> ?_⟩;subst e;rcases Nat.lt_or_gt_of_ne h1 with h3|h3
  .have:=X6 h h2 hp h3;omega
  .have:=X6 h hp h2 h3;omega
 .rintro⟨h1,h2⟩;obtain⟨j,hj⟩:=q0e.1 h1;exact⟨j,fun e=>by subst e;rw[hp]at hj;exact h2 (Option.some.inj hj).symm,hj⟩
theorem Ru(l:List A6)(p:Int):∀n,U7 l p n<=n/\(∀k,U7 l p n<=k->k<n->¬(l.getD k D2).A4.id<p)/\(0<U7 l p n->(l.getD (U7 l p n-1) D2).A4.id<p)
 |0=>⟨yV _,fun k _ h=>om,fun h=>absurd h (Nat.lt_irrefl 0)⟩
 |n+1=>by
  obtain⟨h1,h2,h3⟩:=Ru l p n
  by_cases hc:(l.getD n D2).A4.id<p
  .have e:U7 l p (n+1)=n+1:=zN hc;rw[e];exact⟨yV _,fun k _ _=>om,fun _=>hc⟩
  .have e:U7 l p (n+1)=U7 l p n:=zO hc;rw[e];refine⟨om,fun k hk hl=> ?_,h3⟩
   by_cases ek:k=n
   .subst ek;exact hc
   .exact h2 k hk om
theorem dY(l:List A6)(a:Nat)(n:A6):ids (PW l a n)=PW (ids l) a n.A4.id:=by
 unfold ids PW;rw[zS,zV,List.map_take,List.map_drop]
theorem uc{l:Ao}(h:l.Pairwise (·<·)){a:Nat}(h1:∀k x,l[k]? =some x->k<a->x<p)(h2:∀k x,l[k]? =some x->a<=k->p<x):(PW l a p).Pairwise (·<·):=by
 unfold PW
 have hd:∀x∈l.drop a,p<x:=fun x hx=>by
  obtain⟨k,hk⟩:=q0e.1 hx;rw[q0Y]at hk;exact h2 _ _ hk om
 have ht:∀x∈l.take a,x<p:=fun x hx=>by
  obtain⟨k,hk⟩:=q0e.1 hx;rw[q0T]at hk;split at hk
  .exact h1 _ _ hk (by assumption)
  .cases hk
 refine List.pairwise_append.2 ⟨h.sublist (List.take_sublist ..),q1M.2 ⟨hd,h.sublist (List.drop_sublist ..)⟩,fun x hx y hy=> ?_⟩;rcases q0C.1 hy with rfl|hy
 .exact ht x hx
 .exact Int.lt_trans (ht x hx) (hd y hy)
theorem Qv{α:Type}{l:List α}{a:Nat}{n x:α}:x∈PW l a n↔x=n\/x∈l:=by
 unfold PW;rw[q04,q0C]
 conv=>rhs;rw[<-q0J a l,q04]
 constructor
 .rintro(h|h|h)
  .exact .inr (.inl h)
  .exact .inl h
  .exact .inr (.inr h)
 .rintro(h|h|h)
  .exact .inr (.inl h)
  .exact .inl h
  .exact .inr (.inr h)
theorem t8:∀(l:Ao)(f:Int),(∀x∈l,BE x=true/\f<x)->l.Pairwise (·<·)->bT f l=true
 |[],_,_,_=>rfl
 |a::r,f,h,hp=>by
  obtain⟨p1,p2⟩:=q1M.1 hp;have ha:=h a (q02 ..);simp only[bT,yU,yc];exact⟨⟨by rw[CU];exact ha.1,ha.2⟩,t8 r a (fun x hx=>⟨(h x (q05 _ hx)).1,p1 x hx⟩) p2⟩
theorem Zr(h:Ga A2=true):CZ A2=true:=by
 unfold Ga at h;simp only[yU,yc]at h;obtain⟨h1,h2,h3⟩:=h;obtain⟨h4,h5⟩:=Oc.1 h3;unfold CZ;simp only[yU,yc];exact⟨⟨h1,h2⟩,t8 _ _ (fun x hx=>⟨h4 x hx,by have:=(Wi.OS.1 (h4 x hx)).1;omega⟩) h5⟩
theorem T7(hp:BE p=true)(hb:Ga A2=true):(De p A2).2=0/\NB (De p A2).1/\(De p A2).1.A4.id=p/\(De p A2).1.A4.A2=A2/\(De p A2).1.AJ=0/\(De p A2).1.A4.A8=[]/\(De p A2).1.keep=[]:=by
 have hv:AZ (newV p A2)=true:=by
  simp only[AZ,newV,Zr hb,CU,hp];have h3:Eu p (-1)=true:=by simp[Eu]
  have h4:CB p []=true:=by simp[CB,rT]
  rw[h3,h4];simp[Hy,h3]
 have ht:newT p A2=(newV p A2,0):=zN hv
 have e:De p A2=(⟨newV p A2,0,⟨p,0,[]⟩,[],0,0,Hb,Hb,Hb,0,[],[],0⟩,0):=by
  unfold De;rw[ht,zN rfl,zN hp]
 rw[e];refine⟨rfl,⟨Al.2 ⟨⟨q0l 0,(by decide:(0:Int)<=1099511627776)⟩,q0l 0,⟨q0l 0,(by decide:(0:Int)<16)⟩,hv,⟨rfl,Be.2 ⟨⟨hp,q0l 0,(by decide:(0:Int)<=1048576),yx _⟩,fun x hx=>(by cases hx),.nil⟩⟩,rfl,(by decide:CK []=true),(by decide:Fw []=true),rfl⟩,⟨yx _,yx _,yx _⟩,q0l 0⟩,rfl,rfl,rfl,rfl,rfl⟩
theorem CN.join(h:CN l gone A2)(hp:BE p=true)(hn:By l p=false)(hg:p∉gone)(hl:l.length<12):CN (PW l (U7 l p l.length) (De p A2).1) gone A2:=by
 obtain⟨_,n1,n2,n3,_⟩:=T7 hp h.b;obtain⟨a1,a2,a3⟩:=Ru l p l.length;have hni:p∉ids l:=fun e=>by rw[WV.1 e]at hn;cases hn
 have hm:∀x,x∈ids (PW l (U7 l p l.length) (De p A2).1)↔x=p\/x∈ids l:=fun x=>by rw[dY,Qv,n2]
 refine⟨h.b,?_,?_,fun x hx=> ?_,fun x hx=>(hm x).2 (.inr (h.bn x hx)),h.gl,fun x hx=>⟨(h.gp x hx).1,fun e=> ?_⟩,h.gd⟩
 .unfold PW;simp only[yw,yu,q09,q15];omega
 .rw[dY,n2]
  have hg:∀k x,(ids l)[k]? =some x->∃n,l[k]? =some n/\l.getD k D2=n/\n.A4.id=x:=fun k x hk=>by
   unfold ids at hk;rw[q03,q0B]at hk;obtain⟨n,h1,h2⟩:=hk;exact⟨n,h1,getD_at h1,h2⟩
  refine uc h.r (fun k x hk hka=> ?_) (fun k x hk hka=> ?_)
  .have hlt:=a3 om
   have hlast:(ids l)[U7 l p l.length-1]? =some (l.getD (U7 l p l.length-1) D2).A4.id:=by
    obtain⟨y,hy⟩:=AS (xs:=l) (k:=U7 l p l.length-1) om;rw[getD_at hy];exact Qr hy
   by_cases e:k=U7 l p l.length-1
   .rw[<-e]at hlast hlt;rw[hk]at hlast;cases hlast;exact hlt
   .have:=X6 h.r hk hlast om;omega
  .have hkl:k<l.length:=by
    have:=(yZ.1 hk).1;unfold ids at this;rwa [zY]at this
   obtain⟨n,h1,h2,h3⟩:=hg k x hk;have:=a2 k hka hkl;rw[h2,h3]at this;have hne:x≠p:=fun e=>by subst e;exact hni (zM hk)
   omega
 .rcases Qv.1 hx with rfl|hx
  .exact⟨n1,n3⟩
  .exact h.nb x hx
 .rcases(hm x).1 e with rfl|e
  .exact hg hx
  .exact(h.gp x hx).2 e
theorem CN.goes(h:CN l gone A2)(hi:DX l p=some i)(hb:p∉A2)(hg:gone.length<1000):CN (l.eraseIdx i) (gone++[p]) A2:=by
 obtain⟨n,h1,h2,_⟩:=TA hi;have hp:(ids l)[i]? =some p:=by rw[<-h2];exact Qr h1
 have hm:=mem_erase h.r hp;have hpl:=h.pl p (zM hp);refine⟨h.b,q0E (List.length_eraseIdx_le ..) h.n,?_,fun x hx=>h.nb x (q1P hx),fun x hx=> ?_,by rw[yw];simp;omega,fun x hx=> ?_,?_⟩
 .rw[PV];exact h.r.sublist (List.eraseIdx_sublist ..)
 .rw[PV,hm];exact⟨h.bn x hx,fun e=>hb (e▸hx)⟩
 .rw[PV,hm];rcases q04.1 hx with hx|hx
  .exact⟨(h.gp x hx).1,fun e=>(h.gp x hx).2 e.1⟩
  .rw[q00.1 hx];exact⟨hpl,fun e=>e.2 rfl⟩
 .rw[List.nodup_append];refine⟨h.gd,sm,fun x hx y hy=> ?_⟩;rw[q00.1 hy];exact fun e=>(h.gp x hx).2 (e▸zM hp)
structure pD (c:CS) (r:CS×Int):Prop where
 w:CW r.1
 A2:r.1.A2=c.A2
 gone:∃t,r.1.gone=c.gone++t
 no:r.2≠0->r.1=c
theorem pD.refl(h:CW c)(e:Int):pD c (c,e):=⟨h,rfl,⟨[],sm⟩,fun _=>rfl⟩
theorem PG(h:CW c){r:Bg.Dr×Int}(hr:BB r.1):pD c (Nn c r):=by
 unfold Nn;split
 .exact⟨⟨h.n,hr⟩,rfl,⟨[],sm⟩,fun e=>absurd rfl e⟩
 .exact .refl h _
theorem WZ(h:CW c)(hi:c.nodes[i]? =some n)(hm:NB m)(hv:N6 n.A4 m.A4)(hb:BB b)(g:List Af):pD c (If ⟨c.nodes.set i m,c.gone,c.A2,b⟩ g,0):=
 ⟨⟨h.n.set hi hm hv,TO _ hb⟩,rfl,⟨[],by simp[If]⟩,fun e=>absurd rfl e⟩
theorem CW.node(h:CW c)(hi:DX c.nodes p=some i):∃n,c.nodes[i]? =some n/\c.nodes.getD i D2=n/\NB n/\n.A4.id=p:=by
 obtain⟨n,h1,h2,h3⟩:=TA hi;exact⟨n,h1,h3,(h.n.nb n (zM h1)).1,h2⟩
theorem ei(h:CW c)(p:Int):pD c (J9 c p):=by
 unfold J9
 cases hi:DX c.nodes p with
 |none=>exact .refl h _
 |some i=>
  obtain⟨n,h1,h2,h3,_⟩:=h.node hi;obtain⟨t1,t2,_⟩:=X4 h3;dsimp only;rw[h2];exact WZ h h1 t1 t2 h.b _
theorem Zq(h:CW c)(p AR:Int){x:AL}(hx:x.AH.length<=big):pD c (IK c p AR x):=by
 unfold IK
 cases hi:DX c.nodes p with
 |none=>exact .refl h _
 |some i=>
  obtain⟨n,h1,h2,h3,_⟩:=h.node hi;dsimp only;rw[h2];split
  .exact WZ h h1 (Zp h3 AR x hx).1 (Xc h3 AR x hx) h.b _
  .exact .refl h _
theorem SF(h:CW c)(a:Int):pD c (DU c a):=by
 unfold DU;split
 .have hb:=SI h.b a.toNat c.bag.lost;unfold Uh;generalize c.bag.grams.getD a.toNat Bg.Fx=g
  cases hi:DX c.nodes g.to with
  |none=>exact⟨⟨h.n,hb.n,hb.s⟩,rfl,⟨[],sm⟩,fun e=>absurd rfl e⟩
  |some i=>
   obtain⟨n,h1,h2,h3,_⟩:=h.node hi;obtain⟨t1,t2,_⟩:=X1 h3 g.by_;dsimp only;rw[h2];exact WZ h h1 t1 t2 hb _
 .exact .refl h _
theorem dj(h:CW c)(p:Int):pD c (HP c p):=by
 unfold HP;split
 .rename_i hc;unfold QM at hc;simp only[yU,q0H,yc,zn]at hc;exact⟨⟨h.n.join hc.1 hc.2.1 hc.2.2.1 hc.2.2.2,h.b⟩,rfl,⟨[],sm⟩,fun e=>absurd rfl e⟩
 .exact .refl h _
theorem WH(h:CW c)(p:Int)(lv:Bool):pD c (GL c p lv):=by
 unfold GL
 cases hi:DX c.nodes p with
 |none=>exact .refl h _
 |some i=>
  dsimp only;split
  .exact .refl h _
  .rename_i hc;refine⟨⟨h.n.goes hi (fun e=>hc (.inl e)) om,?_⟩,rfl,⟨[p],rfl⟩,fun e=>absurd rfl e⟩;show BB (if lv then _ else _);split
   .exact TO _ h.b
   .exact h.b
theorem sV(h:CW c){s:Step}(hs:s.AC.AH.length<=big):pD c (stepS c s):=by
 unfold stepS;split
 .exact ei h _
 split
 .exact SF h _
 split
 .exact PG h (dI h.b _)
 split
 .exact PG h (ZT h.b _)
 split
 .unfold Sj;split
  .exact PG h (dV h.b _ _ _)
  .exact .refl h _
 split
 .unfold m5;split
  .exact⟨⟨h.n,TO _ h.b⟩,rfl,⟨[],by simp[If]⟩,fun e=>absurd rfl e⟩
  .exact .refl h _
 split
 .exact dj h _
 split
 .exact WH h _ _
 split
 .exact WH h _ _
 split
 .exact Zq h _ _ hs
 split
 .exact Zq h _ _ hs
 .exact .refl h _
theorem ul(h:Ga A2=true):CW (newS A2).1:=by
 have hb:=h;unfold Ga at hb;simp only[yU,yc]at hb;obtain⟨h1,h2,h3⟩:=hb;obtain⟨h4,h5⟩:=Oc.1 h3;have e:newS A2=(⟨A2.map fun p=>(De p A2).1,[],A2,⟨[],0⟩⟩,0):=zN h;rw[e]
 have hi:ids (A2.map fun p=>(De p A2).1)=A2:=by
  unfold ids;rw[List.map_map]
  conv=>rhs;rw[<-List.map_id A2]
  refine List.map_congr_left fun p hp=> ?_;exact(T7 (h4 p hp) h).2.2.1
 refine⟨⟨h,by rw[zY];omega,by rw[hi];exact h5,fun n hn=> ?_,by rw[hi];exact fun p hp=>hp,yx _,fun p hp=>(by cases hp),.nil⟩,⟨yx _,fun g hg=>(by cases hg)⟩⟩;obtain⟨p,hp,rfl⟩:=q0q.1 hn;obtain⟨_,k1,_,k3,_⟩:=T7 (h4 p hp) h;exact⟨k1,k3⟩
abbrev Jr:BK:=[0,2,3,11,30]
def bigS(s:Step):Bool:=decide (s.bytes.length>300)||decide (s.AC.AH.length>300)
def Na(l:List Step):Bool:=l.any bigS||decide (l.length>60)
theorem Ii(l:List Step)(hl:l.length<=9223372036854775807):yA 5 [stepsD l] (.b (Na l)):=by
 refine zF AK Tryz.func5 ?_;obtain⟨B,hB⟩:∃B,Na l=B:=⟨_,rfl⟩;rw[hB];unfold stepsD;refine A9 Jr ?_;refine BA (fun k=>k<=l.length/\k<=61/\(l.take k).any bigS=false) (fun k:Nat=>[(3,.y5 k)]) (fun k=>l.length-k) 0 ⟨yx _,yx _,rfl⟩ (fun _=>rfl) ?_ ?_
 .exact A5.ck rfl
 rintro k ⟨hkk,hk6,hpre⟩
 by_cases hkl:k<l.length
 .by_cases h6:k<=60
  .have f6:decide ((k:Int)<=60)=true:=yX om;obtain⟨x,hx⟩:=AS hkl;have hT:(l.take (k+1)).any bigS=bigS x:=by rw[AM hx,List.any_append,hpre,q0N,List.any_cons,List.any_nil,Bool.or_false]
   have hA:bigS x=true->B=true:=fun h=>by
    rw[<-hB];unfold Na;rw[q1E.2 ⟨x,zM hx,h⟩,Bool.true_or]
   unfold bigS at hA hT
   by_cases h1:x.bytes.length>300
   .have f1:decide ((x.bytes.length:Int)>300)=true:=yX om;rw[yX h1,Bool.true_or]at hA;obtain rfl:=hA rfl;have ix1:=hx;refine Ae Jr ?_ (B1 f1 f6);clear ix1;with_reducible repeat' first|constructor|intro hc
    exact zE
   .have f1:decide ((x.bytes.length:Int)>300)=false:=yY om;rw[yY h1,q0N]at hA hT
    by_cases h2:x.AC.AH.length>300
    .have f2:decide ((x.AC.AH.length:Int)>300)=true:=yX om;rw[yX h2]at hA;obtain rfl:=hA rfl;have ix1:=hx;refine Ae Jr ?_ (DO f1 f2 f6);clear ix1;with_reducible repeat' first|constructor|intro hc
     exact zE
    .have f2:decide ((x.AC.AH.length:Int)>300)=false:=yY om;rw[yY h2]at hT;have ix1:=hx;refine Ae Jr ?_ (DO f1 f2 f6);clear ix1;with_reducible repeat' first|constructor|intro hc
     refine⟨k+1,⟨hkl,om,hT⟩,om,yV _,?_⟩;exact A5.ck rfl
  .have e:k=61:=om
   subst e;have f6:decide (((61:Nat):Int)<=60)=false:=rfl;have f7:decide ((l.length:Int)>60)=true:=yX om
   have hA:B=true:=by
    rw[<-hB];unfold Na;rw[yX (show l.length>60 by omega),Bool.or_true]
   subst hA;refine Ae Jr ?_ (B1 f6 f7);with_reducible repeat' first|constructor|intro hc
   exact zE
 .have e:k=l.length:=om
  subst e;rw[zU]at hpre
  have f7:decide ((l.length:Int)>60)=B:=by
   rw[<-hB];unfold Na;rw[hpre,q0N];exact decide_eq_decide.2 om
  refine Ae Jr ?_ (AQ f7);with_reducible repeat' first|constructor|intro hc
  exact zE
end Nd
end Go.Proofs.YthlmmkmeoblbhaaGreat
namespace Go.Proofs.YthlmmkmeoblbhaaGreat
namespace Nd
open Go.Gar
open Wi (AE BE Ay AU C2 CG Ac)
variable {m:AE}
theorem Px(h:m.right=true):Ac (CG m).1=(m,0):=by
 rw[Wi.Wm h];exact Wi.ox h
variable {A2:Ao}
theorem sk1{x p:Int}:FI x [p] A2=false↔∀b∈A2,Dt x b p=false:=by
 unfold FI FI;rw[Bool.or_false,q0O];simp only[Bool.not_eq_true]
theorem wu{v:AB}(hv:AZ v=true)(h:FI v.id v.A8 v.A2=false):FI v.id [FJ v] v.A2=false:=by
 obtain⟨h1,h2,h3,_,_⟩:=Bz hv;have ef:FJ v=xL (GG v.id v.A2) v.A8:=by unfold FJ;rw[zN hv]
 rw[ef]
 cases hl:v.A8 with
 |cons p r=>
  show FI v.id [p] v.A2=false;rw[hl]at h;unfold FI at h;rw[q14]at h;unfold FI FI;rw[h.1];rfl
 |nil=>
  show FI v.id [GG v.id v.A2] v.A2=false;have ha:=fG h1 h2;have ho:=L6 h1 h2;have hp:=Cq h1;have hq:=Cq ho.2.1;rw[sk1];intro b hb;unfold Dt;rw[zO (by unfold C9;have:=ho.2.2;omega),zn];rintro⟨e1,e2⟩
  by_cases hbi:b=v.id
  .subst hbi;unfold An at e1;omega
  .have:=ha.1 b hb hbi;omega
theorem vK{x p q:Int}(h:FI x [q] A2=false)(hb:Dt x p q=true):FI x [p] A2=false:=by
 rw[sk1]at h|-;intro b hbb;have h1:=h b hbb
 cases e:Dt x b p with
 |false=>rfl
 |true=>
  exfalso;unfold Dt at h1 hb e;have z:∀y:Int,C9 x=C9 y↔An x y=0:=fun y=>by unfold C9 An;omega
  have w:∀y:Int,C9 y=C9 x↔An x y=0:=fun y=>by unfold C9 An;omega
  simp only[z,w,ne_eq]at h1 hb e;split at h1<;>split at hb<;>split at e<;>simp only[yc,zn]at h1 hb e<;>omega
structure Fine (n:A6):Prop where
 l:tJ n=false
 o:n.A3=1\/n.A3=2->FI n.A4.id [n.BN] n.A4.A2=false
variable {n:A6}
theorem Fine.of{w:A6}(h:Fine n)(hv:N6 n.A4 w.A4)(hl:w.A4.A8=n.A4.A8)(hp:w.A3=0\/(w.A3=n.A3/\w.BN=n.BN)):Fine w:=by
 refine⟨by rw[an hv hl];exact h.l,fun k=> ?_⟩;rcases hp with e|⟨e1,e2⟩
 .omega
 .rw[e1]at k;rw[hv.id,hv.A2,e2];exact h.o k
theorem Uf{s t:NS}(h:jV s t)(k:Fine s.1):Fine t.1:=k.of h.A4 h.A8 h.tO
theorem Gk{g:List Af}{l:List (AE×Int)}(h:NB n)(k:Fine n):Fine (Cb (n,g) l).1:=Uf (J3 l (s:=(n,g)) h) k
theorem fh{c:B4}(h:NB n)(k:Fine n):Fine (Bu n c).1:=by
 refine⟨rF k.l,fun hp=> ?_⟩;have hs:=(Qu n c).A4;rw[hs.id,hs.A2]
 have AH:(Bu n c).1.A3=0\/((Bu n c).1.A3=n.A3/\(Bu n c).1.BN=n.BN):=by
  unfold Bu;split
  .dsimp only;split
   .unfold Dw;split
    .split
     .exact .inl rfl
     .exact .inr ⟨rfl,rfl⟩
    .exact .inr ⟨rfl,rfl⟩
   split
   .exact .inr ⟨(D6 ..).A3,(D6 ..).BN⟩
   .exact .inr ⟨rfl,rfl⟩
  .exact .inr ⟨rfl,rfl⟩
 rcases AH with e|⟨e1,e2⟩
 .omega
 .rw[e1]at hp;rw[e2];exact k.o hp
theorem ND{w AR AY:Int}{x:AL}(k:Fine n):Fine (CL n w AR AY x).1:=by
 refine k.of (Ih ..).1.A4 (Ih ..).2 (.inr ?_);unfold CL;split
 .exact⟨(D6 ..).A3,(D6 ..).BN⟩
 .exact⟨rfl,rfl⟩
theorem SX:∀(l:List B4){s:NS},NB s.1->Fine s.1->Fine (l.foldl (fun s x=>EU s.2 (Bu s.1 x)) s).1
 |[],s,_,k=>k
 |x::r,s,h,k=>SX r (ae (g:=s.2) h (c:=x)).nb (Gk (g:=s.2) h.lost (fh h k))
theorem fp(h:NB n)(k:Fine n):Fine (EW n).1:=by
 unfold EW;split
 .exact k
 .rename_i hc
  have hlt:n.AJ<1099511627776:=by
   rcases Int.lt_or_le n.AJ 1099511627776 with hl|hl
   .exact hl
   .exact absurd (.inl hl) hc
  have h1:=h.AJ hlt;have h2:=h1.late (n.AJ+1);have a:=Lz (C6 n.AI (n.AJ+1)).2.2 (s:=({n with AJ:=n.AJ+1,AI:=(C6 n.AI (n.AJ+1)).1},[]++(C6 n.AI (n.AJ+1)).2.1.flatMap Ir)) h2;have ka:=SX (C6 n.AI (n.AJ+1)).2.2 (s:=({n with AJ:=n.AJ+1,AI:=(C6 n.AI (n.AJ+1)).1},[]++(C6 n.AI (n.AJ+1)).2.1.flatMap Ir)) h2 ⟨k.l,k.o⟩;change Nc _ (FW ({n with AJ:=n.AJ+1},[]))at a;change Fine (FW ({n with AJ:=n.AJ+1},[])).1 at ka;generalize FW ({n with AJ:=n.AJ+1},[])=s at *;have hs:=a.nb;clear a h1 h2 hlt hc;have hb:=Od hs
  have kb:Fine (DF s).1:=by
   have hbs:=K4 hs.rv (Al.1 hs.r).2.2.2.2.2.1 hs.ph;refine Gk (hs.tO hbs.1 hbs.2) ⟨ka.l,fun hp=> ?_⟩;dsimp only at hp|-;unfold CX at hp|-;split
   .exact wu hs.rv ka.l
   .rename_i hc;rw[zO hc]at hp;exact ka.o hp
  generalize DF s=s1 at *;have hc:=bE hb.nb
  have kc:Fine (Ep s1).1:=by
   unfold Ep;split
   .exact Uf (J3 _ hb.nb) kb
   .exact kb
  generalize Ep s1=s2 at *;have hd:=O0 hc.nb
  have kd:Fine (C5 s2).1:=by
   have hw:=RA hc.nb.rv s2.1.next;have hn:=hc.nb.A4 hw.1 hw.2.2;have kn:Fine {s2.1 with A4:=(walkT s2.1.A4 s2.1.next).1,next:=(walkT s2.1.A4 s2.1.next).2.1}:=kc.of hw.1 hw.2.1 (.inr ⟨rfl,rfl⟩);unfold C5;split
   .dsimp only;split
    .exact Gk (hn.start (by decide)) (ND kn)
    .exact kn
   .exact kc
  generalize C5 s2=s3 at *;unfold Cr;split
  .rename_i hx;rw[yU]at hx;have hx:=Qy hx.2;have hk:=OH hx.1 hx.2;dsimp only;exact Gk ((hd.nb.last _).start (q0E hk (by decide))) (ND ⟨kd.l,kd.o⟩)
  .exact kd
theorem aQ{c:B4}(h:NB n)(k:Fine n)(hm:FI m.Ax m.A8 n.A4.A2=false):Fine (CQ n c m).1:=by
 refine⟨lb h.ph k.l hm k.o,?_⟩;have hs:=(OC n c m).A4;rw[hs.id,hs.A2];unfold CQ;rw[zN h.r];split
 .unfold D1;split
  .rename_i hc;simp only[yU]at hc;split
   .intro hp;replace hp:(0:Int)=1\/(0:Int)=2:=hp;omega
   .rename_i h3;dsimp only;split
    .rename_i hb;intro _;have hcn:=hc.2.2;unfold U9 at hcn;simp only[yU,yc]at hcn;have ho:=k.o (.inl hb.1);rw[<-hcn.2.2.1]at ho;exact vK ho hb.2.2
    .intro hp;replace hp:(3:Int)=1\/(3:Int)=2:=hp;omega
  .exact k.o
 split
 .intro hp;rw[(D6 ..).A3]at hp;rw[(D6 ..).BN];exact k.o hp
 .exact k.o
theorem mQ(h:m.right=true)(hk:m.AG≠7):m.A8=[]:=by
 unfold AE.right at h;simp only[yU,yc]at h
 have e:m.bare.A8=m.A8:=by
  unfold AE.bare
  repeat' split
  all_goals first|rfl|(exfalso;omega)
 rw[<-e,h.2.1];rfl
theorem fj(h:NB n)(k:Fine n)(hr:m.right=true)(hm:m.AG=7->FI m.Ax m.A8 n.A4.A2=false):Fine (ET n (CG m).1).1:=by
 have hl:FI m.Ax m.A8 n.A4.A2=false:=by
  by_cases h7:m.AG=7
  .exact hm h7
  .rw[mQ hr h7];rfl
 unfold ET;rw[zN h.r,Px hr];split
 .exact⟨k.l,k.o⟩
 split
 .by_cases hs:E7 n m=true
  .obtain⟨_,a2,a3,_,_,_,_,a8,_⟩:=Og h hs;exact k.of a2 a3 (.inr a8)
  .have e:Bv n m=(n,AU):=by unfold Bv;rw[zO hs]
   dsimp only;rw[e];exact k
 split
 .have hn:=h.close m;have kn:Fine {n with AI:=(Bi n.AI m).1}:=⟨k.l,k.o⟩;exact Gk (hn.heard (q0E (MF hr) (by decide))) (aQ hn kn hl)
 .exact k
end Nd
end Go.Proofs.YthlmmkmeoblbhaaGreat
namespace Go.Proofs.YthlmmkmeoblbhaaGreat
namespace Bg
open Go.Gar
open Nd (Af)
theorem oS(n:Int)(l:AT)(c:Bool)(h:l.length<=100000):yB 76 [.d (Nd.Af.d ⟨n,l,c⟩)] [] (.ag [.y5 n,.sl 2 l.length 1,.y7 c]) [.gone,.c [.y5 n,.sl 2 l.length 1,.y7 c],.a (.by l)]:=by
 refine zD AK Tryz.func76 ?_;have ow:Lv [6]:=trivial;refine A9 [0,1,2] ?_;clear ow;with_reducible repeat' first|constructor|intro hc
 exact wE
def TV(x:Af)(b N:Nat):yo:=[.yE x.to,.raw (.slice (some ⟨b,0,none⟩) x.by_.length N),.b x.harmed]
def F8(l:List Af)(a:Nat)(x:Af)(b N k:Nat):List (yo):=((l.take k).map Nd.Af.A1).set a (TV x b N)
theorem s9{l:List Af}{a:Nat}{x:Af}(hx:l[a]? =some x)(b N:Nat):(l.take a).map Nd.Af.A1++[TV x b N]=F8 l a x b N (a+1):=by
 unfold F8;have ha:a<l.length:=(yZ.1 hx).1;rw[AM hx,zS,List.set_append_right _ _ (by simp;omega)];have:a-((l.take a).map Nd.Af.A1).length=0:=by simp;omega
 rw[this];rfl
theorem iU{l:List Af}{a:Nat}(x:Af)(b N:Nat){k:Nat}{y:Af}(hk:a<k)(hy:l[k]? =some y):F8 l a x b N k++[y.A1]=F8 l a x b N (k+1):=by
 unfold F8;have:k<l.length:=(yZ.1 hy).1;rw[AM hy,zS,List.set_append_left _ _ (by simp;omega)];rfl
theorem OX(l:List Af)(a:Nat)(x:Af)(b N k:Nat):(F8 l a x b N k).length=(l.take k).length:=by simp[F8]
def owF(l:List Af)(n:Int)(a:Nat)(x:Af):Nat ⊕ (Nat×Nat×Nat)->St
 | .inl k=>⟨[(1,.ptr 0 0 2),(2,.ptr 1 0 2),(3,.sl 2 (l.take k).length 3),(4,.d (.i .i64 k))],[.c [.d (Ba l),.d (.i .i64 n)],.c [.e0,.d (.i .i64 0)],.a (Ba (l.take k))],24⟩
 | .inr (b,N,k)=>⟨[(1,.ptr 0 0 2),(2,.ptr 1 0 2),(3,.sl 2 (F8 l a x b N k).length 3),(4,.d (.i .i64 k))],[.c [.d (Ba l),.d (.i .i64 n)],.c [.e0,.d (.i .i64 0)],.a (.sl 3 (F8 l a x b N k)),.gone,.gone,.gone,.HW b N x.by_],24⟩
def owI(l:List Af)(a:Nat)(x:Af):Nat ⊕ (Nat×Nat×Nat)->Prop
 | .inl k=>k<=a
 | .inr (_,N,k)=>(x.by_.length<=N/\N<=maxLen)/\a<k/\k<=l.length
def owM(l:List Af):Nat ⊕ (Nat×Nat×Nat)->Nat
 | .inl k=>l.length-k
 | .inr (_,_,k)=>l.length-k
theorem s4(l:List Af)(n:Int)(hl:l.length<=1000)(hs:small l)(a:Nat)(x:Af)(hx:l[a]? =some x)(h0:0<x.by_.length):
  JO Tryz.prog 38 [.d (Dr.d ⟨l,n⟩)] [] fun r K=>∃b N,(x.by_.length<=N/\N<=maxLen)/\r= .ag [.sl 2 l.length 3,.y5 n]/\K=[.gone,.c [.sl 2 (F8 l a x b N l.length).length 3,.y5 n],.a (.sl 3 (F8 l a x b N l.length)),.gone,.gone,.gone,.HW b N x.by_]:=by
 have ha:a<l.length:=(yZ.1 hx).1;refine zT AK Tryz.func38 ?_;refine A9 [0,1,2,3,4,9] ?_;with_reducible repeat' first|constructor|intro hc
 refine Av (A5.EQ 3 (.sl 3 []) rfl rfl rfl (by simp[Aq])) sm ?_;refine BY (owI l a x) (owF l n a x) (owM l) (.inl 0) (yx _) ?_ (yV _) ?_
 .exact A5.ck rfl
 rintro(k|⟨b,N,k⟩) hI
 .replace hI:k<=a:=hI;have htl:(l.take k).length<=k:=q0Q _ _
  by_cases hka:k=a
  .subst hka;have hb:=Gw hs hx;have e1:=s9 hx;have hl':=List.length_take_of_le (show k<=l.length by omega);obtain⟨xt,xb,xh⟩:=x;show W _ _ _ ⟨[(1,.ptr 0 0 2),(2,.ptr 1 0 2),(3,.sl 2 (l.take k).length 3),(4,.y5 k)],[.c [.d (Ba l),.y5 n],.c [.e0,.y5 0],.a (Ba (l.take k))],24⟩ _;have nS:=zi
   repeat'(first|((with_reducible refine sg ?_);first|with_reducible rfl|((with_reducible refine UC ?_);first|kernel_rfl|rfl|(simp[Hi,Ku,nS];done))|with_reducible refine PD ?_ ?_|with_reducible exact q1L _|with_reducible exact FR _|((with_reducible refine yX ?_);first|omega|(simp only[Mm,nS];omega))|decide|(simp[Mm,slc,Do,D.one,GF,AV.one,nS];done)|(simp[Mm,nS];omega))|((with_reducible refine qS ?_);first|(refine Hx rfl ?_;refine pu AK rfl rfl rfl rfl ?_)|(refine cw rfl ?_;refine vX AK rfl rfl rfl rfl rfl (q0s _) (Hj hx) ?_)|refine Xq AK rfl rfl rfl rfl ?_ ?_|refine Xn [0,1,2,3,4,9] rfl ?_|refine XD [] (oS xt xb xh hb) rfl rfl rfl trivial rfl rfl rfl rfl ?_|refine Xa AK rfl rfl rfl rfl rfl ?_ ?_|refine Xw AK rfl rfl rfl rfl ?_ ?_)|refine Mo ?_|refine L3 ?_|(refine pn 18 5 rfl rfl h0 (fun b N hbN=> ?_))|refine JJ ?_|refine Mn ?_|refine H7 ?_|refine JI ?_|refine FQ rfl ?_|refine FP rfl ?_|(refine IJ rfl (fun hc=> ?_) (fun hc=> ?_)<;>(try simp only[Q3]at hc)<;>(try(exfalso;omega))))
   have e2:=e1 b N;simp only[TV]at e2;have e3:(F8 l k ⟨xt,xb,xh⟩ b N (k+1)).length=(l.take k).length+1:=by rw[OX,q09,q09];omega
   refine⟨.inr (b,N,k+1),⟨hbN,Nat.lt_succ_self _,ha⟩,(by show l.length-(k+1)<l.length-k;omega),y9,?_⟩;show A5 _ ⟨[(1,.ptr 0 0 2),(2,.ptr 1 0 2),(3,.sl 2 (F8 l k ⟨xt,xb,xh⟩ b N (k+1)).length 3),(4,.y5 (k+1:Nat))],[.c [.d (Ba l),.y5 n],.c [.e0,.y5 0],.a (.sl 3 (F8 l k ⟨xt,xb,xh⟩ b N (k+1))),.gone,.gone,.gone,.HW b N xb],24⟩;exact(have nC:=yg e2 e3;A5.cn rfl)
  .have hkl:k<l.length:=om
   obtain⟨y,hy⟩:=AS hkl;have hb:=Gw hs hy;have hn:=AM hy;show W _ _ _ ⟨[(1,.ptr 0 0 2),(2,.ptr 1 0 2),(3,.sl 2 (l.take k).length 3),(4,.y5 k)],[.c [.d (Ba l),.y5 n],.c [.e0,.y5 0],.a (Ba (l.take k))],24⟩ _;have ix1:=hy;refine AP [0,1,2,3,4,9] ?_ (AQ (KN y hb));clear ix1;with_reducible repeat' first|constructor|intro hc
   refine⟨.inl (k+1),(by show k+1<=a;omega),(by show l.length-(k+1)<l.length-k;omega),yV _,?_⟩;show A5 _ ⟨[(1,.ptr 0 0 2),(2,.ptr 1 0 2),(3,.sl 2 (l.take (k+1)).length 3),(4,.y5 (k+1:Nat))],[.c [.d (Ba l),.y5 n],.c [.e0,.y5 0],.a (Ba (l.take (k+1)))],24⟩;exact(have nC:=yg hn (yg @Ba.eq_1 @Nd.Af.A1.eq_1);A5.cn rfl)
 .obtain⟨hbN,hak,hkl⟩:=hI;replace hbN:x.by_.length<=N/\N<=maxLen:=hbN;replace hak:a<k:=hak;replace hkl:k<=l.length:=hkl;have hR:=OX l a x b N k;rw[q09]at hR;show W _ _ _ ⟨[(1,.ptr 0 0 2),(2,.ptr 1 0 2),(3,.sl 2 (F8 l a x b N k).length 3),(4,.y5 k)],[.c [.d (Ba l),.y5 n],.c [.e0,.y5 0],.a (.sl 3 (F8 l a x b N k)),.gone,.gone,.gone,.HW b N x.by_],24⟩ _
  by_cases hk:k<l.length
  .obtain⟨y,hy⟩:=AS hk;have hb:=Gw hs hy;have hn:=iU x b N hak hy;have e3:(F8 l a x b N (k+1)).length=(F8 l a x b N k).length+1:=by rw[OX,q09,hR];omega
   generalize hr':F8 l a x b N (k+1)=r' at *;generalize hr:F8 l a x b N k=r at *;unfold Nd.Af.A1 at hn;have ix1:=hy;refine AP [0,1,2,3,4,9] ?_ (AQ (KN y hb));clear ix1;with_reducible repeat' first|constructor|intro hc
   refine⟨.inr (b,N,k+1),⟨hbN,Nat.lt_succ_of_lt hak,hk⟩,(by show l.length-(k+1)<l.length-k;omega),yV _,?_⟩;show A5 _ ⟨[(1,.ptr 0 0 2),(2,.ptr 1 0 2),(3,.sl 2 (F8 l a x b N (k+1)).length 3),(4,.y5 (k+1:Nat))],[.c [.d (Ba l),.y5 n],.c [.e0,.y5 0],.a (.sl 3 (F8 l a x b N (k+1))),.gone,.gone,.gone,.HW b N x.by_],24⟩;rw[hr'];exact(have nC:=yg hn e3;A5.cn rfl)
  .have e:k=l.length:=om
   subst e;have hR':(F8 l a x b N l.length).length=l.length:=by rw[hR];omega
   generalize hrr:F8 l a x b N l.length=r at *;refine A9 [0,1,2,3,4,9] ?_;with_reducible repeat' first|constructor|intro hc
   refine⟨⟨[(2,.ptr 1 0 2)],[.gone,.c [.sl 2 r.length 3,.y5 n],.a (.sl 3 r),.gone,.gone,.gone,.HW b N x.by_],Tryz.f38.ntmps⟩,(A5.ck rfl),yx _,_,_,rfl,rfl,?_⟩;exact⟨b,N,hbN,by rw[hR'],by rw[hrr]⟩
end Bg
end Go.Proofs.YthlmmkmeoblbhaaGreat
namespace Go.Proofs.YthlmmkmeoblbhaaGreat
namespace Nd
open Go.Gar
open Wi (AE BE Ay AU C2 mC CG Ac)
theorem Sg(n:A6)(w:Int)(e:Bool)(c:JC)(h:c.BW.length<=3):(Cv n w e c).2.length<=3:=by
 unfold Cv;dsimp only;rw[zY];exact h
theorem Pw(n:A6)(w AR AY:Int)(x:AL):(CL n w AR AY x).2.length<=3:=by
 unfold CL;split
 .exact Sg _ _ _ _ (mB ..).1
 .exact yx _
theorem PF(p o:Int):(Kc p o).length<=3:=by
 unfold Kc;split
 .simp
 split<;>simp
theorem fx(n:A6)(c:B4)(m:AE):(CQ n c m).2.length<=3:=by
 unfold CQ;split
 .split
  .dsimp only;unfold D1;split
   .split
    .exact yx _
    .dsimp only;split
     .dsimp only;exact PF _ _
     .dsimp only;exact PF _ _
   .exact yx _
  split
  .exact Sg _ _ _ _ (dl _ _ _ ((Bj n c.BH).AC.AH.length+m.AC.AH.length) (Nat.le_add_right ..) (Nat.le_add_left ..)).1
  .exact yx _
 .exact yx _
theorem mT(n:A6)(c:B4):(Bu n c).2.length<=3:=by
 unfold Bu;split
 .dsimp only;split
  .exact yx _
  split
  .exact Sg _ _ _ _ (de _ _ _).1
  .exact yx _
 .exact yx _
theorem fJ(v:AB)(p o:Int):(CX v p o).2.length<=3:=by
 unfold CX;split
 .dsimp only;exact PF _ _
 .exact yx _
abbrev cX(c:CS)(i j:Nat):yq:=[.sl i c.nodes.length 76,.sl j c.gone.length 1,.yD c.A2,.d (Ba c.bag.grams),.y5 c.bag.lost]
abbrev cB(c:CS):yz:=[.c (cX c 1 2),.a (A7 c.nodes),.a (.is c.gone)]
abbrev nX(n:A6):yo:=.yE n.A4.id:: .is n.A4.A2:: .is n.A4.A8:: .yE n.A4.AO:: .yE (n.A4.f 0):: .yE (n.A4.f 1):: .yE (n.A4.f 2):: .yE (n.A4.f 3):: .yE (n.A4.f 4):: .yE (n.A4.f 5):: .yE (n.A4.f 6):: .yE (n.A4.f 7):: .yE (n.A4.f 8):: .yE (n.A4.f 9):: .yE (n.A4.f 10):: .yE (n.A4.f 11):: .yE (n.A4.f 12):: .yE (n.A4.f 13):: .yE (n.A4.f 14):: .yE (n.A4.f 15):: .yE n.AJ:: .yE n.AI.id:: .yE n.AI.Ah::(C3 n.AI.op)::(Aw n.BL):: .i .u8 n.A3:: .yE n.BN:: .i .u8 n.Ag.AR:: .i .u8 n.Ag.A3:: .yE n.Ag.Am.AH:: .yE n.Ag.Am.Ck:: .yE n.Ag.Am.Cs:: .b n.Ag.Am.BX:: .b n.Ag.Am.Dz:: .yE n.Ag.Am.Ab:: .s n.Ag.AC.AH:: .yE n.Ag.AC.BD:: .yE n.Ag.AC.Aa:: .b n.Ag.AC.gone:: .yE n.Ag.Ar:: .is n.Ag.left:: .yE n.Ag.Ab:: .i .u8 n.Ak.AR:: .i .u8 n.Ak.A3:: .yE n.Ak.Am.AH:: .yE n.Ak.Am.Ck:: .yE n.Ak.Am.Cs:: .b n.Ak.Am.BX:: .b n.Ak.Am.Dz:: .yE n.Ak.Am.Ab:: .s n.Ak.AC.AH:: .yE n.Ak.AC.BD:: .yE n.Ak.AC.Aa:: .b n.Ak.AC.gone:: .yE n.Ak.Ar:: .is n.Ak.left:: .yE n.Ak.Ab:: .i .u8 n.Aj.AR:: .i .u8 n.Aj.A3:: .yE n.Aj.Am.AH:: .yE n.Aj.Am.Ck:: .yE n.Aj.Am.Cs:: .b n.Aj.Am.BX:: .b n.Aj.Am.Dz:: .yE n.Aj.Am.Ab:: .s n.Aj.AC.AH:: .yE n.Aj.AC.BD:: .yE n.Aj.AC.Aa:: .b n.Aj.AC.gone:: .yE n.Aj.Ar:: .is n.Aj.left:: .yE n.Aj.Ab:: .yE n.next:: .s n.last::(Bf n.keep):: .yE n.bad::[]
theorem Jm(n:A6):∀(m:Nat)(l:List A6),m<l.length->setRows 0 (nX n) m (l.map A6.A1)=(l.set m n).map A6.A1
 |_,[],h=>by simp at h
 |0,a::l,_=>rfl
 |m+1,a::l,h=>by
  show a.A1::setRows 0 (nX n) m (l.map A6.A1)=_;rw[Jm n m l (by simpa using h)];rfl
theorem WB{sz:Nat}:∀{es:List (yo)}{m:Nat}{e:yo},es[m]? =some e->(∀e∈es,e.length=sz)->(es.flatten.drop (m*sz)).take sz=e
 |[],m,_,h,_=>by simp at h
 |a::r,0,e,h,hl=>by
  have ha:=hl a (q02 ..);cases h;rw[Nat.zero_mul,List.drop_zero,q0U,List.take_append_of_le_length (Nat.le_of_eq ha.symm),<-ha,zU]
 |a::r,m+1,e,h,hl=>by
  have ha:=hl a (q02 ..);have hm:(m+1)*sz=a.length+m*sz:=by rw[Nat.succ_mul,ha];omega
  rw[q0U,hm,List.drop_length_add_append];exact WB (by simpa using h) fun e he=>hl e (q05 _ he)
theorem Oj{l:List A6}{m:Nat}{n:A6}(h:l[m]? =some n):List.take 76 (List.drop (m*76) (slc (A7 l)))=n.A1:=
 WB (by rw[q03,h];rfl) (oT l)
theorem Zv(p:AT):(Wi.CY p).1.length<=120:=by
 by_cases h:p.length<=112
 .rw[Wi.Gj h];simp only[yw,Wi.Hz,Wi.K3];omega
 .unfold Wi.CY;rw[zN om];exact yx _
theorem IS{l:List Af}{id:Int}(h:∀g∈l,Ms id g):Bg.small l:=fun g hg=>by
 obtain⟨m,_,_,e⟩:=h g hg;rw[e];show(CG m).1.length<=100000
 have e2:(CG m).1=(Wi.CY (Wi.Ei m)).1\/(CG m).1=[]:=by
  unfold CG
  cases m.right with
  |true=>exact .inl rfl
  |false=>exact .inr rfl
 rcases e2 with e2|e2<;>rw[e2]
 .exact q0E (Zv _) (by decide)
 .exact yx _
abbrev CF(l:List AE):D:=.sl 15 (l.map Wi.AE.A1)
theorem Bw.arg{P:Program}{f:FuncId}{a x:AV}{d:D}{H:yz}{r:AV}{H':yz}(h:Bw P f [a,.d d] H r H')(hx:RQ [x] [d]):Bw P f [a,x] H r H':=
 ⟨h.1,fun G w vs h1 h2 h3=>h.2 G w vs h1 h2 (by
  simp only[BP]at h3|-;obtain⟨v,q,e,hv,u,q2,e2,hu,e3⟩:=h3;subst e3;have h4:BP G [x] [u]:=by simp only[BP];exact⟨u,[],rfl,hu,rfl⟩
  have h5:=Q5.2 (Zn hx h4);simp only[zV,zh,BP]at h5;obtain⟨u2,q3,e4,hu2,e5⟩:=h5;cases e4
  exact⟨v,q,e,hv,u,[],e2,hu2,rfl⟩)⟩
theorem ZD(m:AE):yA 203 [m.d] (Jo m).d:=by
 have c1:=Wi.IZ m
 cases h:m.BW with
 |false=>
  have hT:Jo m=AU:=by unfold Jo;rw[h];rfl
  rw[h]at c1;rw[hT];clear h hT;refine zF AK Tryz.func203 ?_;unfold Wi.AE.d Wi.AE.A1 at *;refine AP [0,1,2,5] ?_ (AQ @c1);exact BO (yg @AU.eq_1 @AN.eq_1)
 |true=>
  have hT:Jo m=⟨m.AG+6,m.AW,m.dst,m.Ax,0,false,false,0,0,[],AN,0⟩:=by unfold Jo;rw[h];rfl
  have hk:1<=m.AG/\m.AG<=6:=HL.1 h;have f1:(m.AG+6)%256=m.AG+6:=om
  rw[h]at c1;rw[hT];clear h hT;refine zF AK Tryz.func203 ?_;unfold Wi.AE.d Wi.AE.A1 at *;refine AD [0,1,2,5] ?_ (AQ f1) (AQ @c1);exact BO @AN.eq_1
def oP(m:AE)(x:B4):Bool:=decide (m.AW=x.id)&&(decide (m.Ax=x.Cl.dst)&&(decide (m.dst=x.Cl.Ax)&&decide (m.AG=(x.Cl.AG+6)%256)))
theorem sA(x:B4)(m:AE):yA 210 [m.d,x.d] (.b (oP m x)):=by
 have hR:oP m x=(decide (m.AW=x.id)&&(decide (m.Ax=x.Cl.dst)&&(decide (m.dst=x.Cl.Ax)&&decide (m.AG=(x.Cl.AG+6)%256)))):=rfl;generalize oP m x=R at *;refine zF AK Tryz.func210 ?_;unfold Wi.AE.d Wi.AE.A1 B4.d B4.A1;refine A9 [0,1,2,3,4] ?_;with_reducible repeat' first|constructor|intro hc
 all_goals(refine⟨_,_,rfl,rfl,?_⟩;simp only[E5];refine congrArg D.b ?_;rw[hR];clear hR;grind)
theorem fold_filter{α:Type}(g:α->Int->α)(c:Int->Bool):∀(l:Ao)(s:α),(l.filter c).foldl g s=l.foldl (fun s x=>if c x then g s x else s) s
 |[],s=>rfl
 |a::l,s=>by
  cases h:c a with
  |true=>rw[List.filter_cons_of_pos h,q0c,q0c,fold_filter g c l,zN h]
  |false=>rw[List.filter_cons_of_neg (by rw[h];simp),q0c,fold_filter g c l,zO (by rw[h];simp)]
def CM.A1(l:CM):yo:=[.yE l.AH,.yE l.Ck,.yE l.Cs,.b l.BX,.b l.Dz,.yE l.Ab]
def CM.d(l:CM):D:=.agg l.A1
abbrev Ow:BK:=[0,1,4,5,6,12,17]
abbrev JA:BK:=[0,1,2,6,7,8,17,28,49]
theorem TR(n:Int)(hn:i64 n):yA 307 [.yE n] (.yE (C9 n)):=by
 have e:=ej n;have h1:=Int.tmod_lt_of_pos n (show(0:Int)<65536 by decide);have h2:=Int.lt_tmod_of_pos n (show(0:Int)<65536 by decide);unfold i64 at hn;refine zF AK Tryz.func307 ?_;refine A9 [0,2] ?_;with_reducible repeat' first|constructor|intro hc
 exact BO e
theorem ng(n:Int)(b:UInt8)(hn:i64 n):yA 308 [.yE n,.i .u8 (b.toNat:Int)] (.yE (WW n b)):=by
 have c1:=TR n hn;have hp:=Gr n;have hb:b.toNat<256:=b.toNat_lt;have hT:WW n b=C9 (40503*C9 n+(b.toNat:Int)+1):=rfl;generalize C9 n=p at*
 have e:(p*40503+(b.toNat:Int)+1).tmod 65536=WW n b:=by
  rw[q1Z om,hT];unfold C9;omega
 generalize WW n b=R at *;refine zF AK Tryz.func308 ?_;refine AP [0,1,4] ?_ (AQ @c1);with_reducible repeat' first|constructor|intro hc
 exact BO e
theorem rJ(n:Int)(b:UInt8):i64 (WW n b):=by
 have:=Gr (40503*C9 n+(b.toNat:Int)+1);unfold WW i64;omega
theorem YZ(s:AT):∀n:Int,i64 n->i64 (s.foldl WW n):=by
 induction s with
 |nil=>exact fun n h=>h
 |cons b r ih=>exact fun n _=>ih _ (rJ n b)
theorem iH(s:AT)(hs:s.length<=9223372036854775807):yA 289 [.yE 7,.s s] (.yE (YY s)):=by
 have c1:yA 307 [.yE 7] (.yE 7):=TR 7 (by unfold i64;omega);refine zF AK Tryz.func289 ?_;refine AP [0,1,4,5,11] ?_ (AQ @c1);with_reducible repeat' first|constructor|intro hc
 refine BA (fun k=>k<=s.length) (fun k:Nat=>[(0,.y5 (YY (s.take k))),(5,.y5 k)]) (fun k=>s.length-k) 0 (yx _) (fun _=>rfl) ?_ ?_
 .exact A5.ck rfl
 intro k hk
 by_cases hkl:k<s.length
 .obtain⟨b,hb⟩:=AS hkl;have c2:=ng (YY (s.take k)) b (YZ _ 7 (by unfold i64;omega));have hn:YY (s.take (k+1))=WW (YY (s.take k)) b:=by unfold YY;rw[AM hb,q19];rfl
  have gb:s.getD k 0=b:=by rw[zJ,hb];rfl
  rw[<-hn]at c2;refine AD [0,1,4,5,11] ?_ (AQ gb) (AQ @c2);with_reducible repeat' first|constructor|intro hc
  refine⟨k+1,hkl,om,yV _,?_⟩;exact A5.ck rfl
 .have e:k=s.length:=om
  subst e;rw[zU];refine A9 [0,1,4,5,11] ?_;with_reducible repeat' first|constructor|intro hc
  exact zE
theorem ry(s:AT)(hs:s.length<=9223372036854775807):yA 254 [.s s] (.tup [.yE (Fh s).1,.yE (Fh s).2]):=by
 have c1:=iH s hs;refine zF AK Tryz.func254 ?_
 by_cases h1:(s.length:Int)<1
 .have f1:decide ((s.length:Int)<1)=true:=yX h1;have hT:Fh s=(0,2):=by unfold Fh C2;rw[yY om];rfl
  rw[hT];refine Ae [0,2,3,11] ?_ (AQ f1);with_reducible repeat' first|constructor|intro hc
  exact zE
 .have f1:decide ((s.length:Int)<1)=false:=yY h1
  by_cases h2:(s.length:Int)>20
  .have f2:decide ((s.length:Int)>20)=true:=yX h2;have hT:Fh s=(0,2):=by unfold Fh C2;rw[yX om,yY om];rfl
   rw[hT];refine Ae [0,2,3,11] ?_ (B1 f1 f2);with_reducible repeat' first|constructor|intro hc
   exact zE
  .have f2:decide ((s.length:Int)>20)=false:=yY h2;have hT:Fh s=(YY s,0):=by unfold Fh C2;rw[yX om,yX om];rfl
   rw[hT];refine AD [0,2,3,11] ?_ (B1 f1 f2) (AQ @c1);with_reducible repeat' first|constructor|intro hc
   exact zE
theorem Yx(id n:Int):yA 144 [.yE id,.yE n] (.tup [.yE (E0 id n).1,.yE (E0 id n).2]):=by
 have c1:=Wi.C1 id;refine zF AK Tryz.func144 ?_
 cases h:BE id with
 |false=>
  rw[h]at c1;have hT:E0 id n=(0,2):=by unfold E0;rw[zO (by rw[h];simp)]
  rw[hT];refine AP [0,1,4,5,16] ?_ (AQ @c1);with_reducible repeat' first|constructor|intro hc
  all_goals(exact zE)
 |true=>
  rw[h]at c1;have hp:=Wi.OS.1 h
  by_cases h1:1<=n/\n<=1048576
  .have hT:E0 id n=(id*1048576+n,0):=by unfold E0;rw[zN ⟨h,h1⟩]
   have f1:decide (n<1)=false:=yY om;have f2:decide (n>1048576)=false:=yY om;rw[hT];refine AD [0,1,4,5,16] ?_ (B1 f1 f2) (AQ @c1);with_reducible repeat' first|constructor|intro hc
   all_goals(exact zE)
  .have hT:E0 id n=(0,2):=by unfold E0;rw[zO (fun e=>h1 e.2)]
   rw[hT];clear hT;refine AP [0,1,4,5,16] ?_ (AQ @c1);with_reducible repeat' first|constructor|intro hc
   all_goals first
    |(exfalso;clear c1;grind)
    |(refine⟨_,_,rfl,rfl,?_⟩;simp[E5,B3,B8,Aq,E0])
theorem eK{k:Nat}(h:k<=16):1<=(2:Int)^k/\(2:Int)^k<=65536:=by
 have h1:(2:Nat)^k<=2^16:=q1N (by decide) h;have h2:((2^k:Nat):Int)=(2:Int)^k:=by simp
 have h3:0<(2:Nat)^k:=Nat.pow_pos (by decide);omega
theorem Ta(a i:Int)(ha:i64 a):yA 253 [.yE a,.yE i] (.yE (WF a i)):=by
 have c1:=C1 a ha;have hp:=Gr a;refine zF AK Tryz.func253 ?_
 by_cases h1:i<0
 .have f1:decide (i<0)=true:=yX h1;have hT:WF a i=C9 a:=zO om;refine AD Ow ?_ (AQ f1) (AQ @c1);with_reducible repeat' first|constructor|intro hc
  exact BO hT
 have f1:decide (i<0)=false:=yY h1
 by_cases h2:i>=16
 .have f2:decide (i>=16)=true:=yX h2;have hT:WF a i=C9 a:=zO om;refine AD Ow ?_ (B1 f1 f2) (AQ @c1);with_reducible repeat' first|constructor|intro hc
  exact BO hT
 have f2:decide (i>=16)=false:=yY h2;obtain⟨n,rfl⟩:∃n:Nat,i=n:=⟨i.toNat,om⟩;have hn:n<16:=om
 have hT:WF a n=C9 (C9 a+2^n):=zN om;have hb:=eK (k:=n) om;have c2:=C1 (C9 a+2^n) om;refine AD Ow ?_ (B1 f1 f2) (AQ @c1);with_reducible repeat' first|constructor|intro hc
 refine BA (fun k=>k<=n) (fun k:Nat=>[(5,.y5 (2^k)),(6,.y5 k)]) (fun k=>n-k) 0 (yx _) (fun _=>rfl) ?_ ?_
 .exact A5.ck rfl
 intro k hk
 by_cases hkl:k<n
 .have hbk:=eK (k:=k) om;have e:(2:Int)*2^k=2^(k+1):=by rw[Int.pow_succ];omega
  refine A9 Ow ?_;with_reducible repeat' first|constructor|intro hc
  refine⟨k+1,hkl,om,yV _,?_⟩;exact(have nC:=e;A5.cn rfl)
 .have e:k=n:=om
  subst e;rw[hT];refine AP Ow ?_ (B1 @c1 @c2);with_reducible repeat' first|constructor|intro hc
  exact zE
theorem ZE(a x b:Int)(ha:i64 a)(hx:i64 x)(hb:i64 b):yA 288 [.yE a,.yE x,.yE b] (.b (Ko a x b)):=by
 have c1:=cK a x b ha hx hb;have c2:=C1 x hx;have c3:=C1 b hb;have hT:Ko a x b=(Dt a x b||decide (C9 x=C9 b)):=rfl;generalize Ko a x b=R at *;refine zF AK Tryz.func288 ?_
 cases h:Dt a x b with
 |true=>
  rw[h]at c1 hT;refine AP [0,1,2,6] ?_ (AQ @c1);with_reducible repeat' first|constructor|intro hc
  exact BO hT
 |false=>
  rw[h]at c1 hT;rw[q0N]at hT;have e:(C9 x==C9 b)=decide (C9 x=C9 b):=rfl;rw[<-hT]at e;refine AD [0,1,2,6] ?_ (AQ e) (DO @c1 @c2 @c3);with_reducible repeat' first|constructor|intro hc
  exact zE
theorem nd(x s:Int)(l:Ao)(hx:i64 x)(hs:i64 s)(hl:∀y∈l,i64 y)(hn:l.length<=1048576):yA 267 [.yE x,.yE s,.is l] (.is (FC x s l)):=by
 have c1:=NR s;have c2:=C1 x hx;have hT:=mX x s l;refine zF AK Tryz.func267 ?_
 cases h1:BG s with
 |false=>
  rw[h1]at c1 hT;replace hT:FC x s l=[]:=hT;rw[hT];refine AP JA ?_ (AQ @c1);with_reducible repeat' first|constructor|intro hc
  exact zE
 |true=>
 rw[h1]at c1 hT
 by_cases h2:C9 x=s
 .have f1:=B6 h2;rw[yY (show ¬s≠C9 x from fun e=>e h2.symm)]at hT;replace hT:FC x s l=[]:=hT;rw[hT];refine AD JA ?_ (AQ f1) (B1 @c1 @c2);with_reducible repeat' first|constructor|intro hc
  exact zE
 have f1:=eq_false' h2;rw[yX (show s≠C9 x from fun e=>h2 e.symm)]at hT;replace hT:FC x s l=Pd x [s] l:=hT;rw[hT];clear hT;obtain⟨R,hR⟩:∃R,Pd x [s] l=R:=⟨_,rfl⟩;rw[hR];have ow:Lv [19]:=trivial;refine AD JA ?_ (AQ f1) (B1 @c1 @c2);clear ow;with_reducible repeat' first|constructor|intro hc
 refine CO (fun k=>k<=l.length/\k<=2/\Pd x (s::l.take k) (l.drop k)=R) (fun k:Nat=>[(7,.sl 0 (s::l.take k).length 1),(8,.y5 k)]) (fun k=>[(0,.a (.is (s::l.take k)))]) (fun k=>l.length-k) 0 ⟨yx _,yx _,hR⟩ (fun _=>rfl) (fun _=>rfl) ?_ ?_
 .exact A5.ck rfl
 rintro k ⟨hk,hk2,hpre⟩;have ht:(l.take k).length=k:=by rw[q09];omega
 by_cases hkl:k<l.length
 .obtain⟨p,hp⟩:=AS hkl;have gp:l.getD k 0=p:=BQ hp
  have hd:l.drop k=p::l.drop (k+1):=by
   have:=q0V hkl;rw[(yZ.1 hp).2]at this;exact this
  have htk:=AM hp;rw[hd]at hpre;unfold Pd at hpre;obtain⟨y,hy⟩:=AS (xs:=s::l.take k) (k:=k) (by rw[yu];omega);have gy0:(s::l.take k).getD k 0=y:=BQ hy
  have gy:(slc (D.is (s::l.take k))).getD (k*1) D.np= .yE y:=by
   rw[Nat.mul_one];show((s::l.take k).map (D.i .i64)).getD k D.np=_;rw[zJ,q03,hy];rfl
  have hS:T3 x (s::l.take k) p=(decide (k+1>=3)||(!BG p||decide (An x p<=An x y))):=by
   unfold T3;rw[yu,ht,Nat.add_sub_cancel,gy0]
  rw[hS]at hpre;clear hS
  have yi:i64 y:=by
   have:=zM hy;rcases q0C.1 this with rfl|hm
   .exact hs
   .exact hl y (List.mem_of_mem_take hm)
  have c3:=NR p;have c4:=SS x y p hx yi (hl p (zM hp))
  by_cases h3:k=2
  .subst h3;rw[show decide (2+1>=3)=true from rfl,Bool.true_or,zN rfl]at hpre;have f2:decide (((s::l.take 2).length:Int)<3)=false:=yY (by rw[yu,ht];omega);subst hpre;refine Ae JA ?_ (AQ f2);with_reducible repeat' first|constructor|intro hc
   exact zE
  have f2:decide (((s::l.take k).length:Int)<3)=true:=yX (by rw[yu,ht];omega);rw[yY (show ¬k+1>=3 by omega),q0N]at hpre
  cases h4:BG p with
  |false=>
   rw[h4]at c3 hpre;replace hpre:s::l.take k=R:=hpre;subst hpre;refine AD JA ?_ (B1 f2 gp) (AQ @c3);with_reducible repeat' first|constructor|intro hc
   exact zE
  |true=>
  rw[h4]at c3 hpre
  by_cases h5:An x p>An x y
  .rw[yX h5]at c4;rw[yY (show ¬An x p<=An x y by omega)]at hpre;replace hpre:Pd x (s::l.take (k+1)) (l.drop (k+1))=R:=by rw[htk];exact hpre
   refine AD JA ?_ (DO f2 gp gy) (B1 @c3 @c4);with_reducible repeat' first|constructor|intro hc
   refine⟨k+1,⟨hkl,om,hpre⟩,om,yV _,?_⟩;exact A5.cut rfl (by repeat'(first|exact zi|refine yg (by(first|rfl|((with_reducible_and_instances refine congrArg (fun z=>some (AV.d (D.i _ z))) ?_);omega)|(refine congrArg (fun z=>some (AV.d (D.i _ z))) (?_:(_:Int)=_);omega)|(refine congrArg some ?_;simp only[htk,zA,yw,yu,zI];done)|(refine congrArg some ?_;simp[htk,zA,yw,yu,zI];done))) ?_)) (by repeat'(first|exact zi|refine yg (q0D rfl) ?_|refine yg (q0w ⟨rfl,rfl⟩) ?_|refine yg (q0D (by simp only[htk,zA,yw,yu,zI])) ?_|refine yg (q0D (by simp[htk,zA,yw,yu,zI])) ?_)) (by first|rfl|(simp(decide:=true) [Ai,AF.ok,AV.oks,AV.ok,hk];done)) rfl
  .rw[yY h5]at c4;rw[yX (show An x p<=An x y by omega)]at hpre;replace hpre:s::l.take k=R:=hpre;subst hpre;refine AD JA ?_ (DO f2 gp gy) (B1 @c3 @c4);with_reducible repeat' first|constructor|intro hc
   exact zE
 .have e:k=l.length:=om
  subst e;rw[List.drop_length,zU]at hpre;unfold Pd at hpre;rw[zU];subst hpre;refine A9 JA ?_;with_reducible repeat' first|constructor|intro hc
  exact zE
end Nd
end Go.Proofs.YthlmmkmeoblbhaaGreat
namespace Go.Proofs.YthlmmkmeoblbhaaGreat
open Go.Gar
abbrev Fy:BK:=[0,1,2,3,4,5,11,17,23,29,37]
theorem rm(x y:AL):yA 302 [x.d,y.d] (.yE (JU x y)):=by
 obtain⟨k,v,n,g⟩:=x;obtain⟨k',v',n',g'⟩:=y;refine zF AK Tryz.func302 ?_;rcases Int.lt_trichotomy n n' with h|h|h
 .have eT:JU ⟨k,v,n,g⟩ ⟨k',v',n',g'⟩= -1:=by simp[JU,h]
  refine A9 Fy ?_;with_reducible repeat' first|constructor|intro hc
  exact BO eT
 .subst h;rcases Int.lt_trichotomy v v' with h|h|h
  .have eT:JU ⟨k,v,n,g⟩ ⟨k',v',n,g'⟩= -1:=by simp[JU,h]
   refine A9 Fy ?_;with_reducible repeat' first|constructor|intro hc
   exact BO eT
  .subst h;cases g<;>cases g'
   .have eT:JU ⟨k,v,n,false⟩ ⟨k',v,n,false⟩=0:=by simp[JU]
    refine A9 Fy ?_;with_reducible repeat' first|constructor|intro hc
    exact BO eT
   .have eT:JU ⟨k,v,n,false⟩ ⟨k',v,n,true⟩= -1:=by simp[JU]
    refine A9 Fy ?_;with_reducible repeat' first|constructor|intro hc
    exact BO eT
   .have eT:JU ⟨k,v,n,true⟩ ⟨k',v,n,false⟩=1:=by simp[JU]
    refine A9 Fy ?_;with_reducible repeat' first|constructor|intro hc
    exact BO eT
   .have eT:JU ⟨k,v,n,true⟩ ⟨k',v,n,true⟩=0:=by simp[JU]
    refine A9 Fy ?_;with_reducible repeat' first|constructor|intro hc
    exact BO eT
  .have eT:JU ⟨k,v,n,g⟩ ⟨k',v',n,g'⟩=1:=by simp[JU,h,show ¬v<v' by omega]
   refine A9 Fy ?_;with_reducible repeat' first|constructor|intro hc
   exact BO eT
 .have eT:JU ⟨k,v,n,g⟩ ⟨k',v',n',g'⟩=1:=by simp[JU,h,show ¬n<n' by omega]
  refine A9 Fy ?_;with_reducible repeat' first|constructor|intro hc
  exact BO eT
theorem iJ(x y:AL):yA 265 [x.d,y.d] (.b (decide (JU x y>0))):=by
 have c:=rm x y;refine zF AK Tryz.func265 ?_;refine AP [0,1,2,3,4] ?_ (AQ @c);with_reducible repeat' first|constructor|intro hc
 exact zE
end Go.Proofs.YthlmmkmeoblbhaaGreat
namespace Go.Proofs.YthlmmkmeoblbhaaGreat
namespace Nd
open Go.Gar
open Wi (AE BE Ay AU C2)
theorem tG:∀(l:List AL)(m:Nat),((l.map AL.A1).flatten).drop (m*4)=((l.drop m).map AL.A1).flatten
 |[],m=>by simp
 |a::l,0=>rfl
 |a::l,m+1=>by
  rw[zV,q0U,q0i,Nat.one_mul,Nat.add_comm,<-List.drop_drop];show List.drop (m*4) (List.drop 4 ([_,_,_,_]++_))=_;exact tG l m
theorem ZP{l:List AL}{m:Nat}{y:AL}(hy:l[m]? =some y):((slc (Bf l)).drop (m*4+0)).take 4=y.A1:=by
 show(((l.map AL.A1).flatten).drop (m*4+0)).take 4=_;have h:=(yZ.1 hy).1;rw[q1B,tG,q0V h,zV,q0U];have:l[m]=y:=(yZ.1 hy).2;rw[this];rfl
theorem To(x:AL):∀(m:Nat)(l:List AL),m<l.length->setRows 0 x.A1 m (l.map AL.A1)=(l.set m x).map AL.A1
 |_,[],h=>by simp at h
 |0,a::l,_=>rfl
 |m+1,a::l,h=>by
  show a.A1::setRows 0 x.A1 m (l.map AL.A1)=_;rw[To x m l (by simpa using h)];rfl
end Nd
end Go.Proofs.YthlmmkmeoblbhaaGreat
namespace Go.Proofs.YthlmmkmeoblbhaaGreat
namespace Wi
open Go.Gar
def Rw(l:AT)(j:Nat):Bool:=(l.getD (j/8) 0).toNat.testBit (7-j%8)
theorem Ln(d:UInt8):(Dp d).length=8:=by simp[Dp]
theorem EC:∀l:AT,(CP l).length=8*l.length
 |[]=>rfl
 |d::r=>by
  have:=EC r;simp only[CP,List.flatMap_cons,yw,Ln,yu]at this|-;omega
theorem Lo:∀(l:AT)(j:Nat),j<8*l.length->(CP l)[j]? =some (Rw l j)
 |[],j,h=>by simp at h
 |d::r,j,h=>by
  show(Dp d++CP r)[j]? =_;rcases q0A j 8 with hj|hj
  .rw[zW (by rw[Ln];exact hj)];have e1:j/8=0:=om
   have e2:j%8=j:=om
   unfold Rw;rw[e1,e2];simp[Dp,hj]
  .rw[zl (by rw[Ln];exact hj),Ln,Lo r (j-8) (by simp only[yu]at h;omega)];unfold Rw;have e1:j/8=(j-8)/8+1:=om
   have e2:(j-8)%8=j%8:=om
   rw[e1,e2];rfl
theorem JQ(l m:AT):CP (l++m)=CP l++CP m:=by simp[CP]
theorem rG(R:List Bool)(h:R.length=32)(s:BitVec 32)(hs:∀i,i<32->s.getLsbD i=R.getD (31-i) false):Cw 0#32 R=s:=by
 apply BitVec.eq_of_getLsbD_eq;intro i hi;have:=SB R.reverse (by rw[List.length_reverse];omega) i hi;rw[List.reverse_reverse]at this;rw[this,hs i hi,zJ,zJ,List.getElem?_reverse om,h]
theorem kK(s:BitVec 32):Cw 0#32 (CP (be4 s))=s:=by
 have hs:=s.isLt;refine rG _ (by rw[EC,K3]) s fun i hi=> ?_
 rw[zJ,Lo _ _ (by rw[K3];omega),q1T];have AH:∀n:Nat,(UInt8.ofNat ((n:Int)%256).toNat).toNat=n%256:=fun n=>by rw[p8 _ om];omega
 have hd:∀k:Nat,k<4->((be4 s).getD k 0).toNat=s.toNat/256^(3-k)%256:=by
  intro k hk;have e:k=0\/k=1\/k=2\/k=3:=om
  rcases e with rfl|rfl|rfl|rfl
  .have:=AH (s.toNat/16777216);simpa[be4]using this
  .have:=AH (s.toNat/65536);simpa[be4]using this
  .have:=AH (s.toNat/256);simpa[be4]using this
  .have:=AH (s.toNat);simpa[be4]using this
 unfold Rw;rw[hd _ om,Nat.testBit,BitVec.getLsbD,Nat.testBit];have h256:(256:Nat)^(3-(31-i)/8)=2^(8*(3-(31-i)/8)):=by rw[show(256:Nat)=2^8 from rfl,<-Nat.pow_mul]
 rw[h256]
 have:(s.toNat/2^(8*(3-(31-i)/8))%256).testBit (7-(31-i)%8)=s.toNat.testBit i:=by
  rw[show(256:Nat)=2^8 from rfl,Nat.testBit_mod_two_pow,Nat.testBit_div_two_pow];have h1:7-(31-i)%8<8:=om
  have h2:7-(31-i)%8+8*(3-(31-i)/8)=i:=om
  rw[yX h1,zy]
  first|rw[h2]|rw[Nat.add_comm,h2]|(congr 1;omega)
 simp only[Nat.testBit]at this;exact this.symm
theorem Zw(s:BitVec 32)(R:List Bool)(h:R.length=32):Cw s R=Cw s (List.replicate 32 false)^^^Cw 0#32 R:=by
 have:=SD (List.replicate 32 false) R s 0#32 (by rw[h];rfl);rw[BitVec.xor_zero]at this;rw[<-this]
 congr 1
 apply List.ext_getElem?;intro i;rw[List.getElem?_zipWith];rcases q0A i 32 with hi|hi
 .rw[List.getElem?_replicate,zN hi,yj om];simp
 .rw[q0R om,q0R (by simp;omega)]
theorem Sa{p:AT}(h:p.length<=112):Cw ones (CP (CY p).1)=0#32:=by
 rw[Gj h];simp only;rw[JQ,F1,Zw _ _ (by rw[EC,K3]),kK];unfold Le;rw[F1,BitVec.xor_self]
end Wi
end Go.Proofs.YthlmmkmeoblbhaaGreat
