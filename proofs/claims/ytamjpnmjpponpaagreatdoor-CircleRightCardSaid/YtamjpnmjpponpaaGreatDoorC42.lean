/- Part 42 of a proof. Conditions: those that its theorems state. -/
import Derived.Test.YtamjpnmjpponpaaGreatDoorC39
import Derived.Test.YtamjpnmjpponpaaGreatDoorC40
import Derived.Test.YtamjpnmjpponpaaGreatDoorC41
import Derived.Test.YtamjpnmjpponpaaGreatDoorTie
import Derived.Test.YtamjpnmjpponpaaGreatDoorCards
import Derived.LaidMore
import Derived.Lib.LaidU8
set_option linter.unusedSimpArgs false
set_option linter.unusedVariables false
set_option linter.unnecessarySimpa false
set_option maxHeartbeats 40000000
set_option maxRecDepth 4000
namespace Go.Proofs.YtamjpnmjpponpaaGreatDoor
namespace Nd
open Go.Gar
open Wi (AF BV B7 Cp Bc)
structure CS where
 nodes:List AA
 gone:Ai
 A6:Ai
 bag:Bg.Du
def CS.c(c:CS):D3:=⟨c.nodes,c.gone,c.A6,c.bag.grams.map B0.A4,c.bag.lost⟩
structure Step where
 AN:Int
 a:Int
 b:Int
 c:Int
 bytes:AL
 AC:AS
def Step.A4(s:Step):yp:=[.i .u8 s.AN,.yX s.a,.yX s.b,.yX s.c,.by s.bytes,.s s.AC.AI,.yX s.AC.B4,.yX s.AC.AZ,.b s.AC.gone]
def Step.d(s:Step):D:=.agg s.A4
abbrev stepsD(l:List Step):D:=.sl 9 (l.map Step.A4)
def Cx(l:List AA)(p:Int):yb:=l.findIdx? (NJ p)
def Ii(c:CS)(g:List B0):CS:=⟨c.nodes,c.gone,c.A6,Bg.IN c.bag g⟩
def Yf(c:CS)(i:Nat)(n:AA):CS:=⟨c.nodes.set i n,c.gone,c.A6,c.bag⟩
def Iw(c:CS)(r:Bg.Du×Int):CS×Int:=if r.2=0 then(⟨c.nodes,c.gone,c.A6,r.1⟩,0)else(c,r.2)
def KW(c:CS)(p:Int):CS×Int:=match Cx c.nodes p with
 |some i=>(Ii (Yf c i (Gz (c.nodes.getD i FD)).1) (Gz (c.nodes.getD i FD)).2,0)
 |none=>(c,2)
def Jk(c:CS)(p AR:Int)(x:AS):CS×Int:=match Cx c.nodes p with
 |some i=>if(Jl (c.nodes.getD i FD) AR x).2=0 then(Ii (Yf c i (Jl (c.nodes.getD i FD) AR x).1.1) (Jl (c.nodes.getD i FD) AR x).1.2,0)else(c,(Jl (c.nodes.getD i FD) AR x).2)
 |none=>(c,2)
def mI(c:CS)(b:Bg.Du)(g:B0):CS:=match Cx c.nodes g.to with
 |some i=>Ii ⟨c.nodes.set i (Im (c.nodes.getD i FD) g.by_).1,c.gone,c.A6,b⟩ (Im (c.nodes.getD i FD) g.by_).2
 |none=>⟨c.nodes,c.gone,c.A6,⟨b.grams,IntKind.wrap .i64 (b.lost+1)⟩⟩
def Co(c:CS)(a:Int):CS×Int:=if c.bag.Kz a then(mI c ⟨c.bag.grams.eraseIdx a.toNat,c.bag.lost⟩ (c.bag.grams.getD a.toNat Bg.IF),0)else(c,2)
def Uo(l:List AA)(p:Int):Nat->Nat
 |0=>0
 |k+1=>if(l.getD k FD).A7.id<p then k+1 else Uo l p k
def MI{α:Type}(l:List α)(a:Nat)(n:α):List α:=l.take a++n::l.drop a
def KR(c:CS)(p:Int):Bool:=BV p&&(!(Es c.nodes p)&&(!(decide (p∈c.gone))&&decide (c.nodes.length<12)))
def JK(c:CS)(p:Int):CS×Int:=if KR c p then(⟨MI c.nodes (Uo c.nodes p c.nodes.length) (EA p c.A6).1,c.gone,c.A6,c.bag⟩,0)else(c,2)
def FT(c:CS)(p:Int)(lv:Bool):CS×Int:=match Cx c.nodes p with
 |some i=>if p∈c.A6\/c.gone.length>=1000 then(c,2)else(⟨c.nodes.eraseIdx i,c.gone++[p],c.A6,if lv then Bg.IN c.bag (GL (c.nodes.getD i FD))else c.bag⟩,0)
 |none=>(c,2)
def Pw(c:CS)(s:Step):CS×Int:=if 0<=s.c/\s.c<=255 then Iw c (Bg.SH c.bag s.a s.b s.c)else(c,2)
def Ta(c:CS)(s:Step):CS×Int:=if BV s.a=true/\s.bytes.length<=120 then(Ii c [⟨s.a,s.bytes,false⟩],0)else(c,2)
def stepS(c:CS)(s:Step):CS×Int:=
 if s.AN=1 then KW c s.a
 else if s.AN=2 then Co c s.a
 else if s.AN=3 then Iw c (Bg.KQ c.bag s.a)
 else if s.AN=4 then Iw c (Bg.HD c.bag s.a)
 else if s.AN=5 then Pw c s
 else if s.AN=6 then Ta c s
 else if s.AN=7 then JK c s.a
 else if s.AN=8 then FT c s.a false
 else if s.AN=9 then FT c s.a true
 else if s.AN=10 then Jk c s.a 2 s.AC
 else if s.AN=11 then Jk c s.a 3 ⟨s.AC.AI,0,0,false⟩
 else(c,2)
def Fj(A6:Ai):Bool:=decide (2<=A6.length)&&(decide (A6.length<=4)&&Ti A6)
def newS(A6:Ai):CS×Int:=if Fj A6 then(⟨A6.map fun p=>(EA p A6).1,[],A6,⟨[],0⟩⟩,0)else(⟨[],[],[],⟨[],0⟩⟩,2)
structure BB (b:Bg.Du):Prop where
 n:b.grams.length<=400
 s:∀g∈b.grams,g.by_.length<=120
structure CN (l:List AA) (gone A6:Ai):Prop where
 b:Fj A6=true
 n:l.length<=12
 r:(ids l).Pairwise (·<·)
 nb:∀n∈l,NB n/\n.A7.A6=A6
 bn:∀p∈A6,p∈ids l
 gl:gone.length<=1000
 gp:∀p∈gone,BV p=true/\p∉ids l
 gd:gone.Nodup
structure CW (c:CS):Prop where
 n:CN c.nodes c.gone c.A6
 b:BB c.bag
variable {l:List AA}{p:Int}
theorem Ib:p∈ids l↔Es l p=true:=by
 unfold ids Es;rw[q1L,q1q];constructor
 .rintro⟨n,h1,h2⟩;exact⟨n,h1,by unfold NJ;exact zU h2⟩
 .rintro⟨n,h1,h2⟩;exact⟨n,h1,of_decide_eq_true h2⟩
theorem Qd{k:Nat}{x:AA}(h:l[k]? =some x):(ids l)[k]? =some x.A7.id:=by unfold ids;rw[q0G,h];rfl
variable {i:Nat}
theorem Sm(h:Cx l p=some i):∃n,l[i]? =some n/\n.A7.id=p/\l.getD i FD=n:=by
 obtain⟨h1,h2,_⟩:=List.findIdx?_eq_some_iff_getElem.1 h;exact⟨l[i],zV h1,of_decide_eq_true h2,by simp[h1]⟩
theorem GN(l:List AA)(p:Int):JI (NJ p) l=(match Cx l p with|some i=>(i:Int)|none=> -1):=rfl
theorem UK(l:List AA)(p:Int):Es l p=(Cx l p).isSome:=by
 unfold Es Cx;rw[List.findIdx?_isSome]
theorem W8{l:Ai}(h:l.Pairwise (·<·)){j:Nat}{x y:Int}(hx:l[i]? =some x)(hy:l[j]? =some y)(hij:i<j):x<y:=by
 obtain⟨h1,rfl⟩:=zS.1 hx;obtain⟨h2,rfl⟩:=zS.1 hy;exact q0a.1 h i j h1 h2 hij
theorem O2{l:Ai}:Ti l=true↔(∀x∈l,BV x=true)/\l.Pairwise (·<·):=by
 unfold Ti;rw[Hp];constructor
 .intro h
  have hg:∀k (hk:k<l.length),BV l[k]=true/\(k=0\/l.getD (k-1) 0<l[k]):=fun k hk=>by
   have:=h k hk;unfold T9 at this;rw[zO,zW,Ft hk]at this;exact this
  refine⟨fun x hx=> ?_,q0a.2 ?_⟩
  .obtain⟨k,hk,rfl⟩:=q1A.1 hx;exact(hg k hk).1
  .intro i j hi hj hij
   induction j with
   |zero=>omega
   |succ j ih=>
    have h1:=(hg (j+1) hj).2;rcases h1 with h1|h1
    .omega
    rw[Nat.add_sub_cancel,Ft (show j<l.length by omega)]at h1
    by_cases e:i=j
    .subst e;exact h1
    .have:=ih om om;omega
 .rintro⟨h1,h2⟩ k hk;unfold T9;rw[zO,zW,Ft hk];refine⟨h1 _ (q0q hk),?_⟩
  by_cases h0:k=0
  .exact .inl h0
  .rw[Ft (show k-1<l.length by omega)];exact .inr (q0a.1 h2 (k-1) k om hk om)
variable {n:AA}
theorem NB.pl(h:NB n):BV n.A7.id=true:=by rw[<-Eh];exact(Dh h.rv).1
variable {gone A6:Ai}
theorem CN.pl(h:CN l gone A6):∀p∈ids l,BV p=true:=fun p hp=>by
 obtain⟨n,h1,rfl⟩:=q1L.1 hp;exact(h.nb n h1).1.pl
variable {c:CS}
theorem CW.right(h:CW c):o9 c.c=true:=by
 have hb:=h.n.b;unfold Fj at hb;unfold o9 tB;simp only[zO,zW]at hb|-;refine⟨⟨hb.1,hb.2.1,hb.2.2,h.n.n,O2.2 ⟨h.n.pl,h.n.r⟩,h.n.gl,?_⟩,?_,?_,?_⟩
 .show(c.bag.grams.map B0.A4).length<=400;rw[q08];exact h.b.n
 .rw[q0T];intro n hn;unfold tI;rw[zO,zW];exact⟨(h.n.nb n hn).1.r,(h.n.nb n hn).2⟩
 .rw[q0T];exact fun p hp=>Ib.1 (h.n.bn p hp)
 .rw[Hp];intro k hk;replace hk:k<c.gone.length:=hk;unfold tA;show(BV (c.gone.getD k 0)&&(!(Es c.nodes (c.gone.getD k 0))&& !(decide (c.gone.getD k 0∈c.gone.take k))))=true;have hm:c.gone.getD k 0∈c.gone:=by rw[Ft hk];exact q0q hk
  obtain⟨g1,g2⟩:=h.n.gp _ hm;simp only[zO,q0h,q0c];refine⟨g1,?_,So.1 h.n.gd k hk⟩
  cases hq:Es c.nodes (c.gone.getD k 0)with
  |false=>rfl
  |true=>exact absurd (Ib.2 hq) g2
variable {b:Bg.Du}
theorem sN(h:BB b)(g:B0):BB (Bg.step b g):=by
 unfold Bg.step;split
 .rename_i hc;refine⟨by simp only[q04,q02,q0B];omega,fun x hx=> ?_⟩;rcases q0W.1 hx with hx|hx
  .exact h.s x hx
  .rw[q0e.1 hx];exact hc.2
 .exact⟨h.n,h.s⟩
theorem T0:∀(l:List B0){b:Bg.Du},BB b->BB (Bg.IN b l)
 |[],_,h=>h
 |g::r,_,h=>T0 r (sN h g)
theorem Rl(h:BB b)(k:Nat)(n:Int):BB ⟨b.grams.eraseIdx k,n⟩:=
 ⟨q0L (List.length_eraseIdx_le ..) h.n,fun g hg=>h.s g (List.mem_of_mem_eraseIdx hg)⟩
theorem qY(h:BB b)(p:Int):BB (Bg.KQ b p).1:=by
 unfold Bg.KQ;split
 .exact Rl h _ _
 .exact h
theorem p8(h:BB b)(p:Int):BB (Bg.HD b p).1:=by
 unfold Bg.HD;split
 .exact T0 _ h
 .exact h
theorem r8(h:BB b)(p i m:Int):BB (Bg.SH b p i m).1:=by
 unfold Bg.SH;split
 .rename_i hc;simp only[zO]at hc;obtain⟨k,e,hk⟩:=Bg.JJ hc.1;subst e;refine⟨by simp only[List.length_set];exact h.n,fun g hg=> ?_⟩;rcases List.mem_or_eq_of_mem_set hg with hg|rfl
  .exact h.s g hg
  .obtain⟨x,hx⟩:=Ah hk;have:b.grams.getD ((k:Int).toNat) Bg.IF=x:=by rw[q1Y,zo,hx];rfl
   rw[this];have h1:=h.s x (q00 hx);show(Bg.Nj x.by_ i.toNat m).length<=120;rw[Bg.U9];exact h1
 .exact h
theorem kD(h:NB n)(AR:Int)(x:AS)(hx:x.AI.length<=big):ND n.A7 (Jl n AR x).1.1.A7:=by
 unfold Jl;split
 .split
  .exact(Qq (g:=[]) h (w:=7) (AR:=AR) (AP:=0) hx).A7
  .exact .refl _
 .exact .refl _
variable {m:AA}
theorem rG(hi:l[i]? =some n)(he:m.A7.id=n.A7.id):ids (l.set i m)=ids l:=by
 unfold ids;rw[List.map_set];refine List.ext_getElem? fun k=> ?_
 rw[q1X];split
 .rename_i e;subst e;have hk:=(zS.1 hi).1;rw[zn (by rw[q08];exact hk),q0G,hi,he];rfl
 .rfl
theorem CN.set(h:CN l gone A6)(hi:l[i]? =some n)(hm:NB m)(hv:ND n.A7 m.A7):CN (l.set i m) gone A6:=by
 have e:=rG hi hv.id;refine⟨h.b,by rw[List.length_set];exact h.n,by rw[e];exact h.r,fun x hx=> ?_,by rw[e];exact h.bn,h.gl,by rw[e];exact h.gp,h.gd⟩;rcases List.mem_or_eq_of_mem_set hx with hx|rfl
 .exact h.nb x hx
 .exact⟨hm,hv.A6.trans (h.nb n (q00 hi)).2⟩
theorem P6(l:List AA)(i:Nat):ids (l.eraseIdx i)=(ids l).eraseIdx i:=PL _ l i
theorem mem_erase{l:Ai}(h:l.Pairwise (·<·))(hp:l[i]? =some p)(x:Int):x∈l.eraseIdx i↔x∈l/\x≠p:=by
 rw[List.mem_eraseIdx_iff_getElem?];constructor
 .rintro⟨j,h1,h2⟩;refine⟨q00 h2,fun e=> ?_⟩;subst e;rcases Nat.lt_or_gt_of_ne h1 with h3|h3
  .have:=W8 h h2 hp h3;omega
  .have:=W8 h hp h2 h3;omega
 .rintro⟨h1,h2⟩;obtain⟨j,hj⟩:=q0w.1 h1;exact⟨j,fun e=>by subst e;rw[hp]at hj;exact h2 (q1E hj).symm,hj⟩
theorem RQ(l:List AA)(p:Int):∀n,Uo l p n<=n/\(∀k,Uo l p n<=k->k<n->¬(l.getD k FD).A7.id<p)/\(0<Uo l p n->(l.getD (Uo l p n-1) FD).A7.id<p)
 |0=>⟨zN _,fun k _ h=>om,fun h=>absurd h (Nat.lt_irrefl 0)⟩
 |n+1=>by
  obtain⟨h1,h2,h3⟩:=RQ l p n
  by_cases hc:(l.getD n FD).A7.id<p
  .have e:Uo l p (n+1)=n+1:=zn hc;rw[e];exact⟨zN _,fun k _ _=>om,fun _=>hc⟩
  .have e:Uo l p (n+1)=Uo l p n:=zx hc;rw[e];refine⟨om,fun k hk hl=> ?_,h3⟩
   by_cases ek:k=n
   .subst ek;exact hc
   .exact h2 k hk om
theorem cz(l:List AA)(a:Nat)(n:AA):ids (MI l a n)=MI (ids l) a n.A7.id:=by
 unfold ids MI;rw[q0f,List.map_cons,List.map_take,List.map_drop]
theorem uo{l:Ai}(h:l.Pairwise (·<·)){a:Nat}(h1:∀k x,l[k]? =some x->k<a->x<p)(h2:∀k x,l[k]? =some x->a<=k->p<x):(MI l a p).Pairwise (·<·):=by
 unfold MI
 have hd:∀x∈l.drop a,p<x:=fun x hx=>by
  obtain⟨k,hk⟩:=q0w.1 hx;rw[q0i]at hk;exact h2 _ _ hk om
 have ht:∀x∈l.take a,x<p:=fun x hx=>by
  obtain⟨k,hk⟩:=q0w.1 hx;rw[q0Y]at hk;split at hk
  .exact h1 _ _ hk (by assumption)
  .cases hk
 refine List.pairwise_append.2 ⟨h.sublist (List.take_sublist ..),q1O.2 ⟨hd,h.sublist (List.drop_sublist ..)⟩,fun x hx y hy=> ?_⟩;rcases q0O.1 hy with rfl|hy
 .exact ht x hx
 .exact Int.lt_trans (ht x hx) (hd y hy)
theorem dR{α:Type}{l:List α}{a:Nat}{n x:α}:x∈MI l a n↔x=n\/x∈l:=by
 unfold MI;rw[q0W,q0O]
 conv=>rhs;rw[<-q0d a l,q0W]
 constructor
 .rintro(h|h|h)
  .exact .inr (.inl h)
  .exact .inl h
  .exact .inr (.inr h)
 .rintro(h|h|h)
  .exact .inr (.inl h)
  .exact .inl h
  .exact .inr (.inr h)
theorem ss:∀(l:Ai)(f:Int),(∀x∈l,BV x=true/\f<x)->l.Pairwise (·<·)->bT f l=true
 |[],_,_,_=>rfl
 |a::r,f,h,hp=>by
  obtain⟨p1,p2⟩:=q1O.1 hp;have ha:=h a (q0J ..);simp only[bT,zO,zW];exact⟨⟨by rw[Eh];exact ha.1,ha.2⟩,ss r a (fun x hx=>⟨(h x (q0P _ hx)).1,p1 x hx⟩) p2⟩
theorem ZG(h:Fj A6=true):Cn A6=true:=by
 unfold Fj at h;simp only[zO,zW]at h;obtain⟨h1,h2,h3⟩:=h;obtain⟨h4,h5⟩:=O2.1 h3;unfold Cn;simp only[zO,zW];exact⟨⟨h1,h2⟩,ss _ _ (fun x hx=>⟨h4 x hx,by have:=(Wi.dt.1 (h4 x hx)).1;omega⟩) h5⟩
theorem Sk(hp:BV p=true)(hb:Fj A6=true):(EA p A6).2=0/\NB (EA p A6).1/\(EA p A6).1.A7.id=p/\(EA p A6).1.A7.A6=A6/\(EA p A6).1.Am=0/\(EA p A6).1.A7.AB=[]/\(EA p A6).1.keep=[]:=by
 have hv:Aq (newV p A6)=true:=by
  simp only[Aq,newV,ZG hb,Eh,hp];have h3:F2 p (-1)=true:=by simp[F2]
  have h4:CU p []=true:=by simp[CU,rT]
  rw[h3,h4];simp[D6,h3]
 have ht:newT p A6=(newV p A6,0):=zn hv
 have e:EA p A6=(⟨newV p A6,0,⟨p,0,[]⟩,[],0,0,IP,IP,IP,0,[],[],0⟩,0):=by
  unfold EA;rw[ht,zn rfl,zn hp]
 rw[e];refine⟨rfl,⟨B2.2 ⟨⟨q1C 0,(by decide:(0:Int)<=1099511627776)⟩,q1C 0,⟨q1C 0,(by decide:(0:Int)<16)⟩,hv,⟨rfl,C0.2 ⟨⟨hp,q1C 0,(by decide:(0:Int)<=1048576),zi _⟩,fun x hx=>(by cases hx),.nil⟩⟩,rfl,(by decide:Cg []=true),(by decide:FX []=true),rfl⟩,⟨zi _,zi _,zi _⟩,q1C 0⟩,rfl,rfl,rfl,rfl,rfl⟩
theorem CN.join(h:CN l gone A6)(hp:BV p=true)(hn:Es l p=false)(hg:p∉gone)(hl:l.length<12):CN (MI l (Uo l p l.length) (EA p A6).1) gone A6:=by
 obtain⟨_,n1,n2,n3,_⟩:=Sk hp h.b;obtain⟨a1,a2,a3⟩:=RQ l p l.length;have hni:p∉ids l:=fun e=>by rw[Ib.1 e]at hn;cases hn
 have hm:∀x,x∈ids (MI l (Uo l p l.length) (EA p A6).1)↔x=p\/x∈ids l:=fun x=>by rw[cz,dR,n2]
 refine⟨h.b,?_,?_,fun x hx=> ?_,fun x hx=>(hm x).2 (.inr (h.bn x hx)),h.gl,fun x hx=>⟨(h.gp x hx).1,fun e=> ?_⟩,h.gd⟩
 .unfold MI;simp only[q04,q02,q0D,q1H];omega
 .rw[cz,n2]
  have hg:∀k x,(ids l)[k]? =some x->∃n,l[k]? =some n/\l.getD k FD=n/\n.A7.id=x:=fun k x hk=>by
   unfold ids at hk;rw[q0G,q0F]at hk;obtain⟨n,h1,h2⟩:=hk;exact⟨n,h1,getD_at h1,h2⟩
  refine uo h.r (fun k x hk hka=> ?_) (fun k x hk hka=> ?_)
  .have hlt:=a3 om
   have hlast:(ids l)[Uo l p l.length-1]? =some (l.getD (Uo l p l.length-1) FD).A7.id:=by
    obtain⟨y,hy⟩:=Ah (xs:=l) (k:=Uo l p l.length-1) om;rw[getD_at hy];exact Qd hy
   by_cases e:k=Uo l p l.length-1
   .rw[<-e]at hlast hlt;rw[hk]at hlast;cases hlast;exact hlt
   .have:=W8 h.r hk hlast om;omega
  .have hkl:k<l.length:=by
    have:=(zS.1 hk).1;unfold ids at this;rwa [q08]at this
   obtain⟨n,h1,h2,h3⟩:=hg k x hk;have:=a2 k hka hkl;rw[h2,h3]at this;have hne:x≠p:=fun e=>by subst e;exact hni (q00 hk)
   omega
 .rcases dR.1 hx with rfl|hx
  .exact⟨n1,n3⟩
  .exact h.nb x hx
 .rcases(hm x).1 e with rfl|e
  .exact hg hx
  .exact(h.gp x hx).2 e
theorem CN.goes(h:CN l gone A6)(hi:Cx l p=some i)(hb:p∉A6)(hg:gone.length<1000):CN (l.eraseIdx i) (gone++[p]) A6:=by
 obtain⟨n,h1,h2,_⟩:=Sm hi;have hp:(ids l)[i]? =some p:=by rw[<-h2];exact Qd h1
 have hm:=mem_erase h.r hp;have hpl:=h.pl p (q00 hp);refine⟨h.b,q0L (List.length_eraseIdx_le ..) h.n,?_,fun x hx=>h.nb x (List.mem_of_mem_eraseIdx hx),fun x hx=> ?_,by rw[q04];simp;omega,fun x hx=> ?_,?_⟩
 .rw[P6];exact h.r.sublist (List.eraseIdx_sublist ..)
 .rw[P6,hm];exact⟨h.bn x hx,fun e=>hb (e▸hx)⟩
 .rw[P6,hm];rcases q0W.1 hx with hx|hx
  .exact⟨(h.gp x hx).1,fun e=>(h.gp x hx).2 e.1⟩
  .rw[q0e.1 hx];exact⟨hpl,fun e=>e.2 rfl⟩
 .rw[List.nodup_append];refine⟨h.gd,sm,fun x hx y hy=> ?_⟩;rw[q0e.1 hy];exact fun e=>(h.gp x hx).2 (e▸q00 hp)
structure pL (c:CS) (r:CS×Int):Prop where
 w:CW r.1
 A6:r.1.A6=c.A6
 gone:∃t,r.1.gone=c.gone++t
 no:r.2≠0->r.1=c
theorem pL.refl(h:CW c)(e:Int):pL c (c,e):=⟨h,rfl,⟨[],sm⟩,fun _=>rfl⟩
theorem ZF(h:CW c){r:Bg.Du×Int}(hr:BB r.1):pL c (Iw c r):=by
 unfold Iw;split
 .exact⟨⟨h.n,hr⟩,rfl,⟨[],sm⟩,fun e=>absurd rfl e⟩
 .exact .refl h _
theorem Vh(h:CW c)(hi:c.nodes[i]? =some n)(hm:NB m)(hv:ND n.A7 m.A7)(hb:BB b)(g:List B0):pL c (Ii ⟨c.nodes.set i m,c.gone,c.A6,b⟩ g,0):=
 ⟨⟨h.n.set hi hm hv,T0 _ hb⟩,rfl,⟨[],by simp[Ii]⟩,fun e=>absurd rfl e⟩
theorem CW.node(h:CW c)(hi:Cx c.nodes p=some i):∃n,c.nodes[i]? =some n/\c.nodes.getD i FD=n/\NB n/\n.A7.id=p:=by
 obtain⟨n,h1,h2,h3⟩:=Sm hi;exact⟨n,h1,h3,(h.n.nb n (q00 h1)).1,h2⟩
theorem sX(h:CW c)(p:Int):pL c (KW c p):=by
 unfold KW
 cases hi:Cx c.nodes p with
 |none=>exact .refl h _
 |some i=>
  obtain⟨n,h1,h2,h3,_⟩:=h.node hi;obtain⟨t1,t2,_⟩:=eR h3;dsimp only;rw[h2];exact Vh h h1 t1 t2 h.b _
theorem kC(h:CW c)(p AR:Int){x:AS}(hx:x.AI.length<=big):pL c (Jk c p AR x):=by
 unfold Jk
 cases hi:Cx c.nodes p with
 |none=>exact .refl h _
 |some i=>
  obtain⟨n,h1,h2,h3,_⟩:=h.node hi;dsimp only;rw[h2];split
  .exact Vh h h1 (kB h3 AR x hx).1 (kD h3 AR x hx) h.b _
  .exact .refl h _
theorem Rj(h:CW c)(a:Int):pL c (Co c a):=by
 unfold Co;split
 .have hb:=Rl h.b a.toNat c.bag.lost;unfold mI;generalize c.bag.grams.getD a.toNat Bg.IF=g
  cases hi:Cx c.nodes g.to with
  |none=>exact⟨⟨h.n,hb.n,hb.s⟩,rfl,⟨[],sm⟩,fun e=>absurd rfl e⟩
  |some i=>
   obtain⟨n,h1,h2,h3,_⟩:=h.node hi;obtain⟨t1,t2,_⟩:=eL h3 g.by_;dsimp only;rw[h2];exact Vh h h1 t1 t2 hb _
 .exact .refl h _
theorem rN(h:CW c)(p:Int):pL c (JK c p):=by
 unfold JK;split
 .rename_i hc;unfold KR at hc;simp only[zO,q0h,zW,q0c]at hc;exact⟨⟨h.n.join hc.1 hc.2.1 hc.2.2.1 hc.2.2.2,h.b⟩,rfl,⟨[],sm⟩,fun e=>absurd rfl e⟩
 .exact .refl h _
theorem ct(h:CW c)(p:Int)(lv:Bool):pL c (FT c p lv):=by
 unfold FT
 cases hi:Cx c.nodes p with
 |none=>exact .refl h _
 |some i=>
  dsimp only;split
  .exact .refl h _
  .rename_i hc;refine⟨⟨h.n.goes hi (fun e=>hc (.inl e)) om,?_⟩,rfl,⟨[p],rfl⟩,fun e=>absurd rfl e⟩;show BB (if lv then _ else _);split
   .exact T0 _ h.b
   .exact h.b
theorem HR(h:CW c){s:Step}(hs:s.AC.AI.length<=big):pL c (stepS c s):=by
 unfold stepS;split
 .exact sX h _
 split
 .exact Rj h _
 split
 .exact ZF h (qY h.b _)
 split
 .exact ZF h (p8 h.b _)
 split
 .unfold Pw;split
  .exact ZF h (r8 h.b _ _ _)
  .exact .refl h _
 split
 .unfold Ta;split
  .exact⟨⟨h.n,T0 _ h.b⟩,rfl,⟨[],by simp[Ii]⟩,fun e=>absurd rfl e⟩
  .exact .refl h _
 split
 .exact rN h _
 split
 .exact ct h _ _
 split
 .exact ct h _ _
 split
 .exact kC h _ _ hs
 split
 .exact kC h _ _ hs
 .exact .refl h _
theorem aR(h:Fj A6=true):CW (newS A6).1:=by
 have hb:=h;unfold Fj at hb;simp only[zO,zW]at hb;obtain⟨h1,h2,h3⟩:=hb;obtain⟨h4,h5⟩:=O2.1 h3;have e:newS A6=(⟨A6.map fun p=>(EA p A6).1,[],A6,⟨[],0⟩⟩,0):=zn h;rw[e]
 have hi:ids (A6.map fun p=>(EA p A6).1)=A6:=by
  unfold ids;rw[List.map_map]
  conv=>rhs;rw[<-List.map_id A6]
  refine List.map_congr_left fun p hp=> ?_;exact(Sk (h4 p hp) h).2.2.1
 refine⟨⟨h,by rw[q08];omega,by rw[hi];exact h5,fun n hn=> ?_,by rw[hi];exact fun p hp=>hp,zi _,fun p hp=>(by cases hp),.nil⟩,⟨zi _,fun g hg=>(by cases hg)⟩⟩;obtain⟨p,hp,rfl⟩:=q1L.1 hn;obtain⟨_,k1,_,k3,_⟩:=Sk (h4 p hp) h;exact⟨k1,k3⟩
abbrev JZ:BF:=[0,2,3,11,30]
abbrev TS:BF:=[0,1,2,3,4,5,36,41,55]
def bigS(s:Step):Bool:=decide (s.bytes.length>300)||decide (s.AC.AI.length>300)
def KD(l:List Step):Bool:=l.any bigS||decide (l.length>60)
theorem IC(l:List Step)(hl:l.length<=9223372036854775807):yS 5 [stepsD l] (.b (KD l)):=by
 refine zF AE Tryz.func5 ?_;obtain⟨B,hB⟩:∃B,KD l=B:=⟨_,rfl⟩;rw[hB];unfold stepsD;refine A9 JZ ?_;refine C4 (fun k=>k<=l.length/\k<=61/\(l.take k).any bigS=false) (fun k:Nat=>[(3,.yO k)]) (fun k=>l.length-k) 0 ⟨zi _,zi _,rfl⟩ (fun _=>rfl) ?_ ?_
 .exact A8.ck rfl
 rintro k ⟨hkk,hk6,hpre⟩
 by_cases hkl:k<l.length
 .by_cases h6:k<=60
  .have f6:decide ((k:Int)<=60)=true:=zU om;obtain⟨x,hx⟩:=Ah hkl;have hT:(l.take (k+1)).any bigS=bigS x:=by rw[AY hx,List.any_append,hpre,q0k,List.any_cons,List.any_nil,Bool.or_false]
   have hA:bigS x=true->B=true:=fun h=>by
    rw[<-hB];unfold KD;rw[q1q.2 ⟨x,q00 hx,h⟩,Bool.true_or]
   unfold bigS at hA hT
   by_cases h1:x.bytes.length>300
   .have f1:decide ((x.bytes.length:Int)>300)=true:=zU om;rw[zU h1,Bool.true_or]at hA;obtain rfl:=hA rfl;have ix1:=hx;refine Aj JZ ?_ (Au f1 f6);clear ix1;with_reducible repeat' first|constructor|intro hc
    exact zE
   .have f1:decide ((x.bytes.length:Int)>300)=false:=zQ om;rw[zQ h1,q0k]at hA hT
    by_cases h2:x.AC.AI.length>300
    .have f2:decide ((x.AC.AI.length:Int)>300)=true:=zU om;rw[zU h2]at hA;obtain rfl:=hA rfl;have ix1:=hx;refine Aj JZ ?_ (CP f1 f2 f6);clear ix1;with_reducible repeat' first|constructor|intro hc
     exact zE
    .have f2:decide ((x.AC.AI.length:Int)>300)=false:=zQ om;rw[zQ h2]at hT;have ix1:=hx;refine Aj JZ ?_ (CP f1 f2 f6);clear ix1;with_reducible repeat' first|constructor|intro hc
     refine⟨k+1,⟨hkl,om,hT⟩,om,zN _,?_⟩;exact A8.ck rfl
  .have e:k=61:=om
   subst e;have f6:decide (((61:Nat):Int)<=60)=false:=rfl;have f7:decide ((l.length:Int)>60)=true:=zU om
   have hA:B=true:=by
    rw[<-hB];unfold KD;rw[zU (show l.length>60 by omega),Bool.or_true]
   subst hA;refine Aj JZ ?_ (Au f6 f7);with_reducible repeat' first|constructor|intro hc
   exact zE
 .have e:k=l.length:=om
  subst e;rw[q06]at hpre
  have f7:decide ((l.length:Int)>60)=B:=by
   rw[<-hB];unfold KD;rw[hpre,q0k];exact decide_eq_decide.2 om
  refine Aj JZ ?_ (AK f7);with_reducible repeat' first|constructor|intro hc
  exact zE
theorem Vx(c:CS)(h:CW c):yS 9 [c.c.d,c.c.d] (.b true):=by
 have hl:c.nodes.length<=12/\c.A6.length<=4/\c.gone.length<=1000/\c.bag.grams.length<=400:=by
  have hb:=h.n.b;unfold Fj at hb;simp only[zO,zW]at hb;exact⟨h.n.n,hb.2.1,h.n.gl,h.b.n⟩
 have hnb:=h.n.nb;have c1:=Pa c.gone c.gone om;have c2:=Pa c.A6 c.A6 om;rw[zU rfl]at c1 c2;have c3:=Bg.Nz c.bag c.bag om;rw[zU rfl]at c3;have f1:=DC (c.nodes.length:Int);unfold Bg.Du.d at c3;refine zF AE Tryz.func9 ?_;unfold D3.d D3.A4 CS.c;dsimp only;refine AJ TS ?_ (AK f1) (CP @c1 @c2 @c3);refine C4 (fun k=>k<=c.nodes.length) (fun k:Nat=>[(5,.yO k)]) (fun k=>c.nodes.length-k) 0 (zi _) (fun _=>rfl) ?_ ?_
 .exact A8.ck rfl
 intro k hk
 by_cases hkl:k<c.nodes.length
 .obtain⟨x,hx⟩:=Ah hkl;have c4:=oG x (hnb x (q00 hx)).1.FG;unfold AA.d at c4;have ix1:=hx;refine AO TS ?_ (AK @c4);clear ix1;with_reducible repeat' first|constructor|intro hc
  refine⟨k+1,hkl,om,zN _,?_⟩;exact A8.ck rfl
 .have e:k=c.nodes.length:=om
  subst e;refine A9 TS ?_;with_reducible repeat' first|constructor|intro hc
  exact zE
abbrev Jb:BF:=[0,1,2,3,4,28,33,109]
theorem iH(c:Calls)(hl:∀x∈c.op,Ay x.BD)(hn:c.op.length<=9223372036854775807):yS 54 [c.d] (.b (Bw c)):=by
 obtain⟨id,Ad,op⟩:=c;replace hl:∀x∈op,Ay x.BD:=hl;replace hn:op.length<=9223372036854775807:=hn;refine zF AE Tryz.func54 ?_;unfold Calls.d Calls.A4
 cases hh:Px ⟨id,Ad,op⟩with
 |false=>
  have hT:Bw ⟨id,Ad,op⟩=false:=by unfold Bw;rw[hh];rfl
  refine A9 Jb ?_;repeat'(apply zB<;>intro hc)
  all_goals first
   |(refine⟨_,_,rfl,rfl,?_⟩;simp only[C7];rw[hT];done)
   |(exfalso;simp[Px,BV]at hh;omega)
 |true=>
 have hT:Bw ⟨id,Ad,op⟩=FK op.length (J8 ⟨id,Ad,op⟩):=by unfold Bw;rw[hh];rfl
 simp only[Px,BV,zO,zW]at hh;obtain⟨⟨h1,h2⟩,h3,h4,h5⟩:=hh;have f1:decide (id<0)=false:=zQ om;have f2:decide (id>=65536)=false:=zQ om;have f3:decide (Ad<0)=false:=zQ om;have f4:decide (Ad>1048576)=false:=zQ om;have f5:decide ((op.length:Int)>16)=false:=zQ om;refine Aj Jb ?_ (TT f1 f2 f3 f4 f5);refine C4 (fun k=>k<=op.length/\FK k (J8 ⟨id,Ad,op⟩)=true) (fun k:Nat=>[(3,.yO k)]) (fun k=>op.length-k) 0 ⟨zi _,rfl⟩ (fun _=>rfl) ?_ ?_
 .exact A8.ck rfl
 rintro k ⟨hk,hpre⟩
 by_cases hkl:k<op.length
 .obtain⟨x,hx⟩:=Ah hkl;have gx:op.getD k KY=x:=getD_at hx;have c1:=Wi.T3 x.BD;have c2:=Wi.PV x.BD (lm (hl x (q00 hx)));have c3:=oE x.CZ;have hK:J8 ⟨id,Ad,op⟩ k=((x.BD.right&&(x.BD.BY&&(decide (x.BD.B8=id)&&(decide (x.id=x.BD.Ae)&&(decide (x.id<=id*1048576+Ad)&&(decide (1<=x.BQ)&&(decide (x.BQ<=3)&&DG x.CZ)))))))&&decide (k=0\/(op.getD (k-1) KY).id<x.id)):=by unfold J8 Ef;rw[gx]
  unfold AF.d AF.A4 at c1 c2;generalize x.BD.right=rr at *;generalize x.BD.BY=aa at *;generalize DG x.CZ=tt at *;generalize J8 ⟨id,Ad,op⟩=K at*
  by_cases h0:k=0
  .have f6:decide ((k:Int)>0)=false:=zQ om;have ix1:=hx;refine AJ Jb ?_ (AK f6) (CP @c1 @c2 @c3);clear ix1;with_reducible repeat' first|constructor|intro hc
   all_goals clear c1 c2 c3
   all_goals first
    |(refine⟨k+1,⟨hkl,DZ hpre (by rw[hK];grind)⟩,om,zN _,?_⟩
      exact A8.ck rfl)
    |(refine⟨_,_,rfl,rfl,?_⟩;simp only[C7];rw[hT,FL hkl (by rw[hK];grind)])
  .have f6:decide ((k:Int)>0)=true:=zU om;have e1:(k:Int)-1=((k-1:Nat):Int):=om
   obtain⟨y,hy⟩:=Ah (xs:=op) (k:=k-1) om;have gy:op.getD (k-1) KY=y:=getD_at hy;rw[gy]at hK;have ix1:=hx;have ix2:=hy;refine AJ Jb ?_ (Au f6 e1) (CP @c1 @c2 @c3);clear ix2 ix1;with_reducible repeat' first|constructor|intro hc
   all_goals clear c1 c2 c3
   all_goals first
    |(refine⟨k+1,⟨hkl,DZ hpre (by rw[hK];grind)⟩,om,zN _,?_⟩
      exact A8.ck rfl)
    |(refine⟨_,_,rfl,rfl,?_⟩;simp only[C7];rw[hT,FL hkl (by rw[hK];grind)])
 .have e:k=op.length:=om
  subst e;rw[hpre]at hT;refine A9 Jb ?_;with_reducible repeat' first|constructor|intro hc
  exact BW hT
end Nd
end Go.Proofs.YtamjpnmjpponpaaGreatDoor
namespace Go.Proofs.YtamjpnmjpponpaaGreatDoor
namespace Bg
open Go.Gar
open Nd (B0)
abbrev OI:BF:=[0,1,2,6,7,8,9,14,15,16,17,18,30]
theorem lE(a b:AL):yS 98 [.by a,.by b] (.b (a==b)):=by
 refine zF AE Tryz.func98 ?_;refine A9 [0,1,4] ?_;exact zE
theorem YV(x y:B0):yS 97 [x.d,y.d] (.b (decide (x=y))):=by
 obtain⟨n1,l1,c1⟩:=x;obtain⟨n2,l2,c2⟩:=y;refine zF AE Tryz.func97 ?_;refine AO [0,1,2,3,4] ?_ (AK (lE l1 l2));repeat'(apply zB<;>intro hc)
 all_goals(refine⟨_,_,rfl,rfl,?_⟩;simp_all[Cw])
 exact(Dp _ _).symm
theorem Uy(xs ys:List B0)(hl:xs.length<1000000):yT 96 [.d (Ab xs),.d (Ab ys),.fn (.func 97) [] []] [] (.yP (decide (xs=ys))) []:=by
 refine zD AE Tryz.func96 ?_
 by_cases heq:xs.length=ys.length
 .have e1:((xs.length:Int)!=(ys.length:Int))=false:=by rw[bne_eq_false_iff_eq];omega
  refine Aj OI ?_ (AK e1);refine BX (fun k=>k<=xs.length/\xs.take k=ys.take k) (fun k:Nat=>⟨[(1,.d (Ab ys)),(2,.fn (.func 97) [] []),(6,.yP false),(15,.d (Ab xs)),(16,.yO xs.length),(17,.yO k)],[],32⟩) (fun k=>xs.length-k) 0 ⟨zi _,sm⟩ ?_ (zN _) ?_
  .exact A8.ck rfl
  rintro k ⟨hk,hpre⟩
  by_cases hkl:k<xs.length
  .obtain⟨x,hx⟩:=Ah hkl;obtain⟨y,hy⟩:=Ah (xs:=ys) (k:=k) om
   by_cases hxy:x=y
   .have ix1:=hx;have ix2:=hy;refine AJ OI ?_ (AK (zU hxy)) (AK (YV x y));clear ix2 ix1;with_reducible repeat' first|constructor|intro hc
    refine⟨k+1,⟨hkl,by rw[q1S,q1S,hpre,hx,hy,hxy]⟩,om,zN _,?_⟩;exact A8.ck rfl
   .have hne:¬xs=ys:=fun e=>by subst e;rw[hx]at hy;cases hy;exact hxy rfl
    rw[zQ hne];have ix1:=hx;have ix2:=hy;refine AJ OI ?_ (AK (zQ hxy)) (AK (YV x y));clear ix2 ix1;with_reducible repeat' first|constructor|intro hc
    exact wE
  .have e:k=xs.length:=om
   subst e;have hE:xs=ys:=by rw[q06,heq,q06]at hpre;exact hpre
   rw[zU hE];refine A9 OI ?_;with_reducible repeat' first|constructor|intro hc
   exact wE
 .have e1:((xs.length:Int)!=(ys.length:Int))=true:=by rw[bne_iff_ne];omega
  have hne:¬xs=ys:=fun e=>heq (by rw[e]);rw[zQ hne]
  refine Aj OI ?_ (AK e1);exact wE
theorem sA(a b:Du)(hl:a.grams.length<1000000):yS 38 [a.d,b.d] (.b (decide (a=b))):=by
 obtain⟨xs,n⟩:=a;obtain⟨ys,m⟩:=b;refine zF AE Tryz.func38 ?_;refine Ax [0,1,2,3,4] ?_ (BJ [] (Uy xs ys hl));repeat'(apply zB<;>intro hc)
 all_goals(refine⟨_,_,rfl,rfl,?_⟩;simp_all[Cw])
end Bg
end Go.Proofs.YtamjpnmjpponpaaGreatDoor
namespace Go.Proofs.YtamjpnmjpponpaaGreatDoor
open Go Go.Gar Go.RowKit
theorem own:ownKnob Tryz.prog.godebug=none:=by kernel_rfl
theorem laidOut:laidOutB Tryz.prog=true:=by kernel_rfl
theorem jt{a b:Bool}(h:a=true)(k:b=true):(a&&b)=true:=by rw[h,k];rfl
theorem dQ{X:Type}(f:X->yp):∀{es:List (yp)},(∀e∈es,∃x,e=f x)->∃l:List X,es=l.map f
 |[],_=>⟨[],rfl⟩
 |e::r,h=>by
  obtain⟨x,rfl⟩:=h e (q0J ..);obtain⟨l,rfl⟩:=dQ f (fun e he=>h e (q0P _ he));exact⟨x::l,rfl⟩
theorem ic{e:yp}(h:Ed [.int .u8,.int .i64,.int .i64,.int .i64,.by,.str,.int .i64,.int .i64,.bool] e):∃x:Nd.Step,e=x.A4:=by
 obtain⟨_,_,rfl,⟨x0,rfl,w0⟩,h⟩:=h;obtain⟨_,_,rfl,⟨x1,rfl,w1⟩,h⟩:=h;obtain⟨_,_,rfl,⟨x2,rfl,w2⟩,h⟩:=h;obtain⟨_,_,rfl,⟨x3,rfl,w3⟩,h⟩:=h;obtain⟨_,_,rfl,⟨x4,rfl,w4⟩,h⟩:=h;obtain⟨_,_,rfl,⟨x5,rfl,w5⟩,h⟩:=h;obtain⟨_,_,rfl,⟨x6,rfl,w6⟩,h⟩:=h;obtain⟨_,_,rfl,⟨x7,rfl,w7⟩,h⟩:=h;obtain⟨_,_,rfl,⟨x8,rfl⟩,h⟩:=h;cases h;exact⟨⟨x0,x1,x2,x3,x4,⟨x5,x6,x7,x8⟩⟩,rfl⟩
theorem tM{d:D}(h:UM T.get 22 d):∃l,d= .is l/\l.length<=9223372036854775807:=by
 obtain⟨s,hs,h⟩:=h;cases hs;obtain⟨l,rfl,w,_⟩:=h;exact⟨l,rfl,w⟩
theorem YH{d:D}(h:UM T.get 23 d):∃l,d=Nd.stepsD l/\l.length<=9223372036854775807:=by
 obtain⟨s,hs,h⟩:=h;cases hs;obtain⟨es,rfl,w,v⟩:=h;obtain⟨l,rfl⟩:=dQ Nd.Step.A4 (fun e he=>ic (v e he));exact⟨l,rfl,by rw[q08]at w;exact w⟩
theorem vE{d:D}(h:UM T.get 3 d):∃n,d= .yX n:=by
 obtain⟨s,hs,h⟩:=h;cases hs;obtain⟨n,rfl,_⟩:=h;exact⟨n,rfl⟩
abbrev eJ:Ai:=[1,2,4,8,16,32,64,128,256,512,1024,2048,4096,8192,16384,32768]
abbrev Vw:List (Ai):=[[0,0],[1,1],[1,2],[3,3]]
abbrev L1:List (String×DataW Unit):=[("garland/arc.starts", Rows.laid_garland_arc_starts), ("garland/wait.waits", Rows.laid_garland_wait_waits), ("garland/stab.rounds", Rows.laid_garland_stab_rounds)]
theorem cj:Tryz.prog.globalNamed "garland/arc.starts" =some 0:=by kernel_rfl
theorem VG:Tryz.prog.globalNamed "garland/stab.rounds" =some 1:=by kernel_rfl
theorem mE:Tryz.prog.globalNamed "garland/wait.waits" =some 2:=by kernel_rfl
theorem vX:(Tryz.prog.globals[2]?).map (·.type)=some 408:=by kernel_rfl
theorem sS:(Tryz.prog.globals[0]?).map (·.type)=some 43:=by kernel_rfl
theorem sR:(Tryz.prog.globals[1]?).map (·.type)=some 383:=by kernel_rfl
variable {W:World}
theorem ib(h:laidMet Tryz.prog L1 W)(k:Nat)(hk:k<16):W.cell? ⟨0,k,none⟩=some (.int .i64 (eJ.getD k 0)):=by
 have hT:Lib.TabIs Tryz.prog W "garland/arc.starts" .i64 eJ:=Lib.tabIs_of_head cj sS Tryz.underlying43 Tryz.underlying3 (by kernel_rfl) (by kernel_rfl) h
 exact hT.cell cj k hk
theorem iK(h:laidMet Tryz.prog L1 W)(i:Nat)(hi:i<4):W.cell? ⟨1,2*i,none⟩=some (.int .u8 ((Vw.getD i []).getD 0 0))/\W.cell? ⟨1,2*i+1,none⟩=some (.int .u8 ((Vw.getD i []).getD 1 0)):=by
 obtain⟨g, t, cs, fuel, p, hg, hty, hvar, hd⟩:=Lib.laidMet.reads h (n:= "garland/stab.rounds") (d:=Rows.laid_garland_stab_rounds) sm
 obtain rfl:=q1E (VG.symm.trans hg);obtain rfl:=q1E (sR.symm.trans hty);have hce:Tryz.prog.cellsOf 382=2:=by kernel_rfl
 have hc5:Tryz.prog.cellsOf 5=1:=by kernel_rfl
 obtain⟨fuel',d,q,hdi,he⟩:=Lib.array_elem Tryz.underlying383 hd i hi
 have hds:([[0,0],[1,1],[1,2],[3,3]]:List (Ai))[i]?.map (fun l=>(DataW.agg (l.map fun z=> .lit (.int .u8 z)):DataW Unit))=some d:=by
  rw[<-hdi,<-q0G];rfl
 obtain⟨zs,hz,rfl⟩:=q0F.1 hds;rw[hce]at he
 have hcs:=Lib.ints_of_struct Tryz.underlying382 (fun j f hj=>by
  match j,hj with
  |0,hj=>simp at hj;subst hj;exact⟨Tryz.underlying5,rfl,hc5⟩
  |1,hj=>simp at hj;subst hj;exact⟨Tryz.underlying5,rfl,hc5⟩
  |j+2,hj=>simp at hj) (by rw[hce];rfl) he
 have e0:=congrArg (·[0]?) hcs;have e1:=congrArg (·[1]?) hcs
 have hzl:zs.length=2:=by
  have:i=0\/i=1\/i=2\/i=3:=om
  rcases this with rfl|rfl|rfl|rfl<;>(cases hz;rfl)
 have hzr:Vw.getD i []=zs:=by rw[zo,hz];rfl
 rw[hzr];clear hzr hds hdi hz he
 obtain⟨a,b,rfl⟩:∃a b,zs=[a,b]:=by
  match zs,hzl with
  |[a,b],_=>exact⟨a,b,rfl⟩
 simp only[q0Y,q0i]at e0 e1
 .constructor
  .rw[World.var?_cell VG hvar (2*i),<-q1M];simpa[Nat.mul_comm]using e0
  .rw[World.var?_cell VG hvar (2*i+1),<-q1M];simpa[Nat.mul_comm]using e1
theorem pD(h:laidMet Tryz.prog L1 W)(k:Nat)(hk:k<3):W.cell? ⟨2,k,none⟩=some (.int .i64 (([1,2,4]:Ai).getD k 0)):=by
 have h1:laidMet Tryz.prog [("garland/wait.waits", Rows.laid_garland_wait_waits)] W:=laidMet.filter (fun p=>p.1== "garland/wait.waits") h
 have hT:Lib.TabIs Tryz.prog W "garland/wait.waits" .i64 [1, 2, 4]:=Lib.tabIs_of_head mE vX Tryz.underlying408 Tryz.underlying3 (by kernel_rfl) (by kernel_rfl) h1
 exact hT.cell mE k hk
theorem TK(h:laidMetH Tryz.prog L1 W):sj (Gt W):=by
 rw[MakeChecks.laidMetH_plain _ _ _ (by kernel_rfl)]at h;intro b k v hv;unfold W4 oW at hv;show W.cell? ⟨b,k,none⟩=some v
 match b,hv with
 |0,hv=>
  have hk:k<16:=by
   have:=(zS.1 hv).1;simpa using this
  rw[ib h k hk];have:k=0\/k=1\/k=2\/k=3\/k=4\/k=5\/k=6\/k=7\/k=8\/k=9\/k=10\/k=11\/k=12\/k=13\/k=14\/k=15:=om
  rcases this with rfl|rfl|rfl|rfl|rfl|rfl|rfl|rfl|rfl|rfl|rfl|rfl|rfl|rfl|rfl|rfl<;>(cases hv;rfl)
 |1,hv=>
  have hk:k<8:=by
   have:=(zS.1 hv).1;simpa using this
  have h4:=iK h (k/2) om;have:k=0\/k=1\/k=2\/k=3\/k=4\/k=5\/k=6\/k=7:=om
  rcases this with rfl|rfl|rfl|rfl|rfl|rfl|rfl|rfl<;>(cases hv;first|exact h4.1|exact h4.2)
 |2,hv=>
  have hk:k<3:=by
   have:=(zS.1 hv).1;simpa using this
  rw[pD h k hk];have:k=0\/k=1\/k=2:=om
  rcases this with rfl|rfl|rfl<;>(cases hv;rfl)
 |b+3,hv=>cases hv
theorem U8{P:Program}(h:P.funcs.any Func.goes=false)(s:String):P.goesFrom s=false:=by
 unfold Program.goesFrom
 cases P.funcNamed s with
 |none=>rfl
 |some f=>
  show P.goes f=false;unfold Program.goes;rw[h,q0v,Bool.or_false];rw[Array.any_eq_false]at h
  have AI:∀g:FuncId,(P.funcs[g]?).any Func.goes=false:=fun g=>by
   cases hg:P.funcs[g]? with
   |none=>rfl
   |some fn=>
    obtain⟨hlt,e⟩:=q03.1 hg;have:=h g hlt;rw[e]at this;simpa using this
  simp[AI]
theorem SD:Tryz.pinned.checked.prog.funcs.any Func.goes=false:=by kernel_rfl
theorem door_met(os:Os)(args:yi):laidMetH Tryz.prog L1 ((World.doorLaid Tryz.prog 27 os).forCall (fun _ _=>0) ⟨#[],args,[]⟩).memory:=
 laidMetH_of_parts3 (fuel:=8) (laidMet_of_run' 8 (by kernel_rfl) (by kernel_rfl)) (by kernel_rfl) (by kernel_rfl)
end Go.Proofs.YtamjpnmjpponpaaGreatDoor
