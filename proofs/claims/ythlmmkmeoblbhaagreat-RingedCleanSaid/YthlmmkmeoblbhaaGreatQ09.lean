/- Part 9 of a proof. Conditions: those that its theorems state. -/
import Derived.Test.YthlmmkmeoblbhaaGreatQ08
set_option linter.unusedSimpArgs false
set_option linter.unusedVariables false
set_option linter.unnecessarySimpa false
set_option maxHeartbeats 40000000
set_option maxRecDepth 4000
namespace Go.Proofs.YthlmmkmeoblbhaaGreat
namespace Wi
open Go.Gar
theorem kW(n c:Int):yA 117 [.ifc 153 (.agg #[.int .i64 n]),.yE c] (.yE n):=by
 refine zF AK Tryz.func117 ?_;refine A9 [0,1,4,5,6,12] ?_;exact zE
theorem eu.at{P:Program}{f:FuncId}{args:yq}{H:yz}{u:FrameMode}{H':yz}(ids:BK)(h:eu P f args H u H'){xs:yq}{H2 H3:yz}(hx:AV.Dv (rn ids H2.length) args=xs)(hn:nodupB ids=true)(hm:Dg (rn ids H2.length) H2 ids H)(ho:Ai H.length H=true)(ha:AV.oks H.length args=true)(hH:Jy ids H2 (E4 (rn ids H2.length) H')=H3):eu P f xs H2 u H3:=by
 subst hx;subst hH;exact h.ren ids hn hm ho ha
def Ei(m:AE):AT:=Ad [m.AG,m.AW,m.Ax,m.dst]++DI m
theorem GK{n:Int}(h:0<=n/\n<=1099511627776):fits n=true:=by simp[fits];omega
theorem DG{n:Int}(h:BE n=true):fits n=true:=GK (by have:=Fv h;omega)
theorem Y1{n:Int}(h:isVal n=true):fits n=true:=GK (by simp[isVal]at h;omega)
variable {x:AL}
theorem KB(h:Ay x=true):x.AH.length<=255/\fits x.BD=true/\fits x.Aa=true:=by
 simp only[Ay,yU]at h;refine⟨?_,Y1 h.1.2,Y1 h.2⟩;have:=h.1.1;simp[C2]at this;omega
variable {m:AE}
theorem J6(h:m.right=true):(1<=m.AG/\m.AG<13)/\(BE m.Ax=true/\BE m.dst=true)/\m.Ax≠m.dst/\(m.asker*1048576+1<=m.AW/\m.AW<m.asker*1048576+1+1048576)/\m.bare=m.empty/\m.has=true:=by
 simp only[AE.right,AE.JK,yU,yc]at h;obtain⟨⟨⟨⟨⟨⟨⟨h1,h2⟩,h3⟩,h4⟩,h5⟩,h6⟩,h7⟩,h8,h9⟩:=h;exact⟨⟨h1,h2⟩,⟨h3,h4⟩,h5,⟨h6,h7⟩,h8,h9⟩
variable {l:Ao}
theorem OO{s:Int}(h:F7 l s=true):l.length<=3/\l.all fits=true:=by
 simp only[F7,Fu,yU,yc]at h;refine⟨h.2,?_⟩;rw[q0I]at *;intro x hx;have:=h.1.1 x hx;simp only[yU]at this;exact DG this.1
theorem Qk(h:m.right=true):0<=m.asker/\m.asker<65536:=by
 obtain⟨_,⟨h1,h2⟩,_⟩:=J6 h;unfold AE.asker;split
 .exact Fv h1
 .exact Fv h2
abbrev IG:BK:=[0,2,3,4,5]
def TN(m:AE):AT×Int:=if m.right then(Ei m,0)else([],2)
def rH(b:AT):yz:=[.c [.d (.by b)]]
def DL(b:AT):Option (Nat×AT):=if(Bb b).2.2=0 then some ((Bb b).1,(Bb b).2.1)else none
def Gb(b:AT):Option (Bool×AT):=match DL b with
 |some (n,r)=>if n>1 then none else some (n==1,r)
 |none=>none
def J4(b:AT):Option (AT×AT):=if(B7 b).2.2=0 then some ((B7 b).1,(B7 b).2.1)else none
def Kj(b:AT):Option (Ao×AT):=if(BM b).2.2=0 then some ((BM b).1,(BM b).2.1)else none
def Hr(b:AT):Option (AL×AT):=match J4 b with
 |none=>none
 |some (k,b1)=>match DL b1 with
  |none=>none
  |some (v,b2)=>match DL b2 with
   |none=>none
   |some (n,b3)=>match Gb b3 with
    |none=>none
    |some (g,b4)=>some (⟨k,v,n,g⟩,b4)
variable {b r:AT}{n:Nat}
theorem Je(h:DL b=some (n,r)):Bb b=(n,r,0):=by
 unfold DL at h;split at h
 .rename_i e;cases h;rw[<-e]
 .cases h
theorem VB(h:DL b=none):(Bb b).2.2≠0:=by
 unfold DL at h;split at h
 .cases h
 .assumption
variable {s:AT}
theorem NO(h:J4 b=some (s,r)):B7 b=(s,r,0):=by
 unfold J4 at h;split at h
 .rename_i e;cases h;rw[<-e]
 .cases h
theorem bD(h:J4 b=none):(B7 b).2.2≠0:=by
 unfold J4 at h;split at h
 .cases h
 .assumption
theorem NN(h:Kj b=some (l,r)):BM b=(l,r,0):=by
 unfold Kj at h;split at h
 .rename_i e;cases h;rw[<-e]
 .cases h
theorem bC(h:Kj b=none):(BM b).2.2≠0:=by
 unfold Kj at h;split at h
 .cases h
 .assumption
theorem IA(b:AT):(Bb b).2.1.length<=b.length:=by
 unfold Bb;split
 .simp
 .repeat' split
  all_goals simp
  omega
theorem BS(h:DL b=some (n,r)):r.length<=b.length:=by
 have:=IA b;rw[Je h]at this;exact this
theorem M9(h:J4 b=some (s,r)):r.length<=b.length:=by
 have e:=NO h;unfold B7 at e;split at e
 .simp at e
 .split at e
  .simp at e
  .simp only[zL]at e;rw[<-e.2.1];simp;omega
theorem Ph{g:Bool}(h:Gb b=some (g,r)):r.length<=b.length:=by
 unfold Gb at h;split at h
 .rename_i n r' e;split at h
  .cases h
  .cases h;exact BS e
 .cases h
theorem Bn(b:AT)(hb:b.length<70368744177664)(n:Nat)(r:AT)(h:DL b=some (n,r)):yB 162 [.ptr 0 0 1] (rH b) (.y5 n) (rH r):=by
 have ht:=Qi b hb;rw[Je h]at ht;unfold Dh at ht;refine zD AK Tryz.func162 ?_;unfold rH;refine AP IG ?_ (B1 @ht (PM 12));exact wE
theorem Dj(b:AT)(hb:b.length<70368744177664)(h:DL b=none):Mz Tryz.prog 162 [.ptr 0 0 1] (rH b) (pF 12) [.gone]:=by
 have ht:=Qi b hb;unfold Dh at ht;have hd:=SG (Bb b).2.2 12 (VB h);refine zX AK Tryz.func162 ?_;unfold rH;have x1:=Ds.mk [] (hd);refine AP IG ?_ (AQ @ht);clear x1;exact⟨rfl,⟨[],[.gone],Tryz.f162.ntmps⟩,(A5.ck rfl),yV _,rfl⟩
theorem X2(b:AT)(hb:b.length<70368744177664)(s r:AT)(h:J4 b=some (s,r)):yB 168 [.ptr 0 0 1] (rH b) (.yC s) (rH r):=by
 have ht:=Q7 b hb;rw[NO h]at ht;unfold Hm at ht;refine zD AK Tryz.func168 ?_;unfold rH;refine AP IG ?_ (B1 @ht (PM 12));exact wE
theorem eg(b:AT)(hb:b.length<70368744177664)(h:J4 b=none):Mz Tryz.prog 168 [.ptr 0 0 1] (rH b) (pF 12) [.gone]:=by
 have ht:=Q7 b hb;unfold Hm at ht;have hd:=SG (B7 b).2.2 12 (bD h);refine zX AK Tryz.func168 ?_;unfold rH;have x1:=Ds.mk [] (hd);refine AP IG ?_ (AQ @ht);clear x1;exact⟨rfl,⟨[],[.gone],Tryz.f168.ntmps⟩,(A5.ck rfl),yV _,rfl⟩
theorem WT(b:AT)(hb:b.length<70368744177664)(l:Ao)(r:AT)(h:Kj b=some (l,r)):yB 170 [.ptr 0 0 1] (rH b) (.yD l) (rH r):=by
 have ht:=Q6 b hb;rw[NN h]at ht;unfold Ij at ht;refine zD AK Tryz.func170 ?_;unfold rH;refine AP IG ?_ (B1 @ht (PM 12));exact wE
theorem rA(b:AT)(hb:b.length<70368744177664)(h:Kj b=none):Mz Tryz.prog 170 [.ptr 0 0 1] (rH b) (pF 12) [.gone]:=by
 have ht:=Q6 b hb;unfold Ij at ht;have hd:=SG (BM b).2.2 12 (bC h);refine zX AK Tryz.func170 ?_;unfold rH;have x1:=Ds.mk [] (hd);refine AP IG ?_ (AQ @ht);clear x1;exact⟨rfl,⟨[],[.gone],Tryz.f170.ntmps⟩,(A5.ck rfl),yV _,rfl⟩
theorem WA(b:AT)(hb:b.length<70368744177664)(g:Bool)(r:AT)(h:Gb b=some (g,r)):yB 164 [.ptr 0 0 1] (rH b) (.y7 g) (rH r):=by
 unfold Gb at h;split at h
 .rename_i n r' hn;split at h
  .cases h
  .rename_i h1;simp only[yh,zL]at h;obtain⟨rfl,rfl⟩:=h;have ht:=Bn b hb n r' hn;have e:((n:Int)==1)=(n==1):=by rw[HA,HA];congr 1;simp;omega
   refine zD AK Tryz.func164 ?_;unfold rH at *;refine GW [0,2,3,7] ?_ (AQ e) (E8 [0] ht);with_reducible repeat' first|constructor|intro hc
   exact wE
 .cases h
theorem W9(b:AT)(hb:b.length<70368744177664)(h:Gb b=none):Mz Tryz.prog 164 [.ptr 0 0 1] (rH b) (pF 12) [.gone]:=by
 unfold Gb at h;refine zX AK Tryz.func164 ?_;split at h
 .rename_i n r' hn;split at h
  .rename_i h1;have ht:=Bn b hb n r' hn;unfold rH at *;refine Cd [0,2,3,7] ?_ (E8 [0] ht);with_reducible repeat' first|constructor|intro hc
   exact⟨rfl,⟨[],[.gone],Tryz.f164.ntmps⟩,(A5.ck rfl),yV _,rfl⟩
  .cases h
 .rename_i hn;have ht:=Dj b hb hn;unfold rH at *;have x1:=Ds.mk [0] (ht);refine A9 [0,2,3,7] ?_;clear x1;exact⟨rfl,⟨[],[.gone],Tryz.f164.ntmps⟩,(A5.ck rfl),yV _,rfl⟩
theorem eH(b:AT)(hb:b.length<70368744177664)(x:AL)(r:AT)(h:Hr b=some (x,r)):yB 166 [.ptr 0 0 1] (rH b) (.d x.d) (rH r):=by
 unfold Hr at h;split at h
 .cases h
 rename_i k b1 h1;split at h
 .cases h
 rename_i v b2 h2;split at h
 .cases h
 rename_i n b3 h3;split at h
 .cases h
 rename_i g b4 h4;simp only[yh,zL]at h;obtain⟨rfl,rfl⟩:=h;have l1:=M9 h1;have l2:=BS h2;have l3:=BS h3;have c1:=X2 b hb k b1 h1;have c2:=Bn b1 om v b2 h2;have c3:=Bn b2 om n b3 h3;have c4:=WA b3 om g b4 h4;refine Bw.drop (K:=[.c [.d (.by b4)],.c [.yC k,.y5 v,.y5 n,.y7 g]]) _ ?_ ⟨.inr rfl,trivial⟩ rfl rfl rfl;refine zD AK Tryz.func166 ?_;unfold rH at *;refine Cd [0,2] ?_ (zd4 [0] c1 [0] c2 [0] c3 [0] c4);exact wE
theorem eF(b:AT)(hb:b.length<70368744177664)(h:Hr b=none):Mz Tryz.prog 166 [.ptr 0 0 1] (rH b) (pF 12) [.gone]:=by
 refine zX AK Tryz.func166 ?_
 cases h1:J4 b with
 |none=>
  have c1:=eg b hb h1;unfold rH at *;have x1:=Ds.mk [0] (c1);refine A9 [0,2] ?_;clear x1;exact⟨rfl,⟨[],[.gone],Tryz.f166.ntmps⟩,(A5.ck rfl),yV _,rfl⟩
 |some p=>
 obtain⟨k,b1⟩:=p;have l1:=M9 h1;have c1:=X2 b hb k b1 h1
 cases h2:DL b1 with
 |none=>
  have c2:=Dj b1 om h2;unfold rH at *;have x1:=Ds.mk [0] (c2);refine Cd [0,2] ?_ (E8 [0] c1);clear x1;exact⟨rfl,⟨[],[.gone],Tryz.f166.ntmps⟩,(A5.ck rfl),yV _,rfl⟩
 |some p=>
 obtain⟨v,b2⟩:=p;have l2:=BS h2;have c2:=Bn b1 om v b2 h2
 cases h3:DL b2 with
 |none=>
  have c3:=Dj b2 om h3;unfold rH at *;have x1:=Ds.mk [0] (c3);refine Cd [0,2] ?_ (QZ [0] c1 [0] c2);clear x1;exact⟨rfl,⟨[],[.gone],Tryz.f166.ntmps⟩,(A5.ck rfl),yV _,rfl⟩
 |some p=>
 obtain⟨n,b3⟩:=p;have l3:=BS h3;have c3:=Bn b2 om n b3 h3
 cases h4:Gb b3 with
 |none=>
  have c4:=W9 b3 om h4;unfold rH at *;have x1:=Ds.mk [0] (c4);refine Cd [0,2] ?_ (vT [0] c1 [0] c2 [0] c3);clear x1;exact⟨rfl,⟨[],[.gone],Tryz.f166.ntmps⟩,(A5.ck rfl),yV _,rfl⟩
 |some p=>
  unfold Hr at h;simp only[h1,h2,h3,h4]at h;cases h
theorem VD(h:Hr b=some (x,r)):r.length<=b.length:=by
 unfold Hr at h;split at h
 .cases h
 rename_i k b1 h1;split at h
 .cases h
 rename_i v b2 h2;split at h
 .cases h
 rename_i n b3 h3;split at h
 .cases h
 rename_i g b4 h4;simp only[yh,zL]at h;obtain⟨rfl,rfl⟩:=h;have l1:=M9 h1;have l2:=BS h2;have l3:=BS h3;have l4:=Ph h4;omega
def GR(m:AE)(b:AT):Option (AE×AT):=match DL b with
 |none=>none
 |some (k,b1)=>if k>=13 then none else match DL b1 with
  |none=>none
  |some (c,b2)=>match DL b2 with
   |none=>none
   |some (s,b3)=>match DL b3 with
    |none=>none
    |some (d,b4)=>some ({m with AG:=k,AW:=c,Ax:=s,dst:=d},b4)
def hH(m:AE)(b:AT):yz:=[.c [.d (.by b)],.c (mC m)]
def uC:yq:=List.replicate 15 .u
theorem WI(m:AE)(b:AT)(hb:b.length<70368744177664)(m':AE)(r:AT)(h:GR m b=some (m',r)):yB 118 [.ptr 0 0 1,.ptr 1 0 15] (hH m b) (.tup []) (hH m' r):=by
 unfold GR at h;split at h
 .cases h
 rename_i k b1 h1;split at h
 .cases h
 rename_i hk;split at h
 .cases h
 rename_i c b2 h2;split at h
 .cases h
 rename_i s b3 h3;split at h
 .cases h
 rename_i d b4 h4;simp only[yh,zL]at h;obtain⟨rfl,rfl⟩:=h;have l1:=BS h1;have l2:=BS h2;have l3:=BS h3;have c1:=Bn b hb k b1 h1;have c2:=Bn b1 om c b2 h2;have c3:=Bn b2 om s b3 h3;have c4:=Bn b3 om d b4 h4;have e:(k:Int)%256=k:=om
 refine zD AK Tryz.func118 ?_;unfold rH hH mC at *;refine GW [0,1,4,8] ?_ (AQ e) (zd4 [0] c1 [0] c2 [0] c3 [0] c4);with_reducible repeat' first|constructor|intro hc
 exact wE
variable {env:yr}
theorem vR{E:Nat->Option Bd}{cs:yq}(hcs:cs.length=15):A5 ⟨env,[.c [.d (.by b)],.c cs],n⟩ ⟨[],[.gone,.c uC],n⟩:=
 (A5.us (S:=⟨env,[.c [.d (.by b)],.c cs],n⟩) 1 15 rfl hcs.symm).trans' (A5.cut (S':=⟨[],[.gone,.c uC],n⟩) rfl trivial ⟨.inl ⟨rfl,rfl⟩,.inr rfl,trivial⟩ rfl rfl) (yV _)
theorem qe(m:AE)(b:AT)(hb:b.length<70368744177664)(h:GR m b=none):Mz Tryz.prog 118 [.ptr 0 0 1,.ptr 1 0 15] (hH m b) (pF 12) [.gone,.c uC]:=by
 refine zX AK Tryz.func118 ?_;unfold GR at h
 cases h1:DL b with
 |none=>
  have c1:=Dj b hb h1;unfold hH rH mC at *;have x1:=Ds.mk [0] (c1);refine A9 [0,1,4,8] ?_;clear x1;exact⟨rfl,_,(A5.us (S:=⟨_,[.gone,.c _],_⟩) 1 15 rfl rfl),yV _,rfl⟩
 |some p=>
 obtain⟨k,b1⟩:=p;rw[h1]at h;simp only at h;have l1:=BS h1;have c1:=Bn b hb k b1 h1;split at h
 .rename_i hk;unfold hH rH mC at *;refine Cd [0,1,4,8] ?_ (E8 [0] c1);with_reducible repeat' first|constructor|intro hc
  exact⟨rfl,_,vR (E:=T.get) rfl,yV _,rfl⟩
 rename_i hk;have e:(k:Int)%256=k:=om
 cases h2:DL b1 with
 |none=>
  have c2:=Dj b1 om h2;unfold hH rH mC at *;have x1:=Ds.mk [0] (c2);refine GW [0,1,4,8] ?_ (AQ e) (E8 [0] c1);clear x1;with_reducible repeat' first|constructor|intro hc
  exact⟨rfl,_,(A5.us (S:=⟨_,[.gone,.c _],_⟩) 1 15 rfl rfl),yV _,rfl⟩
 |some p=>
 obtain⟨c,b2⟩:=p;rw[h2]at h;simp only at h;have l2:=BS h2;have c2:=Bn b1 om c b2 h2
 cases h3:DL b2 with
 |none=>
  have c3:=Dj b2 om h3;unfold hH rH mC at *;have x1:=Ds.mk [0] (c3);refine GW [0,1,4,8] ?_ (AQ e) (QZ [0] c1 [0] c2);clear x1;with_reducible repeat' first|constructor|intro hc
  exact⟨rfl,_,(A5.us (S:=⟨_,[.gone,.c _],_⟩) 1 15 rfl rfl),yV _,rfl⟩
 |some p=>
 obtain⟨s,b3⟩:=p;rw[h3]at h;simp only at h;have l3:=BS h3;have c3:=Bn b2 om s b3 h3
 cases h4:DL b3 with
 |none=>
  have c4:=Dj b3 om h4;unfold hH rH mC at *;have x1:=Ds.mk [0] (c4);refine GW [0,1,4,8] ?_ (AQ e) (vT [0] c1 [0] c2 [0] c3);clear x1;with_reducible repeat' first|constructor|intro hc
  exact⟨rfl,_,(A5.us (S:=⟨_,[.gone,.c _],_⟩) 1 15 rfl rfl),yV _,rfl⟩
 |some p=>
  rw[h4]at h;cases h
variable {m':AE}
theorem Pk(h:GR m b=some (m',r)):r.length<=b.length:=by
 unfold GR at h;split at h
 .cases h
 rename_i k b1 h1;split at h
 .cases h
 split at h
 .cases h
 rename_i c b2 h2;split at h
 .cases h
 rename_i s b3 h3;split at h
 .cases h
 rename_i d b4 h4;simp only[yh,zL]at h;obtain⟨rfl,rfl⟩:=h;have l1:=BS h1;have l2:=BS h2;have l3:=BS h3;have l4:=BS h4;omega
def gH(m:AE)(b:AT):yz:=[.c [.ptr 3 0 1],.c [.ptr 2 0 15],.c (mC m),.c [.d (.by b)]]
def gX:yz:=[.gone,.gone,.c uC,.gone]
theorem LG{a b c:yq}(hc:c.length=15):A5 ⟨env,[.c a,.c b,.c c,.gone],n⟩ ⟨[],gX,n⟩:=
 (A5.us (S:=⟨env,[.c a,.c b,.c c,.gone],n⟩) 2 15 rfl hc.symm).trans' (A5.cut (S':=⟨[],gX,n⟩) rfl trivial ⟨.inl ⟨rfl,rfl⟩,.inl ⟨rfl,rfl⟩,.inr rfl,.inr rfl,trivial⟩ rfl rfl) (yV _)
def Gc(m:AE)(b:AT):Option (AE×AT):=
 if m.AG=4 then match DL b with
  |none=>none
  |some (n,b1)=>match Gb b1 with
   |none=>none
   |some (g,b2)=>some ({m with AH:=n,BX:=g},b2)
 else if m.AG=5 then match Hr b with
  |none=>none
  |some (x,b1)=>some ({m with AC:=x},b1)
 else if m.AG=6 then match J4 b with
  |none=>none
  |some (s,b1)=>some ({m with AC:=⟨s,m.AC.BD,m.AC.Aa,m.AC.gone⟩},b1)
 else if m.AG=7 then match DL b with
  |none=>none
  |some (n,b1)=>match Kj b1 with
   |none=>none
   |some (l,b2)=>some ({m with AO:=(n:Int)-1,A8:=l},b2)
 else if m.AG=10 then match DL b with
  |none=>none
  |some (n,b1)=>match Gb b1 with
   |none=>none
   |some (g,b2)=>some ({m with AY:=n,done:=g},b2)
 else if m.AG=11 then match DL b with
  |none=>none
  |some (n,b1)=>some ({m with Ab:=n},b1)
 else if m.AG=12 then match DL b with
  |none=>none
  |some (n,b1)=>if n=0 then(match Hr b1 with
   |none=>none
   |some (x,b2)=>some ({m with Ab:=0,AC:=x},b2))else some ({m with Ab:=n},b1)
 else some (m,b)
theorem Wj(h:DL b=some (n,r)):n<=1099511627776:=by
 have e:=Je h;unfold Bb at e;split at e
 .simp at e
 .split at e
  .simp at e
  .split at e
   .simp at e
   .split at e
    .simp at e
    .rename_i hh;simp only[zL]at e;simp only[not_or]at hh;rw[<-e.1];omega
theorem xQ(m:AE)(b:AT)(hb:b.length<70368744177664)(n:Nat)(b1:AT)(h1:DL b=some (n,b1))(g:Bool)(b2:AT)(h2:Gb b1=some (g,b2)):yB 163 [.ptr 0 0 1,.ptr 1 0 1] (gH m b) (.tup []) (gH {m with AH:=(n:Int),BX:=g} b2):=by
 have c1:=Bn b hb n b1 h1;have c2:=WA b1 (by have:=BS h1;omega) g b2 h2;refine zD AK Tryz.func163 ?_;unfold gH rH mC at *;refine Cd [0,1] ?_ (QZ [3] c1 [3] c2) [(0,3),(0,5),(1,3),(1,5),(1,8),(4,3)];exact wE
theorem uu(m:AE)(b:AT)(hb:b.length<70368744177664)(h1:DL b=none):Mz Tryz.prog 163 [.ptr 0 0 1,.ptr 1 0 1] (gH m b) (pF 12) gX:=by
 have c1:=Dj b hb h1;refine zX AK Tryz.func163 ?_;unfold gH rH mC at *;have x1:=Ds.mk [3] (c1);refine A9 [0,1] ?_ [(0,3),(1,3),(4,3)];clear x1;exact⟨rfl,_,LG rfl,yV _,rfl⟩
theorem uv(m:AE)(b:AT)(hb:b.length<70368744177664)(n:Nat)(b1:AT)(h1:DL b=some (n,b1))(h2:Gb b1=none):Mz Tryz.prog 163 [.ptr 0 0 1,.ptr 1 0 1] (gH m b) (pF 12) gX:=by
 have c1:=Bn b hb n b1 h1;have c2:=W9 b1 (by have:=BS h1;omega) h2;refine zX AK Tryz.func163 ?_;unfold gH rH mC at *;have x1:=Ds.mk [3] (c2);refine Cd [0,1] ?_ (E8 [3] c1) [(0,3),(0,5),(1,3),(1,5),(4,3)];clear x1;exact⟨rfl,_,LG rfl,yV _,rfl⟩
theorem xU(m:AE)(b:AT)(hb:b.length<70368744177664)(n:Nat)(b1:AT)(h1:DL b=some (n,b1))(g:Bool)(b2:AT)(h2:Gb b1=some (g,b2)):yB 171 [.ptr 0 0 1,.ptr 1 0 1] (gH m b) (.tup []) (gH {m with AY:=(n:Int),done:=g} b2):=by
 have c1:=Bn b hb n b1 h1;have c2:=WA b1 (by have:=BS h1;omega) g b2 h2;refine zD AK Tryz.func171 ?_;unfold gH rH mC at *;refine Cd [0,1] ?_ (QZ [3] c1 [3] c2) [(0,3),(0,5),(1,3),(1,5),(1,8),(4,3)];exact wE
theorem v6(m:AE)(b:AT)(hb:b.length<70368744177664)(h1:DL b=none):Mz Tryz.prog 171 [.ptr 0 0 1,.ptr 1 0 1] (gH m b) (pF 12) gX:=by
 have c1:=Dj b hb h1;refine zX AK Tryz.func171 ?_;unfold gH rH mC at *;have x1:=Ds.mk [3] (c1);refine A9 [0,1] ?_ [(0,3),(1,3),(4,3)];clear x1;exact⟨rfl,_,LG rfl,yV _,rfl⟩
theorem v7(m:AE)(b:AT)(hb:b.length<70368744177664)(n:Nat)(b1:AT)(h1:DL b=some (n,b1))(h2:Gb b1=none):Mz Tryz.prog 171 [.ptr 0 0 1,.ptr 1 0 1] (gH m b) (pF 12) gX:=by
 have c1:=Bn b hb n b1 h1;have c2:=W9 b1 (by have:=BS h1;omega) h2;refine zX AK Tryz.func171 ?_;unfold gH rH mC at *;have x1:=Ds.mk [3] (c2);refine Cd [0,1] ?_ (E8 [3] c1) [(0,3),(0,5),(1,3),(1,5),(4,3)];clear x1;exact⟨rfl,_,LG rfl,yV _,rfl⟩
theorem xR(m:AE)(b:AT)(hb:b.length<70368744177664)(x:AL)(b1:AT)(h1:Hr b=some (x,b1)):yB 165 [.ptr 0 0 1,.ptr 1 0 1] (gH m b) (.tup []) (gH {m with AC:=x} b1):=by
 have c1:=eH b hb x b1 h1;obtain⟨xk,xv,xn,xg⟩:=x;unfold AL.d AL.A1 at c1;refine zD AK Tryz.func165 ?_;unfold gH rH mC at *;refine Cd [0,1] ?_ (E8 [3] c1) [(0,2)];exact wE
theorem uw(m:AE)(b:AT)(hb:b.length<70368744177664)(h1:Hr b=none):Mz Tryz.prog 165 [.ptr 0 0 1,.ptr 1 0 1] (gH m b) (pF 12) gX:=by
 have c1:=eF b hb h1;refine zX AK Tryz.func165 ?_;unfold gH rH mC at *;have x1:=Ds.mk [3] (c1);refine A9 [0,1] ?_ [(0,2)];clear x1;exact⟨rfl,_,LG rfl,yV _,rfl⟩
theorem xS(m:AE)(b:AT)(hb:b.length<70368744177664)(s b1:AT)(h1:J4 b=some (s,b1)):yB 167 [.ptr 0 0 1,.ptr 1 0 1] (gH m b) (.tup []) (gH {m with AC:=⟨s,m.AC.BD,m.AC.Aa,m.AC.gone⟩} b1):=by
 have c1:=X2 b hb s b1 h1;refine zD AK Tryz.func167 ?_;unfold gH rH mC at *;refine Cd [0,1] ?_ (E8 [3] c1) [(0,2)];exact wE
theorem ux(m:AE)(b:AT)(hb:b.length<70368744177664)(h1:J4 b=none):Mz Tryz.prog 167 [.ptr 0 0 1,.ptr 1 0 1] (gH m b) (pF 12) gX:=by
 have c1:=eg b hb h1;refine zX AK Tryz.func167 ?_;unfold gH rH mC at *;have x1:=Ds.mk [3] (c1);refine A9 [0,1] ?_ [(0,2)];clear x1;exact⟨rfl,_,LG rfl,yV _,rfl⟩
theorem xT(m:AE)(b:AT)(hb:b.length<70368744177664)(n:Nat)(b1:AT)(h1:DL b=some (n,b1))(l:Ao)(b2:AT)(h2:Kj b1=some (l,b2)):yB 169 [.ptr 0 0 1,.ptr 1 0 1] (gH m b) (.tup []) (gH {m with AO:=(n:Int)-1,A8:=l} b2):=by
 have c1:=Bn b hb n b1 h1;have c2:=WT b1 (by have:=BS h1;omega) l b2 h2;have hn:=Wj h1;refine zD AK Tryz.func169 ?_;unfold gH rH mC at *;refine Cd [0,1] ?_ (E8 [3] c1) [(0,2)] [1];refine Cd [0,1] ?_ (E8 [3] c2) [(0,2)];exact wE
theorem uy(m:AE)(b:AT)(hb:b.length<70368744177664)(h1:DL b=none):Mz Tryz.prog 169 [.ptr 0 0 1,.ptr 1 0 1] (gH m b) (pF 12) gX:=by
 have c1:=Dj b hb h1;refine zX AK Tryz.func169 ?_;unfold gH rH mC at *;have x1:=Ds.mk [3] (c1);refine A9 [0,1] ?_ [(0,2)] [1];clear x1;exact⟨rfl,_,LG rfl,yV _,rfl⟩
theorem uz(m:AE)(b:AT)(hb:b.length<70368744177664)(n:Nat)(b1:AT)(h1:DL b=some (n,b1))(h2:Kj b1=none):Mz Tryz.prog 169 [.ptr 0 0 1,.ptr 1 0 1] (gH m b) (pF 12) gX:=by
 have c1:=Bn b hb n b1 h1;have c2:=rA b1 (by have:=BS h1;omega) h2;have hn:=Wj h1;refine zX AK Tryz.func169 ?_;unfold gH rH mC at *;refine Cd [0,1] ?_ (E8 [3] c1) [(0,2)] [1];have x1:=Ds.mk [3] (c2);refine A9 [0,1] ?_ [(0,2)];clear x1;exact⟨rfl,_,LG rfl,yV _,rfl⟩
theorem xV(m:AE)(b:AT)(hb:b.length<70368744177664)(n:Nat)(b1:AT)(h1:DL b=some (n,b1))  :yB 172 [.ptr 0 0 1,.ptr 1 0 1] (gH m b) (.tup []) (gH {m with Ab:=(n:Int)} b1):=by
 have c1:=Bn b hb n b1 h1;refine zD AK Tryz.func172 ?_;unfold gH rH mC at *;refine Cd [0,1] ?_ (E8 [3] c1) [(0,2)];exact wE
theorem v8(m:AE)(b:AT)(hb:b.length<70368744177664)(h1:DL b=none):Mz Tryz.prog 172 [.ptr 0 0 1,.ptr 1 0 1] (gH m b) (pF 12) gX:=by
 have c1:=Dj b hb h1;refine zX AK Tryz.func172 ?_;unfold gH rH mC at *;have x1:=Ds.mk [3] (c1);refine A9 [0,1] ?_ [(0,2)];clear x1;exact⟨rfl,_,LG rfl,yV _,rfl⟩
theorem xW(m:AE)(b:AT)(hb:b.length<70368744177664)(n:Nat)(b1:AT)(h1:DL b=some (n,b1))(hn:n≠0):yB 173 [.ptr 0 0 1,.ptr 1 0 1] (gH m b) (.tup []) (gH {m with Ab:=(n:Int)} b1):=by
 have c1:=Bn b hb n b1 h1;have f:=eq_false' (show(n:Int)≠0 by omega);refine zD AK Tryz.func173 ?_;unfold gH rH mC at *;refine GW [0,1,11] ?_ (AQ f) (E8 [3] c1) [(0,2)];exact wE
theorem vB(m:AE)(b:AT)(hb:b.length<70368744177664)(h1:DL b=none):Mz Tryz.prog 173 [.ptr 0 0 1,.ptr 1 0 1] (gH m b) (pF 12) gX:=by
 have c1:=Dj b hb h1;refine zX AK Tryz.func173 ?_;unfold gH rH mC at *;have x1:=Ds.mk [3] (c1);refine A9 [0,1,11] ?_ [(0,2)];clear x1;exact⟨rfl,_,LG rfl,yV _,rfl⟩
theorem vE(m:AE)(b:AT)(hb:b.length<70368744177664)(b1:AT)(h1:DL b=some (0,b1))(x:AL)(b2:AT)(h2:Hr b1=some (x,b2)):yB 173 [.ptr 0 0 1,.ptr 1 0 1] (gH m b) (.tup []) (gH {m with Ab:=0,AC:=x} b2):=by
 have c1:=Bn b hb 0 b1 h1;have c2:=eH b1 (by have:=BS h1;omega) x b2 h2;obtain⟨xk,xv,xn,xg⟩:=x;unfold AL.d AL.A1 at c2;refine zD AK Tryz.func173 ?_;unfold gH rH mC at *;refine Cd [0,1,11] ?_ (QZ [3] c1 [3] c2) [(0,2)];exact wE
theorem vD(m:AE)(b:AT)(hb:b.length<70368744177664)(b1:AT)(h1:DL b=some (0,b1))(h2:Hr b1=none):Mz Tryz.prog 173 [.ptr 0 0 1,.ptr 1 0 1] (gH m b) (pF 12) gX:=by
 have c1:=Bn b hb 0 b1 h1;have c2:=eF b1 (by have:=BS h1;omega) h2;refine zX AK Tryz.func173 ?_;unfold gH rH mC at *;have x1:=Ds.mk [3] (c2);refine Cd [0,1,11] ?_ (E8 [3] c1) [(0,2)];clear x1;exact⟨rfl,_,LG rfl,yV _,rfl⟩
def T4(k:Int):Nat:=if k=4 then 163 else if k=5 then 165 else if k=6 then 167 else if k=7 then 169 else if k=10 then 171 else if k=11 then 172 else 173
theorem rL(m:AE)(b:AT)(hb:b.length<70368744177664)(h:Gc m b=none):Mz Tryz.prog (T4 m.AG) [.ptr 0 0 1,.ptr 1 0 1] (gH m b) (pF 12) gX:=by
 unfold Gc at h;unfold T4
 by_cases h4:m.AG=4
 .rw[zN h4]at h|-;split at h
  .rename_i h1;exact uu m b hb h1
  .rename_i n b1 h1;split at h
   .rename_i h2;exact uv m b hb n b1 h1 h2
   .cases h
 rw[zO h4]at h|-
 by_cases h5:m.AG=5
 .rw[zN h5]at h|-;split at h
  .rename_i h1;exact uw m b hb h1
  .cases h
 rw[zO h5]at h|-
 by_cases h6:m.AG=6
 .rw[zN h6]at h|-;split at h
  .rename_i h1;exact ux m b hb h1
  .cases h
 rw[zO h6]at h|-
 by_cases h7:m.AG=7
 .rw[zN h7]at h|-;split at h
  .rename_i h1;exact uy m b hb h1
  .rename_i n b1 h1;split at h
   .rename_i h2;exact uz m b hb n b1 h1 h2
   .cases h
 rw[zO h7]at h|-
 by_cases h10:m.AG=10
 .rw[zN h10]at h|-;split at h
  .rename_i h1;exact v6 m b hb h1
  .rename_i n b1 h1;split at h
   .rename_i h2;exact v7 m b hb n b1 h1 h2
   .cases h
 rw[zO h10]at h|-
 by_cases h11:m.AG=11
 .rw[zN h11]at h|-;split at h
  .rename_i h1;exact v8 m b hb h1
  .cases h
 rw[zO h11]at h|-;split at h
 .split at h
  .rename_i h1;exact vB m b hb h1
  .rename_i n b1 h1;split at h
   .rename_i hn;subst hn;split at h
    .rename_i h2;exact vD m b hb b1 h1 h2
    .cases h
   .cases h
 .cases h
def special(k:Int):Prop:=k=4\/k=5\/k=6\/k=7\/k=10\/k=11\/k=12
theorem du(m:AE)(b:AT)(hb:b.length<70368744177664)(m':AE)(r:AT)(h:Gc m b=some (m',r))(hs:special m.AG):yB (T4 m.AG) [.ptr 0 0 1,.ptr 1 0 1] (gH m b) (.tup []) (gH m' r):=by
 unfold Gc at h;unfold T4
 by_cases h4:m.AG=4
 .rw[zN h4]at h|-;split at h
  .cases h
  .rename_i n b1 h1;split at h
   .cases h
   .rename_i g b2 h2;cases h;exact xQ m b hb n b1 h1 g _ h2
 rw[zO h4]at h|-
 by_cases h5:m.AG=5
 .rw[zN h5]at h|-;split at h
  .cases h
  .rename_i x b1 h1;cases h;exact xR m b hb x _ h1
 rw[zO h5]at h|-
 by_cases h6:m.AG=6
 .rw[zN h6]at h|-;split at h
  .cases h
  .rename_i s b1 h1;cases h;exact xS m b hb s _ h1
 rw[zO h6]at h|-
 by_cases h7:m.AG=7
 .rw[zN h7]at h|-;split at h
  .cases h
  .rename_i n b1 h1;split at h
   .cases h
   .rename_i l b2 h2;cases h;exact xT m b hb n b1 h1 l _ h2
 rw[zO h7]at h|-
 by_cases h10:m.AG=10
 .rw[zN h10]at h|-;split at h
  .cases h
  .rename_i n b1 h1;split at h
   .cases h
   .rename_i g b2 h2;cases h;exact xU m b hb n b1 h1 g _ h2
 rw[zO h10]at h|-
 by_cases h11:m.AG=11
 .rw[zN h11]at h|-;split at h
  .cases h
  .rename_i n b1 h1;cases h;exact xV m b hb n _ h1
 rw[zO h11]at h|-;have h12:m.AG=12:=by unfold special at hs;omega
 rw[zN h12]at h;split at h
 .cases h
 .rename_i n b1 h1;split at h
  .rename_i hn;subst hn;split at h
   .cases h
   .rename_i x b2 h2;cases h;exact vE m b hb b1 h1 x _ h2
  .rename_i hn;cases h;exact xW m b hb n _ h1 hn
theorem LR(m:AE)(b:AT)(hs:¬special m.AG):Gc m b=some (m,b):=by
 unfold special at hs;unfold Gc;rw[zO om,zO om,zO om,zO om,zO om,zO om,zO om]
def ai:z6:=[(.i .u8 4,.fn (.func 163) [] [.ptr 3 0 1,.ptr 2 0 1]),(.i .u8 5,.fn (.func 165) [] [.ptr 3 0 1,.ptr 2 0 1]),(.i .u8 6,.fn (.func 167) [] [.ptr 3 0 1,.ptr 2 0 1]),(.i .u8 7,.fn (.func 169) [] [.ptr 3 0 1,.ptr 2 0 1]),
 (.i .u8 10,.fn (.func 171) [] [.ptr 3 0 1,.ptr 2 0 1]),(.i .u8 11,.fn (.func 172) [] [.ptr 3 0 1,.ptr 2 0 1]),(.i .u8 12,.fn (.func 173) [] [.ptr 3 0 1,.ptr 2 0 1])]
theorem Pp(m:AE)(b:AT):yB 119 [.ptr 0 0 15,.ptr 1 0 1] [.c (mC m),.c [.d (.by b)]] (.mp 4) [.c (mC m),.c [.d (.by b)],.c [.ptr 0 0 15],.c [.ptr 1 0 1],.m ai]:=by
 refine zD AK Tryz.func119 ?_;unfold ai mC;refine A9 [0,1,2,3,4] ?_;exact wE
theorem UM(H:yz):eu Tryz.prog 116 [.ptr 0 0 15,.ptr 1 0 1] H .returning H:=by
 refine UL Tryz.func116 rfl rfl y9 fun c0 cs hu=> ?_;refine Vi (UO ?_)
 refine wO rfl rfl rfl rfl (.inl ⟨by simp[recoverD,hu],rfl,rfl⟩) ?_;refine Sq AK rfl rfl rfl rfl ?_ rfl;refine cv ?_;refine Vi (N7 ?_);refine Kq AK rfl rfl rfl rfl ?_ rfl;refine Kn AK rfl rfl rfl rfl ?_;refine H8 ?_;refine cd rfl (pY ?_);exact⟨.returning,by rw[<-hu],rfl,_,A5.refl _,yV _,rfl⟩
def zC:yq:=[.y8 0,.y5 0,.y5 0,.y5 0,.y5 0,.y7 false,.y7 false,.y5 0,.y5 0,.e0,.yC ([]),.y5 0,.y5 0,.y7 false,.y5 0]
theorem Ge(c0 c1 c2 c3 c4 c5 c6 c7 c8 c9 c10 c11 c12 c13 c14 y:AV)(R:yz)(n:Int):eu Tryz.prog 116 [.ptr 0 0 15,.ptr 1 0 1] (.c [c0,c1,c2,c3,c4,c5,c6,c7,c8,c9,c10,c11,c12,c13,c14]:: .c [y]::R) (.panicking (pF n)) (.c zC:: .c [.y5 n]::R):=by
 have hc:=kW n 12;refine UL Tryz.func116 rfl rfl y9 fun c0 cs hu=> ?_
 refine Vi (UO ?_);refine wO (cs':={c0 with mode:=.panicking [{v:=.iface 153 (.agg #[.int .i64 n]),recovered:=true}]}::cs) rfl rfl rfl rfl (.inr ⟨153,.agg #[.int .i64 n],by simp[recoverD,hu,pF],rfl⟩) ?_;refine Sq AK rfl rfl rfl rfl ?_ rfl;refine cv ?_;refine Vi (N7 ?_);refine Kq AK rfl rfl rfl rfl ?_ rfl;refine Kn AK rfl rfl rfl rfl ?_;refine H8 ?_;refine cd rfl (N7 ?_);refine Kq AK rfl rfl rfl rfl ?_ rfl;refine Kq AK rfl rfl rfl rfl ?_ rfl;refine KF hc rfl rfl rfl rfl (by simp[RQ,Ea,D5]) rfl rfl ?_;refine Kw AK rfl rfl rfl rfl ?_ rfl;refine Kw AK rfl rfl rfl rfl ?_ rfl;refine H8 ?_;exact⟨_,rfl,rfl,_,A5.refl _,yV _,rfl⟩
abbrev EP:BK:=[0,2,3,4,5,6,10,23,34]
def Ed(b:AT):AE×Int:=
 if 46<b.length then(AU,12)else match GR AU b with
 |none=>(AU,12)
 |some (m,r)=>match Gc m r with
  |none=>(AU,12)
  |some (m',r')=>if r'=[]/\m'.right=true then(m',0)else(AU,12)
theorem Ik:∀(k:Nat)(b:AT)(acc:Ao),(Di k b acc).1.length<=k+acc.length/\(Di k b acc).2.1.length<=b.length
 |0,b,acc=>by simp[Di]
 |k+1,b,acc=>by
  simp only[Di];split
  .have ih:=Ik k (Bb b).2.1 (acc++[((Bb b).1:Int)]);have hl:=IA b;simp only[yw,yu,zI]at ih;omega
  .simp
theorem nF(h:Kj b=some (l,r)):l.length<=255/\r.length<=b.length:=by
 have e:=NN h;unfold BM at e;split at e
 .simp at e
 .rename_i m q;have hl:=Ik m.toNat q [];rw[e]at hl;have:=m.toNat_lt;simp only[zI,yu]at hl|-;omega
theorem TL(h:Gc m b=some (m',r))(hl:m.A8.length<=255):m'.A8.length<=255/\r.length<=b.length:=by
 unfold Gc at h;split at h
 .split at h
  .cases h
  .rename_i n b1 h1;split at h
   .cases h
   .rename_i g b2 h2;have:=BS h1;have:=Ph h2;cases h;exact⟨hl,om⟩
 split at h
 .split at h
  .cases h
  .rename_i x b1 h1;have:=VD h1;cases h;exact⟨hl,om⟩
 split at h
 .split at h
  .cases h
  .rename_i x b1 h1;have:=M9 h1;cases h;exact⟨hl,om⟩
 split at h
 .split at h
  .cases h
  .rename_i n b1 h1;split at h
   .cases h
   .rename_i g b2 h2;have:=BS h1;have:=nF h2;cases h;exact⟨this.1,om⟩
 split at h
 .split at h
  .cases h
  .rename_i n b1 h1;split at h
   .cases h
   .rename_i g b2 h2;have:=BS h1;have:=Ph h2;cases h;exact⟨hl,om⟩
 split at h
 .split at h
  .cases h
  .rename_i n b1 h1;have:=BS h1;cases h;exact⟨hl,om⟩
 split at h
 .split at h
  .cases h
  .rename_i n b1 h1;have:=BS h1;split at h
   .split at h
    .cases h
    .rename_i x b2 h2;have:=VD h2;cases h;exact⟨hl,om⟩
   .cases h;exact⟨hl,om⟩
 .cases h;exact⟨hl,om⟩
theorem KL(h:GR AU b=some (m,r)):0<=m.AG/\m.AG<13/\m.A8=[]:=by
 unfold GR at h;split at h
 .cases h
 rename_i k b1 h1;split at h
 .cases h
 split at h
 .cases h
 rename_i c b2 h2;split at h
 .cases h
 rename_i s b3 h3;split at h
 .cases h
 rename_i d b4 h4;simp only[yh,zL]at h;obtain⟨rfl,rfl⟩:=h;exact⟨by show(0:Int)<=(k:Int);omega,by show(k:Int)<13;omega,rfl⟩
abbrev iO:AV:=.tup [.ag zC,.y5 12]
abbrev xz:yz:=[.c zC,.c [.y5 12]]
theorem tZ(b:AT)(h:46<b.length):yB 63 [.d (.by b)] [] iO xz:=by
 refine II (g:=116) (xs:=[.ptr 0 0 15,.ptr 1 0 1]) AK Tryz.func63 rfl rfl y9 ?_;refine Ka AK rfl rfl rfl rfl rfl ?_ rfl;refine Ka AK rfl rfl rfl rfl rfl ?_ rfl;refine H8 ?_;refine Fq AK rfl rfl rfl rfl ?_ rfl;refine Gf rfl rfl rfl rfl rfl rfl ⟨_,Tryz.func116,rfl,rfl⟩ rfl ?_;refine A9 EP ?_;with_reducible repeat' first|constructor|intro hc
 refine⟨_,Ge _ _ _ _ _ _ _ _ _ _ _ _ _ _ _ _ _ 12,?_⟩;exact wE
theorem ta(b:AT)(hb:b.length<=46)(h:GR AU b=none):yB 63 [.d (.by b)] [] iO xz:=by
 have c1:=qe AU b om h;unfold hH at c1;simp only[mC,AU,AN]at c1;refine II (g:=116) (xs:=[.ptr 0 0 15,.ptr 1 0 1]) AK Tryz.func63 rfl rfl y9 ?_;refine Ka AK rfl rfl rfl rfl rfl ?_ rfl;refine Ka AK rfl rfl rfl rfl rfl ?_ rfl;refine H8 ?_;refine Fq AK rfl rfl rfl rfl ?_ rfl;refine Gf rfl rfl rfl rfl rfl rfl ⟨_,Tryz.func116,rfl,rfl⟩ rfl ?_;refine A9 EP ?_ [] [5];with_reducible repeat' first|constructor|intro hc
 refine Av (A5.jW 0 9 (.is []) rfl rfl rfl rfl trivial) sm ?_;have x1:=Ds.mk [2,0] (c1);refine A9 EP ?_;clear x1;refine⟨_,Ge _ _ _ _ _ _ _ _ _ _ _ _ _ _ _ _ _ 12,?_⟩;exact wE
theorem tc(b:AT)(hb:b.length<=46)(m:AE)(r:AT)(h:GR AU b=some (m,r))(h2:Gc m r=none):yB 63 [.d (.by b)] [] iO xz:=by
 have c1:=WI AU b om m r h;have l1:=Pk h;obtain⟨hk1,hk2,hk3⟩:=KL h;have c2:=Pp m r;have c3:=rL m r om h2;have hs:special m.AG:=Classical.byContradiction fun hs=>by rw[LR m r hs]at h2;cases h2
 unfold special at hs;obtain⟨k,c,s,d,ky,sl,dn,pl,pr,l,⟨ik,iv,ir,ig⟩,co⟩:=m;unfold hH at c1;simp only[mC,ai,AU,AN]at *;unfold gH gX at c3;simp only[mC,T4]at c3;refine II (g:=116) (xs:=[.ptr 0 0 15,.ptr 1 0 1]) AK Tryz.func63 rfl rfl y9 ?_;refine Ka AK rfl rfl rfl rfl rfl ?_ rfl;refine Ka AK rfl rfl rfl rfl rfl ?_ rfl;refine H8 ?_;refine Fq AK rfl rfl rfl rfl ?_ rfl;refine Gf rfl rfl rfl rfl rfl rfl ⟨_,Tryz.func116,rfl,rfl⟩ rfl ?_;refine A9 EP ?_ [] [5];with_reducible repeat' first|constructor|intro hc
 refine Av (A5.jW 0 9 (.is []) rfl rfl rfl rfl trivial) sm ?_;clear h h2;rcases hs with rfl|rfl|rfl|rfl|rfl|rfl|rfl
 all_goals(
  simp only[Int.reduceEq,zx,zo]at c3;have x1:=Ds.mk [4,3,0,2] (c3);refine Cd EP ?_ (QZ [2,0] c1 [0,2] c2) [(1,0),(2,0)];clear x1;refine⟨_,Ge _ _ _ _ _ _ _ _ _ _ _ _ _ _ _ _ _ 12,?_⟩
  exact wE )
theorem td(b:AT)(hb:b.length<=46)(m m':AE)(r r':AT)(h:GR AU b=some (m,r))(h2:Gc m r=some (m',r'))(h3:¬(r'=[]/\m'.right=true)):yB 63 [.d (.by b)] [] iO xz:=by
 have c1:=WI AU b om m r h;have l1:=Pk h;obtain⟨hk1,hk2,hk3⟩:=KL h;have c2:=Pp m r;have hl:=TL h2 (by rw[hk3];simp);have cR:=Nk m' om
 by_cases hs:special m.AG
 .have c3:=du m r om m' r' h2 hs;unfold special at hs;obtain⟨k,c,s,d,ky,sl,dn,pl,pr,l,⟨ik,iv,ir,ig⟩,co⟩:=m;obtain⟨k',c',s',d',ky',sl',dn',pl',pr',l',⟨ik',iv',ir',ig'⟩,co'⟩:=m';unfold hH at c1;unfold gH at c3;unfold AE.d AE.A1 at cR;simp only[mC,ai,AU,AN,T4]at *;refine II (g:=116) (xs:=[.ptr 0 0 15,.ptr 1 0 1]) AK Tryz.func63 rfl rfl y9 ?_;refine Ka AK rfl rfl rfl rfl rfl ?_ rfl;refine Ka AK rfl rfl rfl rfl rfl ?_ rfl;refine H8 ?_;refine Fq AK rfl rfl rfl rfl ?_ rfl;refine Gf rfl rfl rfl rfl rfl rfl ⟨_,Tryz.func116,rfl,rfl⟩ rfl ?_;refine A9 EP ?_ [] [5];with_reducible repeat' first|constructor|intro hc
  refine Av (A5.jW 0 9 (.is []) rfl rfl rfl rfl trivial) sm ?_;clear h h2
  by_cases hr:r'=[]
  .subst hr
   have hR:(AE.mk k' c' s' d' ky' sl' dn' pl' pr' l' ⟨ik',iv',ir',ig'⟩ co').right=false:=by
    cases hq:(AE.mk k' c' s' d' ky' sl' dn' pl' pr' l' ⟨ik',iv',ir',ig'⟩ co').right with
    |false=>rfl
    |true=>exact absurd ⟨rfl,hq⟩ h3
   rw[hR]at cR;rcases hs with rfl|rfl|rfl|rfl|rfl|rfl|rfl
   all_goals(
    simp only[Int.reduceEq,zx,zo]at c3;refine Fc EP ?_ (AQ @cR) (vT [2,0] c1 [0,2] c2 [4,3,0,2] c3) [(1,0),(2,0)];refine⟨_,Ge _ _ _ _ _ _ _ _ _ _ _ _ _ _ _ _ _ 12,?_⟩
    exact wE )
  .have hpos:0<r'.length:=List.length_pos_iff.2 hr;rcases hs with rfl|rfl|rfl|rfl|rfl|rfl|rfl
   all_goals(
    simp only[Int.reduceEq,zx,zo]at c3;refine Fc EP ?_ (AQ @cR) (vT [2,0] c1 [0,2] c2 [4,3,0,2] c3) [(1,0),(2,0)];with_reducible repeat' first|constructor|intro hc
    refine⟨_,Ge _ _ _ _ _ _ _ _ _ _ _ _ _ _ _ _ _ 12,?_⟩
    exact wE )
 .rw[LR m r hs]at h2;simp only[yh,zL]at h2;obtain⟨rfl,rfl⟩:=h2;unfold special at hs;obtain⟨k,c,s,d,ky,sl,dn,pl,pr,l,⟨ik,iv,ir,ig⟩,co⟩:=m;unfold hH at c1;unfold AE.d AE.A1 at cR;simp only[mC,ai,AU,AN]at *;have hs:k=0\/k=1\/k=2\/k=3\/k=8\/k=9:=om
  refine II (g:=116) (xs:=[.ptr 0 0 15,.ptr 1 0 1]) AK Tryz.func63 rfl rfl y9 ?_;refine Ka AK rfl rfl rfl rfl rfl ?_ rfl;refine Ka AK rfl rfl rfl rfl rfl ?_ rfl;refine H8 ?_;refine Fq AK rfl rfl rfl rfl ?_ rfl;refine Gf rfl rfl rfl rfl rfl rfl ⟨_,Tryz.func116,rfl,rfl⟩ rfl ?_;refine A9 EP ?_ [] [5];with_reducible repeat' first|constructor|intro hc
  refine Av (A5.jW 0 9 (.is []) rfl rfl rfl rfl trivial) sm ?_;clear h
  by_cases hr:r=[]
  .subst hr
   have hR:(AE.mk k c s d ky sl dn pl pr l ⟨ik,iv,ir,ig⟩ co).right=false:=by
    cases hq:(AE.mk k c s d ky sl dn pl pr l ⟨ik,iv,ir,ig⟩ co).right with
    |false=>rfl
    |true=>exact absurd ⟨rfl,hq⟩ h3
   rw[hR]at cR;rcases hs with rfl|rfl|rfl|rfl|rfl|rfl
   all_goals(
    refine Fc EP ?_ (AQ @cR) (QZ [2,0] c1 [0,2] c2) [(1,0),(2,0)];refine⟨_,Ge _ _ _ _ _ _ _ _ _ _ _ _ _ _ _ _ _ 12,?_⟩
    exact wE )
  .have hpos:0<r.length:=List.length_pos_iff.2 hr;rcases hs with rfl|rfl|rfl|rfl|rfl|rfl
   all_goals(
    refine Fc EP ?_ (AQ @cR) (QZ [2,0] c1 [0,2] c2) [(1,0),(2,0)];with_reducible repeat' first|constructor|intro hc
    refine⟨_,Ge _ _ _ _ _ _ _ _ _ _ _ _ _ _ _ _ _ 12,?_⟩
    exact wE )
abbrev Mi:BK:=[0,2,3,4,5,6,10,23,34]
theorem jh(b:AT)(hb:b.length<=46)(m m':AE)(r:AT)(h:GR AU b=some (m,r))(h2:Gc m r=some (m',[]))(h3:m'.right=true):yB 63 [.d (.by b)] [] (.tup [.d m'.d,.y5 0]) [.c (mC m'),.c [.y5 0]]:=by
 have c1:=WI AU b om m r h;have l1:=Pk h;obtain⟨hk1,hk2,hk3⟩:=KL h;have c2:=Pp m r;have hl:=TL h2 (by rw[hk3];simp);have cR:=Nk m' om;rw[h3]at cR
 by_cases hs:special m.AG
 .have c3:=du m r om m' [] h2 hs;unfold special at hs;obtain⟨k,c,s,d,ky,sl,dn,pl,pr,l,⟨ik,iv,ir,ig⟩,co⟩:=m;obtain⟨k',c',s',d',ky',sl',dn',pl',pr',l',⟨ik',iv',ir',ig'⟩,co'⟩:=m';unfold hH at c1;unfold gH at c3;unfold AE.d AE.A1 at cR|-;simp only[mC,ai,AU,AN,T4]at *;refine II (g:=116) (xs:=[.ptr 0 0 15,.ptr 1 0 1]) AK Tryz.func63 rfl rfl y9 ?_;refine Ka AK rfl rfl rfl rfl rfl ?_ rfl;refine Ka AK rfl rfl rfl rfl rfl ?_ rfl;refine H8 ?_;refine Fq AK rfl rfl rfl rfl ?_ rfl;refine Gf rfl rfl rfl rfl rfl rfl ⟨_,Tryz.func116,rfl,rfl⟩ rfl ?_;refine A9 Mi ?_ [] [5];with_reducible repeat' first|constructor|intro hc
  refine Av (A5.jW 0 9 (.is []) rfl rfl rfl rfl trivial) sm ?_;clear h h2;rcases hs with rfl|rfl|rfl|rfl|rfl|rfl|rfl
  all_goals(
   simp only[Int.reduceEq,zx,zo]at c3;refine Fc Mi ?_ (AQ @cR) (vT [2,0] c1 [0,2] c2 [4,3,0,2] c3) [(1,0),(2,0)];refine⟨_,UM _,?_⟩
   exact wE )
 .rw[LR m r hs]at h2;simp only[yh,zL]at h2;obtain⟨rfl,rfl⟩:=h2;unfold special at hs;obtain⟨k,c,s,d,ky,sl,dn,pl,pr,l,⟨ik,iv,ir,ig⟩,co⟩:=m;unfold hH at c1;unfold AE.d AE.A1 at cR|-;simp only[mC,ai,AU,AN]at *;have hs:k=0\/k=1\/k=2\/k=3\/k=8\/k=9:=om
  refine II (g:=116) (xs:=[.ptr 0 0 15,.ptr 1 0 1]) AK Tryz.func63 rfl rfl y9 ?_;refine Ka AK rfl rfl rfl rfl rfl ?_ rfl;refine Ka AK rfl rfl rfl rfl rfl ?_ rfl;refine H8 ?_;refine Fq AK rfl rfl rfl rfl ?_ rfl;refine Gf rfl rfl rfl rfl rfl rfl ⟨_,Tryz.func116,rfl,rfl⟩ rfl ?_;refine A9 Mi ?_ [] [5];with_reducible repeat' first|constructor|intro hc
  refine Av (A5.jW 0 9 (.is []) rfl rfl rfl rfl trivial) sm ?_;clear h;rcases hs with rfl|rfl|rfl|rfl|rfl|rfl
  all_goals(
   refine Fc Mi ?_ (AQ @cR) (QZ [2,0] c1 [0,2] c2) [(1,0),(2,0)];refine⟨_,UM _,?_⟩
   exact wE )
theorem O5{H:yz}:D5 H iO (.tup [AU.d,.yE 12]):=by
 simp[iO,zC,AU,AN,AE.d,AE.A1,Jz,N4,EA,Ev,C4,RZ,B8,B3,Aq]
theorem pU(b:AT):yA 63 [.by b] (.tup [(Ed b).1.d,.yE (Ed b).2]):=by
 by_cases h0:46<b.length
 .have e:Ed b=(AU,12):=zN h0;rw[e];exact GE (ds:=[.by b]) (tZ b h0) O5
 cases h1:GR AU b with
 |none=>
  have e:Ed b=(AU,12):=by unfold Ed;rw[zO h0,h1]
  rw[e];exact GE (ds:=[.by b]) (ta b om h1) O5
 |some p=>
 obtain⟨m,r⟩:=p
 cases h2:Gc m r with
 |none=>
  have e:Ed b=(AU,12):=by unfold Ed;rw[zO h0,h1];simp only[h2]
  rw[e];exact GE (ds:=[.by b]) (tc b om m r h1 h2) O5
 |some p=>
 obtain⟨m',r'⟩:=p
 by_cases h3:r'=[]/\m'.right=true
 .have e:Ed b=(m',0):=by unfold Ed;rw[zO h0,h1];simp only[h2];rw[zN h3]
  rw[e];obtain⟨rfl,h4⟩:=h3;refine GE (ds:=[.by b]) (jh b om m m' r h1 h2 h4) ?_;simp[Jz,EA,Ev,C4]
 .have e:Ed b=(AU,12):=by unfold Ed;rw[zO h0,h1];simp only[h2];rw[zO h3]
  rw[e];exact GE (ds:=[.by b]) (td b om m m' r r' h1 h2 h3) O5
theorem DY:DL b=some (n,r)↔b=GY n++r/\n<=1099511627776:=by
 constructor
 .intro h;exact V7 (Je h)
 .rintro⟨rfl,hn⟩;unfold DL;rw[VX n r hn];simp
theorem M8:J4 b=some (s,r)↔b=Da s++r/\s.length<=255:=by
 constructor
 .intro h;have e:=NO h;rcases Kk b with⟨s',r',h1,h2,h3⟩|h1
  .rw[h1]at e;simp only[zL,and_true]at e;obtain⟨rfl,rfl⟩:=e;exact⟨h2,h3⟩
  .rw[h1]at e;simp at e
 .rintro⟨rfl,hs⟩;unfold J4 Da;rw[Py s r hs];simp
theorem VA:Kj b=some (l,r)↔b=(UInt8.ofNat l.length::Ad l)++r/\l.length<=255/\l.all fits=true:=by
 constructor
 .intro h;have e:=NN h;rcases Qe b with⟨l',r',h1,h2,h3,h4⟩|⟨e',h1,h2⟩
  .rw[h1]at e;simp only[zL,and_true]at e;obtain⟨rfl,rfl⟩:=e;exact⟨h2,h3,h4⟩
  .rw[h1]at e;simp at e;exact absurd e.2.2 h2
 .rintro⟨rfl,hl,hf⟩;unfold Kj;rw[Us l r hl hf];simp
def uK(b:Bool):Nat:=if b then 1 else 0
theorem Qm(b:Bool):Ez b=(uK b:Nat):=by cases b<;>rfl
theorem M7{g:Bool}:Gb b=some (g,r)↔b=GY (uK g)++r:=by
 constructor
 .intro h;unfold Gb at h;split at h
  .rename_i n r' hn;split at h
   .cases h
   .rename_i h1;simp only[yh,zL]at h;obtain⟨rfl,rfl⟩:=h;obtain⟨e,_⟩:=DY.1 hn;rw[e]
    have:n=uK (n==1):=by
     have:n=0\/n=1:=om
     rcases this with rfl|rfl<;>rfl
    rw[<-this]
  .cases h
 .rintro rfl;unfold Gb;rw[DY.2 ⟨rfl,by cases g<;>decide⟩];cases g<;>rfl
theorem Bh{n:Int}(h:fits n=true):((n.toNat:Nat):Int)=n/\n.toNat<=1099511627776:=by
 simp[fits]at h;omega
theorem EG{n:Int}(h:fits n=true)(r:AT):DL (Ad [n]++r)=some (n.toNat,r):=by
 rw[DY];exact⟨by simp[Ad],(Bh h).2⟩
theorem Pj(g:Bool)(r:AT):Gb (Ad [Ez g]++r)=some (g,r):=by
 rw[M7,Qm];simp[Ad]
theorem TM(x:AL):Cg x=Da x.AH++(Ad [x.BD]++(Ad [x.Aa]++Ad [Ez x.gone])):=by simp[Cg,Ad]
theorem VE(x:AL)(hk:x.AH.length<=255)(hv:fits x.BD=true)(hn:fits x.Aa=true)(r:AT):Hr (Cg x++r)=some (x,r):=by
 unfold Hr;rw[TM,zu,M8.2 ⟨rfl,hk⟩];simp only;rw[zu,EG hv];simp only;rw[zu,EG hn];simp only;rw[Pj];simp only[(Bh hv).1,(Bh hn).1]
theorem VC(h:Hr b=some (x,r)):b=Cg x++r:=by
 unfold Hr at h;split at h
 .cases h
 rename_i k b1 h1;split at h
 .cases h
 rename_i v b2 h2;split at h
 .cases h
 rename_i n b3 h3;split at h
 .cases h
 rename_i g b4 h4;simp only[yh,zL]at h;obtain⟨rfl,rfl⟩:=h;rw[(M8.1 h1).1,(DY.1 h2).1,(DY.1 h3).1,M7.1 h4,TM];simp[Ad,Qm]
theorem gm(m:AE)(hk:0<=m.AG/\m.AG<13)(h1:fits m.AW=true)(h2:fits m.Ax=true)(h3:fits m.dst=true)(r:AT):GR AU (Ad [m.AG,m.AW,m.Ax,m.dst]++r)=some (m.empty,r):=by
 have hkf:fits m.AG=true:=GK om;have e:Ad [m.AG,m.AW,m.Ax,m.dst]++r=Ad [m.AG]++(Ad [m.AW]++(Ad [m.Ax]++(Ad [m.dst]++r))):=by simp[Ad]
 unfold GR;rw[e,EG hkf];simp only;rw[zO om,EG h1];simp only;rw[EG h2];simp only;rw[EG h3];simp only[(Bh hkf).1,(Bh h1).1,(Bh h2).1,(Bh h3).1];rfl
theorem gk(h:GR AU b=some (m,r)):b=Ad [m.AG,m.AW,m.Ax,m.dst]++r/\m=m.empty:=by
 unfold GR at h;split at h
 .cases h
 rename_i k b1 h1;split at h
 .cases h
 split at h
 .cases h
 rename_i c b2 h2;split at h
 .cases h
 rename_i s b3 h3;split at h
 .cases h
 rename_i d b4 h4;simp only[yh,zL]at h;obtain⟨rfl,rfl⟩:=h;refine⟨?_,rfl⟩;rw[(DY.1 h1).1,(DY.1 h2).1,(DY.1 h3).1,(DY.1 h4).1];simp[Ad]
theorem gr(m:AE)(h:m.right=true):Gc m.empty (DI m)=some (m,[]):=by
 obtain⟨_,_,_,_,hb,hh⟩:=J6 h;clear h;obtain⟨k,c,s,d,ky,sl,dn,pl,pr,l,⟨ik,iv,ir,ig⟩,co⟩:=m;unfold Gc DI;simp only[AE.empty]at hb|-;unfold AE.bare AE.has at *;simp only at hb hh
 by_cases h4:k=4
 .subst h4;simp only[zx,AE.mk.injEq,AN,AL.mk.injEq]at hb hh|-;rw[show Ad [ky,Ez sl]=Ad [ky]++(Ad [Ez sl]++[])by simp[Ad],EG (DG hh)];simp only;rw[Pj];simp only[(Bh (DG hh)).1]
  simp_all
 by_cases h5:k=5
 .subst h5;simp only[Int.reduceEq,zo,zx,AE.mk.injEq,AN,AL.mk.injEq]at hb hh|-;obtain⟨a1,a2,a3⟩:=KB hh;rw[show Cg ⟨ik,iv,ir,ig⟩=Cg ⟨ik,iv,ir,ig⟩++[]by simp,VE _ a1 a2 a3]
  simp_all
 by_cases h6:k=6
 .subst h6;simp only[Int.reduceEq,zo,zx,AE.mk.injEq,AN,AL.mk.injEq,yU,yc]at hb hh|-;obtain⟨a1,a2,a3⟩:=KB hh.1;rw[show Da ik=Da ik++[]by simp,M8.2 ⟨rfl,a1⟩]
  simp_all
 by_cases h7:k=7
 .subst h7;simp only[Int.reduceEq,zo,zx,AE.mk.injEq,AN,AL.mk.injEq,yU,q0G,yc]at hb hh|-;obtain⟨b1,b2⟩:=OO hh.2
  have hf:fits (pr+1)=true:=by
   rcases hh.1 with h|h
   .subst h;rfl
   .exact GK (by have:=Fv h;omega)
  rw[EG hf];simp only;rw[show UInt8.ofNat l.length::Ad l=(UInt8.ofNat l.length::Ad l)++[]by simp,VA.2 ⟨rfl,om,b2⟩];simp only[(Bh hf).1];have:pr+1-1=pr:=om
  simp_all
 by_cases h10:k=10
 .subst h10;simp only[Int.reduceEq,zo,zx,AE.mk.injEq,AN,AL.mk.injEq]at hb hh|-;rw[show Ad [pl,Ez dn]=Ad [pl]++(Ad [Ez dn]++[])by simp[Ad],EG (DG hh)];simp only;rw[Pj];simp only[(Bh (DG hh)).1]
  simp_all
 by_cases h11:k=11
 .subst h11;simp only[Int.reduceEq,zo,zx,AE.mk.injEq,AN,AL.mk.injEq,q0G,yc]at hb hh|-;have hf:fits co=true:=by rcases hh with h|h<;>rw[h]<;>rfl
  rw[show Ad [co]=Ad [co]++[]by simp,EG hf];simp only[(Bh hf).1]
  simp_all
 by_cases h12:k=12
 .subst h12;simp only[Int.reduceEq,zo,zx,AE.mk.injEq,AN,AL.mk.injEq,q0G,yU,yc]at hb hh|-;rcases hh with⟨h0,h1⟩|⟨h0,h1⟩
  .subst h0;obtain⟨a1,a2,a3⟩:=KB h1;rw[EG rfl];simp only[zx];rw[show Cg ⟨ik,iv,ir,ig⟩=Cg ⟨ik,iv,ir,ig⟩++[]by simp];simp only[show Int.toNat 0=0 from rfl,zx];rw[VE _ a1 a2 a3]
   simp_all
  .subst h0;rw[EG rfl]
   simp_all
 simp only[h4,h5,h6,h7,h10,h11,h12,zo,AE.mk.injEq]at hb|-
 simp_all
theorem gn(h:Gc m b=some (m',r)):b=DI m'++r/\m'.AG=m.AG/\m'.AW=m.AW/\m'.Ax=m.Ax/\m'.dst=m.dst:=by
 unfold Gc at h
 by_cases h4:m.AG=4
 .rw[zN h4]at h;split at h
  .cases h
  rename_i n b1 h1;split at h
  .cases h
  rename_i g b2 h2;simp only[yh,zL]at h;obtain⟨rfl,rfl⟩:=h;refine⟨?_,rfl,rfl,rfl,rfl⟩;rw[(DY.1 h1).1,M7.1 h2];simp[DI,h4,Ad,Qm]
 rw[zO h4]at h
 by_cases h5:m.AG=5
 .rw[zN h5]at h;split at h
  .cases h
  rename_i x b1 h1;simp only[yh,zL]at h;obtain⟨rfl,rfl⟩:=h;refine⟨?_,rfl,rfl,rfl,rfl⟩;rw[VC h1];simp[DI,h5]
 rw[zO h5]at h
 by_cases h6:m.AG=6
 .rw[zN h6]at h;split at h
  .cases h
  rename_i x b1 h1;simp only[yh,zL]at h;obtain⟨rfl,rfl⟩:=h;refine⟨?_,rfl,rfl,rfl,rfl⟩;rw[(M8.1 h1).1];simp[DI,h6]
 rw[zO h6]at h
 by_cases h7:m.AG=7
 .rw[zN h7]at h;split at h
  .cases h
  rename_i n b1 h1;split at h
  .cases h
  rename_i l b2 h2;simp only[yh,zL]at h;obtain⟨rfl,rfl⟩:=h;refine⟨?_,rfl,rfl,rfl,rfl⟩;have e:((n:Int)-1+1).toNat=n:=om
  rw[(DY.1 h1).1,(VA.1 h2).1];simp[DI,h7,Ad,e]
 rw[zO h7]at h
 by_cases h10:m.AG=10
 .rw[zN h10]at h;split at h
  .cases h
  rename_i n b1 h1;split at h
  .cases h
  rename_i g b2 h2;simp only[yh,zL]at h;obtain⟨rfl,rfl⟩:=h;refine⟨?_,rfl,rfl,rfl,rfl⟩;rw[(DY.1 h1).1,M7.1 h2];simp[DI,h10,Ad,Qm]
 rw[zO h10]at h
 by_cases h11:m.AG=11
 .rw[zN h11]at h;split at h
  .cases h
  rename_i n b1 h1;simp only[yh,zL]at h;obtain⟨rfl,rfl⟩:=h;refine⟨?_,rfl,rfl,rfl,rfl⟩;rw[(DY.1 h1).1];simp[DI,h11,Ad]
 rw[zO h11]at h
 by_cases h12:m.AG=12
 .rw[zN h12]at h;split at h
  .cases h
  rename_i n b1 h1;split at h
  .rename_i hn;subst hn;split at h
   .cases h
   rename_i x b2 h2;simp only[yh,zL]at h;obtain⟨rfl,rfl⟩:=h;refine⟨?_,rfl,rfl,rfl,rfl⟩;rw[(DY.1 h1).1,VC h2];simp[DI,h12,Ad]
  .rename_i hn;simp only[yh,zL]at h;obtain⟨rfl,rfl⟩:=h;refine⟨?_,rfl,rfl,rfl,rfl⟩;rw[(DY.1 h1).1];simp[DI,h12,Ad,hn]
 rw[zO h12]at h;simp only[yh,zL]at h;obtain⟨rfl,rfl⟩:=h;refine⟨?_,rfl,rfl,rfl,rfl⟩;simp[DI,h4,h5,h6,h7,h10,h11,h12]
theorem bj{k:Nat}(h:n<256^k):size n<=k:=by
 rcases q0A k (size n)with h2|h2
 .have:=size_pos.2 h2;rw[Nat.div_eq_of_lt h]at this;omega
 .exact h2
theorem Cf{n:Int}(k:Nat)(h:n<((256^k:Nat):Int)):(GY n.toNat).length<=k+1:=by
 have:size n.toNat<=k:=by
  rcases q0x n.toNat with h0|h0
  .rw[h0];exact q0E (by decide) (yx k)
  .exact bj om
 simp[GY,L8];omega
theorem MA(h:Ay x=true):(Cg x).length<=31:=by
 simp only[Ay,yU,isVal,C2,yc]at h;obtain⟨⟨⟨h1,h2⟩,⟨h3,h4⟩⟩,⟨h5,h6⟩⟩:=h;have a1:=Cf (n:=x.BD) 3 om;have a2:=Cf (n:=x.Aa) 3 om;have a3:=Cf (n:=Ez x.gone) 1 (by cases x.gone<;>decide);simp only[Cg,Da,Ad,yw,yu,zI];omega
theorem gN(h:m.right=true):(DI m).length<=32:=by
 obtain⟨_,_,_,_,_,hh⟩:=J6 h;unfold DI;unfold AE.has at hh
 by_cases h4:m.AG=4
 .rw[zN h4]at hh|-;have:=Fv hh;have a1:=Cf (n:=m.AH) 2 om;have a3:=Cf (n:=Ez m.BX) 1 (by cases m.BX<;>decide);simp only[Ad,yw,zI];omega
 rw[zO h4]at hh|-
 by_cases h5:m.AG=5
 .rw[zN h5]at hh|-;have:=MA hh;omega
 rw[zO h5]at hh|-
 by_cases h6:m.AG=6
 .rw[zN h6]at hh|-;simp only[yU]at hh;have:=hh.1;simp only[Ay,C2,yU,yc]at this;simp only[Da,yu];omega
 rw[zO h6]at hh|-
 by_cases h7:m.AG=7
 .rw[zN h7]at hh|-;simp only[yU,q0G,yc]at hh
  have hp:m.AO+1<16777216:=by
   rcases hh.1 with h|h
   .omega
   .have:=Fv h;omega
  have a1:=Cf (n:=m.AO+1) 3 om;have hL:=OO hh.2
  have hall:∀l:Ao,Fu m.Ax l=true->(Ad l).length<=3*l.length:=by
   intro l
   induction l with
   |nil=>simp[Ad]
   |cons x r ih=>
    intro hr;simp only[Fu,q0j,yU]at hr;have:=Fv hr.1.1;have a2:=Cf (n:=x) 2 om;have:=ih hr.2;simp only[Ad,yw,yu];omega
  have h2:=hh.2;simp only[F7,yU]at h2;have:=hall m.A8 h2.1.1;simp only[Ad,yw,zI,yu];omega
 rw[zO h7]at hh|-
 by_cases h10:m.AG=10
 .rw[zN h10]at hh|-;have:=Fv hh;have a1:=Cf (n:=m.AY) 2 om;have a3:=Cf (n:=Ez m.done) 1 (by cases m.done<;>decide);simp only[Ad,yw,zI];omega
 rw[zO h10]at hh|-
 by_cases h11:m.AG=11
 .rw[zN h11]at hh|-;simp only[q0G,yc]at hh;have a1:=Cf (n:=m.Ab) 1 (by rcases hh with h|h<;>rw[h]<;>decide);simp only[Ad,yw,zI];omega
 rw[zO h11]at hh|-
 by_cases h12:m.AG=12
 .rw[zN h12]at hh|-;simp only[q0G,yU,yc]at hh;rcases hh with⟨h0,h1⟩|⟨h0,h1⟩
  .have:=MA h1;rw[zN h0,h0];have e:(Ad [0]).length=1:=by decide
   simp only[yw];omega
  .rw[zO om,h0]
   decide
 rw[zO h12];simp
theorem LS(h:m.right=true):(Ei m).length<=46:=by
 have hm:=gN h;obtain⟨⟨h1,h2⟩,⟨h3,h4⟩,_,⟨h5,h6⟩,_,_⟩:=J6 h;have ha:=Qk h;have:=Fv h3;have:=Fv h4;have a1:=Cf (n:=m.AG) 1 om;have a2:=Cf (n:=m.AW) 5 om;have a3:=Cf (n:=m.Ax) 2 om;have a4:=Cf (n:=m.dst) 2 om;simp only[Ei,Ad,yw,zI];omega
theorem ZH(h:m.right=true):Ed (Ei m)=(m,0):=by
 have hl:=LS h;obtain⟨⟨h1,h2⟩,⟨h3,h4⟩,_,⟨h5,h6⟩,_,_⟩:=J6 h;have ha:=Qk h;unfold Ed;rw[zO om];unfold Ei;rw[gm m ⟨om,h2⟩ (GK om) (DG h3) (DG h4)];simp only[gr m h,h,and_self,zx]
theorem oI{e:Int}(h:Ed b=(m,e)):(e=0/\m.right=true/\Ei m=b)\/(e=12/\m=AU):=by
 unfold Ed at h;split at h
 .cases h;exact .inr ⟨rfl,rfl⟩
 split at h
 .cases h;exact .inr ⟨rfl,rfl⟩
 rename_i m1 r h1;split at h
 .cases h;exact .inr ⟨rfl,rfl⟩
 rename_i m2 r2 h2;split at h
 .rename_i h3;cases h;refine .inl ⟨rfl,h3.2,?_⟩;obtain⟨e1,e2⟩:=gk h1;obtain⟨g1,g2,g3,g4,g5⟩:=gn h2;unfold Ei;rw[g2,g3,g4,g5,e1,g1,h3.1,q07]
 .cases h;exact .inr ⟨rfl,rfl⟩
end Wi
end Go.Proofs.YthlmmkmeoblbhaaGreat
namespace Go.Proofs.YthlmmkmeoblbhaaGreat
namespace Wi
open Go.Gar
abbrev pat:BitVec 32:=0x741b8cd7#32
def Np(b:Bool):BitVec 32:=if b then 1#32 else 0#32
def Dc(s:BitVec 32)(b:Bool):BitVec 32:=(s<<<1^^^Np b)^^^(if s.getLsbD 31 then pat else 0#32)
def Cw(s:BitVec 32)(l:List Bool):BitVec 32:=l.foldl Dc s
theorem kL(a b:Bool):Np (a ^^ b)=Np a^^^Np b:=by cases a<;>cases b<;>rfl
theorem fR(s t:BitVec 32)(a b:Bool):Dc (s^^^t) (a ^^ b)=Dc s a^^^Dc t b:=by
 have h:((if(s^^^t).getLsbD 31 then pat else 0#32):BitVec 32)=(if s.getLsbD 31 then pat else 0#32)^^^(if t.getLsbD 31 then pat else 0#32):=by
  rw[BitVec.getLsbD_xor];cases s.getLsbD 31<;>cases t.getLsbD 31<;>simp
 unfold Dc;rw[h,kL,BitVec.shiftLeft_xor_distrib]
 ac_rfl
theorem SD:∀(l m:List Bool)(s t:BitVec 32),l.length=m.length->Cw (s^^^t) (List.zipWith (· ^^ ·) l m)=Cw s l^^^Cw t m
 |[],[],s,t,_=>rfl
 |a::l,b::m,s,t,h=>by
  simp only[List.zipWith_cons_cons,Cw,q0c];rw[fR];exact SD l m _ _ (by simpa using h)
 |[],_::_,_,_,h=>by simp at h
 |_::_,[],_,_,h=>by simp at h
theorem Zy{s:BitVec 32}(h:Dc s false=0#32):s=0#32:=by
 have hb:∀i,(Dc s false).getLsbD i=false:=fun i=>by rw[h];simp
 have h0:s.getLsbD 31=false:=by
  have:=hb 0;cases hs:s.getLsbD 31
  .rfl
  .unfold Dc at this;rw[hs]at this;simp[Np]at this;exact absurd this (by decide)
 apply BitVec.eq_of_getLsbD_eq;intro i hi
 by_cases e:i=31
 .subst e;rw[h0];simp
 .have:=hb (i+1);unfold Dc at this;rw[h0]at this;simp[Np,show i+1<32 by omega]at this;simp[BitVec.getLsbD_eq_getElem,hi,this]
theorem SE:∀(j:Nat){s:BitVec 32},Cw s (List.replicate j false)=0#32->s=0#32
 |0,s,h=>h
 |j+1,s,h=>by
  rw[List.replicate_succ]at h;exact Zy (SE j h)
theorem F1(s:BitVec 32)(l m:List Bool):Cw s (l++m)=Cw (Cw s l) m:=by simp[Cw]
theorem Zx(s:BitVec 32)(b:Bool)(h:s.getLsbD 31=false)(i:Nat)(hi:i<32):(Dc s b).getLsbD i=if i=0 then b else s.getLsbD (i-1):=by
 unfold Dc;rw[h]
 by_cases e:i=0
 .subst e;cases b<;>simp[Np]
 .rw[zO e]
  have:(Np b).getLsbD i=false:=by
   cases b
   .simp[Np]
   .simp[Np,BitVec.getLsbD_one,e]
  simp only[BitVec.getLsbD_xor,BitVec.getLsbD_shiftLeft,this];simp[hi,show ¬i<1 by omega]
theorem SB:∀(r:List Bool),r.length<=32->∀i,i<32->(Cw 0#32 r.reverse).getLsbD i=r.getD i false
 |[],_,i,_=>by simp[Cw]
 |b::r,hl,i,hi=>by
  simp only[yu]at hl;have ih:=SB r om;rw[List.reverse_cons,F1];show(Dc (Cw 0#32 r.reverse) b).getLsbD i=_
  have h31:(Cw 0#32 r.reverse).getLsbD 31=false:=by
   rw[ih 31 om,zJ,q0R om];rfl
  rw[Zx _ _ h31 i hi]
  by_cases e:i=0
  .subst e;simp
  .rw[zO e,ih (i-1) om];obtain⟨k,rfl⟩:=Nat.exists_eq_succ_of_ne_zero e;simp
theorem Zt(i j:Nat)(l:List Bool)(hl:l.length<=32)(h:Cw 0#32 (List.replicate i false++l++List.replicate j false)=0#32):∀b∈l,b=false:=by
 have z:∀i,Cw 0#32 (List.replicate i false)=0#32:=by
  intro i
  induction i with
  |zero=>rfl
  |succ i ih=>
   rw[List.replicate_succ];show Cw (Dc 0#32 false) _=_;have:Dc 0#32 false=0#32:=by decide
   rw[this];exact ih
 rw[F1,F1,z]at h;have h:=SE j h;intro b hb;obtain⟨k,hk,rfl⟩:=q0d.1 (List.mem_reverse.2 hb);have hk':k<l.length:=by simpa using hk
 have:=SB l.reverse (by simpa using hl) k om;rw[List.reverse_reverse,h,zJ,yj hk]at this;simpa using this.symm
end Wi
end Go.Proofs.YthlmmkmeoblbhaaGreat
namespace Go.Proofs.YthlmmkmeoblbhaaGreat
namespace Wi
open Go.Gar
abbrev Mc:BK:=[0,1,4,5,10,14]
abbrev Md:BK:=[0,1,4,5,11,14]
def u32(s:BitVec 32):D:=.i .u32 (s.toNat:Int)
theorem wrap_u32(n:Nat):IntKind.wrap .u32 (n:Int)=((BitVec.ofNat 32 n).toNat:Int):=by
 simp[IntKind.wrap,IntKind.bits,IntKind.signed]
theorem xa(s:BitVec 32):IntKind.wrap .u32 ((s.toNat:Int)*2^min 1 IntKind.u32.bits)=((s<<<1).toNat:Int):=by
 have:(s.toNat:Int)*2^min 1 IntKind.u32.bits=((s.toNat*2:Nat):Int):=by simp[IntKind.bits]
 rw[this,wrap_u32];simp[BitVec.toNat_shiftLeft,Nat.shiftLeft_eq]
theorem ofInt32(s:BitVec 32):BitVec.ofInt 32 (s.toNat:Int)=s:=by
 apply BitVec.eq_of_toNat_eq;simp
theorem or1(s:BitVec 32):Cx .or .u32 ((s<<<1).toNat:Int) 1=((s<<<1^^^1#32).toNat:Int):=by
 have h:(s<<<1)|||1#32=s<<<1^^^1#32:=by
  apply BitVec.eq_of_getLsbD_eq;intro i hi;simp only[BitVec.getLsbD_or,BitVec.getLsbD_xor,BitVec.getLsbD_shiftLeft,BitVec.getLsbD_one]
  by_cases e:i=0<;>simp[e]
 unfold Cx;show IntKind.wrap .u32 ((BitVec.ofInt 32 _|||BitVec.ofInt 32 1).toNat:Int)=_;rw[ofInt32,show BitVec.ofInt 32 1=1#32 from by decide,h,wrap_u32];simp
theorem sq(s:BitVec 32):Cx .xor .u32 (s.toNat:Int) 1947962583=((s^^^pat).toNat:Int):=by
 unfold Cx;show IntKind.wrap .u32 ((BitVec.ofInt 32 _^^^BitVec.ofInt 32 1947962583).toNat:Int)=_;rw[ofInt32,show BitVec.ofInt 32 1947962583=pat from by decide,wrap_u32];simp
theorem dX(s:BitVec 32)(h:s.getLsbD 31=true):(s.toNat:Int).fdiv (2^min 31 IntKind.u32.bits)=1:=by
 have:=BitVec.msb_eq_decide s;rw[BitVec.msb_eq_getLsbD_last,h]at this;have hlt:=s.isLt;simp at this;rw[q1I _ (by decide)];simp[IntKind.bits];omega
theorem dW(s:BitVec 32)(h:s.getLsbD 31=false):(s.toNat:Int).fdiv (2^min 31 IntKind.u32.bits)=0:=by
 have:=BitVec.msb_eq_decide s;rw[BitVec.msb_eq_getLsbD_last,h]at this;simp at this;rw[q1I _ (by decide)];simp[IntKind.bits];omega
theorem Xp(s:BitVec 32)(h:s.getLsbD 31=true):Dc s true=(s<<<1^^^1#32)^^^pat:=by unfold Dc;rw[h];simp[Np]
theorem Xo(s:BitVec 32)(h:s.getLsbD 31=true):Dc s false=(s<<<1)^^^pat:=by unfold Dc;rw[h];simp[Np]
theorem Xm(s:BitVec 32)(h:s.getLsbD 31=false):Dc s true=s<<<1^^^1#32:=by unfold Dc;rw[h];simp[Np]
theorem Xl(s:BitVec 32)(h:s.getLsbD 31=false):Dc s false=s<<<1:=by unfold Dc;rw[h];simp[Np]
theorem pX(s:BitVec 32)(b:Bool):yA 161 [u32 s,.b b] (u32 (Dc s b)):=by
 have h1:=xa s;have h2:=or1 s;have h3:=sq (s<<<1);have h4:=sq (s<<<1^^^1#32);refine zF AK Tryz.func161 ?_;cases hs:s.getLsbD 31<;>cases b
 .have h5:=dW s hs;have e:=Xl s hs;refine Ae Mc ?_ (Ll h1 h2 h3 h4 h5);exact BO (yg @u32.eq_1 e)
 .have h5:=dW s hs;have e:=Xm s hs;refine Ae Mc ?_ (Ll h1 h2 h3 h4 h5);exact BO (yg @u32.eq_1 e)
 .have h5:=dX s hs;have e:=Xo s hs;refine Ae Mc ?_ (Ll h1 h2 h3 h4 h5);exact BO (yg @u32.eq_1 e)
 .have h5:=dX s hs;have e:=Xp s hs;refine Ae Mc ?_ (Ll h1 h2 h3 h4 h5);exact BO (yg @u32.eq_1 e)
theorem ZA(s:BitVec 32)(b:Bool):yA 309 [u32 s,.b b] (u32 (Dc s b)):=by
 have h1:=xa s;have h2:=or1 s;have h3:=sq (s<<<1);have h4:=sq (s<<<1^^^1#32);refine zF AK Tryz.func309 ?_;cases hs:s.getLsbD 31<;>cases b
 .have h5:=dW s hs;have e:=Xl s hs;refine Ae Md ?_ (Ll h1 h2 h3 h4 h5);exact BO (yg @u32.eq_1 e)
 .have h5:=dW s hs;have e:=Xm s hs;refine Ae Md ?_ (Ll h1 h2 h3 h4 h5);exact BO (yg @u32.eq_1 e)
 .have h5:=dX s hs;have e:=Xo s hs;refine Ae Md ?_ (Ll h1 h2 h3 h4 h5);exact BO (yg @u32.eq_1 e)
 .have h5:=dX s hs;have e:=Xp s hs;refine Ae Md ?_ (Ll h1 h2 h3 h4 h5);exact BO (yg @u32.eq_1 e)
theorem pW(n:Int):yA 114 [.yE n] (.yE (if n<0\/n>112 then 0 else n+8)):=by
 refine zF AK Tryz.func114 ?_
 by_cases h:n<0\/n>112
 .rw[zN h];refine A9 [0,2,8] ?_;with_reducible repeat' first|constructor|intro hc
  all_goals first|(exfalso;omega)|(refine⟨_,_,rfl,rfl,?_⟩;simp[D5])
 .rw[zO h];refine A9 [0,2,8] ?_;with_reducible repeat' first|constructor|intro hc
  all_goals first|(exfalso;omega)|(refine⟨_,_,rfl,rfl,?_⟩;simp[D5]<;>omega)
theorem o4(n:Int):yA 291 [.yE n] (.yE (if n<0\/n>112 then 0 else n+8)):=by
 refine zF AK Tryz.func291 ?_
 by_cases h:n<0\/n>112
 .rw[zN h];refine A9 [0,2,8] ?_;with_reducible repeat' first|constructor|intro hc
  all_goals first|(exfalso;omega)|(refine⟨_,_,rfl,rfl,?_⟩;simp[D5])
 .rw[zO h];refine A9 [0,2,8] ?_;with_reducible repeat' first|constructor|intro hc
  all_goals first|(exfalso;omega)|(refine⟨_,_,rfl,rfl,?_⟩;simp[D5]<;>omega)
end Wi
end Go.Proofs.YthlmmkmeoblbhaaGreat
namespace Go.Proofs.YthlmmkmeoblbhaaGreat
open Go.Gar
def C9(n:Int):Int:=n%65536
def An(a b:Int):Int:=(b-a)%65536
theorem Gr(n:Int):0<=C9 n/\C9 n<65536:=by unfold C9;omega
theorem dS(a b:Int):0<=An a b/\An a b<65536:=by unfold An;omega
theorem lC(a b:Int):C9 (C9 b-C9 a)=An a b:=by unfold C9 An;omega
theorem uD(n:Int):Cx .and .i64 n 65535=C9 n:=by
 have h1:((BitVec.ofInt 64 n)&&&(BitVec.ofInt 64 65535)).toNat=(n%65536).toNat:=by
  rw[BitVec.toNat_and];have e1:(BitVec.ofInt 64 65535).toNat=2^16-1:=by decide
  rw[e1,Nat.and_two_pow_sub_one_eq_mod,BitVec.toNat_ofInt];omega
 have e:Cx .and .i64 n 65535=IntKind.wrap .i64 (((BitVec.ofInt 64 n)&&&(BitVec.ofInt 64 65535)).toNat:Int):=rfl;rw[e,h1,IntKind.wrap_i64];unfold C9;omega
theorem ej(n:Int):(n.tmod 65536+65536).tmod 65536=C9 n:=by
 have h1:=Int.tmod_lt_of_pos n (show(0:Int)<65536 by decide);have h2:=Int.lt_tmod_of_pos n (show(0:Int)<65536 by decide);rw[q1Z om];unfold C9;have h3:=Int.tmod_add_mul_tdiv n 65536;omega
theorem L1(n:Int):yA 59 [.yE n] (.yE (C9 n)):=by
 have e:=uD n;refine zF AK Tryz.func59 ?_;refine Ae [0,2] ?_ (AQ e);exact zE
theorem P7(a b:Int):yA 113 [.yE a,.yE b] (.yE (An a b)):=by
 have c1:=L1 a;have c2:=L1 b;have c3:=L1 (C9 b-C9 a);rw[lC]at c3;have h1:=Gr a;have h2:=Gr b;refine zF AK Tryz.func113 ?_;refine AP [0,1,4] ?_ (DO @c1 @c2 @c3);exact zE
theorem C1(n:Int)(hn: -9223372036854775808<=n/\n<=9223372036854775807):yA 67 [.yE n] (.yE (C9 n)):=by
 have e:=ej n;have h1:=Int.tmod_lt_of_pos n (show(0:Int)<65536 by decide);have h2:=Int.lt_tmod_of_pos n (show(0:Int)<65536 by decide);refine zF AK Tryz.func67 ?_;refine Ae [0,2] ?_ (AQ e);exact zE
def i64(n:Int):Prop:=-9223372036854775808<=n/\n<=9223372036854775807
theorem J5(a b:Int)(ha:i64 a)(hb:i64 b):yA 34 [.yE a,.yE b] (.yE (An a b)):=by
 have h1:=Gr a;have h2:=Gr b;have c1:=C1 a ha;have c2:=C1 b hb;have c3:=C1 (C9 b-C9 a) om;rw[lC]at c3;refine zF AK Tryz.func34 ?_;refine AP [0,1,4] ?_ (DO @c1 @c2 @c3);exact zE
def BG(n:Int):Bool:=decide (0<=n/\n<65536)
theorem Cq{n:Int}(h:BG n=true):0<=n/\n<65536:=by simpa[BG]using h
theorem IU(n:Int):yA 147 [.yE n] (.b (BG n)):=by
 refine zF AK Tryz.func147 ?_
 by_cases h1:0<=n
 .have f1:decide (n>=0)=true:=yX h1
  by_cases h2:n<65536
  .have f2:decide (n<65536)=true:=yX h2;have e:BG n=true:=yX ⟨h1,h2⟩;rw[e];refine Ae [0,2] ?_ (B1 f1 f2);exact zE
  .have f2:decide (n<65536)=false:=yY h2;have e:BG n=false:=yY fun h=>h2 h.2
   rw[e];refine Ae [0,2] ?_ (B1 f1 f2);exact zE
 .have f1:decide (n>=0)=false:=yY h1;have e:BG n=false:=yY fun h=>h1 h.1
  rw[e];refine Ae [0,2] ?_ (AQ f1);exact zE
theorem gC(n:Int):yA 216 [.yE n] (.b (BG n)):=by
 refine zF AK Tryz.func216 ?_
 by_cases h1:0<=n
 .have f1:decide (n>=0)=true:=yX h1
  by_cases h2:n<65536
  .have f2:decide (n<65536)=true:=yX h2;have e:BG n=true:=yX ⟨h1,h2⟩;rw[e];refine Ae [0,2] ?_ (B1 f1 f2);exact zE
  .have f2:decide (n<65536)=false:=yY h2;have e:BG n=false:=yY fun h=>h2 h.2
   rw[e];refine Ae [0,2] ?_ (B1 f1 f2);exact zE
 .have f1:decide (n>=0)=false:=yY h1;have e:BG n=false:=yY fun h=>h1 h.1
  rw[e];refine Ae [0,2] ?_ (AQ f1);exact zE
theorem NT(n:Int):yA 124 [.yE n] (.b (BG n)):=by
 refine zF AK Tryz.func124 ?_
 by_cases h1:0<=n
 .have f1:decide (n>=0)=true:=yX h1
  by_cases h2:n<65536
  .have f2:decide (n<65536)=true:=yX h2;have e:BG n=true:=yX ⟨h1,h2⟩;rw[e];refine Ae [0,2] ?_ (B1 f1 f2);exact zE
  .have f2:decide (n<65536)=false:=yY h2;have e:BG n=false:=yY fun h=>h2 h.2
   rw[e];refine Ae [0,2] ?_ (B1 f1 f2);exact zE
 .have f1:decide (n>=0)=false:=yY h1;have e:BG n=false:=yY fun h=>h1 h.1
  rw[e];refine Ae [0,2] ?_ (AQ f1);exact zE
theorem NR(n:Int):yA 181 [.yE n] (.b (BG n)):=by
 refine zF AK Tryz.func181 ?_
 by_cases h1:0<=n
 .have f1:decide (n>=0)=true:=yX h1
  by_cases h2:n<65536
  .have f2:decide (n<65536)=true:=yX h2;have e:BG n=true:=yX ⟨h1,h2⟩;rw[e];refine Ae [0,2] ?_ (B1 f1 f2);exact zE
  .have f2:decide (n<65536)=false:=yY h2;have e:BG n=false:=yY fun h=>h2 h.2
   rw[e];refine Ae [0,2] ?_ (B1 f1 f2);exact zE
 .have f1:decide (n>=0)=false:=yY h1;have e:BG n=false:=yY fun h=>h1 h.1
  rw[e];refine Ae [0,2] ?_ (AQ f1);exact zE
theorem BQ{l:Ao}{k:Nat}{x:Int}(hx:l[k]? =some x):l.getD k 0=x:=by rw[zJ,hx];rfl
end Go.Proofs.YthlmmkmeoblbhaaGreat
namespace Go.Proofs.YthlmmkmeoblbhaaGreat
namespace Nd
open Go.Gar
open Wi (AE BE Ay AU C2)
def WF(a i:Int):Int:=if 0<=i/\i<16 then C9 (C9 a+2^i.toNat)else C9 a
end Nd
end Go.Proofs.YthlmmkmeoblbhaaGreat
namespace Go.Proofs.YthlmmkmeoblbhaaGreat
namespace Nd
open Go.Gar
open Wi (AE BE Ay AU C2 mC)
def Rr(a:AE×Int):yo:=[.i .u8 a.1.AG,.yE a.1.AW,.yE a.1.Ax,.yE a.1.dst,.yE a.1.AH,.b a.1.BX,.b a.1.done,.yE a.1.AY,.yE a.1.AO,.is a.1.A8,.s a.1.AC.AH,.yE a.1.AC.BD,.yE a.1.AC.Aa,.b a.1.AC.gone,.yE a.1.Ab,.i .u8 a.2]
abbrev Ey(l:List (AE×Int)):D:=.sl 16 (l.map Rr)
end Nd
end Go.Proofs.YthlmmkmeoblbhaaGreat
