/- Part 3 of a proof. Conditions: those that its theorems state. -/
import Derived.Test.YthlmmkmeoblbhaaGreatQ02
import Derived.ProofKit
import Derived.OpenShut
set_option linter.unusedSimpArgs false
set_option linter.unusedVariables false
set_option linter.unnecessarySimpa false
set_option maxHeartbeats 40000000
set_option maxRecDepth 4000
namespace Go.Gar
mutual
def AV.FK(id:Nat)(x:D):AV->AV
 | .sl i n sz=>match Nat.beq i id with
  |true=>if n=B3 x then .d x else .sl i n sz
  |false=> .sl i n sz
 | .ag cs=> .ag (AV.F3 id x cs)
 | .tup cs=> .tup (AV.F3 id x cs)
 | .fn f a b=> .fn f (AV.F3 id x a) (AV.F3 id x b)
 |v=>v
def AV.F3(id:Nat)(x:D):yq->yq
 |[]=>[]
 |v::r=>v.FK id x::AV.F3 id x r
end
theorem O6(id:Nat)(x:D):∀l:yq,AV.F3 id x l=l.map (AV.FK id x)
 |[]=>rfl
 |v::r=>by simp[AV.F3,O6 id x r]
def qR(id:Nat)(x:D):z6->z6
 |[]=>[]
 |p::r=>(p.1,p.2.FK id x)::qR id x r
theorem Sc(id:Nat)(x:D):∀l:z6,qR id x l=l.map fun p=>(p.1,p.2.FK id x)
 |[]=>rfl
 |v::r=>by simp[qR,Sc id x r]
def AF.FK(id:Nat)(x:D):AF->AF
 | .c cs=> .c (AV.F3 id x cs)
 | .m es=> .m (qR id x es)
 |b=>b
def NE(id:Nat)(x:D):yr->yr
 |[]=>[]
 |p::r=>(p.1,p.2.FK id x)::NE id x r
def Eg(id:Nat)(x:D):Nat->yz->yz
 |_,[]=>[]
 |i,b::r=>(match Nat.beq i id with|true=> .gone|false=>b.FK id x)::Eg id x (i+1) r
theorem Y6{id:Nat}{x:D}:∀{e:yr}{t:Nat}{y:AV},get (NE id x e) t=some y->∃z,get e t=some z/\y=z.FK id x
 |[],t,y,h=>by simp[NE,get]at h
 |p::r,t,y,h=>by
  obtain⟨k,v⟩:=p;simp only[NE,get]at h|-;split at h
  .rename_i hb;rw[zN hb];cases h;exact⟨v,rfl,rfl⟩
  .rename_i hb;rw[zO hb];exact Y6 h
theorem IQ{id:Nat}{x:D}:∀{l:yz}{i j:Nat}{b:AF},(Eg id x i l)[j]? =some b->∃b0,l[j]? =some b0/\((i+j=id/\b= .gone)\/(i+j≠id/\b=b0.FK id x))
 |[],i,j,b,h=>by simp[Eg]at h
 |c::r,i,0,b,h=>by
  simp only[Eg,q1R,yh]at h;refine⟨c,sm,?_⟩
  cases hb:Nat.beq i id with
  |true=>rw[hb]at h;exact .inl ⟨by have:=zH hb;omega,h.symm⟩
  |false=>rw[hb]at h;exact .inr ⟨fun e=>by rw[q1B]at e;subst e;simp at hb,h.symm⟩
 |c::r,i,j+1,b,h=>by
  simp only[Eg,q1G]at h;obtain⟨b0,h1,h2⟩:=IQ h;refine⟨b0,by simpa using h1,?_⟩;rw[show i+(j+1)=i+1+j by omega];exact h2
theorem Lw{id:Nat}{x:D}:∀{l:yz}{i j:Nat}{b0:AF},l[j]? =some b0->(Eg id x i l)[j]? =some (if i+j=id then .gone else b0.FK id x)
 |[],i,j,b,h=>by simp at h
 |c::r,i,0,b,h=>by
  simp only[q1R,yh]at h;subst h;simp only[Eg,q1R,q1B]
  cases hb:Nat.beq i id with
  |true=>have:=zH hb;subst this;simp
  |false=>rw[zO (fun e=>by subst e;simp at hb)]
 |c::r,i,j+1,b,h=>by
  simp only[Eg,q1G]at h|-;rw[show i+(j+1)=i+1+j by omega];exact Lw h
theorem Dq{id:Nat}{x:D}:∀{l:yz}{i:Nat},(Eg id x i l).length=l.length
 |[],i=>by simp[Eg]
 |c::r,i=>by simp[Eg,Dq (l:=r)]
def Gh.freeze(G:Gh)(w:World)(id:Nat)(x:D):Gh where
 ρ:=G.ρ
 H:=Eg id x 0 G.H
 m:=fun b k=>match G.ρ id with
  |some p=>if b=p.1 then w.cell? ⟨b,k,none⟩else G.m b k
  |none=>G.m b k
variable {G:Gh}{w:World}{id:Nat}{x:D}{b:AF}
theorem QG(hid:G.H[id]? =some (.a x)){j:Nat}(hb:G.H[j]? =some b):∃b',(G.freeze w id x).H[j]? =some b'/\Ap G (G.freeze w id x) j b b':=by
 refine⟨_,Lw hb,?_⟩;rw[q0M]
 by_cases hj:j=id
 .subst hj;rw[hid]at hb;cases hb;simp[Ap]
 .rw[zO hj];cases b<;>simp[Ap,AF.FK,Gh.freeze,O6]
theorem Du(hr:B9 G w)(hid:G.H[id]? =some (.a x)):Iq G (G.freeze w id x):=by
 refine⟨fun j b hb=>QG hid hb,fun b k v hv=> ?_⟩;show(match G.ρ id with|some p=>if b=p.1 then w.cell? ⟨b,k,none⟩else G.m b k|none=>G.m b k)=some v;split
 .split
  .exact hr.mem b k v hv
  .exact hv
 .exact hv
mutual
theorem RV.FK{G:Gh}{w:World}(hr:B9 G w){id:Nat}{x:D}(hid:G.H[id]? =some (.a x)):∀{y:AV}{v:Value},RV G y v->RV (G.freeze w id x) (y.FK id x) v
 | .sl i n sz,v,r=>by
  have hm:=RV.mono (Du hr hid) r;simp only[AV.FK];split
  .rename_i hb;have hi:=zH hb;subst hi;split
   .rename_i hn;simp only[RV]at r|-;obtain⟨_,blk,hblk,hp⟩:=r;rw[hid]at hblk;cases hblk;obtain⟨g1,g2,g3⟩:=hp;obtain⟨k1,k2,k3⟩:=hr.blk i _ hid;rcases g3 hn with⟨g4,a,rfl⟩|⟨b,N,cap,g4,rfl,g6,_⟩
    .exact(Ek k1).2 ⟨a,0,by rw[<-hn,g4],om,k2,.inl om⟩
    .rcases k3 with⟨k3,k4⟩|⟨b',N',vs,T,k4,k5,k6,k7⟩
     .exact(Ek k1).2 ⟨_,cap,by rw[<-hn],om,k2,.inl k3⟩
     .rw[g4]at k4;cases k4;refine(Ek k1).2 ⟨_,cap,by rw[<-hn],om,k2,.inr ⟨b,0,rfl,fun k d hd=> ?_⟩⟩;obtain⟨u,hu,h1c,hru⟩:=k7 k d hd;refine⟨u,?_,h1c,hru.mono (Du hr hid).mem⟩;show(match G.ρ i with|some p=>if b=p.1 then w.cell? ⟨b,0+k,none⟩else G.m b (0+k)|none=>G.m b (0+k))=some u;rw[g4];simp only[zx,q0M];rw[DT k5];exact hu
   .exact hm
  .exact hm
 | .ag _,_,r| .tup _,_,r=>by
  simp only[AV.FK,RV]at r|-;obtain⟨vs,hv,h⟩:=r;exact⟨vs,hv,BP.FK hr hid h⟩
 | .fn f a b,v,r=>by
  simp only[AV.FK,RV]at r|-;obtain⟨p,q,hv,h1,h2⟩:=r;exact⟨p,q,hv,BP.FK hr hid h1,BP.FK hr hid h2⟩
 | .d _,_,r| .u,_,r| .e0,_,r| .ptr _ _ _,_,r| .bs _ _ _ _ _,_,r| .ep _ _ _ _ _,_,r| .yl _,_,r| .dp _,_,r| .mp _,_,r=>by have:=RV.mono (Du hr hid) r;simpa only[AV.FK]using this
theorem BP.FK{G:Gh}{w:World}(hr:B9 G w){id:Nat}{x:D}(hid:G.H[id]? =some (.a x)):∀{ys:yq}{vs:y6},BP G ys vs->BP (G.freeze w id x) (AV.F3 id x ys) vs
 |[],vs,r=>by simpa[AV.F3,BP]using r
 |y::ys,vs,r=>by
  simp only[AV.F3,BP]at r|-;obtain⟨v,q,hv,h1,h2⟩:=r;exact⟨v,q,hv,RV.FK hr hid h1,BP.FK hr hid h2⟩
end
theorem BR.FK(hr:B9 G w)(hid:G.H[id]? =some (.a x)){j:Nat}:∀{b:AF},BR G w j b->BR (G.freeze w id x) w j (b.FK id x)
 | .gone,_=>trivial
 | .c cs,h=>by
  obtain⟨b,N,vs,T,h1,h2,h3,h4,h6⟩:=h;refine⟨b,N,vs,T,h1,h2,h3,by rw[O6];simpa using h4,fun k y hy=> ?_⟩;rw[O6,q03,q0B]at hy;obtain⟨z,hz,rfl⟩:=hy;obtain⟨v,hv,hrv⟩:=h6 k z hz;exact⟨v,hv,hrv.FK hr hid⟩
 | .a y,h=>by
  obtain⟨h1,h2,h3⟩:=h;refine⟨h1,h2,h3.imp_right ?_⟩;rintro⟨b,N,vs,T,g1,g2,g3,g4⟩;refine⟨b,N,vs,T,g1,g2,g3,fun k d hd=> ?_⟩;obtain⟨v,hv,h1c,hrd⟩:=g4 k d hd;exact⟨v,hv,h1c,hrd.mono (Du hr hid).mem⟩
 | .m es,h=>by
  obtain⟨b,N,ms,cl,h1,h2,h3,h4⟩:=h;refine⟨b,N,ms,cl,h1,h2,by rw[Sc];simpa using h3,fun k q hq=> ?_⟩;rw[Sc,q03,q0B]at hq;obtain⟨z,hz,rfl⟩:=hq;obtain⟨e,he,hd,hrv⟩:=h4 k z hz;exact⟨e,he,hd.mono (Du hr hid).mem,hrv.FK hr hid⟩
 | .lp r,h=>by
  obtain⟨l,N,df,tmps,h1,h2,h3,h4⟩:=h;exact⟨l,N,df,tmps,h1,h2,h3,h4.mono (Du hr hid)⟩
 | .HW _ _ _,h=>h
 | .many _,h=>h
theorem Se(j:Nat)(rs:List (Option (Nat×Nat×AT)))(h:(G.freeze w id x).H[j]? =some (.many rs)):G.H[j]? =some (.many rs):=by
 obtain⟨b0,h1,h2⟩:=IQ h;rcases h2 with⟨_,e⟩|⟨_,e⟩
 .cases e
 .cases b0<;>simp only[AF.FK,reduceCtorEq,AF.many.injEq]at e;subst e;exact h1
theorem KJ(hr:B9 G w)(hid:G.H[id]? =some (.a x)){b:Nat}(h:Own (G.freeze w id x) b):Own G b/\∀N,G.ρ id≠some (b,N):=by
 rcases h with⟨j,N,blk,hb,hl,hρ⟩|⟨j,rs,hb,hc⟩
 case inr=>exact⟨.inr ⟨j,rs,Se j rs hb,hc⟩,fun N hN=>((hr.mny j rs (Se j rs hb)).2 b hc).1 ⟨id,N,_,hid,rfl,hN⟩⟩
 obtain⟨b0,h1,h2⟩:=IQ hb;rw[q0M]at h2;rcases h2 with⟨_,rfl⟩|⟨h2,rfl⟩
 .simp[AF.live]at hl
 .have hl0:b0.live=true:=by cases b0<;>simp_all[AF.live,AF.FK]
  refine⟨.inl ⟨j,N,b0,h1,hl0,hρ⟩,fun N' hN'=>h2 ?_⟩;exact hr.inj j id b0 _ b N N' h1 hid hl0 rfl hρ hN'
theorem IP(hr:B9 G w)(hid:G.H[id]? =some (.a x)):B9 (G.freeze w id x) w/\XL G (G.freeze w id x):=by
 have hmem:∀b k v,(G.freeze w id x).m b k=some v->G.m b k=some v\/(∃N,G.ρ id=some (b,N)/\w.cell? ⟨b,k,none⟩=some v):=by
  intro b k v hv;change (match G.ρ id with|some p=>if b=p.1 then w.cell? ⟨b,k,none⟩else G.m b k|none=>G.m b k)=some v at hv;split at hv
  .rename_i p hp;split at hv
   .rename_i he;subst he;exact .inr ⟨p.2,hp,hv⟩
   .exact .inl hv
  .exact .inl hv
 refine⟨⟨fun j b hb=> ?_,fun i j p q b N N' hp hq lp lq r1 r2=> ?_,fun b k v hv=> ?_,fun b hb k=> ?_,fun b k v hv=>(Du hr hid).mem b k v (hr.st b k v hv),hr.mny.of (fun b hb=>Bq hr (.inr hb)) Se (fun b hb=> .inl (by
  obtain⟨j,N,blk,hb,hl,hρ⟩:=hb;obtain⟨b0,h1,h2⟩:=IQ hb;rcases h2 with⟨_,rfl⟩|⟨_,rfl⟩
  .simp[AF.live]at hl
  .exact⟨j,N,b0,h1,by cases b0<;>simp_all[AF.live,AF.FK],hρ⟩))⟩,⟨fun j b b' hb hb'=> ?_,(Du hr hid).mem,fun b hb=>(KJ hr hid hb).1,fun b k v hv=> ?_⟩⟩
 .obtain⟨b0,h1,h2⟩:=IQ hb;rcases h2 with⟨_,rfl⟩|⟨_,rfl⟩
  .trivial
  .exact(hr.blk j b0 h1).FK hr hid
 .obtain⟨p0,h1,h2⟩:=IQ hp;obtain⟨q0,h3,h4⟩:=IQ hq
  have e1:p0.live=true:=by
   rcases h2 with⟨_,rfl⟩|⟨_,rfl⟩
   .simp[AF.live]at lp
   .cases p0<;>simp_all[AF.live,AF.FK]
  have e2:q0.live=true:=by
   rcases h4 with⟨_,rfl⟩|⟨_,rfl⟩
   .simp[AF.live]at lq
   .cases q0<;>simp_all[AF.live,AF.FK]
  exact hr.inj i j p0 q0 b N N' h1 h3 e1 e2 r1 r2
 .rcases hmem b k v hv with h|⟨_,_,h⟩
  .exact hr.mem b k v h
  .exact h
 .obtain⟨h1,h2⟩:=KJ hr hid hb
  cases hm:(G.freeze w id x).m b k with
  |none=>rfl
  |some v=>
   rcases hmem b k v hm with h|⟨N,h,_⟩
   .rw[hr.sep b h1 k]at h;cases h
   .exact absurd h (h2 N)
 .obtain⟨c,hc,hs⟩:=QG (w:=w) hid hb;rw[hb']at hc;cases hc;exact hs
 .rcases hmem b k v hv with h|⟨N,h,_⟩
  .exact .inl h
  .exact .inr (.inl ⟨id,N,_,hid,rfl,h⟩)
theorem Marks.VY{N:NB}{G':Gh}{a:Act}(h:Marks N G a w)(t:XL G G'):Marks N G' a w:=by
 obtain⟨h0,ms,h1,h2,h3⟩:=h;exact⟨h0,ms,h1,h2,fun q hq=>⟨(h3 q hq).1,(h3 q hq).2.1,fun ho'=>(h3 q hq).2.2 (t.own q ho')⟩⟩
variable {S:St}
theorem A5.freeze(id:Nat)(hid:S.H[id]? =some (.a x)):A5 S ⟨NE id x S.env,Eg id x 0 S.H,S.n⟩:=by
 intro ro N G a w r _;have hid':G.H[id]? =some (.a x):=by rw[r.heap];exact hid
 obtain⟨h1,h2⟩:=IP r.rel hid';refine⟨G.freeze w id x,⟨by show Eg id x 0 G.H=_;rw[r.heap],h1,r.size,fun t y hy=> ?_,r.marks.VY h2,fun i hi=> ?_⟩,h2⟩
 .obtain⟨z,hz,rfl⟩:=Y6 hy;obtain⟨v,hv,hrv⟩:=r.env t z hz;exact⟨v,hv,hrv.FK r.rel hid'⟩
 .obtain⟨q,l,M,q1,q2⟩:=r.round i hi;refine⟨q,l,M,?_,q2⟩;have:=Lw (id:=id) (x:=x) (i:=0) q1;rw[q0M,zO (fun e=>by subst e;rw[hid]at q1;cases q1)]at this;exact this
theorem A5.trans{A B C:St}(h:A5 A B)(hl:B.H.length<=A.H.length->True)(k:A5 B C)(hlt:C.H.length<=B.H.length):A5 A C:=by
 intro ro N G a w r hc;obtain⟨G1,r1,t1⟩:=h ro N G a w r (fun id hid=>q0p (hc id hid) hlt);obtain⟨G2,r2,t2⟩:=k ro N G1 a w r1 hc;refine⟨G2,r2,⟨fun id b b' hb hb'=> ?_,Mem.le_trans t1.mem t2.mem,fun b hb=>t1.own b (t2.own b hb),fun b k v hv=> ?_⟩⟩
 .have hlt1:id<G1.H.length:=by
   have:id<G2.H.length:=(yZ.1 hb').1;rw[r2.heap]at this;rw[r1.heap];omega
  exact(t1.blk id b _ hb (yj hlt1)).trans (t2.blk id _ b' (yj hlt1) hb')
 .rcases t2.memNew b k v hv with h|h
  .exact t1.memNew b k v h
  .exact .inr (t1.own b h)
theorem A5.e0(t:Nat)(q:D)(h:get S.env t=some .e0)(hs:B8 q=true)(hl:B3 q=0)(ho:Aq q):A5 S ⟨(t,.d q)::S.env,S.H,S.n⟩:=by
 intro ro N G a w r _;refine⟨G,⟨r.heap,r.rel,r.size,fun u y hy=> ?_,r.marks,r.round⟩,⟨fun id b b' hb hb'=>by rw[hb]at hb';cases hb';exact Ap.refl _ _ _,Mem.le_refl _,fun _ h=>h,fun _ _ _ h=> .inl h⟩⟩;simp only[get]at hy;split at hy
 .rename_i hb;cases hy;have:=zH hb;subst this;obtain⟨v,hv,hrv⟩:=r.env t _ h;refine⟨v,hv,?_⟩;simp only[RV]at hrv|-;obtain⟨a,rfl⟩:=hrv;exact(Ek hs).2 ⟨a,0,by rw[hl],om,ho,.inl hl⟩
 .exact r.env u y hy
def Gh.nil(G:Gh)(q:D):Gh:={ρ:=fun id=>if id=G.H.length then none else G.ρ id,H:=G.H++[.a q],m:=G.m}
theorem J1{q:D}(h:G.H[id]? =some b):(G.nil q).H[id]? =some b/\(G.nil q).ρ id=G.ρ id:=by
 have hlt:=(yZ.1 h).1;refine⟨by show(G.H++[.a q])[id]? =_;rw[zW hlt];exact h,?_⟩;show(if id=G.H.length then none else G.ρ id)=_;rw[zO om]
theorem OM(G:Gh)(q:D):Iq G (G.nil q):=by
 refine⟨fun id b hb=> ?_,Mem.le_refl _⟩;obtain⟨h1,h2⟩:=J1 (q:=q) hb;exact⟨b,h1,(Ap.refl G id b).congr rfl h2⟩
theorem OL{q:D}(h:(G.nil q).H[id]? =some b):(G.H[id]? =some b/\(G.nil q).ρ id=G.ρ id)\/(id=G.H.length/\b= .a q/\(G.nil q).ρ id=none):=by
 rcases q0A id G.H.length with hlt|hge
 .have h':G.H[id]? =some b:=by
   change (G.H++[.a q])[id]? =_ at h;rwa [zW hlt]at h
  exact .inl ⟨h',(J1 h').2⟩
 .change (G.H++[.a q])[id]? =_ at h;rw[zl hge]at h
  have h0:id-G.H.length=0:=by
   rcases q0x (id-G.H.length)with h0|h0
   .exact h0
   .rw[q0R (by simp;omega)]at h;cases h
  rw[h0]at h;simp only[q1R,yh]at h;have hid:id=G.H.length:=om
  refine .inr ⟨hid,h.symm,?_⟩;show(if id=G.H.length then none else G.ρ id)=none;rw[zN hid]
theorem Qz(hr:B9 G w){q:D}(hs:B8 q=true)(hl:B3 q=0)(ho:Aq q):B9 (G.nil q) w/\XL G (G.nil q):=by
 have hS:∀(j:Nat)(rs:List (Option (Nat×Nat×AT))),(G.nil q).H[j]? =some (.many rs)->G.H[j]? =some (.many rs):=fun j rs hb=>by
  rcases OL hb with⟨h1,_⟩|⟨_,e,_⟩
  .exact h1
  .cases e
 have hP:∀b,EX (G.nil q) b->EX G b:=by
  rintro b ⟨id,N,blk,hb,hlv,hρ⟩;rcases OL hb with⟨h1,h2⟩|⟨_,_,h3⟩
  .exact⟨id,N,blk,h1,hlv,by rw[<-h2];exact hρ⟩
  .rw[h3]at hρ;cases hρ
 have own:=JM hS hP;refine⟨⟨fun id b hb=> ?_,fun i j p q' b N N' hp hq lp lq r1 r2=> ?_,hr.mem,fun b hb k=>hr.sep b (own b hb) k,hr.st,hr.mny.of (fun b hb=>Bq hr (.inr hb)) hS (fun c hc=> .inl (hP c hc))⟩,⟨fun id b b' hb hb'=> ?_,Mem.le_refl _,own,fun _ _ _ h=> .inl h⟩⟩
 .rcases OL hb with⟨h1,h2⟩|⟨h1,rfl,h3⟩
  .exact(hr.blk id b h1).QH (OM G q) (fun _ _ _ _=>rfl) h2
  .exact⟨hs,ho,.inl ⟨hl,h3⟩⟩
 .rcases OL hp with⟨h1,h2⟩|⟨_,_,h3⟩
  .rcases OL hq with⟨h4,h5⟩|⟨_,_,h6⟩
   .exact hr.inj i j p q' b N N' h1 h4 lp lq (by rw[<-h2];exact r1) (by rw[<-h5];exact r2)
   .rw[h6]at r2;cases r2
  .rw[h3]at r1;cases r1
 .obtain⟨h1,h2⟩:=J1 (q:=q) hb;rw[h1]at hb';cases hb';exact(Ap.refl G id b).congr rfl h2
theorem A5.EQ(t:Nat)(q:D)(h:get S.env t=some .e0)(hs:B8 q=true)(hl:B3 q=0)(ho:Aq q):A5 S ⟨(t,.sl S.H.length 0 (Bt q))::S.env,S.H++[.a q],S.n⟩:=by
 intro ro N G a w r _;obtain⟨h1,h2⟩:=Qz r.rel hs hl ho;refine⟨G.nil q,⟨by show G.H++[.a q]=_;rw[r.heap],h1,r.size,fun u y hy=> ?_,r.marks.VY h2,fun i hi=> ?_⟩,h2⟩
 .simp only[get]at hy;split at hy
  .rename_i hb;cases hy;have:=zH hb;subst this;obtain⟨v,hv,hrv⟩:=r.env t _ h;refine⟨v,hv,?_⟩;simp only[RV]at hrv|-;obtain⟨a,rfl⟩:=hrv;refine⟨rfl,.a q,by show(G.H++[AF.a q])[S.H.length]? =_;rw[<-r.heap];simp,rfl,om,fun _=> .inl ⟨trivial,a,rfl⟩⟩
  .obtain⟨v,hv,hrv⟩:=r.env u y hy;exact⟨v,hv,hrv.mono (OM G q)⟩
 .obtain⟨q',l,M,q1,q2⟩:=r.round i hi;rw[<-r.heap]at q1;obtain⟨n1,n2⟩:=J1 (q:=q) q1;exact⟨q',l,M,by rw[<-r.heap];exact n1,by rw[n2];exact q2⟩
theorem A5.PN(id i:Nat)(q:D){cs:yq}(hid:S.H[id]? =some (.c cs))(h:cs[i]? =some .e0)(hs:B8 q=true)(hl:B3 q=0)(ho:Aq q):
  A5 S ⟨S.env,S.H.set id (.c (cs.set i (.sl S.H.length 0 (Bt q))))++[.a q],S.n⟩:=by
 intro ro N G a w r _;obtain⟨h1,h2⟩:=Qz r.rel hs hl ho;have hidG:G.H[id]? =some (.c cs):=by rw[r.heap];exact hid
 have hlt:id<G.H.length:=(yZ.1 hidG).1;let c':AF:=.c (cs.set i (.sl S.H.length 0 (Bt q)));let G':Gh:={ρ:=(G.nil q).ρ,H:=(G.nil q).H.set id c',m:=(G.nil q).m};have hst:Ap (G.nil q) G' id (.c cs) c':=by simp[c',Ap,G']
 have hlow:=J1 (q:=q) hidG
 have hget:∀j b,G'.H[j]? =some b->(j=id/\b=c')\/(j≠id/\(G.nil q).H[j]? =some b):=by
  intro j b hb
  by_cases hj:j=id
  .subst hj;left;have hb':((G.nil q).H.set j c')[j]? =some b:=hb;rw[q08 (yZ.1 hlow.1).1]at hb';exact⟨rfl,(Option.some.inj hb').symm⟩
  .right;have hb':((G.nil q).H.set id c')[j]? =some b:=hb;rw[q06 (Ne.symm hj)]at hb';exact⟨hj,hb'⟩
 have gle:Iq (G.nil q) G':=by
  refine⟨fun j b hb=> ?_,Mem.le_refl _⟩
  by_cases hj:j=id
  .subst hj;rw[hlow.1]at hb;cases hb;exact⟨c',q08 (yZ.1 hlow.1).1,hst⟩
  .exact⟨b,by show((G.nil q).H.set id c')[j]? =_;rw[q06 (Ne.symm hj)];exact hb,Ap.refl _ _ _⟩
 have hnew:G'.H[G.H.length]? =some (.a q):=by
  show((G.nil q).H.set id c')[G.H.length]? =_;rw[q06 om];show(G.H++[.a q])[G.H.length]? =_;simp
 have hS:∀(j:Nat)(rs:List (Option (Nat×Nat×AT))),G'.H[j]? =some (.many rs)->(G.nil q).H[j]? =some (.many rs):=fun j rs hb=>by
  rcases hget j _ hb with⟨_,e⟩|⟨_,h4⟩
  .have e:AF.many rs=AF.c _:=e;cases e
  .exact h4
 have hP:∀b,EX G' b->EX (G.nil q) b:=by
  rintro b ⟨j,N,blk,hb,hlv,hρ⟩;rcases hget j blk hb with⟨rfl,rfl⟩|⟨_,h4⟩
  .exact⟨j,N,_,hlow.1,rfl,hρ⟩
  .exact⟨j,N,blk,h4,hlv,hρ⟩
 have own:=JM hS hP
 have rel:B9 G' w:=by
  refine⟨fun j b hb=> ?_,fun i' j p q' b N N' hp hq lp lq r1 r2=> ?_,h1.mem,fun b hb k=>h1.sep b (own b hb) k,h1.st,h1.mny.of (fun b hb=>Bq h1 (.inr hb)) hS (fun c hc=> .inl (hP c hc))⟩
  .rcases hget j b hb with⟨rfl,rfl⟩|⟨h3,h4⟩
   .obtain⟨b,N,vs,T,g1,g2,g3,g4,g6⟩:=h1.blk j _ hlow.1;refine⟨b,N,vs,T,g1,g2,g3,by simpa using g4,fun k y hy=> ?_⟩;rw[q18]at hy;split at hy
    .rename_i hki;subst hki;split at hy
     .cases hy;obtain⟨v,hv,hrv⟩:=g6 i _ h;refine⟨v,hv,?_⟩;simp only[RV]at hrv|-;obtain⟨a,rfl⟩:=hrv;refine⟨rfl,.a q,by rw[<-r.heap];exact hnew,rfl,om,fun _=> .inl ⟨trivial,a,rfl⟩⟩
     .cases hy
    .obtain⟨v,hv,hrv⟩:=g6 k _ hy;exact⟨v,hv,hrv.mono gle⟩
   .exact(h1.blk j b h4).QH gle (fun _ _ _ _=>rfl) rfl
  .have back:∀(j:Nat)(b:AF),G'.H[j]? =some b->b.live=true->∃b0:AF,(G.nil q).H[j]? =some b0/\b0.live=true:=by
    intro j b hb hlv;rcases hget j b hb with⟨rfl,rfl⟩|⟨_,h4⟩
    .exact⟨_,hlow.1,rfl⟩
    .exact⟨b,h4,hlv⟩
   obtain⟨p0,e1,e2⟩:=back i' p hp lp;obtain⟨q0,e3,e4⟩:=back j q' hq lq;exact h1.inj i' j p0 q0 b N N' e1 e3 e2 e4 r1 r2
 have VY:XL G G':=by
  refine⟨fun j b b' hb hb'=> ?_,Mem.le_refl _,fun b hb=>h2.own b (own b hb),fun _ _ _ h=> .inl h⟩;obtain⟨n1,n2⟩:=J1 (q:=q) hb;obtain⟨b'',hb'',hs''⟩:=gle.blk j b n1;rw[hb']at hb'';cases hb'';exact(h2.blk j b b hb n1).trans hs''
 refine⟨G',⟨?_,rel,r.size,fun u y hy=> ?_,r.marks.VY VY,fun k hk=> ?_⟩,VY⟩
 .show(G.H++[AF.a q]).set id c'=_;rw[List.set_append_left _ _ hlt,r.heap]
 .obtain⟨v,hv,hrv⟩:=r.env u y hy;exact⟨v,hv,(hrv.mono (OM G q)).mono gle⟩
 .obtain⟨q',l,M,q1,q2⟩:=r.round k hk;rw[<-r.heap]at q1;obtain⟨n1,n2⟩:=J1 (q:=q) q1;have hne:k≠id:=fun e=>by subst e;rw[hidG]at q1;cases q1
  refine⟨q',l,M,?_,by show(G.nil q).ρ k=_;rw[n2];exact q2⟩;show(S.H.set id c'++[AF.a q])[k]? =_
  have:(G.H.set id c'++[AF.a q])[k]? =some (.lp q'):=by
   rw[zW (by simp;exact(yZ.1 q1).1),q06 (Ne.symm hne)];exact q1
  rw[<-r.heap];exact this
section
variable {P:Program}{ro:yW}{ops:ya}{i:Nat}{rest:yb}{S:St}{Q:Exit->St->Prop}{E:Nat->Option Bd}
theorem Rk{S':St}(t:A5 S S')(hl:S.H.length<=S'.H.length)(k:Wl P ro ops i rest S' Q):Wl P ro ops i rest S Q:=by
 intro hops N G a w r;obtain⟨G',r',t'⟩:=t ro N G a w r (fun id h=>q0p (r.VO id h) hl);have kf:D4 G w G' w:=(D4.refl G w).ghost t' (by rw[r.heap,r'.heap];exact hl);have hy:=k hops N G' a w r';rw[GT r r' kf]at hy;exact BZ (fun _ _ _ p=>p.trans kf) _ _ _ hy
theorem RY{f:FuncId}{fn:Func}{c:Code}(hE:CV P E)(hf:P.funcs[f]? =some fn)(hb:fn.body=some c)(hname:(fn.name== "runtime.NumGoroutine")=false){args:yq}{H:yz}(hn:args.length<=fn.ntmps){R:AV->yz->Prop}
  (h:W P none c ⟨Fp 0 args,H,fn.ntmps⟩ (P9 fun S0=>∃S',A5 S0 S'/\H.length<=S'.H.length/\∃cc x,E2 E S'.env S'.H fn.results.toList=some (cc,x)/\cc=true/\R x S'.H)):JO P f args H R:=by
 refine jb hE hf hb hname hn (cq h ?_);intro e S' q
 cases e with
 |normal|ret=>obtain⟨S'',t,hl,q'⟩:=q;exact⟨S'',t,hl,q'⟩
 |_=>exact q.elim
end
end Go.Gar
namespace Go.Gar
def rn:BK->Nat->Nat->Nat
 |[],k,i=>k+i
 |a::_,_,0=>a
 |_::r,k,i+1=>rn r k i
theorem eW:∀{ids:BK}{k i a:Nat},ids[i]? =some a->rn ids k i=a
 |[],k,i,a,h=>by simp at h
 |b::r,k,0,a,h=>by simpa[rn]using h
 |b::r,k,i+1,a,h=>by simp only[rn];exact eW (by simpa using h)
theorem tN:∀{ids:BK}{k i:Nat},ids.length<=i->rn ids k i=k+(i-ids.length)
 |[],k,i,h=>by simp[rn]
 |b::r,k,0,h=>by simp at h
 |b::r,k,i+1,h=>by simp only[rn,yu];rw[tN (by simpa using h)];congr 1;omega
mutual
def AV.ren(ι:Nat->Nat):AV->AV
 | .ptr id o c=> .ptr (ι id) o c
 | .sl id n sz=> .sl (ι id) n sz
 | .bs id o n sz c=> .bs (ι id) o n sz c
 | .ep id i o n sz=> .ep (ι id) i o n sz
 | .ag cs=> .ag (AV.Dv ι cs)
 | .tup cs=> .tup (AV.Dv ι cs)
 | .fn f a b=> .fn f (AV.Dv ι a) (AV.Dv ι b)
 | .yl id=> .yl (ι id)
 | .mp id=> .mp (ι id)
 |v=>v
def AV.Dv(ι:Nat->Nat):yq->yq
 |[]=>[]
 |v::r=>v.ren ι::AV.Dv ι r
end
theorem HY(ι:Nat->Nat):∀l:yq,AV.Dv ι l=l.map (AV.ren ι)
 |[]=>rfl
 |v::r=>by simp[AV.Dv,HY ι r]
def iX(ι:Nat->Nat):z6->z6
 |[]=>[]
 |p::r=>(p.1,p.2.ren ι)::iX ι r
theorem Ob(ι:Nat->Nat):∀l:z6,iX ι l=l.map fun p=>(p.1,p.2.ren ι)
 |[]=>rfl
 |v::r=>by simp[iX,Ob ι r]
def NW(ι:Nat->Nat):yr->yr
 |[]=>[]
 |p::r=>(p.1,p.2.ren ι)::NW ι r
theorem JY{ι:Nat->Nat}:∀{e:yr}{t:Nat},get (NW ι e) t=(get e t).map (AV.ren ι)
 |[],t=>by simp[NW,get]
 |p::r,t=>by
  obtain⟨k,v⟩:=p;simp only[NW,get];split
  .rfl
  .exact JY
def AF.ren(ι:Nat->Nat):AF->AF
 | .gone=> .gone
 | .c cs=> .c (AV.Dv ι cs)
 | .a x=> .a x
 | .m es=> .m (iX ι es)
 | .lp r=> .lp {r with env:=NW ι r.env}
 | .HW b N l=> .HW b N l
 | .many rs=> .many rs
def E4(ι:Nat->Nat):yz->yz
 |[]=>[]
 |b::r=>b.ren ι::E4 ι r
theorem LX(ι:Nat->Nat):∀l:yz,E4 ι l=l.map (AF.ren ι)
 |[]=>rfl
 |v::r=>by simp[E4,LX ι r]
theorem EI(ι:Nat->Nat)(b:AF):(b.ren ι).live=b.live:=by cases b<;>rfl
mutual
theorem RV.ren{G0 G:Gh}{ι:Nat->Nat}(hm:G0.m.le G.m)(hb:∀id b,G0.H[id]? =some b->G.H[ι id]? =some (b.ren ι)/\G.ρ (ι id)=G0.ρ id):∀{x:AV}{v:Value},RV G0 x v->RV G (x.ren ι) v
 | .d x,v,r=>by simp only[AV.ren,RV]at r|-;exact r.mono hm
 | .u,_,_=>by simp[AV.ren,RV]
 | .e0,_,r=>by simpa only[AV.ren,RV]using r
 | .dp cs,v,r=>by
  simp only[AV.ren,RV]at r|-;obtain⟨b,off,hv,hr⟩:=r;exact⟨b,off,hv,N5.mono hm hr⟩
 | .ptr id _ _,_,r| .bs id _ _ _ _,_,r=>by
  simp only[AV.ren,RV]at r|-;obtain⟨h1,blk,h2,h3⟩:=r;obtain⟨k1,k2⟩:=hb id blk h2;refine⟨h1,_,k1,?_⟩;cases blk<;>simp_all[AF.ren,HY]
 | .sl id _ _,_,r| .ep id _ _ _ _,_,r| .yl id,_,r| .mp id,_,r=>by
  simp only[AV.ren,RV]at r|-;obtain⟨h1,blk,h2,h3⟩:=r;obtain⟨k1,k2⟩:=hb id blk h2;refine⟨h1,_,k1,?_⟩;cases blk<;>simp_all[AF.ren]
 | .ag _,_,r| .tup _,_,r=>by
  simp only[AV.ren,RV]at r|-;obtain⟨vs,hv,h⟩:=r;exact⟨vs,hv,BP.ren hm hb h⟩
 | .fn f a b,v,r=>by
  simp only[AV.ren,RV]at r|-;obtain⟨p,q,hv,h1,h2⟩:=r;exact⟨p,q,hv,BP.ren hm hb h1,BP.ren hm hb h2⟩
theorem BP.ren{G0 G:Gh}{ι:Nat->Nat}(hm:G0.m.le G.m)(hb:∀id b,G0.H[id]? =some b->G.H[ι id]? =some (b.ren ι)/\G.ρ (ι id)=G0.ρ id):∀{xs:yq}{vs:y6},BP G0 xs vs->BP G (AV.Dv ι xs) vs
 |[],_,r=>by simpa[AV.Dv,BP]using r
 |x::xs,vs,r=>by
  simp only[AV.Dv,BP]at r|-;obtain⟨v,q,hv,h1,h2⟩:=r;exact⟨v,q,hv,RV.ren hm hb h1,BP.ren hm hb h2⟩
end
mutual
theorem RV.Km{G0 G:Gh}{ι:Nat->Nat}{n:Nat}(hm:G.m.le G0.m)(hb:∀id,id<n->∃b,G0.H[id]? =some b/\G.H[ι id]? =some (b.ren ι)/\G.ρ (ι id)=G0.ρ id):∀{x:AV}{v:Value},x.ok n=true->RV G (x.ren ι) v->RV G0 x v
 | .d x,v,_,r=>by simp only[AV.ren,RV]at r|-;exact r.mono hm
 | .u,_,_,_=>by simp[RV]
 | .e0,_,_,r=>by simpa only[AV.ren,RV]using r
 | .dp cs,v,_,r=>by
  simp only[AV.ren,RV]at r|-;obtain⟨b,off,hv,hr⟩:=r;exact⟨b,off,hv,N5.mono hm hr⟩
 | .ptr id _ _,_,ho,r| .bs id _ _ _ _,_,ho,r=>by
  simp only[AV.ren,RV]at r|-;obtain⟨h1,blk,h2,h3⟩:=r;obtain⟨b,k0,k1,k2⟩:=hb id (by simpa[AV.ok,q0k]using ho);rw[k1]at h2;cases h2;refine⟨h1,_,k0,?_⟩;cases b<;>simp_all[AF.ren,HY]
 | .sl id _ _,_,ho,r| .ep id _ _ _ _,_,ho,r| .yl id,_,ho,r| .mp id,_,ho,r=>by
  simp only[AV.ren,RV]at r|-;obtain⟨h1,blk,h2,h3⟩:=r;obtain⟨b,k0,k1,k2⟩:=hb id (by simpa[AV.ok,q0k]using ho);rw[k1]at h2;cases h2;refine⟨h1,_,k0,?_⟩;cases b<;>simp_all[AF.ren,HY]
 | .ag _,_,ho,r| .tup _,_,ho,r=>by
  simp only[AV.ren,RV]at r|-;obtain⟨vs,hv,h⟩:=r;exact⟨vs,hv,BP.Km hm hb (by simpa[AV.ok]using ho) h⟩
 | .fn f a b,v,ho,r=>by
  simp only[AV.ren,RV]at r|-;simp only[AV.ok,yU]at ho;obtain⟨p,q,hv,h1,h2⟩:=r;exact⟨p,q,hv,BP.Km hm hb ho.1 h1,BP.Km hm hb ho.2 h2⟩
theorem BP.Km{G0 G:Gh}{ι:Nat->Nat}{n:Nat}(hm:G.m.le G0.m)(hb:∀id,id<n->∃b,G0.H[id]? =some b/\G.H[ι id]? =some (b.ren ι)/\G.ρ (ι id)=G0.ρ id):∀{xs:yq}{vs:y6},AV.oks n xs=true->BP G (AV.Dv ι xs) vs->BP G0 xs vs
 |[],_,_,r=>by simpa[AV.Dv,BP]using r
 |x::xs,vs,ho,r=>by
  simp only[AV.Dv,BP]at r|-;simp only[AV.oks,yU]at ho;obtain⟨v,q,hv,h1,h2⟩:=r;exact⟨v,q,hv,RV.Km hm hb ho.1 h1,BP.Km hm hb ho.2 h2⟩
end
variable {G0 G:Gh}{w:World}{ι:Nat->Nat}{i:Nat}
theorem BR.ren(hm:G0.m.le G.m)(hb:∀id b,G0.H[id]? =some b->G.H[ι id]? =some (b.ren ι)/\G.ρ (ι id)=G0.ρ id)(hρ:G.ρ (ι i)=G0.ρ i):∀{b:AF},BR G0 w i b->BR G w (ι i) (b.ren ι)
 | .gone,_=>trivial
 | .c cs,h=>by
  obtain⟨b,N,vs,T,h1,h2,h3,h4,h6⟩:=h;refine⟨b,N,vs,T,hρ.trans h1,h2,h3,by rw[HY];simpa using h4,fun k y hy=> ?_⟩;rw[HY,q03,q0B]at hy;obtain⟨z,hz,rfl⟩:=hy;obtain⟨v,hv,hrv⟩:=h6 k z hz;exact⟨v,hv,hrv.ren hm hb⟩
 | .a y,h=>by
  obtain⟨h1,h2,h3⟩:=h;refine⟨h1,h2,?_⟩;rcases h3 with⟨h3,h4⟩|⟨b,N,vs,T,g1,g2,g3,g4⟩
  .exact .inl ⟨h3,hρ.trans h4⟩
  .refine .inr ⟨b,N,vs,T,hρ.trans g1,g2,g3,fun k d hd=> ?_⟩;obtain⟨v,hv,h1c,hrd⟩:=g4 k d hd;exact⟨v,hv,h1c,hrd.mono hm⟩
 | .m es,h=>by
  obtain⟨b,N,ms,cl,h1,h2,h3,h4⟩:=h;refine⟨b,N,ms,cl,hρ.trans h1,h2,by rw[Ob];simpa using h3,fun k q hq=> ?_⟩;rw[Ob,q03,q0B]at hq;obtain⟨z,hz,rfl⟩:=hq;obtain⟨e,he,hd,hrv⟩:=h4 k z hz;exact⟨e,he,hd.mono hm,hrv.ren hm hb⟩
 | .lp r,h=>by
  obtain⟨l,N,df,tmps,h1,h2,h3,h4⟩:=h;refine⟨l,N,df,tmps,hρ.trans h1,h2,h3,fun t x hx=> ?_⟩;change get (NW ι r.env) t=some x at hx;rw[JY,q0B]at hx;obtain⟨z,hz,rfl⟩:=hx;obtain⟨v,hv,hrv⟩:=h4 t z hz;exact⟨v,hv,hrv.ren hm hb⟩
 | .HW _ _ _,h=>by
  obtain⟨vs,T,h1,h2⟩:=h;exact⟨vs,T,hρ.trans h1,h2⟩
 | .many _,h=>h
theorem BR.Km{n:Nat}(hm:G.m.le G0.m)(hb:∀id,id<n->∃b,G0.H[id]? =some b/\G.H[ι id]? =some (b.ren ι)/\G.ρ (ι id)=G0.ρ id)(hρ:G.ρ (ι i)=G0.ρ i):∀{b:AF},b.ok n=true->BR G w (ι i) (b.ren ι)->BR G0 w i b
 | .gone,_,_=>trivial
 | .c cs,ho,h=>by
  obtain⟨b,N,vs,T,h1,h2,h3,h4,h6⟩:=h;rw[HY]at h4 h6;refine⟨b,N,vs,T,hρ.symm.trans h1,h2,h3,by simpa using h4,fun k y hy=> ?_⟩;obtain⟨v,hv,hrv⟩:=h6 k (y.ren ι) (by simp[hy]);exact⟨v,hv,hrv.Km hm hb (e9 ho hy)⟩
 | .a y,_,h=>by
  obtain⟨h1,h2,h3⟩:=h;refine⟨h1,h2,?_⟩;rcases h3 with⟨h3,h4⟩|⟨b,N,vs,T,g1,g2,g3,g4⟩
  .exact .inl ⟨h3,hρ.symm.trans h4⟩
  .refine .inr ⟨b,N,vs,T,hρ.symm.trans g1,g2,g3,fun k d hd=> ?_⟩;obtain⟨v,hv,h1c,hrd⟩:=g4 k d hd;exact⟨v,hv,h1c,hrd.mono hm⟩
 | .m es,ho,h=>by
  obtain⟨b,N,ms,cl,h1,h2,h3,h4⟩:=h;rw[Ob]at h3 h4;refine⟨b,N,ms,cl,hρ.symm.trans h1,h2,by simpa using h3,fun k q hq=> ?_⟩;obtain⟨e,he,hd,hrv⟩:=h4 k (q.1,q.2.ren ι) (by simp[hq]);exact⟨e,he,hd.mono hm,hrv.Km hm hb (Uz ho hq)⟩
 | .lp r,ho,h=>by
  obtain⟨l,N,df,tmps,h1,h2,h3,h4⟩:=h;refine⟨l,N,df,tmps,hρ.symm.trans h1,h2,h3,fun t x hx=> ?_⟩;obtain⟨v,hv,hrv⟩:=h4 t (x.ren ι) (by show get (NW ι r.env) t=_;rw[JY,hx];rfl);exact⟨v,hv,hrv.Km hm hb (Lt ho hx)⟩
 | .HW _ _ _,_,h=>by
  obtain⟨vs,T,h1,h2⟩:=h;exact⟨vs,T,hρ.symm.trans h1,h2⟩
 | .many _,_,h=>h
theorem Ap.ren{G0' G':Gh}{j:Nat}{b b':AF}(h:Ap G0 G0' i b b')(e:G.ρ j=G0.ρ i)(e':G'.ρ j=G0'.ρ i):Ap G G' j (b.ren ι) (b'.ren ι):=by
 cases b<;>cases b'<;>simp only[Ap,AF.ren]at h|-<;>simp_all[HY]
def Jy:BK->yz->yz->yz
 |[],H,l=>H++l
 |a::r,H,b::l=>Jy r (H.set a b) l
 |_::_,H,[]=>H
theorem Qn:∀{ids:BK}{H l:yz}{j:Nat},ids.Nodup->ids.length<=l.length->(∀a∈ids,a<H.length)->
  (Jy ids H l)[j]? =if j∈ids then l[ids.idxOf j]? else if j<H.length then H[j]? else l[ids.length+(j-H.length)]?
 |[],H,l,j,_,_,_=>by
  simp only[Jy,q1e,zo,zI,q0M];split
  .rename_i h;rw[zW h]
  .rename_i h;rw[zl om]
 |a::r,H,[],j,_,hl,_=>by simp at hl
 |a::r,H,b::l,j,hn,hl,ha=>by
  obtain⟨h1,h2⟩:=List.nodup_cons.1 hn;simp only[Jy];rw[Qn h2 (by simpa using hl) (fun c hc=>by simpa using ha c (by simp[hc]))]
  by_cases hj:j=a
  .subst hj;have hlt:=ha j sm;have e1:(H.set j b).length=H.length:=by simp
   have e2:j∈j::r:=by simp
   simp only[h1,zo,e1,hlt,zx,e2,q08,List.idxOf_cons_self,q1R]
  .have e3:(j∈a::r)↔(j∈r):=by simp[hj]
   by_cases hr:j∈r
   .have e4:(a::r).idxOf j=r.idxOf j+1:=by
     rw[List.idxOf_cons];have:(a==j)=false:=by simpa using(Ne.symm hj)
     rw[this];rfl
    simp only[hr,zx,e3,e4,q1G]
   .simp only[hr,zo,e3,q0y];split
    .rw[q06 (Ne.symm hj)]
    .simp only[yu];rw[show r.length+1+(j-H.length)=r.length+(j-H.length)+1 by omega];simp
def Dg(ι:Nat->Nat)(H2:yz):BK->yz->Prop
 |[],[]=>True
 |a::r,b::l=>H2[a]? =some (b.ren ι)/\Dg ι H2 r l
 |_,_=>False
theorem T1{ι:Nat->Nat}{H2:yz}:∀{ids:BK}{H:yz},Dg ι H2 ids H->ids.length=H.length
 |[],[],_=>rfl
 |a::r,b::l,h=>by simp only[yu];rw[T1 h.2]
 |[],_::_,h=>h.elim
 |_::_,[],h=>h.elim
theorem KG{ι:Nat->Nat}{H2:yz}:∀{ids:BK}{H:yz},Dg ι H2 ids H->∀{i:Nat}{b:AF},H[i]? =some b->∃a,ids[i]? =some a/\H2[a]? =some (b.ren ι)
 |[],[],_,i,b,hb=>by simp at hb
 |a::r,c::l,h,0,b,hb=>by simp at hb;subst hb;exact⟨a,sm,h.1⟩
 |a::r,c::l,h,i+1,b,hb=>by
  obtain⟨x,h1,h2⟩:=KG h.2 (i:=i) (by simpa using hb);exact⟨x,by simpa using h1,h2⟩
 |[],_::_,h,_,_,_=>h.elim
 |_::_,[],h,_,_,_=>h.elim
variable {H H2:yz}{ids:BK}
theorem MC{G0':Gh}{w':World}(hG:G.H=H2)(hn:ids.Nodup)(hm:Dg (rn ids H2.length) H2 ids H)(hr:B9 G w)(hf:D4 ⟨fun i=>G.ρ (rn ids H2.length i),H,G.m⟩ w G0' w')(h':B9 G0' w'):
  ∃G'':Gh,G''.H=Jy ids H2 (E4 (rn ids H2.length) G0'.H)/\B9 G'' w'/\D4 G w G'' w'/\G0'.m.le G''.m/\(∀id b,G0'.H[id]? =some b->G''.H[rn ids H2.length id]? =some (b.ren (rn ids H2.length))/\G''.ρ (rn ids H2.length id)=G0'.ρ id):=by
 generalize hι:rn ids H2.length=ι at *;have hlen:ids.length=H.length:=T1 hm;have hgl:H.length<=G0'.H.length:=hf.gle.len
 have hid:∀a∈ids,a<H2.length:=by
  intro a ha;obtain⟨i,hi,rfl⟩:=q0d.1 ha;obtain⟨x,h1,h2⟩:=KG hm (i:=i) (b:=H[i]'om) sm;rw[yj hi]at h1;cases h1;exact(yZ.1 h2).1
 have lowι:∀i (hi:i<ids.length),ι i=ids[i]:=fun i hi=>by rw[<-hι];exact eW (yj hi)
 have highι:∀i,ids.length<=i->ι i=H2.length+(i-ids.length):=fun i hi=>by rw[<-hι];exact tN hi
 let κ:Nat->yW:=fun j=>if j∈ids then some (ids.idxOf j)else if j<H2.length then none else some (ids.length+(j-H2.length))
 have κι:∀i,κ (ι i)=some i:=by
  intro i;rcases q0A i ids.length with hi|hi
  .rw[lowι i hi];simp only[κ];rw[zN (q0a hi),hn.idxOf_getElem i hi]
  .rw[highι i hi];simp only[κ];rw[zO (fun h=>by have:=hid _ h;omega),zO om]
   congr 1;omega
 have ικ:∀j i,κ j=some i->ι i=j:=by
  intro j i h;simp only[κ]at h;split at h
  .rename_i hj;cases h;rw[lowι _ (List.idxOf_lt_length_of_mem hj),List.getElem_idxOf]
  .split at h
   .cases h
   .cases h;rw[highι _ om];omega
 let K:Gh:=⟨fun j=>match κ j with|some i=>G0'.ρ i|none=>G.ρ j,Jy ids H2 (E4 ι G0'.H),G0'.m⟩;have kρ1:∀i,K.ρ (ι i)=G0'.ρ i:=fun i=>by show(match κ (ι i)with|some i=>G0'.ρ i|none=>G.ρ (ι i))=_;rw[κι]
 have kρ2:∀j,κ j=none->K.ρ j=G.ρ j:=fun j h=>by show(match κ j with|some i=>G0'.ρ i|none=>G.ρ j)=_;rw[h]
 have kget:∀j,K.H[j]? =match κ j with|some i=>(G0'.H[i]?).map (AF.ren ι)|none=>H2[j]?:=by
  intro j;show(Jy ids H2 (E4 ι G0'.H))[j]? =_;rw[LX,Qn hn (by simp;omega) hid];simp only[κ];split
  .simp
  .split
   .rfl
   .simp
 have kup:∀id b,G0'.H[id]? =some b->K.H[ι id]? =some (b.ren ι)/\K.ρ (ι id)=G0'.ρ id:=by
  intro id b hb;refine⟨?_,kρ1 id⟩;rw[kget,κι];simp[hb]
 have up0:∀id b,H[id]? =some b->G.H[ι id]? =some (b.ren ι):=by
  intro id b hb;obtain⟨a,h1,h2⟩:=KG hm hb;have:ι id=a:=by rw[<-hι];exact eW h1
  rw[this,hG];exact h2
 have own0:∀b,Own ⟨fun i=>G.ρ (ι i),H,G.m⟩ b->Own G b:=by
  rintro b (⟨i,N,q,hq,hl,hρ⟩|⟨i,rs,hq,hc⟩)
  .exact .inl ⟨ι i,N,_,up0 i q hq,by rw[EI];exact hl,hρ⟩
  .exact .inr ⟨ι i,rs,up0 i _ hq,hc⟩
 have split:∀j b,K.H[j]? =some b->(∃i b0,ι i=j/\κ j=some i/\G0'.H[i]? =some b0/\b=b0.ren ι)\/(κ j=none/\G.H[j]? =some b):=by
  intro j b hb;rw[kget]at hb
  cases hk:κ j with
  |none=>rw[hk]at hb;exact .inr ⟨rfl,by rw[hG];exact hb⟩
  |some i=>
   rw[hk]at hb;simp only[q0B]at hb;obtain⟨b0,h1,h2⟩:=hb;exact .inl ⟨i,b0,ικ j i hk,rfl,h1,h2.symm⟩
 have far:∀j b N q,κ j=none->G.H[j]? =some q->q.live=true->G.ρ j=some (b,N)->b<w.heap.size/\¬Own ⟨fun i=>G.ρ (ι i),H,G.m⟩ b:=by
  intro j b N q hk hq hl hρ;refine⟨Bq hr (.inl ⟨j,N,q,hq,hl,hρ⟩),?_⟩;rintro(⟨i,N',q',hq',hl',hρ'⟩|⟨i,rs,hq',hc⟩)
  case inr=>exact((hr.mny (ι i) rs (up0 i _ hq')).2 b hc).1 ⟨j,N,q,hq,hl,hρ⟩
  have:=hr.inj j (ι i) q _ b N N' hq (up0 i q' hq') hl (by rw[EI];exact hl') hρ hρ';rw[this,κι]at hk;cases hk
 have farS:∀(j:Nat)(rs:List (Option (Nat×Nat×AT)))(b:Nat),κ j=none->G.H[j]? =some (.many rs)->b∈rS rs->b<w.heap.size/\¬Own ⟨fun i=>G.ρ (ι i),H,G.m⟩ b:=by
  intro j rs b hk hq hc;refine⟨Bq hr (.inr ⟨j,rs,hq,hc⟩),?_⟩;rintro(⟨i,N',q',hq',hl',hρ'⟩|⟨i,rs',hq',hc'⟩)
  .exact((hr.mny j rs hq).2 b hc).1 ⟨ι i,N',_,up0 i q' hq',by rw[EI];exact hl',hρ'⟩
  .have:=((hr.mny j rs hq).2 b hc).2 (ι i) rs' (up0 i _ hq') hc';rw[<-this,κι]at hk;cases hk
 have splitS:∀(j:Nat)(rs:List (Option (Nat×Nat×AT))),K.H[j]? =some (.many rs)->(∃i,ι i=j/\κ j=some i/\G0'.H[i]? =some (.many rs))\/(κ j=none/\G.H[j]? =some (.many rs)):=by
  intro j rs hb;rcases split j _ hb with⟨i,b0,h1,h2,h3,h4⟩|h
  .cases b0<;>simp only[AF.ren,reduceCtorEq,AF.many.injEq]at h4;subst h4;exact .inl ⟨i,h1,h2,h3⟩
  .exact .inr h
 have ownP:∀b,EX K b->EX G0' b\/(EX G b/\b<w.heap.size/\¬Own ⟨fun i=>G.ρ (ι i),H,G.m⟩ b):=by
  rintro b ⟨j,N,q,hq,hl,hρ⟩;rcases split j q hq with⟨i,b0,rfl,_,h3,rfl⟩|⟨h1,h2⟩
  .exact .inl ⟨i,N,b0,h3,by rw[EI]at hl;exact hl,by rw[<-kρ1];exact hρ⟩
  .rw[kρ2 j h1]at hρ;exact .inr ⟨⟨j,N,q,h2,hl,hρ⟩,far j b N q h1 h2 hl hρ⟩
 have ownK:∀b,Own K b->Own G0' b\/(Own G b/\b<w.heap.size/\¬Own ⟨fun i=>G.ρ (ι i),H,G.m⟩ b):=by
  rintro b (h|⟨j,rs,hq,hc⟩)
  .rcases ownP b h with h|⟨h1,h2⟩
   .exact .inl (.inl h)
   .exact .inr ⟨.inl h1,h2⟩
  .rcases splitS j rs hq with⟨i,rfl,_,h3⟩|⟨h1,h2⟩
   .exact .inl (.inr ⟨i,rs,h3,hc⟩)
   .exact .inr ⟨.inr ⟨j,rs,h2,hc⟩,farS j rs b h1 h2 hc⟩
 have g2:Iq G K:=by
  refine⟨fun j b hb=> ?_,hf.gle.mem⟩
  cases hk:κ j with
  |none=>exact⟨b,by rw[kget,hk,<-hG];exact hb,(Ap.refl G j b).congr rfl (kρ2 j hk)⟩
  |some i=>
   have hj:j<H2.length:=by rw[<-hG];exact(yZ.1 hb).1
   have hi:i<ids.length:=by
    simp only[κ]at hk;split at hk
    .rename_i hm;cases hk;exact List.idxOf_lt_length_of_mem hm
    .simp[hj]at hk
   have hji:=ικ j i hk;subst hji;have hb1:=up0 i _ (yj (l:=H) (by omega:i<H.length));rw[hb]at hb1;cases hb1;obtain⟨b',hb',hs⟩:=hf.gle.blk i H[i] (yj (by omega:i<H.length));exact⟨_,(kup i b' hb').1,hs.ren rfl (kρ1 i)⟩
 refine⟨K,rfl,⟨fun j b hb=> ?_,fun i j p q b N N' hp hq lp lq r1 r2=> ?_,h'.mem,fun b hb k=> ?_,h'.st,fun j rs hj=> ?_⟩,⟨hf.os,hf.tape,hf.output,hf.size,fun b hb ho=> ?_,fun b k v hv=> ?_,g2⟩,Mem.le_refl _,kup⟩
 .rcases split j b hb with⟨i,b0,rfl,_,h3,rfl⟩|⟨h1,h2⟩
  .exact BR.ren (G0:=G0') (G:=K) (ι:=ι) (Mem.le_refl _) kup (kρ1 i) (h'.blk i b0 h3)
  .refine(hr.blk j b h2).QH g2 (fun q N hl hρ=> ?_) (kρ2 j h1) (fun rs e c hc=>by
    subst e;obtain⟨f1,f2⟩:=farS j rs c h1 h2 hc
    exact(hf.keep c f1 f2).1)
   obtain⟨f1,f2⟩:=far j q N b h1 h2 hl hρ;exact(hf.keep q f1 f2).1
 .rcases split i p hp with⟨i0,p0,rfl,_,h3,rfl⟩|⟨h1,h2⟩
  .rw[kρ1]at r1;rw[EI]at lp;rcases split j q hq with⟨j0,q0,rfl,_,h6,rfl⟩|⟨h4,h5⟩
   .rw[kρ1]at r2;rw[EI]at lq;rw[h'.inj i0 j0 p0 q0 b N N' h3 h6 lp lq r1 r2]
   .rw[kρ2 j h4]at r2;obtain⟨f1,f2⟩:=far j b N' q h4 h5 lq r2;exact absurd (.inl ⟨i0,N,p0,h3,lp,r1⟩) (hf.keep b f1 f2).2
  .rw[kρ2 i h1]at r1;rcases split j q hq with⟨j0,q0,rfl,_,h6,rfl⟩|⟨h4,h5⟩
   .rw[kρ1]at r2;rw[EI]at lq;obtain⟨f1,f2⟩:=far i b N p h1 h2 lp r1;exact absurd (.inl ⟨j0,N',q0,h6,lq,r2⟩) (hf.keep b f1 f2).2
   .rw[kρ2 j h4]at r2;exact hr.inj i j p q b N N' h2 h5 lp lq r1 r2
 .rcases ownK b hb with h|⟨h1,h2,h3⟩
  .exact h'.sep b h k
  .cases hm:G0'.m b k with
   |none=>rfl
   |some v=>
    rcases hf.memNew b k v hm with h|h|h
    .have:=hr.sep b h1 k;rw[show G.m b k=some v from h]at this;cases this
    .exact absurd h h3
    .omega
 .rcases splitS j rs hj with⟨i,rfl,_,h3⟩|⟨h1,h2⟩
  .obtain⟨m1,m2⟩:=h'.mny i rs h3;refine⟨m1,fun b hb=>⟨fun h=> ?_,fun j' rs' hj' hb'=> ?_⟩⟩
   .rcases ownP b h with h|⟨_,f1,f2⟩
    .exact(m2 b hb).1 h
    .exact(hf.keep b f1 f2).2 (.inr ⟨i,rs,h3,hb⟩)
   .rcases splitS j' rs' hj' with⟨i',rfl,_,h3'⟩|⟨h1',h2'⟩
    .rw[(m2 b hb).2 i' rs' h3' hb']
    .obtain⟨f1,f2⟩:=farS j' rs' b h1' h2' hb';exact absurd (.inr ⟨i,rs,h3,hb⟩) (hf.keep b f1 f2).2
  .obtain⟨m1,m2⟩:=hr.mny j rs h2;refine⟨m1,fun b hb=> ?_⟩;obtain⟨f1,f2⟩:=farS j rs b h1 h2 hb;refine⟨fun h=> ?_,fun j' rs' hj' hb'=> ?_⟩
   .rcases ownP b h with h|⟨h,_⟩
    .exact(hf.keep b f1 f2).2 (.inl h)
    .exact(m2 b hb).1 h
   .rcases splitS j' rs' hj' with⟨i',rfl,_,h3'⟩|⟨_,h2'⟩
    .exact absurd (.inr ⟨i',rs',h3',hb'⟩) (hf.keep b f1 f2).2
    .exact(m2 b hb).2 j' rs' h2' hb'
 .obtain⟨h1,h2⟩:=hf.keep b hb (fun h=>ho (own0 b h));refine⟨h1,fun h=> ?_⟩;rcases ownK b h with h|⟨h,_⟩
  .exact h2 h
  .exact ho h
 .rcases hf.memNew b k v hv with h|h|h
  .exact .inl h
  .exact .inr (.inl (own0 b h))
  .exact .inr (.inr h)
theorem R6(hG:G.H=H2)(hn:ids.Nodup)(hm:Dg (rn ids H2.length) H2 ids H)(hr:B9 G w)(ho:Ai H.length H=true):
  B9 ⟨fun i=>G.ρ (rn ids H2.length i),H,G.m⟩ w/\∀{x:yq}{vs:y6},AV.oks H.length x=true->BP G (AV.Dv (rn ids H2.length) x) vs->BP ⟨fun i=>G.ρ (rn ids H2.length i),H,G.m⟩ x vs:=by
 generalize hι:rn ids H2.length=ι at*
 have up0:∀id b,H[id]? =some b->G.H[ι id]? =some (b.ren ι)/\∃h:id<ids.length,ι id=ids[id]:=by
  intro id b hb;obtain⟨a,h1,h2⟩:=KG hm hb;have e:ι id=a:=by rw[<-hι];exact eW h1
  obtain⟨h3,h4⟩:=yZ.1 h1;exact⟨by rw[e,hG];exact h2,h3,by rw[e,h4]⟩
 let G0:Gh:=⟨fun i=>G.ρ (ι i),H,G.m⟩
 have hb:∀id,id<H.length->∃b,G0.H[id]? =some b/\G.H[ι id]? =some (b.ren ι)/\G.ρ (ι id)=G0.ρ id:=
  fun id hid=>⟨H[id],yj hid,(up0 id _ (yj hid)).1,rfl⟩
 refine⟨⟨fun i b hbi=> ?_,fun i j p q b N N' hp hq lp lq r1 r2=> ?_,hr.mem,fun b hb k=> ?_,hr.st,fun i rs hi=> ?_⟩,fun hx h=>BP.Km (G0:=G0) (G:=G) (ι:=ι) (Mem.le_refl _) hb hx h⟩
 .exact BR.Km (G0:=G0) (G:=G) (ι:=ι) (Mem.le_refl _) hb rfl (NH ho hbi) (hr.blk _ _ (up0 i b hbi).1)
 .obtain⟨e1,e2,e3⟩:=up0 i p hp;obtain⟨f1,f2,f3⟩:=up0 j q hq;have:=hr.inj _ _ _ _ b N N' e1 f1 (by rw[EI];exact lp) (by rw[EI];exact lq) r1 r2;rw[e3,f3]at this;exact(List.getElem_inj hn).1 this
 .rcases hb with⟨i,N,q,hq,hl,hρ⟩|⟨i,rs,hq,hc⟩
  .exact hr.sep b (.inl ⟨ι i,N,_,(up0 i q hq).1,by rw[EI];exact hl,hρ⟩) k
  .exact hr.sep b (.inr ⟨ι i,rs,(up0 i _ hq).1,hc⟩) k
 .obtain⟨e1,e2,e3⟩:=up0 i _ hi;obtain⟨m1,m2⟩:=hr.mny _ rs e1;refine⟨m1,fun b hb=>⟨?_,fun i' rs' hi' hb'=> ?_⟩⟩
  .rintro⟨j,N,q,hq,hl,hρ⟩;exact(m2 b hb).1 ⟨ι j,N,_,(up0 j q hq).1,by rw[EI];exact hl,hρ⟩
  .obtain⟨f1,f2,f3⟩:=up0 i' _ hi';have:=(m2 b hb).2 _ rs' f1 hb';rw[e3,f3]at this;exact(List.getElem_inj hn).1 this
theorem JO.ren{P:Program}{f:FuncId}{args:yq}{R:AV->yz->Prop}(ids:BK)(h:JO P f args H R)(hn:ids.Nodup)(hm:Dg (rn ids H2.length) H2 ids H)(ho:Ai H.length H=true)(ha:AV.oks H.length args=true):
  JO P f (AV.Dv (rn ids H2.length) args) H2 fun r H2'=>∃r' H',R r' H'/\r=r'.ren (rn ids H2.length)/\H2'=Jy ids H2 (E4 (rn ids H2.length) H'):=by
 refine⟨h.1,fun G w vs hG hr hargs=> ?_⟩;obtain⟨h1,h2⟩:=R6 hG hn hm hr ho;refine(h.2 _ w vs rfl h1 (h2 ha hargs)).mono ?_;rintro e w' ⟨v,r,G0',rfl,hR,hv,hr',hfr⟩;obtain⟨G'',q1,q2,q3,q4,q5⟩:=MC hG hn hm hr hfr hr';exact⟨v,_,G'',rfl,⟨r,G0'.H,hR,rfl,q1⟩,hv.ren q4 q5,q2,q3⟩
end Go.Gar
namespace Go.Gar
def Bw(P:Program)(f:FuncId)(args:yq)(H:yz)(r:AV)(H':yz):Prop:=JO P f args H fun x K=>x=r/\K=H'
def nodupB:BK->Bool
 |[]=>true
 |a::r=>(r.all fun b=> !(Nat.beq a b))&&nodupB r
theorem Ft:∀{l:BK},nodupB l=true->l.Nodup
 |[],_=>List.nodup_nil
 |a::r,h=>by
  simp only[nodupB,yU,q0I]at h;refine List.nodup_cons.2 ⟨fun ha=> ?_,Ft h.2⟩;have:=h.1 a ha;simp at this
theorem Bw.ren{P:Program}{f:FuncId}{args:yq}{H H2:yz}{r:AV}{H':yz}(ids:BK)(h:Bw P f args H r H')(hn:nodupB ids=true)(hm:Dg (rn ids H2.length) H2 ids H)(ho:Ai H.length H=true)(ha:AV.oks H.length args=true):
  Bw P f (AV.Dv (rn ids H2.length) args) H2 (r.ren (rn ids H2.length)) (Jy ids H2 (E4 (rn ids H2.length) H')):=
 (JO.ren ids h (Ft hn) hm ho ha).mono fun x K ⟨r',H'',⟨h1,h2⟩,h3,h4⟩=>by subst h1;subst h2;exact⟨h3,h4⟩
theorem Fn.toD{P:Program}{f:FuncId}{ds:yo}{r:D}(h:Fn P f ds r)(H:yz):Bw P f (ds.map .d) H (.d r) H:=h.vt (dD ds) H
section
variable {P:Program}{ro:yW}{ops:ya}{i:Nat}{rest:yb}{S S0:St}{Q:Exit->St->Prop}{o:Oper}{E:Nat->Option Bd}{A:Prop}{acc:List Rc}
variable {args:yq}{H:yz}{r:AV}{H':yz}
theorem Wl_D{g:Nat}(ids:BK)(hF:Bw P g args H r H')(hg:AX ops S.env o=some true)(h:Cp S.env o.op=some (g,AV.Dv (rn ids S.H.length) args))(hd:Au o.dst S.n=true)(hm:Dg (rn ids S.H.length) S.H ids H)(hn:nodupB ids=true)(ho:Ai H.length H=true)(ha:AV.oks H.length args=true)(k:Wl P ro ops (i+1) rest ⟨Bm o.dst (r.ren (rn ids S.H.length)) S.env,Jy ids S.H (E4 (rn ids S.H.length) H'),S.n⟩ Q):Wl P ro ops i (o::rest) S Q:=
 pm hg h hd (hF.ren ids hn hm ho ha) fun x K ⟨h1,h2⟩=>by subst h1;subst h2;exact k
theorem Wd_D{g:Nat}(ids:BK)(hF:Bw P g args H r H')(hg:AX ops (FO (looks ops o) S.env) o=some true)(h:Cp (FO (looks ops o) S.env) o.op=some (g,AV.Dv (rn ids S.H.length) args))(hd:Au o.dst S.n=true)(hm:Dg (rn ids S.H.length) S.H ids H)(hn:nodupB ids=true)(ho:Ai H.length H=true)(ha:AV.oks H.length args=true)(hk:Wd P ro E ops S0 A (⟨FO (looks ops o) S.env,S.H,r.ren (rn ids S.H.length),.eff⟩::acc) rest ⟨Bm o.dst (r.ren (rn ids S.H.length)) S.env,Jy ids S.H (E4 (rn ids S.H.length) H'),S.n⟩):Wd P ro E ops S0 A acc (o::rest) S:=
 Wd_T hg h hd (hF.ren ids hn hm ho ha) hk
theorem ja{f:FuncId}{fn:Func}{c:Code}(hE:CV P E)(hf:P.funcs[f]? =some fn)(hb:fn.body=some c)(hname:(fn.name== "runtime.NumGoroutine")=false)(hn:args.length<=fn.ntmps)(h:W P none c ⟨Fp 0 args,H,fn.ntmps⟩ (P9 fun S0=>∃S',A5 S0 S'/\H.length<=S'.H.length/\∃cc x,E2 E S'.env S'.H fn.results.toList=some (cc,x)/\cc=true/\x=r/\S'.H=H')):Bw P f args H r H':=
 RY hE hf hb hname hn h
def Lp.is(r:Lp)(n:Nat)(env:yr)(ps:Array Tmp)(asg body:Code):Prop:=
 r.state= .ready/\r.pending=none/\r.n=n/\r.env=env/\r.params=ps/\r.assign=asg/\r.body=body
def Lp.busy(r:Lp):Lp:=r.at_ .busy none
def Lp.left(r:Lp)(c:Code):Lp:=r.at_ .done (some c)
def Lp.out(r:Lp):Lp:=r.at_ .exhausted r.pending
variable {ps:Array Tmp}
theorem jo{g:Operand}{asg body:Code}{f:FuncId}{first cap:yq}(K:Lp->AV->yz->Prop)(hg:Eo S.env g=some (.fn (.func f) first cap))(seq:∀r,r.is S.n S.env ps asg body->JO P f (first++[.yl S.H.length]++cap) (S.H++[.lp r]) (K r))(k:∀r,r.is S.n S.env ps asg body->∀x H',K r x H'->
   (H'[S.H.length]? =some (.lp r)/\Q .normal ⟨S.env,H'.set S.H.length (.lp r.out),S.n⟩)\/
   ∃c,H'[S.H.length]? =some (.lp (r.left c))/\W P ro c ⟨S.env,H'.set S.H.length (.lp (r.left c).out),S.n⟩ Q):W P ro (.rangeFunc g ps asg body) S Q:=by
 refine pc (K:=fun x H'=>∃fn,K ⟨.ready,none,fn,S.n,S.env,ps,asg,body⟩ x H') hg (fun fn=>(seq _ ⟨rfl,rfl,rfl,rfl,rfl,rfl,rfl⟩).mono fun x H h=>⟨fn,h⟩) ?_;rintro x H' ⟨fn,h⟩;rcases k _ ⟨rfl,rfl,rfl,rfl,rfl,rfl,rfl⟩ x H' h with⟨h1,h2⟩|⟨c,h1,h2⟩
 .exact⟨_,h1,rfl,h2⟩
 .exact⟨_,h1,rfl,h2⟩
def xq(id n:Nat)(r:Lp)(R:AV->yz->Prop)(e:Exit)(S:St):Prop:=
 ∃S'',A5 S S''/\n<=S''.H.length/\S''.H[id]? =some (.lp r.busy)/\
  match e with
  | .normal=>R (.d (.b true)) (S''.H.set id (.lp r))
  | .ret=>R (.d (.b false)) (S''.H.set id (.lp (r.left .ret)))
  | .exit i=>R (.d (.b false)) (S''.H.set id (.lp (r.left (.exit i))))
  | .goto l=>R (.d (.b false)) (S''.H.set id (.lp (r.left (.goto l))))
  |_=>False
def QAs(P:Program)(id n:Nat)(r:Lp)(body:Code)(R:AV->yz->Prop):Exit->St->Prop
 | .normal,S=>S.H[id]? =some (.lp r)/\W P (some id) body ⟨S.env,S.H.set id (.lp r.busy),S.n⟩ (xq id n r R)
 |_,_=>False
theorem Lp.qD{r:Lp}(h:r.state= .ready)(h2:r.pending=none):r.busy.at_ .ready none=r:=by
 obtain⟨a,b,c,d,e,f,g,i⟩:=r;subst h;subst h2;rfl
theorem CE{id n:Nat}{env:yr}{asg body:Code}{r:Lp}{R:AV->yz->Prop}(hr:r.is n env ps asg body)(hid:H[id]? =some (.lp r))(hlen:args.length=ps.size)(hps:(ps.toList.all fun t=>Nat.blt t n)=true)(hb:W P (some id) asg ⟨Ym ps.toList args env,H,n⟩ (QAs P id H.length r body R)):YT P id args H R:=by
 obtain⟨h1,h2,h3,h4,h5,h6,h7⟩:=hr;subst h3;subst h4;subst h5;subst h6;subst h7;refine pv hid h1 hlen (fun t ht=> ?_) (hb.mono ?_)
 .rw[q0I]at hps;have:=hps t ht;simpa[q0k]using this
 .intro e S q
  cases e with
  |normal=>
   obtain⟨q1,q2⟩:=q;refine⟨r,q1,h1,?_⟩;rw[h2];refine W.mono q2 ?_;rintro e S' ⟨S'',t,hl,hi,hm⟩;have hlt:=(yZ.1 hi).1
   cases e with
   |normal=>exact⟨none,rfl,S'',t,hl,hlt,_,hi,by rw[show R8 none= .ready from rfl,Lp.qD h1 h2];exact hm⟩
   |ret=>exact⟨some .ret,rfl,S'',t,hl,hlt,_,hi,hm⟩
   |exit i=>exact⟨some (.exit i),rfl,S'',t,hl,hlt,_,hi,hm⟩
   |goto l=>exact⟨some (.goto l),rfl,S'',t,hl,hlt,_,hi,hm⟩
   |_=>exact hm.elim
  |_=>exact q.elim
end
end Go.Gar
namespace Go.Gar
theorem FR(u:UInt8):Ho .i64 (u.toNat:Int)=true:=by
 have:=u.toNat_lt;simp[Ho];omega
theorem u8z{u:UInt8}(h:u.toNat=0):u=0:=q1X.1 h
theorem LO(a b:Nat):Nat.beq a b=decide (a=b):=by
 by_cases h:a=b
 .subst h;simp
 .rw[yY h];cases hb:Nat.beq a b with
  |false=>rfl
  |true=>exact absurd (zH hb) h
theorem jQ(n:Int):Hv .i64 n=n:=rfl
theorem pA(n:Int):Hv .u8 n=n%256:=by
 simp[Hv,IntKind.wrap,IntKind.bits,IntKind.signed]
theorem jR(n:Int):Hv .u64 n=n%18446744073709551616:=by
 simp[Hv,IntKind.wrap,IntKind.bits,IntKind.signed]
theorem Sp(n:Int):IntKind.wrap .u8 n=n%256:=by
 simp[IntKind.wrap,IntKind.bits,IntKind.signed]
theorem SU(n:Int)(k:Nat):n.fdiv ((k:Nat):Int)=n/(k:Int):=q1I n (q0s k)
theorem shr8(n:Int):n.fdiv (2^min 8 64)=n/256:=SU n 256
theorem xc(n:Int):n.fdiv (2^min 16 64)=n/65536:=SU n 65536
theorem xd(n:Int):n.fdiv (2^min 32 64)=n/4294967296:=SU n 4294967296
theorem tF{p:Prop}(h:true=false):p:=absurd h (by decide)
theorem fT{p:Prop}(h:false=true):p:=absurd h (by decide)
theorem Q3:(∀(p:Prop)[Decidable p],(decide p=true)↔p)/\(∀(p:Prop)[Decidable p],(decide p=false)↔¬p)/\(∀b:Bool,((!b)=true)↔b=false)/\(∀b:Bool,((!b)=false)↔b=true)/\
  (∀(α:Type)[BEq α][LawfulBEq α](a b:α),((a==b)=true)↔a=b)/\(∀(α:Type)[BEq α][LawfulBEq α](a b:α),((a==b)=false)↔¬a=b)/\(∀(α:Type)[BEq α][LawfulBEq α](a b:α),((a !=b)=true)↔¬a=b)/\(∀(α:Type)[BEq α][LawfulBEq α](a b:α),((a !=b)=false)↔a=b)/\
  (∀(α:Type)(a b:α),(a≠b)↔¬a=b)/\(∀a b:Int,(¬a<b)↔b<=a)/\(∀a b:Int,(¬a<=b)↔b<a)/\(∀(α:Type)[LE α](a b:α),(a>=b)↔b<=a)/\(∀(α:Type)[LT α](a b:α),(a>b)↔b<a):=
 ⟨fun p _=>decide_eq_true_iff,fun p _=>zn,fun b=>by cases b<;>simp,fun b=>by cases b<;>simp,fun α _ _ a b=>beq_iff_eq,fun α _ _ a b=>q1Q,fun α _ _ a b=>bne_iff_ne,fun α _ _ a b=>bne_eq_false_iff_eq,fun α a b=>Iff.rfl,fun a b=>Int.not_lt,fun a b=>Int.not_le,fun α _ a b=>Iff.rfl,fun α _ a b=>Iff.rfl⟩
theorem Nf:(∀n,Hv .i64 n=n)/\(∀n,Hv .u8 n=n%256)/\(∀n,Hv .u64 n=n%18446744073709551616)/\(∀n,IntKind.wrap .u8 n=n%256)/\IntKind.bits .i64=64/\IntKind.bits .u8=8/\IntKind.bits .u64=64/\
  (∀n:Int,n.fdiv (2^min 8 64)=n/256)/\(∀n:Int,n.fdiv (2^min 16 64)=n/65536)/\(∀n:Int,n.fdiv (2^min 32 64)=n/4294967296)/\
  (∀l,B3 (.by l)=l.length)/\(∀l,B3 (.is l)=l.length)/\(∀k l,B3 (.sl k l)=l.length)/\(∀l,Bt (.by l)=1)/\(∀l,Bt (.is l)=1)/\(∀k l,Bt (.sl k l)=k)/\
  (∀{α:Type}(a:α)(l:List α),(a::l).length=l.length+1)/\(∀{α:Type},([]:List α).length=0)/\(∀{α β:Type}(f:α->β)(l:List α),(l.map f).length=l.length)/\
  (∀n:Int,0+n=n)/\(∀n:Int,n+0=n)/\(∀n:Nat,0+n=n)/\(∀n:Nat,n+0=n)/\(∀n:Nat,(n:Int).toNat=n)/\
  (∀{α:Type}(a:α)(l:List α)(d:α),(a::l).getD 0 d=a)/\(∀{α:Type}(a:α)(l:List α)(n:Nat)(d:α),(a::l).getD (n+1) d=l.getD n d)/\
  (∀n l,Fo n (.by l)= .by (l.drop n))/\(∀n l,Fo n (.is l)= .is (l.drop n))/\(∀n k l,Fo n (.sl k l)= .sl k (l.drop n))/\(∀n l,takeD n (.by l)= .by (l.take n))/\(∀n l,takeD n (.is l)= .is (l.take n))/\(∀n k l,takeD n (.sl k l)= .sl k (l.take n))/\
  (∀{α:Type}(a b c:List α),a++b++c=a++(b++c))/\(∀{α:Type}(a:List α),[]++a=a)/\(∀{α:Type}(x:α)(a b:List α),x::a++b=x::(a++b))/\(∀{α:Type}(a:List α),a++[]=a)/\
  (∀{α:Type}(n:Nat)(x:α)(l:List α),(x::l).drop (n+1)=l.drop n)/\(∀{α:Type}(l:List α),l.drop 0=l)/\(∀{α:Type}(n:Nat)(x:α)(l:List α),(x::l).take (n+1)=x::l.take n)/\(∀{α:Type}(l:List α),l.take 0=[])/\
  (!true)=false/\(!false)=true/\(∀l:AT,(l==l)=true)/\(∀n:Int,(n==n)=true)/\(∀b:Bool,(b==b)=true)/\(∀n:Int,(n !=n)=false)/\(∀l:AT,(l !=l)=false)/\(∀l:Ao,decide (l=l)=true)/\(∀l:AT,decide (l=l)=true):=by
 refine⟨jQ,pA,jR,Sp,rfl,rfl,rfl,shr8,xc,xd,fun _=>rfl,fun _=>rfl,fun _ _=>rfl,fun _=>rfl,fun _=>rfl,fun _ _=>rfl,fun _ _=>rfl,rfl,fun _ _=>zY _,Int.zero_add,Int.add_zero,q0M,q1B,q0m,?_⟩;refine⟨fun _ _ _=>rfl,fun _ _ _ _=>rfl,fun _ _=>rfl,fun _ _=>rfl,fun _ _ _=>rfl,fun _ _=>rfl,fun _ _=>rfl,fun _ _ _=>rfl,zu,fun _=>rfl,fun _ _ _=>rfl,q07,fun _ _ _=>rfl,fun _=>rfl,fun _ _ _=>rfl,fun _=>rfl,rfl,rfl,?_⟩;simp
theorem Ks:(∀(ι:Nat->Nat) x,AV.ren ι (.d x)= .d x)/\(∀(ι:Nat->Nat),AV.ren ι .u= .u)/\(∀(ι:Nat->Nat),AV.ren ι .e0= .e0)/\(∀(ι:Nat->Nat) x,AV.ren ι (.dp x)= .dp x)/\(∀(ι:Nat->Nat) a b c,AV.ren ι (.ptr a b c)= .ptr (ι a) b c)/\(∀(ι:Nat->Nat) a b c,AV.ren ι (.sl a b c)= .sl (ι a) b c)/\
  (∀(ι:Nat->Nat) a,AV.ren ι (.ag a)= .ag (AV.Dv ι a))/\(∀(ι:Nat->Nat) a,AV.ren ι (.tup a)= .tup (AV.Dv ι a))/\(∀(ι:Nat->Nat) f a b,AV.ren ι (.fn f a b)= .fn f (AV.Dv ι a) (AV.Dv ι b))/\(∀(ι:Nat->Nat),AV.Dv ι []=[])/\(∀(ι:Nat->Nat) x l,AV.Dv ι (x::l)=x.ren ι::AV.Dv ι l)/\
  (∀k i,rn [] k i=k+i)/\(∀a r k,rn (a::r) k 0=a)/\(∀a r k i,rn (a::r) k (i+1)=rn r k i)/\
  (∀H l,Jy [] H l=H++l)/\(∀a r H b l,Jy (a::r) H (b::l)=Jy r (H.set a b) l)/\(∀ι:Nat->Nat,E4 ι []=[])/\(∀(ι:Nat->Nat) b l,E4 ι (b::l)=b.ren ι::E4 ι l)/\
  (∀(ι:Nat->Nat),AF.ren ι .gone= .gone)/\(∀(ι:Nat->Nat) l,AF.ren ι (.c l)= .c (AV.Dv ι l))/\(∀(ι:Nat->Nat) x,AF.ren ι (.a x)= .a x)/\
  (∀{α:Type}(x a:α)(l:List α),(x::l).set 0 a=a::l)/\(∀{α:Type}(x a:α)(l:List α)(n:Nat),(x::l).set (n+1) a=x::l.set n a)/\(∀{α:Type}(a:α)(n:Nat),[].set n a=[])/\
  (∀{α:Type}(a:List α),[]++a=a)/\(∀{α:Type}(x:α)(a b:List α),x::a++b=x::(a++b))/\(∀{α:Type}(a:List α),a++[]=a)/\(∀{α:Type}(a:α)(l:List α),(a::l).length=l.length+1)/\(∀{α:Type},([]:List α).length=0)/\(∀n:Nat,0+n=n)/\(∀n:Nat,n+0=n):=by
 refine⟨fun _ _=>rfl,fun _=>rfl,fun _=>rfl,fun _ _=>rfl,fun _ _ _ _=>rfl,fun _ _ _ _=>rfl,fun _ _=>rfl,fun _ _=>rfl,fun _ _ _ _=>rfl,fun _=>rfl,fun _ _ _=>rfl,fun _ _=>rfl,fun _ _ _=>rfl,fun _ _ _ _=>rfl,fun _ _=>rfl,fun _ _ _ _ _=>rfl,fun _=>rfl,fun _ _ _=>rfl,fun _=>rfl,fun _ _=>rfl,fun _ _=>rfl,fun _ _ _=>rfl,fun _ _ _ _=>rfl,fun _ _=>rfl,fun _=>rfl,fun _ _ _=>rfl,q07,fun _ _=>rfl,rfl,q0M,q1B⟩
theorem Mm:(∀a b,Nat.beq a b=decide (a=b))/\(∀n len,(Um n len=true)=(0<=n/\n<(len:Int)))/\(∀n,(Ho .i64 n=true)=(-9223372036854775808<=n/\n<=9223372036854775807))/\(∀n,Ho .u8 n=true)/\(∀n,Ho .u64 n=true)/\
  (∀l,B3 (.by l)=l.length)/\(∀l,B3 (.is l)=l.length)/\(∀k l,B3 (.sl k l)=l.length)/\(∀l,Bt (.by l)=1)/\(∀l,Bt (.is l)=1)/\(∀k l,Bt (.sl k l)=k)/\
  (∀l,B8 (.by l)=true)/\(∀l,B8 (.is l)=true)/\(∀k l,B8 (.sl k l)=true)/\(∀{α:Type}(a b:List α),(a++b).length=a.length+b.length)/\(∀n:Nat,n*1=n)/\(∀n:Nat,1*n=n):=by
 refine⟨LO,fun n len=>propext Em,fun n=> ?_,fun _=>rfl,fun _=>rfl,fun _=>rfl,fun _=>rfl,fun _ _=>rfl,fun _=>rfl,fun _=>rfl,fun _ _=>rfl,fun _=>rfl,fun _=>rfl,fun _ _=>rfl,fun _ _=>yw,Nat.mul_one,Nat.one_mul⟩;simp only[Ho,yU,yc]
mutual
theorem AV.e8{k k':Nat}(hk:k<=k'):∀{x:AV},x.ok k=true->x.ok k'=true
 | .d _,_=>rfl
 | .u,_=>rfl
 | .e0,_=>rfl
 | .dp _,_=>rfl
 | .ptr _ _ _,h| .sl _ _ _,h| .bs _ _ _ _ _,h| .ep _ _ _ _ _,h| .yl _,h| .mp _,h=>by simp only[AV.ok,q0k]at h|-;omega
 | .ag _,h| .tup _,h=>by simp only[AV.ok]at h|-;exact AV.OP hk h
 | .fn _ a b,h=>by simp only[AV.ok,yU]at h|-;exact⟨AV.OP hk h.1,AV.OP hk h.2⟩
theorem AV.OP{k k':Nat}(hk:k<=k'):∀{l:yq},AV.oks k l=true->AV.oks k' l=true
 |[],_=>rfl
 |x::r,h=>by simp only[AV.oks,yU]at h|-;exact⟨AV.e8 hk h.1,AV.OP hk h.2⟩
end
variable {H:yz}{xs:yq}{l:yo}
theorem Jz:D5 H (.tup xs) (.tup l)↔Ea H xs l:=by simp[D5]
theorem N4:D5 H (.ag xs) (.agg l)↔Ea H xs l:=by simp[D5]
variable {y:D}
theorem EA{x:AV}:Ea H (x::xs) (y::l)↔D5 H x y/\Ea H xs l:=by
 simp only[Ea];constructor
 .rintro⟨_,_,h,h1,h2⟩;cases h;exact⟨h1,h2⟩
 .rintro⟨h1,h2⟩;exact⟨_,_,rfl,h1,h2⟩
theorem Ev:Ea H [] []↔True:=by simp[Ea]
theorem C4{x:D}:D5 H (.d x) y↔y=x:=by simp[D5]
theorem RZ:D5 H .e0 y↔B8 y=true/\B3 y=0/\Aq y:=by simp[D5]
theorem JH{i n sz:Nat}:D5 H (.sl i n sz) y↔H[i]? =some (.a y)/\n=B3 y:=by simp[D5]
def BU(dst:Option Tmp)(x:AV)(env:yr):Option (yr):=
 match dst with
 |some d=>some ((d,x)::env)
 |none=>some env
theorem Az{dst:Option Tmp}{x:AV}{env e:yr}(h:BU dst x env=some e):e=Bm dst x env:=by
 cases dst<;>simp_all[BU,Bm]
def FN:BK->yr->Option (yr)
 |[],_=>some []
 |t::r,env=>match get env t with
  |some x=>match FN r env with
   |some l=>some ((t,x)::l)
   |none=>none
  |none=>FN r env
theorem D8:∀{l:BK}{env e:yr},FN l env=some e->e=FO l env
 |[],env,e,h=>by simp[FN]at h;simp[FO,h]
 |t::r,env,e,h=>by
  simp only[FN]at h;simp only[FO];split at h
  .rename_i x hx;rw[hx];split at h
   .rename_i l hl;cases h;rw[D8 hl]
   .cases h
  .rename_i hx;rw[hx];exact D8 h
def Hu:yz->AF->Option (yz)
 |[],b=>some [b]
 |x::r,b=>match Hu r b with
  |some l=>some (x::l)
  |none=>none
theorem Ig:∀{H:yz}{b:AF}{l:yz},Hu H b=some l->l=H++[b]
 |[],b,l,h=>by simp[Hu]at h;simp[h]
 |x::r,b,l,h=>by
  simp only[Hu]at h;split at h
  .rename_i q hq;cases h;rw[Ig hq];rfl
  .cases h
section
variable {P:Program}{ro:yW}{ops:ya}{i:Nat}{rest:yb}{S0:St}{en:yr}{hp:yz}{nt:Nat}{Q:Exit->St->Prop}{o:Oper}{E:Nat->Option Bd}{A:Prop}{acc:List Rc}
variable {e:yr}
theorem Xn(live:BK)(h:FN live en=some e)(k:Q .normal ⟨e,hp,nt⟩):Wl P ro ops i [] ⟨en,hp,nt⟩ Q:=by
 have:=D8 h;subst this;exact Zi (fun t x hx=>(KO hx).2) (ju k)
variable {x x':AV}{c:Bool}
theorem Xq(hE:CV P E)(hg:AX ops en o=some true)(h:PQ E en hp o.op=some (c,x))(hd:Au o.dst nt=true)(he:BU o.dst x' en=some e)(k:Wl P ro ops (i+1) rest ⟨e,hp,nt⟩ Q)(hc:c=true)(hx:x=x':=by first|(simp only[Nf,Ks,Nat.reduceAdd,Int.reduceAdd,Int.reduceSub,Int.reduceMul,Int.reduceToNat,nS];rfl)|rfl):Wl P ro ops i (o::rest) ⟨en,hp,nt⟩ Q:=by
 subst hx;rw[Az he]at k;exact u5 hE hg h hd hc k
def xB:Op->Bool
 | .move _| .assign _| .extract _ _| .pick _ _ _=>true
 |_=>false
variable {b:Bool}
theorem sg(h:b=true):b=true:=h
variable {S:St}
theorem qS(k:Wl P ro ops i rest S Q):Wl P ro ops i rest S Q:=k
theorem vg(k:Wd P ro E ops S0 A acc rest S):Wd P ro E ops S0 A acc rest S:=k
theorem Hx(_:xB o.op=true)(k:Wl P ro ops i (o::rest) S Q):Wl P ro ops i (o::rest) S Q:=k
theorem Lm(_:xB o.op=true)(k:Wd P ro E ops S0 A acc (o::rest) S):Wd P ro E ops S0 A acc (o::rest) S:=k
theorem pu(hE:CV P E)(hg:AX ops en o=some true)(h:PQ E en hp o.op=some (true,x))(hd:Au o.dst nt=true)(he:BU o.dst x en=some e)(k:Wl P ro ops (i+1) rest ⟨e,hp,nt⟩ Q):Wl P ro ops i (o::rest) ⟨en,hp,nt⟩ Q:=by
 rw[Az he]at k;exact u5 hE hg h hd rfl k
variable {f:Nat->AV}{H':yz}
theorem Xa(hE:CV P E){b:AF}(hg:AX ops en o=some true)(h:pI E en hp o.op=some (c,f,b))(hd:Au o.dst nt=true)(he:BU o.dst x' en=some e)(hH:Hu hp b=some H')(k:Wl P ro ops (i+1) rest ⟨e,H',nt⟩ Q)(hc:c=true)(hx:f hp.length=x':=by first|(simp only[Nf,Ks,Nat.reduceAdd,Int.reduceAdd,Int.reduceSub,Int.reduceMul,Int.reduceToNat,nS];rfl)|rfl):Wl P ro ops i (o::rest) ⟨en,hp,nt⟩ Q:=by
 subst hx;rw[Az he,Ig hH]at k;exact Wl_a hE hg h hd hc k
variable {q:D}
theorem Xao(hE:CV P E)(hg:AX ops en o=some true)(h:SJ E en hp o.op=some (c,q))(hd:Au o.dst nt=true)(he:BU o.dst x' en=some e)(hH:Hu hp (.a q)=some H')(k:Wl P ro ops (i+1) rest ⟨e,H',nt⟩ Q)(hc:c=true)(hx: .sl hp.length (B3 q) (Bt q)=x':=by first|(simp only[Nf,Ks,Nat.reduceAdd,Int.reduceAdd,Int.reduceSub,Int.reduceMul,Int.reduceToNat,nS];rfl)|rfl):Wl P ro ops i (o::rest) ⟨en,hp,nt⟩ Q:=by
 subst hx;rw[Az he,Ig hH]at k;exact wc hE hg h hd hc k
def QB(dst:Option Tmp)(L:BK):Bool:=
 match dst with
 |some d=>L.any (Nat.beq d)
 |none=>false
theorem pq(L:BK)(hE:CV P E)(_:QB o.dst L=true)(hg:AX ops en o=some true)(h:SJ E en hp o.op=some (c,q))(hd:Au o.dst nt=true)(he:BU o.dst x' en=some e)(hH:Hu hp (.a q)=some H')(k:Wl P ro ops (i+1) rest ⟨e,H',nt⟩ Q)(hc:c=true)(hx: .sl hp.length (B3 q) (Bt q)=x':=by first|(simp only[Nf,Ks,Nat.reduceAdd,Int.reduceAdd,Int.reduceSub,Int.reduceMul,Int.reduceToNat,nS];rfl)|rfl):Wl P ro ops i (o::rest) ⟨en,hp,nt⟩ Q:=Xao hE hg h hd he hH k hc hx
theorem Xw(hE:CV P E)(hg:AX ops en o=some true)(h:tE E en hp o.op=some (c,x,H'))(hd:Au o.dst nt=true)(he:BU o.dst x' en=some e)(k:Wl P ro ops (i+1) rest ⟨e,H',nt⟩ Q)(hc:c=true)(hx:x=x':=by first|(simp only[Nf,Ks,Nat.reduceAdd,Int.reduceAdd,Int.reduceSub,Int.reduceMul,Int.reduceToNat,nS];rfl)|rfl):Wl P ro ops i (o::rest) ⟨en,hp,nt⟩ Q:=by
 subst hx;rw[Az he]at k;exact Wl_w hE hg h hd hc k
theorem Xs(hg:AX ops en o=some false)(hd:Au o.dst nt=true)(he:BU o.dst (.d (.tup [])) en=some e)(k:Wl P ro ops (i+1) rest ⟨e,hp,nt⟩ Q):Wl P ro ops i (o::rest) ⟨en,hp,nt⟩ Q:=by
 rw[Az he]at k;exact pp hg hd k
variable {es:List (yo)}{e':yr}
theorem vX(hE:CV P E){n:Int}{e:yo}(hg:AX ops en o=some true)(h:PQ E en hp o.op=some (Um n es.length&&b,.dp (es.getD n.toNat [])))(hd:Au o.dst nt=true)(he':BU o.dst (.dp e) en=some e')(hb:b=true)(hn:0<=n)(he:es[n.toNat]? =some e)(k:Wl P ro ops (i+1) rest ⟨e',hp,nt⟩ Q):Wl P ro ops i (o::rest) ⟨en,hp,nt⟩ Q:=by
 rw[Az he']at k;exact we hE hg h hd hb hn he k
theorem Rl{d:Nat}(hg:fw ops o=some d)(hb:get en d=some (.d (.b b)))(ht:b=true->Wl P ro ops i (o::rest) ⟨(d,.d (.b true))::en,hp,nt⟩ Q)(hf:b=false->Wl P ro ops i (o::rest) ⟨(d,.d (.b false))::en,hp,nt⟩ Q):Wl P ro ops i (o::rest) ⟨en,hp,nt⟩ Q:=
 jw hg hb ht hf
theorem Rm{d:Nat}(hg:fw ops o=some d)(hb:get en d=some (.d (.b b)))(ht:b=true->Wd P ro E ops S0 A acc (o::rest) ⟨(d,.d (.b true))::en,hp,nt⟩)(hf:b=false->Wd P ro E ops S0 A acc (o::rest) ⟨(d,.d (.b false))::en,hp,nt⟩):Wd P ro E ops S0 A acc (o::rest) ⟨en,hp,nt⟩:=
 jr hg hb ht hf
variable {g:Nat}{ds:yo}
theorem XF{r r':D}(hF:Go.Gar.Fn P g ds r)(hg:AX ops en o=some true)(h:Cp en o.op=some (g,ds.map .d))(hd:Au o.dst nt=true)(he:BU o.dst (.d r') en=some e)(k:Wl P ro ops (i+1) rest ⟨e,hp,nt⟩ Q)(hr:r=r':=by first|(simp only[Nf,Ks,Nat.reduceAdd,Int.reduceAdd,Int.reduceSub,Int.reduceMul,Int.reduceToNat,nS];rfl)|rfl):Wl P ro ops i (o::rest) ⟨en,hp,nt⟩ Q:=by
 subst hr;rw[Az he]at k;exact wY hF hg h hd k
variable {xs:yq}
theorem XFz{r r':D}(hF:Go.Gar.Fn P g ds r)(hg:AX ops en o=some true)(h:Cp en o.op=some (g,xs))(hd:Au o.dst nt=true)(he:BU o.dst (.d r') en=some e)(hx:RQ xs ds)(k:Wl P ro ops (i+1) rest ⟨e,hp,nt⟩ Q)(hr:r=r':=by first|(simp only[Nf,Ks,Nat.reduceAdd,Int.reduceAdd,Int.reduceSub,Int.reduceMul,Int.reduceToNat,nS];rfl)|rfl):Wl P ro ops i (o::rest) ⟨en,hp,nt⟩ Q:=by
 subst hr;rw[Az he]at k;exact wX hg h hd hF hx k
theorem XD{args:yq}{H:yz}{r r':AV}{H'':yz}(ids:BK)(hF:Bw P g args H r H')(hg:AX ops en o=some true)(h:Cp en o.op=some (g,AV.Dv (rn ids hp.length) args))(hd:Au o.dst nt=true)(hm:Dg (rn ids hp.length) hp ids H)(hn:nodupB ids=true)(ho:Ai H.length H=true)(ha:AV.oks H.length args=true)(he:BU o.dst r' en=some e)(k:Wl P ro ops (i+1) rest ⟨e,H'',nt⟩ Q)(hr:r.ren (rn ids hp.length)=r':=by first|(simp only[Nf,Ks,Nat.reduceAdd,Int.reduceAdd,Int.reduceSub,Int.reduceMul,Int.reduceToNat,nS];rfl)|rfl)(hH:Jy ids hp (E4 (rn ids hp.length) H')=H'':=by first|(simp only[Ks,Nat.reduceAdd];rfl)|rfl):Wl P ro ops i (o::rest) ⟨en,hp,nt⟩ Q:=by
 subst hr;subst hH;rw[Az he]at k;exact Wl_D ids hF hg h hd hm hn ho ha k
theorem Xy{id:Nat}{r0:Lp}(hT:YT P id xs hp fun r K=>r=x/\K=H')(hg:AX ops en o=some true)(h:Nw en o.op=some (id,xs))(hd:Au o.dst nt=true)(hlp:hp[id]? =some (.lp r0))(he:BU o.dst x en=some e)(k:Wl P ro ops (i+1) rest ⟨e,H',nt⟩ Q):Wl P ro ops i (o::rest) ⟨en,hp,nt⟩ Q:=by
 rw[Az he]at k;exact Wl_y hg h hd hlp hT fun r K ⟨h1,h2⟩=>by subst h1;subst h2;exact k
variable {ps:Array Tmp}
theorem jp{g:Operand}{asg body:Code}{f:FuncId}{first cap:yq}{L:Nat}{F:Lp->yz}(K:Lp->AV->yz->Prop)(hg:Eo en g=some (.fn (.func f) first cap))(hL:hp.length=L)(hxs:first++[.yl L]++cap=xs)(hF:∀r,hp++[.lp r]=F r)(seq:∀r,r.is nt en ps asg body->JO P f xs (F r) (K r))(k:∀r,r.is nt en ps asg body->∀x H',K r x H'->
   (H'[L]? =some (.lp r)/\Q .normal ⟨en,H'.set L (.lp r.out),nt⟩)\/
   ∃c,H'[L]? =some (.lp (r.left c))/\W P ro c ⟨en,H'.set L (.lp (r.left c).out),nt⟩ Q):W P ro (.rangeFunc g ps asg body) ⟨en,hp,nt⟩ Q:=by
 subst hL;subst hxs;exact jo (S:=⟨en,hp,nt⟩) K hg (fun r hr=>by have:=seq r hr;rw[<-hF]at this;exact this) k
theorem A5.refl(S:St):A5 S S:=fun _ _ G _ _ r _=>⟨G,r,⟨fun id b b' hb hb'=>by rw[hb]at hb';cases hb';exact Ap.refl _ _ _,Mem.le_refl _,fun _ h=>h,fun _ _ _ h=> .inl h⟩⟩
def w8{α:Type}(I:α->Prop)(St0:α->St)(lt:α->Prop)(k:Nat)(Q:Exit->St->Prop):Exit->St->Prop
 | .normal,S'=>∃y,I y/\lt y/\k<=(St0 y).H.length/\A5 S' (St0 y)
 |e,S'=>Q e S'
theorem BY{α:Type}{c:Code}(I:α->Prop)(St0:α->St)(μ:α->Nat)(x0:α)(h0:I x0)(t:A5 S (St0 x0))(hl:S.H.length<=(St0 x0).H.length)(body:∀x,I x->W P ro c (St0 x) (w8 I St0 (fun y=>μ y<μ x) (St0 x).H.length Q)):W P ro (.loop c) S Q:=by
 refine tn (α:={x // I x}) (fun x=>St0 x.1) (fun x=>μ x.1) ⟨x0,h0⟩ t hl (fun x=>(body x.1 x.2).mono ?_);intro e S' q
 cases e with
 |normal=>obtain⟨y,h1,h2,h3,h4⟩:=q;exact⟨⟨y,h1⟩,h2,h3,h4⟩
 |_=>exact q
theorem aA{k k':Nat}(hk:k<=k')(h:F2 k e=true):F2 k' e=true:=by
 induction e with
 |nil=>rfl
 |cons p r ih=>simp only[F2,yU]at h|-;exact⟨AV.e8 hk h.1,ih h.2⟩
theorem Lp.is.ok{r:Lp}{n:Nat}{env:yr}{asg body:Code}(h:r.is n env ps asg body){k:Nat}(hk:F2 k env=true):∀k',(decide (k<=k'))=true->F2 k' r.env=true/\F2 k' r.busy.env=true/\F2 k' r.out.env=true/\∀c,F2 k' (r.left c).env=true:=by
 intro k' hle;have:F2 k' r.env=true:=by rw[h.2.2.2.1];exact aA (q1H hle) hk
 exact⟨this,this,this,fun _=>this⟩
theorem Yn{id:Nat}(live:BK)(l:y4)(hm:P.follows .mixedOrders=true)(hE:CV P E)(hd:L9 ops (acc.reverse.map Rc.k) l=true)(hx:EE E ops acc.reverse hp l)(he:FN live en=some e)(hQ:Q .normal ⟨e,hp,nt⟩):Wd P ro E ops S0 (W P ro (.region id ops true) S0 Q) acc [] ⟨en,hp,nt⟩:=by
 have:=D8 he;subst this;exact Zg (fun t x hx=>(KO hx).2) (tp (S:=⟨FO live en,hp,nt⟩) l hm hE hd hx hQ)
variable {e0:yr}
theorem Yp(hE:CV P E)(hl:FN (looks ops o) en=some e0)(hg:AX ops e0 o=some true)(h:∀H,PQ E e0 H o.op=some (c,x))(hd:Au o.dst nt=true)(he:BU o.dst x' en=some e)(hk:Wd P ro E ops S0 A (⟨e0,hp,x',.any⟩::acc) rest ⟨e,hp,nt⟩)(hc:c=true)(hx:x=x':=by first|(simp only[Nf,Ks,Nat.reduceAdd,Int.reduceAdd,Int.reduceSub,Int.reduceMul,Int.reduceToNat,nS];rfl)|rfl):Wd P ro E ops S0 A acc (o::rest) ⟨en,hp,nt⟩:=by
 subst hx;rw[Az he]at hk;have:=D8 hl;subst this;exact tq hE hg h hd hc hk
theorem vZ(hE:CV P E)(hl:FN (looks ops o) en=some e0)(hg:AX ops e0 o=some true)(h:∀H,PQ E e0 H o.op=some (true,x))(hd:Au o.dst nt=true)(he:BU o.dst x en=some e)(hk:Wd P ro E ops S0 A (⟨e0,hp,x,.any⟩::acc) rest ⟨e,hp,nt⟩):Wd P ro E ops S0 A acc (o::rest) ⟨en,hp,nt⟩:=by
 rw[Az he]at hk;have:=D8 hl;subst this;exact tq hE hg h hd rfl hk
theorem Yq(hl:FN (looks ops o) en=some e0)(hg:AX ops e0 o=some true)(h:PQ E e0 hp o.op=some (c,x))(hd:Au o.dst nt=true)(he:BU o.dst x' en=some e)(hk:Wd P ro E ops S0 A (⟨e0,hp,x',.quiet⟩::acc) rest ⟨e,hp,nt⟩)(hc:c=true)(hx:x=x':=by first|(simp only[Nf,Ks,Nat.reduceAdd,Int.reduceAdd,Int.reduceSub,Int.reduceMul,Int.reduceToNat,nS];rfl)|rfl):Wd P ro E ops S0 A acc (o::rest) ⟨en,hp,nt⟩:=by
 subst hx;rw[Az he]at hk;have:=D8 hl;subst this;exact Wd_q hg h hd hc hk
theorem Ys(hl:FN (looks ops o) en=some e0)(hg:AX ops e0 o=some false)(hd:Au o.dst nt=true)(he:BU o.dst (.d (.tup [])) en=some e)(hk:Wd P ro E ops S0 A (⟨e0,hp,.d (.tup []),.skip⟩::acc) rest ⟨e,hp,nt⟩):Wd P ro E ops S0 A acc (o::rest) ⟨en,hp,nt⟩:=by
 rw[Az he]at hk;have:=D8 hl;subst this;exact pj hg hd hk
theorem YF{q':D}(hF:Go.Gar.Fn P g ds q)(hl:FN (looks ops o) en=some e0)(hg:AX ops e0 o=some true)(h:Cp e0 o.op=some (g,ds.map .d))(hd:Au o.dst nt=true)(he:BU o.dst (.d q') en=some e)(hk:Wd P ro E ops S0 A (⟨e0,hp,.d q',.any⟩::acc) rest ⟨e,hp,nt⟩)(hr:q=q':=by first|(simp only[Nf,Ks,Nat.reduceAdd,Int.reduceAdd,Int.reduceSub,Int.reduceMul,Int.reduceToNat,nS];rfl)|rfl):Wd P ro E ops S0 A acc (o::rest) ⟨en,hp,nt⟩:=by
 subst hr;rw[Az he]at hk;have:=D8 hl;subst this;exact wS hF hg h hd hk
theorem YFz{q':D}(hF:Go.Gar.Fn P g ds q)(hl:FN (looks ops o) en=some e0)(hg:AX ops e0 o=some true)(h:Cp e0 o.op=some (g,xs))(hd:Au o.dst nt=true)(he:BU o.dst (.d q') en=some e)(hx:RQ xs ds)(hk:Wd P ro E ops S0 A (⟨e0,hp,.d q',.any⟩::acc) rest ⟨e,hp,nt⟩)(hr:q=q':=by first|(simp only[Nf,Ks,Nat.reduceAdd,Int.reduceAdd,Int.reduceSub,Int.reduceMul,Int.reduceToNat,nS];rfl)|rfl):Wd P ro E ops S0 A acc (o::rest) ⟨en,hp,nt⟩:=by
 subst hr;rw[Az he]at hk;have:=D8 hl;subst this;exact wR hg h hd hF hx hk
theorem YD{args:yq}{H:yz}{r r':AV}{H'':yz}(ids:BK)(hF:Bw P g args H r H')(hl:FN (looks ops o) en=some e0)(hg:AX ops e0 o=some true)(h:Cp e0 o.op=some (g,AV.Dv (rn ids hp.length) args))(hd:Au o.dst nt=true)(hm:Dg (rn ids hp.length) hp ids H)(hn:nodupB ids=true)(ho:Ai H.length H=true)(ha:AV.oks H.length args=true)(he:BU o.dst r' en=some e)(hk:Wd P ro E ops S0 A (⟨e0,hp,r',.eff⟩::acc) rest ⟨e,H'',nt⟩)(hr:r.ren (rn ids hp.length)=r':=by first|(simp only[Nf,Ks,Nat.reduceAdd,Int.reduceAdd,Int.reduceSub,Int.reduceMul,Int.reduceToNat,nS];rfl)|rfl)(hH:Jy ids hp (E4 (rn ids hp.length) H')=H'':=by first|(simp only[Ks,Nat.reduceAdd];rfl)|rfl):Wd P ro E ops S0 A acc (o::rest) ⟨en,hp,nt⟩:=by
 subst hr;subst hH;rw[Az he]at hk;have:=D8 hl;subst this;exact Wd_D ids hF hg h hd hm hn ho ha hk
theorem Ya(hE:CV P E){b:AF}(hl:FN (looks ops o) en=some e0)(hg:AX ops e0 o=some true)(h:pI E e0 hp o.op=some (c,f,b))(hd:Au o.dst nt=true)(he:BU o.dst x' en=some e)(hH:Hu hp b=some H')(hk:Wd P ro E ops S0 A (⟨e0,hp,x',.eff⟩::acc) rest ⟨e,H',nt⟩)(hc:c=true)(hx:f hp.length=x':=by first|(simp only[Nf,Ks,Nat.reduceAdd,Int.reduceAdd,Int.reduceSub,Int.reduceMul,Int.reduceToNat,nS];rfl)|rfl):Wd P ro E ops S0 A acc (o::rest) ⟨en,hp,nt⟩:=by
 subst hx;rw[Az he,Ig hH]at hk;have:=D8 hl;subst this;exact Wd_a hE hg h hd hc hk
theorem Yao(hE:CV P E)(hl:FN (looks ops o) en=some e0)(hg:AX ops e0 o=some true)(h:SJ E e0 hp o.op=some (c,q))(hd:Au o.dst nt=true)(he:BU o.dst x' en=some e)(hH:Hu hp (.a q)=some H')(hk:Wd P ro E ops S0 A (⟨e0,hp,x',.eff⟩::acc) rest ⟨e,H',nt⟩)(hc:c=true)(hx: .sl hp.length (B3 q) (Bt q)=x':=by first|(simp only[Nf,Ks,Nat.reduceAdd,Int.reduceAdd,Int.reduceSub,Int.reduceMul,Int.reduceToNat,nS];rfl)|rfl):Wd P ro E ops S0 A acc (o::rest) ⟨en,hp,nt⟩:=by
 subst hx;rw[Az he,Ig hH]at hk;have:=D8 hl;subst this;exact wT hE hg h hd hc hk
theorem wj(L:BK)(hE:CV P E)(_:QB o.dst L=true)(hl:FN (looks ops o) en=some e0)(hg:AX ops e0 o=some true)(h:SJ E e0 hp o.op=some (c,q))(hd:Au o.dst nt=true)(he:BU o.dst x' en=some e)(hH:Hu hp (.a q)=some H')(hk:Wd P ro E ops S0 A (⟨e0,hp,x',.eff⟩::acc) rest ⟨e,H',nt⟩)(hc:c=true)(hx: .sl hp.length (B3 q) (Bt q)=x':=by first|(simp only[Nf,Ks,Nat.reduceAdd,Int.reduceAdd,Int.reduceSub,Int.reduceMul,Int.reduceToNat,nS];rfl)|rfl):Wd P ro E ops S0 A acc (o::rest) ⟨en,hp,nt⟩:=Yao hE hl hg h hd he hH hk hc hx
theorem Yw(hE:CV P E)(hl:FN (looks ops o) en=some e0)(hg:AX ops e0 o=some true)(h:tE E e0 hp o.op=some (c,x,H'))(hd:Au o.dst nt=true)(he:BU o.dst x' en=some e)(hk:Wd P ro E ops S0 A (⟨e0,hp,x',.eff⟩::acc) rest ⟨e,H',nt⟩)(hc:c=true)(hx:x=x':=by first|(simp only[Nf,Ks,Nat.reduceAdd,Int.reduceAdd,Int.reduceSub,Int.reduceMul,Int.reduceToNat,nS];rfl)|rfl):Wd P ro E ops S0 A acc (o::rest) ⟨en,hp,nt⟩:=by
 subst hx;rw[Az he]at hk;have:=D8 hl;subst this;exact Wd_w hE hg h hd hc hk
theorem wk(hE:CV P E){n:Int}{e:yo}(hl:FN (looks ops o) en=some e0)(hg:AX ops e0 o=some true)(h:∀H,PQ E e0 H o.op=some (Um n es.length&&b,.dp (es.getD n.toNat [])))(hd:Au o.dst nt=true)(he':BU o.dst (.dp e) en=some e')(hb:b=true)(hn:0<=n)(he:es[n.toNat]? =some e)(hk:Wd P ro E ops S0 A (⟨e0,hp,.dp e,.any⟩::acc) rest ⟨e',hp,nt⟩):Wd P ro E ops S0 A acc (o::rest) ⟨en,hp,nt⟩:=by
 rw[Az he']at hk;have:=D8 hl;subst this;exact wV hE hg h hd hb hn he hk
end
theorem A5.trans'{A B C:St}(h:A5 A B)(k:A5 B C)(hlt:C.H.length<=B.H.length):A5 A C:=h.trans (fun _=>trivial) k hlt
theorem A5.lP{S:St}(t id:Nat){x:D}{n sz:Nat}(hid:S.H[id]? =some (.a x))(ht:get S.env t=some (.sl id n sz))(hn:n=B3 x):A5 S ⟨(t,.d x)::S.env,Eg id x 0 S.H,S.n⟩:=by
 intro ro N G a w r _;have hid':G.H[id]? =some (.a x):=by rw[r.heap];exact hid
 obtain⟨h1,h2⟩:=IP r.rel hid';refine⟨G.freeze w id x,⟨by show Eg id x 0 G.H=_;rw[r.heap],h1,r.size,fun u y hy=> ?_,r.marks.VY h2,fun i hi=> ?_⟩,h2⟩
 .simp only[get]at hy;split at hy
  .rename_i hb;cases hy;have:=zH hb;subst this;obtain⟨v,hv,hrv⟩:=r.env t _ ht;refine⟨v,hv,?_⟩;have:=hrv.FK r.rel hid';simpa[AV.FK,hn]using this
  .obtain⟨v,hv,hrv⟩:=r.env u y hy;exact⟨v,hv,hrv.mono (Du r.rel hid')⟩
 .obtain⟨q,l,M,q1,q2⟩:=r.round i hi;refine⟨q,l,M,?_,q2⟩;have:=Lw (id:=id) (x:=x) (i:=0) q1;rw[q0M,zO (fun e=>by subst e;rw[hid]at q1;cases q1)]at this;exact this
theorem JO.e0{P:Program}{f:FuncId}{rest:yq}{R:AV->yz->Prop}(q:D)(hs:B8 q=true)(hl:B3 q=0)(ho:Aq q)(h:JO P f (.sl H.length 0 (Bt q)::rest) (H++[.a q]) R):JO P f (.e0::rest) H R:=by
 refine⟨h.1,fun G w vs hG hr hargs=> ?_⟩;obtain⟨h1,h2⟩:=Qz hr hs hl ho;have hfr:D4 G w (G.nil q) w:=(D4.refl G w).ghost h2 (by show G.H.length<=(G.H++[AF.a q]).length;simp);have hGH:(G.nil q).H=H++[.a q]:=by show G.H++[AF.a q]=_;rw[hG]
 have ha:BP (G.nil q) (.sl H.length 0 (Bt q)::rest) vs.toList:=by
  simp only[BP]at hargs|-;obtain⟨v,r,hv,⟨a,rfl⟩,hr⟩:=hargs;refine⟨_,r,hv,?_,hr.mono (OM G q)⟩;simp only[RV];exact⟨rfl,.a q,by rw[hGH];simp,rfl,om,fun _=> .inl ⟨trivial,a,rfl⟩⟩
 refine(h.2 (G.nil q) w vs hGH h1 ha).mono ?_;rintro e w' ⟨v,r,G',rfl,hR,hv,hr',hf⟩;exact⟨v,r,G',rfl,hR,hv,hr',hfr.trans hf⟩
end Go.Gar
namespace Go.Gar
inductive Sh where
 |int (k:IntKind)
 |bool
 |str
 |by
 |is
 |sl (l:List Sh)
mutual
def ew:Sh->D->Prop
 | .int k,d=>∃n,d= .i k n/\(Lit.int k n).wf=true
 | .bool,d=>∃b,d= .b b
 | .str,d=>∃l,d= .s l/\l.length<=maxLen
 | .by,d=>∃l,d= .by l/\l.length<=maxLen
 | .is,d=>∃l,d= .is l/\l.length<=maxLen/\∀n∈l,(Lit.int .i64 n).wf=true
 | .sl shs,d=>∃es,d= .sl (UE shs) es/\es.length<=maxLen/\∀e∈es,Ew shs e
def Ew:List Sh->yo->Prop
 |[],ds=>ds=[]
 |s::l,ds=>∃d r,ds=d::r/\ew s d/\Ew l r
def UE:List Sh->Nat
 |[]=>0
 |_::l=>UE l+1
end
def oK:Nat->List Sh->List Sh
 |0,_=>[]
 |n+1,l=>l++oK n l
mutual
def pL(E:Nat->Option Bd):Nat->Nat->Option (List Sh)
 |0,_=>none
 |n+1,t=>match E t with
  |none=>none
  |some y=>match y.k with
   | .int k=>some [.int k]
   | .bool=>some [.bool]
   | .str=>some [.str]
   | .sl e=>match E e with
    |none=>none
    |some z=>match z.k with
     | .int .u8=>match Nat.beq z.size 1 with
      |true=>some [.by]
      |false=>none
     | .int .i64=>match Nat.beq z.size 1 with
      |true=>some [.is]
      |false=>none
     |_=>match pL E n e with
      |some l=>match Nat.beq (UE l) z.size,Nat.beq z.size 0 with
       |true,false=>some [.sl l]
       |_,_=>none
      |none=>none
   | .st fs=>match vn E n 0 fs with
    |some l=>match Nat.beq (UE l) y.size with
     |true=>some l
     |false=>none
    |none=>none
   | .arr k e=>match E e,pL E n e with
    |some z,some l=>match Nat.beq (UE l) z.size,Nat.beq (k*z.size) y.size with
     |true,true=>some (oK k l)
     |_,_=>none
    |_,_=>none
   |_=>none
def vn(E:Nat->Option Bd):Nat->Nat->y4->Option (List Sh)
 |_,_,[]=>some []
 |0,_,_::_=>none
 |n+1,o,(off,ft)::r=>match Nat.beq o off,E ft,pL E n ft with
  |true,some z,some l=>match Nat.beq (UE l) z.size with
   |true=>match vn E n (o+z.size) r with
    |some l'=>some (l++l')
    |none=>none
   |false=>none
  |_,_,_=>none
end
theorem Jb:∀l:List Sh,UE l=l.length
 |[]=>rfl
 |_::l=>by simp[UE,Jb l]
def Hq(w:World):Mem:=fun b k=>w.cell? ⟨b,k,none⟩
theorem Ra:∀{a b:List Sh}{x y:yo},Ew a x->Ew b y->Ew (a++b) (x++y)
 |[],b,x,y,h,k=>by simp only[Ew]at h;subst h;exact k
 |s::a,b,x,y,h,k=>by
  simp only[Ew]at h;obtain⟨d,r,rfl,h1,h2⟩:=h;simp only[zA,Ew];exact⟨d,r++y,rfl,h1,Ra h2 k⟩
theorem Rb:∀{a:List Sh}{x:yo},Ew a x->x.length=a.length
 |[],x,h=>by simp only[Ew]at h;simp[h]
 |s::a,x,h=>by
  simp only[Ew]at h;obtain⟨d,r,rfl,_,h2⟩:=h;simp[Rb h2]
theorem Vh{m:Mem}:∀{a b:yo}{x y:y6},Eb m a x->Eb m b y->Eb m (a++b) (x++y)
 |[],b,x,y,h,k=>by simp only[Eb]at h;subst h;exact k
 |s::a,b,x,y,h,k=>by
  simp only[Eb]at h;obtain⟨d,r,rfl,h1,h2⟩:=h;simp only[zA,Eb];exact⟨d,r++y,rfl,h1,Vh h2 k⟩
theorem kN{n:Int}(h:(Lit.int .u8 n).wf=true):n=((UInt8.ofNat n.toNat).toNat:Int):=by
 simp[Lit.wf,IntKind.min,IntKind.max,IntKind.signed,IntKind.bits]at h;rw[q0o];omega
section
variable {P:Program}{E:Nat->Option Bd}{H:Type}{enc:TypeId×Value->H}{w:World}{base:Nat}{sp:Nat->Bool}{held:Bool}
theorem IM{t:Nat}{y:Bd}(h:Gp P t=some y):P.cellsOf t=y.size:=by
 obtain⟨i,d,z,h1,_,_,_,h5,_⟩:=Ct h;simp[Program.cellsOf,h1,h5]
theorem On{t:Nat}{y:Bd}(h:Gp P t=some y):∃d,P.underlying t=some d/\P3 d=y.k:=by
 obtain⟨i,d,z,_,h2,_,h4,_⟩:=Ct h;exact⟨d,h2,h4.symm⟩
theorem YS{α:Type}{g:Nat->Option α}:∀{n s:Nat}{l:List α},((List.range' s n).mapM g)=some l->l.length=n/\∀i,i<n->l[i]? =g (s+i)
 |0,s,l,h=>by simp at h;subst h;simp
 |n+1,s,l,h=>by
  rw[q0h,List.mapM_cons]at h;simp only[Option.bind_eq_bind,Option.pure_def,Option.bind_eq_some_iff,yh]at h;obtain⟨a,ha,r,hr,rfl⟩:=h;obtain⟨h1,h2⟩:=YS hr;refine⟨by simp[h1],fun i hi=> ?_⟩
  cases i with
  |zero=>simp[ha]
  |succ i=>
   simp only[q1G];rw[h2 i om,show s+1+i=s+(i+1)by omega]
theorem S8{a:Addr}{n:Nat}{cs:y6}(h:w.cells? base a n=some cs):cs.length=n/\∀i,i<n->cs[i]? =w.cell? (a.add i):=by
 unfold World.cells? at h;split at h
 .rw[List.range_eq_range']at h;obtain⟨h1,h2⟩:=YS h;exact⟨h1,fun i hi=>by rw[h2 i hi,q0M]⟩
 .cases h
theorem cell_spot{a:Addr}{v:Value}(h:w.cell? a=some v):a.spot=none:=by
 unfold World.cell? at h;split at h
 .split at h
  .cases h
  .rename_i hs;cases hsp:a.spot with
   |none=>rfl
   |some _=>rw[hsp]at hs;simp at hs
 .cases h
theorem XR(b off k:Nat):(Addr.mk b off none).add k=⟨b,off+k,none⟩:=addr_add b off k
theorem ax{b off sz:Nat}{shs:List Sh}{n:Nat}(hn:shs.length=sz)(h:∀i,i<n->∃ds vs,Ew shs ds/\Eb (Hq w) ds vs/\(∀c∈vs,c.oneCell'=true)/\vs.length=sz/\∀k,k<sz->vs[k]? =w.cell? ⟨b,off+i*sz+k,none⟩):
  ∃es:List (yo),es.length=n/\(∀e∈es,Ew shs e)/\Vg (Hq w) sz es b off:=by
 induction n generalizing off with
 |zero=>exact⟨[],rfl,sm,by simp[Vg]⟩
 |succ n ih=>
  obtain⟨ds,vs,h1,h2,h3,h4,h5⟩:=h 0 om
  obtain⟨es,k1,k2,k3⟩:=ih (off:=off+sz) (fun i hi=>by
   obtain⟨ds,vs,g1,g2,g3,g4,g5⟩:=h (i+1) om
   exact⟨ds,vs,g1,g2,g3,g4,fun k hk=>by rw[g5 k hk,Nat.succ_mul];congr 2;omega⟩)
  refine⟨ds::es,by simp[k1],?_,?_⟩
  .intro e he;rcases q0C.1 he with rfl|he
   .exact h1
   .exact k2 e he
  .simp only[Vg];refine⟨by rw[Rb h1,hn],Hw.2 fun k d hd=> ?_,k3⟩;obtain⟨hl,hg⟩:=FA.1 h2;obtain⟨v,hv,hr⟩:=hg k d hd;have hk:k<sz:=by rw[<-h4];exact(yZ.1 hv).1
   refine⟨v,?_,h3 v (zM hv),hr⟩;have:=h5 k hk;rw[hv]at this;show w.cell? ⟨b,off+k,none⟩=some v;rw[this];congr 2;omega
theorem Tj{E:Nat->Option Bd}(hE:CV P E){cs:y6}{m:Nat}(ih:∀{n t:Nat}{shs:List Sh}{cs:y6}{x:DataW H×List MemPlace},n<m->pL E n t=some shs->(∃fuel,DataW.trod enc P w base sp held fuel t cs=some x)->∃ds,Ew shs ds/\Eb (Hq w) ds cs/\(∀c∈cs,c.oneCell'=true)):
  ∀{n o:Nat}{fs:y4}{l:List Sh},n<=m->vn E n o fs=some l->(∀off ft,(off,ft)∈fs->∃fuel x,DataW.trod enc P w base sp held fuel ft ((cs.drop off).take (P.cellsOf ft))=some x)->
   o+l.length<=cs.length->∃ds,Ew l ds/\Eb (Hq w) ds ((cs.drop o).take l.length)/\(∀c∈(cs.drop o).take l.length,c.oneCell'=true)
 |n,o,[],l,_,h,_,_=>by
  cases n<;>simp[vn]at h<;>subst h<;>exact⟨[],by simp[Ew],by simp[Eb],sm⟩
 |0,o,_::_,l,_,h,_,_=>by simp[vn]at h
 |n+1,o,(off,ft)::r,l,hnm,h,hx,hl=>by
  simp only[vn]at h;split at h
  .rename_i z l1 hb hz hs;split at h
   .rename_i hlen;split at h
    .rename_i l2 h2;cases h;have ho:=zH hb;subst ho;have hsz:=zH hlen;rw[Jb]at hsz;have hc:=IM (hE _ _ hz);simp only[yw]at hl;obtain⟨fuel,x,hxx⟩:=hx _ _ (q02);obtain⟨ds1,a1,a2,a3⟩:=ih om hs ⟨fuel,hxx⟩;rw[hc,<-hsz]at a2 a3;obtain⟨ds2,b1,b2,b3⟩:=Tj hE (fun h=>ih h) (n:=n) om h2 (fun off ft hm=>hx off ft (q05 _ hm)) om;rw[<-hsz]at b2 b3
     have e:(cs.drop o).take (l1++l2).length=(cs.drop o).take l1.length++(cs.drop (o+l1.length)).take l2.length:=by
      rw[yw,List.take_add,List.drop_drop]
     refine⟨ds1++ds2,Ra a1 b1,by rw[e];exact Vh a2 b2,fun c hc=> ?_⟩;rw[e]at hc;rcases q04.1 hc with hc|hc
     .exact a3 c hc
     .exact b3 c hc
    .cases h
   .cases h
  .cases h
theorem VP{sz:Nat}{shs:List Sh}(hn:shs.length=sz):∀{k:Nat}{cs:y6},cs.length=k*sz->(∀i,i<k->∃ds,Ew shs ds/\Eb (Hq w) ds ((cs.drop (i*sz)).take sz)/\∀c∈(cs.drop (i*sz)).take sz,c.oneCell'=true)->
  ∃ds,Ew (oK k shs) ds/\Eb (Hq w) ds cs/\∀c∈cs,c.oneCell'=true
 |0,cs,hl,_=>by
  have:cs=[]:=q1D (by simpa using hl);subst this;exact⟨[],by simp[oK,Ew],by simp[Eb],sm⟩
 |k+1,cs,hl,h=>by
  rw[Nat.succ_mul]at hl;obtain⟨ds1,a1,a2,a3⟩:=h 0 om;simp only[Nat.zero_mul,List.drop_zero]at a2 a3
  obtain⟨ds2,b1,b2,b3⟩:=VP hn (k:=k) (cs:=cs.drop sz) (by simp;omega) (fun i hi=>by
   obtain⟨ds,c1,c2,c3⟩:=h (i+1) om;rw[Nat.succ_mul,Nat.add_comm,<-List.drop_drop]at c2 c3
   exact⟨ds,c1,c2,c3⟩)
  refine⟨ds1++ds2,by simp only[oK];exact Ra a1 b1,?_,fun c hc=> ?_⟩
  .rw[<-q0J sz cs];exact Vh a2 b2
  .rw[<-q0J sz cs]at hc;rcases q04.1 hc with hc|hc
   .exact a3 c hc
   .exact b3 c hc
theorem MG{E:Nat->Option Bd}(hE:CV P E):∀(m:Nat){n t:Nat}{shs:List Sh}{cs:y6}{x:DataW H×List MemPlace},n<m->pL E n t=some shs->(∃fuel,DataW.trod enc P w base sp held fuel t cs=some x)->∃ds,Ew shs ds/\Eb (Hq w) ds cs/\(∀c∈cs,c.oneCell'=true)
 |0,_,_,_,_,_,h,_,_=>by omega
 |m+1,0,t,shs,cs,x,_,h,_=>by simp[pL]at h
 |m+1,n+1,t,shs,cs,x,hnm,h,⟨fuel,hx⟩=>by
  simp only[pL]at h;split at h
  .cases h
  .rename_i y hy;have hmk:=hE _ _ hy;obtain⟨dsc,hu,hk⟩:=On hmk;split at h
   .rename_i k hyk;cases h;rw[hyk]at hk;rw[J0 hk]at hu;obtain⟨v,rfl,_,hw⟩:=DataW.trod_int hu hx;exact⟨[.i k v],by simp[Ew,ew,hw],by simp[Eb,RD],by simp[Value.oneCell']⟩
   .rename_i hyk;cases h;rw[hyk]at hk;rw[OG hk]at hu;obtain⟨v,rfl,_⟩:=DataW.trod_bool hu hx;exact⟨[.b v],by simp[Ew,ew],by simp[Eb,RD],by simp[Value.oneCell']⟩
   .rename_i hyk;cases h;rw[hyk]at hk;rw[I2 hk]at hu;obtain⟨v,rfl,_,hw⟩:=DataW.trod_string hu hx;exact⟨[.s v.data.toList],by simp[Ew,ew];simpa using hw,by simp[Eb,RD],by simp[Value.oneCell']⟩
   .rename_i e hyk;rw[hyk]at hk;rw[Eh hk]at hu;split at h
    .cases h
    .rename_i z hz;have hmz:=hE _ _ hz;have hc:=IM hmz;obtain⟨ez,hez,hkz⟩:=On hmz
     have key:∀{sh:List Sh},sh.length=z.size->z.size≠0->(∀{cs:y6}{x:DataW H×List MemPlace}{fuel:Nat},DataW.trod enc P w base sp held fuel e cs=some x->∃ds,Ew sh ds/\Eb (Hq w) ds cs/\(∀c∈cs,c.oneCell'=true))->
       ∃a cap es,cs=[.slice a es.length cap]/\es.length<=cap/\es.length<=maxLen/\(∀e∈es,Ew sh e)/\(es=[]\/∃b off,a=some ⟨b,off,none⟩/\Vg (Hq w) z.size es b off):=by
      intro sh hsh hnz hel;rcases DataW.trod_slice hu hx with⟨rfl,_⟩|⟨a,len,cap,elems,rest,n',rfl,rfl,_,_,hlc,hcm,hlen,hget,_⟩
      .exact⟨none,0,[],rfl,sm,sm,sm,.inl rfl⟩
      .rcases q0x len with h0|h0
       .subst h0;exact⟨some a,cap,[],rfl,sm,sm,sm,.inl rfl⟩
       .have at_:∀i,i<len->∃vs x,w.cells? base (a.add (i*z.size)) z.size=some vs/\DataW.trod enc P w base sp held n' e vs=some x:=by
         intro i hi;have:=hget i hi;rw[hc,yj om]at this;rw[Option.bind_eq_some_iff]at this;obtain⟨vs,h1,h2⟩:=this;exact⟨vs,_,h1,h2⟩
        by_cases hz0:z.size=0
        .exact absurd hz0 hnz
        .obtain⟨vs0,x0,h01,h02⟩:=at_ 0 h0;obtain⟨e01,e02⟩:=S8 h01
         have hsp:a.spot=none:=by
          have h3:=e02 0 om;rw[yj om]at h3;have:=cell_spot h3.symm;simpa[Addr.add]using this
         obtain⟨b,off,spt⟩:=a;simp only at hsp;subst hsp
         obtain⟨es,k1,k2,k3⟩:=ax (w:=w) (b:=b) (off:=off) (sz:=z.size) (shs:=sh) (n:=len) hsh (fun i hi=>by
          obtain⟨vs,x',h1,h2⟩:=at_ i hi;obtain⟨ds,d1,d2,d3⟩:=hel h2;obtain⟨e1,e2⟩:=S8 h1;refine⟨ds,vs,d1,d2,d3,e1,fun k hk=> ?_⟩
          rw[e2 k hk,XR,XR])
         exact⟨some ⟨b,off,none⟩,cap,es,by rw[k1],om,om,k2,.inr ⟨b,off,rfl,k3⟩⟩
     have conv:∀{q:D}{es:List (yo)}{a:Option Addr}{cap:Nat},B8 q=true->Aq q->B3 q=es.length->slc q=es.flatten->es.length<=cap->(es=[]\/∃b off,a=some ⟨b,off,none⟩/\Vg (Hq w) z.size es b off)->RD (Hq w) q (.slice a es.length cap):=by
      intro q es a cap q1 q2 q3 q4 hc h5;refine(Ek q1).2 ⟨a,cap,by rw[q3],om,q2,?_⟩;rcases h5 with rfl|⟨b,off,ha,hr⟩
      .exact .inl (by simpa using q3)
      .refine .inr ⟨b,off,ha,?_⟩;rw[q4];exact Hw.1 (Nh.1 hr).2
     split at h
     .rename_i hzk;split at h
      .rename_i hb;cases h;have hz1:=zH hb;rw[hzk]at hkz;rw[J0 hkz]at hez
       obtain⟨a,cap,es,rfl,h1,h2,h3,h4⟩:=key (sh:=[.int .u8]) (by simp[hz1]) om (fun hx=>by
        obtain⟨v,rfl,_,hw⟩:=DataW.trod_int hez hx
        exact⟨[.i .u8 v],by simp[Ew,ew,hw],by simp[Eb,RD],by simp[Value.oneCell']⟩)
       obtain⟨l,l1,l2⟩:∃l:AT,es.flatten=l.map (fun x=>D.i .u8 (x.toNat:Int))/\l.length=es.length:=by
        clear h1 h2 h4 conv key hx
        induction es with
        |nil=>exact⟨[],rfl,rfl⟩
        |cons e r ih=>
         obtain⟨l,l1,l2⟩:=ih (fun e he=>h3 e (by simp[he]));have h0:=h3 e sm;simp only[Ew,ew]at h0;obtain⟨d,r',rfl,⟨n,rfl,hw⟩,rfl⟩:=h0;exact⟨UInt8.ofNat n.toNat::l,by simp only[q0U,l1,zV,<-kN hw,zA,zK],by simp[l2]⟩
       refine⟨[.by l],by simp[Ew,ew];omega,?_,by simp[Value.oneCell']⟩;simp only[Eb];exact⟨_,[],rfl,conv (q:=.by l) rfl trivial l2 l1.symm h1 h4,rfl⟩
      .cases h
     .rename_i hzk;split at h
      .rename_i hb;cases h;have hz1:=zH hb;rw[hzk]at hkz;rw[J0 hkz]at hez
       obtain⟨a,cap,es,rfl,h1,h2,h3,h4⟩:=key (sh:=[.int .i64]) (by simp[hz1]) om (fun hx=>by
        obtain⟨v,rfl,_,hw⟩:=DataW.trod_int hez hx
        exact⟨[.i .i64 v],by simp[Ew,ew,hw],by simp[Eb,RD],by simp[Value.oneCell']⟩)
       obtain⟨l,l1,l2,l3⟩:∃l:Ao,es.flatten=l.map (fun x=>D.i .i64 x)/\l.length=es.length/\∀n∈l,(Lit.int .i64 n).wf=true:=by
        clear h1 h2 h4 conv key hx
        induction es with
        |nil=>exact⟨[],rfl,rfl,sm⟩
        |cons e r ih=>
         obtain⟨l,l1,l2,l3⟩:=ih (fun e he=>h3 e (by simp[he]));have h0:=h3 e sm;simp only[Ew,ew]at h0;obtain⟨d,r',rfl,⟨n,rfl,hw⟩,rfl⟩:=h0;refine⟨n::l,by simp only[q0U,l1,zV,zA,zK],by simp[l2],fun n' hn'=> ?_⟩;rcases q0C.1 hn' with rfl|hn'
         .exact hw
         .exact l3 n' hn'
       refine⟨[.is l],?_,?_,by simp[Value.oneCell']⟩
       .simp only[Ew,ew];exact⟨_,[],rfl,⟨l,rfl,om,l3⟩,rfl⟩
       .simp only[Eb];exact⟨_,[],rfl,conv (q:=.is l) rfl trivial l2 l1.symm h1 h4,rfl⟩
      .cases h
     .split at h
      .rename_i l hl;split at h
       .rename_i hb hb0;cases h;have hz1:=zH hb;rw[Jb]at hz1;obtain⟨a,cap,es,rfl,h1,h2,h3,h4⟩:=key (sh:=l) hz1 (fun e=>by rw[e]at hb0;cases hb0) (fun hx=>MG hE m om hl ⟨_,hx⟩);refine⟨[.sl (UE l) es],?_,?_,by simp[Value.oneCell']⟩
        .simp only[Ew,ew];exact⟨_,[],rfl,⟨es,rfl,h2,h3⟩,rfl⟩
        .simp only[Eb];refine⟨_,[],rfl,conv (q:=.sl (UE l) es) rfl (fun e he=>by rw[Rb (h3 e he),Jb]) rfl rfl h1 h4,rfl⟩
       .cases h
      .cases h
   .rename_i fs hyk;rw[hyk]at hk;obtain⟨q,rfl,rfl⟩:=Pa hk;split at h
    .rename_i l hl;split at h
     .rename_i hb;cases h;have hz1:=zH hb;rw[Jb]at hz1;obtain⟨xs,n',rfl,_,hlen,hxl,hget⟩:=DataW.trod_struct hu hx;rw[IM hmk]at hlen
      obtain⟨ds,d1,d2,d3⟩:=Tj (m:=m) hE (fun hh hs ⟨fuel,hx⟩=>MG hE m hh hs ⟨fuel,hx⟩) (cs:=cs) (n:=n) om hl (fun off ft hm=>by
       simp only[q0q,zL]at hm;obtain⟨f,hf,rfl,rfl⟩:=hm;obtain⟨i,hi,hfi⟩:=q0d.1 hf
       have hq:q[i]? =some f:=by
        rw[<-Array.getElem?_toList,yj hi,hfi]
       have:=hget i f hq;have hi':i<q.size:=by simpa using hi
       rw[yj om]at this
       exact⟨n',_,this⟩) om
      rw[List.drop_zero,hz1,<-hlen,zU]at d2 d3;exact⟨ds,d1,d2,d3⟩
     .cases h
    .cases h
   .rename_i k e hyk;rw[hyk]at hk;rw[Iz hk]at hu;split at h
    .rename_i z l hz hl;split at h
     .rename_i hb hb2;cases h;have hz1:=zH hb;have hz2:=zH hb2;rw[Jb]at hz1;have hc:=IM (hE _ _ hz);obtain⟨xs,n',rfl,_,hlen,hxl,hget⟩:=DataW.trod_array hu hx;rw[IM hmk,<-hz2]at hlen;refine VP hz1 hlen (fun i hi=> ?_);have:=hget i hi;rw[yj om,hc]at this;exact MG hE m om hl ⟨n',this⟩
     .cases h
    .cases h
   .cases h
end
end Go.Gar
namespace Go.Gar
open Go.ChangeShapes Go.WideShapes Go.ChangeAt Go.RowKit
def Ye(E:Nat->Option Bd)(t:Nat)(d:D):Prop:=
 match E t,pL E 40 t with
 |some y,some shs=>match y.agg with
  |true=>∃l,d= .agg l/\Ew shs l
  |false=>∃s,shs=[s]/\ew s d
 |_,_=>False
def TE(E:Nat->Option Bd):BK->yo->Prop
 |[],ds=>ds=[]
 |t::ts,ds=>∃d r,ds=d::r/\Ye E t d/\TE E ts r
def rZ(E:Nat->Option Bd)(t:Nat):Bool:=
 match E t,pL E 40 t with
 |some y,some shs=>match y.agg,y.k,shs with
  |true,.st _,_=>true
  |true,.arr _ _,_=>true
  |false,.int _,[_]=>true
  |false,.bool,[_]=>true
  |false,.str,[_]=>true
  |false,.sl _,[_]=>true
  |_,_,_=>false
 |_,_=>false
section
variable {P:Program}{E:Nat->Option Bd}{H:Type}{enc:TypeId×Value->H}{W:World}{base:Nat}{sp:Nat->Bool}{held:Bool}
theorem nI(hE:CV P E){t:Nat}{v:Value}{d:DataW H}{ps:List MemPlace}{b0:Nat}{r:Reach}(hb:rZ E t=true)(h:DataW.Trod enc P W base sp held t v d ps)(ho:Value.okWide P W r b0 t v):∃x,Ye E t x/\RD (Hq W) x v:=by
 unfold rZ at hb;unfold Ye
 cases hy:E t with
 |none=>rw[hy]at hb;simp at hb
 |some y=>
  cases hs:pL E 40 t with
  |none=>rw[hy,hs]at hb;simp at hb
  |some shs=>
   rw[hy,hs]at hb;simp only at hb|-;obtain⟨fuel,hf⟩:=h;obtain⟨ds,d1,d2,d3⟩:=MG hE 41 om hs ⟨fuel,hf⟩;obtain⟨dsc,hu,hk⟩:=On (hE _ _ hy);have notagg:(∀cs,v≠ .agg cs)->v.cells.toList=[v]:=fun h=>by cases v<;>first|rfl|exact absurd rfl (h _)
   have fin:∀s,shs=[s]->(∀cs,v≠ .agg cs)->∃x,(∃s,shs=[s]/\ew s x)/\RD (Hq W) x v:=by
    intro s hs' hna;subst hs';rw[notagg hna]at d2;simp only[Ew]at d1;obtain⟨x,r,rfl,h1,rfl⟩:=d1;simp only[Eb]at d2;obtain⟨u,q,e,h2,rfl⟩:=d2;cases e;exact⟨x,⟨s,rfl,h1⟩,h2⟩
   split at hb
   .rename_i ha hk';simp only[ha];obtain⟨q,hq,_⟩:=Pa (hk.trans hk');subst hq;unfold Value.okWide at ho;rw[hu]at ho;obtain⟨cs,rfl,_⟩:=ho;exact⟨.agg ds,⟨ds,rfl,d1⟩,by simp only[RD];exact⟨cs.toList,sm,d2⟩⟩
   .rename_i ha hk';simp only[ha];have hq:=Iz (hk.trans hk');subst hq;unfold Value.okWide at ho;rw[hu]at ho;obtain⟨cs,rfl,_⟩:=ho;exact⟨.agg ds,⟨ds,rfl,d1⟩,by simp only[RD];exact⟨cs.toList,sm,d2⟩⟩
   .rename_i s ha hk';simp only[ha];have hq:=J0 (hk.trans hk');subst hq;refine fin s rfl fun cs e=> ?_
    subst e;simp[Value.okWide,Cell.okWide,Cell.ok,hu]at ho
   .rename_i s ha hk';simp only[ha];have hq:=OG (hk.trans hk');subst hq;refine fin s rfl fun cs e=> ?_
    subst e;simp[Value.okWide,Cell.okWide,Cell.ok,hu]at ho
   .rename_i s ha hk';simp only[ha];have hq:=I2 (hk.trans hk');subst hq;refine fin s rfl fun cs e=> ?_
    subst e;simp[Value.okWide,Cell.okWide,Cell.ok,hu]at ho
   .rename_i s ha hk';simp only[ha];have hq:=Eh (hk.trans hk');subst hq;refine fin s rfl fun cs e=> ?_
    subst e;simp[Value.okWide,Cell.okWide,Cell.ok,hu]at ho
   .cases hb
theorem VH(hE:CV P E){b0:Nat}{r:Reach}:∀{ts:BK}{vs:y6}{ds:List (DataW H)}{ps:List MemPlace},ts.all (rZ E)=true->DataW.TrodAll enc P W base sp held ts vs ds ps->(∀(j:Nat) t v,ts[j]? =some t->vs[j]? =some v->Value.okWide P W r b0 t v)->
  (∃xs,TE E ts xs/\Eb (Hq W) xs vs)/\ds.length=ts.length
 |[],[],[],_,_,_,_=>⟨⟨[],by simp[TE],by simp[Eb]⟩,rfl⟩
 |t::ts,v::vs,d::ds,ps,hb,h,ho=>by
  simp only[q0j,yU]at hb;obtain⟨p,q,h1,h2,_⟩:=h;obtain⟨x,x1,x2⟩:=nI hE hb.1 h1 (ho 0 t v rfl rfl);obtain⟨⟨xs,y1,y2⟩,hl⟩:=VH hE hb.2 h2 (fun j t v ht hv=>ho (j+1) t v (by simpa using ht) (by simpa using hv));exact⟨⟨x::xs,by simp only[TE];exact⟨x,xs,rfl,x1,y1⟩,by simp only[Eb];exact⟨v,vs,rfl,x2,y2⟩⟩,by simp[hl]⟩
 |[],[],_::_,_,_,h,_=>h.elim
 |[],_::_,_,_,_,h,_=>by cases h
 |_::_,[],_,_,_,h,_=>by cases h
 |_::_,_::_,[],_,_,h,_=>by cases h
theorem Mw(hl:laidOutB P=true){W':World}(hb:Below W.heap.size W W'):∀{ts:BK}{vs:y6}{ds:List (DataW H)}{ps:List MemPlace},(ts.all fun t=>P.readableRec t&&decide (t<P.types.size))=true->DataW.TrodAll enc P W 0 (fun _=>true) true ts vs ds ps->(∀x∈ps,x.block<W.heap.size)->
  DataW.TrodAll enc P W' 0 (fun b=>decide (b<W.heap.size)) true ts vs ds ps
 |[],[],[],_,_,h,_=>h
 |t::ts,v::vs,d::ds,ps,hr,h,hlt=>by
  simp only[q0j,yU,yc]at hr;obtain⟨p,q,h1,h2,rfl⟩:=h;exact⟨p,q,Below.trod hl hr.1.1 hr.1.2 h1 hb (fun x hx=>hlt x (by simp[hx])),Mw hl hb (by simpa using hr.2) h2 (fun x hx=>hlt x (by simp[hx])),rfl⟩
 |[],[],_::_,_,_,h,_=>h.elim
 |[],_::_,_,_,_,h,_=>by cases h
 |_::_,[],_,_,_,h,_=>by cases h
 |_::_,_::_,[],_,_,h,_=>by cases h
theorem aY{W W':World}(ho:W'.os=W.os)(hout:W'.output=W.output)(h:∀b,b<W.heap.size->W'.heap[b]? =W.heap[b]?)(may:MemPlace->Prop):W.keptBut W' may:=by
 refine⟨ho,hout,fun i hi=> ?_⟩;rw[h i hi];exact(World.keptBut_refl W may).2.2 i hi
theorem gE{fn:Func}{f:FuncId}{s:ChangeSpec}{tb:Nat}(hE:CV P E)(hl:laidOutB P=true)(hr:(fn.params.toList.all fun t=>P.readableRec t&&decide (t<P.types.size))=true)(hp:fn.params.toList.all (rZ E)=true)
  (hres:fn.resultTypes.toList=[tb]) (htb:P.underlying tb=some .bool) (hvars:s.vars=[]) (hs:∀(H:Type)(ds:List (DataW H)),ds.length=fn.params.toList.length->s.fn H ds={results:=[.lit (.bool true)],args:=ds})
  (hF:∀xs,TE E fn.params.toList xs->Go.Gar.Fn P f xs (.b true)) {args:yd} {ds gs:List (DataW H)} {before:List MemPlace}
  (hval:∀(j:Nat) t v,fn.params[j]? =some t->args[j]? =some v->Value.okWide P W .any base t v) (hW:DataW.Whole enc P fn.params.toList s.vars false W args.toList ds gs before) (hst:sv (Hq W):=by intro b k v h;cases h):
  Calls P f args W fun e W'=>∃v,e= .returned v/\s.post enc P fn false true false false W args v W':=by
 have hW':=hW;obtain⟨p,q,hA,hV,rfl,_,_⟩:=hW;rw[hvars]at hV;obtain⟨rfl,rfl⟩:=trodVars_none hV;obtain⟨⟨xs,x1,x2⟩,hlen⟩:=VH hE hp hA (fun j t v ht hv=>hval j t v (by simpa using ht) (by simpa using hv));have hc:=(hF xs x1).2 (Hq W) W args (fun b k v h=>h) hst x2;rw[callsIn_wide]at hc;refine hc.mono ?_;rintro e W' ⟨v,m',rfl,h1,_,_,_,h5,h6,h7,h8,h9⟩;simp only[RD]at h1;subst h1;have hb:Below W.heap.size W W':=⟨h5,h6,h7,h8,h9⟩;have hlt:∀x∈p,x.block<W.heap.size:=fun x hx=>hW'.lt x (by simp[hx])
 have hsz:fn.resultTypes.size=1:=by
  have:=congrArg List.length hres;simpa using this
 refine⟨_,rfl,ds,[],p++[],[],p,[],hW',?_,?_,?_,aY h5 h7 h9 _,fun h=>by cases h⟩
 .rw[hs H (ds++[]) (by simpa using hlen),hres];simp only[Value.resultList,hsz,zx];exact trodAll_mk1 (shut_bool htb true)
 .rw[hs H (ds++[]) (by simpa using hlen)];rw[q07];exact Mw hl hb hr hA hlt
 .rw[hs H (ds++[]) (by simpa using hlen),hvars];rfl
end
end Go.Gar
