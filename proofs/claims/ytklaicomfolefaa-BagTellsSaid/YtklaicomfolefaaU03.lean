/- Part 3 of a proof. Conditions: those that its theorems state. -/
import Derived.Test.YtklaicomfolefaaU02
import Derived.ProofKit
import Derived.OpenShut
set_option linter.unusedSimpArgs false
set_option linter.unusedVariables false
set_option linter.unnecessarySimpa false
set_option maxHeartbeats 40000000
set_option maxRecDepth 4000
namespace Go.Gar
mutual
def AV.Ci(id:Nat)(x:D):AV->AV
 | .sl i n sz=>match Nat.beq i id with
  |true=>if n=AD x then .d x else .sl i n sz
  |false=> .sl i n sz
 | .ag cs=> .ag (AV.Eo id x cs)
 | .tup cs=> .tup (AV.Eo id x cs)
 | .fn f a b=> .fn f (AV.Eo id x a) (AV.Eo id x b)
 |v=>v
def AV.Eo(id:Nat)(x:D):PT->PT
 |[]=>[]
 |v::r=>v.Ci id x::AV.Eo id x r
end
theorem E2(id:Nat)(x:D):∀l:PT,AV.Eo id x l=l.map (AV.Ci id x)
 |[]=>rfl
 |v::r=>by simp[AV.Eo,E2 id x r]
def Mt(id:Nat)(x:D):Pk->Pk
 |[]=>[]
 |p::r=>(p.1,p.2.Ci id x)::Mt id x r
theorem Fb(id:Nat)(x:D):∀l:Pk,Mt id x l=l.map fun p=>(p.1,p.2.Ci id x)
 |[]=>rfl
 |v::r=>by simp[Mt,Fb id x r]
def A1.Ci(id:Nat)(x:D):A1->A1
 | .c cs=> .c (AV.Eo id x cs)
 | .m es=> .m (Mt id x es)
 |b=>b
def KT(id:Nat)(x:D):Pa->Pa
 |[]=>[]
 |p::r=>(p.1,p.2.Ci id x)::KT id x r
def Bw(id:Nat)(x:D):Nat->Pf->Pf
 |_,[]=>[]
 |i,b::r=>(match Nat.beq i id with|true=> .gone|false=>b.Ci id x)::Bw id x (i+1) r
theorem Hw{id:Nat}{x:D}:∀{e:Pa}{t:Nat}{y:AV},get (KT id x e) t=some y->∃z,get e t=some z/\y=z.Ci id x
 |[],t,y,h=>by simp[KT,get]at h
 |p::r,t,y,h=>by
  obtain⟨k,v⟩:=p;simp only[KT,get]at h|-;split at h
  .rename_i hb;rw[if_pos hb];cases h;exact⟨v,rfl,rfl⟩
  .rename_i hb;rw[if_neg hb];exact Hw h
theorem Ct{id:Nat}{x:D}:∀{l:Pf}{i j:Nat}{b:A1},(Bw id x i l)[j]? =some b->∃b0,l[j]? =some b0/\((i+j=id/\b= .gone)\/(i+j≠id/\b=b0.Ci id x))
 |[],i,j,b,h=>by simp[Bw]at h
 |c::r,i,0,b,h=>by
  simp only[Bw,List.getElem?_cons_zero,P7]at h;refine⟨c,sm,?_⟩
  cases hb:Nat.beq i id with
  |true=>rw[hb]at h;exact .inl ⟨by have:=P5 hb;omega,h.symm⟩
  |false=>rw[hb]at h;exact .inr ⟨fun e=>by rw[Qc]at e;subst e;simp at hb,h.symm⟩
 |c::r,i,j+1,b,h=>by
  simp only[Bw,List.getElem?_cons_succ]at h;obtain⟨b0,h1,h2⟩:=Ct h;refine⟨b0,by simpa using h1,?_⟩;rw[show i+(j+1)=i+1+j by omega];exact h2
theorem D7{id:Nat}{x:D}:∀{l:Pf}{i j:Nat}{b0:A1},l[j]? =some b0->(Bw id x i l)[j]? =some (if i+j=id then .gone else b0.Ci id x)
 |[],i,j,b,h=>by simp at h
 |c::r,i,0,b,h=>by
  simp only[List.getElem?_cons_zero,P7]at h;subst h;simp only[Bw,List.getElem?_cons_zero,Qc]
  cases hb:Nat.beq i id with
  |true=>have:=P5 hb;subst this;simp
  |false=>rw[if_neg (fun e=>by subst e;simp at hb)]
 |c::r,i,j+1,b,h=>by
  simp only[Bw,List.getElem?_cons_succ]at h|-;rw[show i+(j+1)=i+1+j by omega];exact D7 h
theorem E1{id:Nat}{x:D}:∀{l:Pf}{i:Nat},(Bw id x i l).length=l.length
 |[],i=>by simp[Bw]
 |c::r,i=>by simp[Bw,E1 (l:=r)]
def Gh.freeze(G:Gh)(w:World)(id:Nat)(x:D):Gh where
 ρ:=G.ρ
 H:=Bw id x 0 G.H
 m:=fun b k=>match G.ρ id with
  |some p=>if b=p.1 then w.cell? ⟨b,k,none⟩else G.m b k
  |none=>G.m b k
variable {G:Gh}{w:World}{id:Nat}{x:D}{b:A1}
theorem Eh(hid:G.H[id]? =some (.a x)){j:Nat}(hb:G.H[j]? =some b):∃b',(G.freeze w id x).H[j]? =some b'/\A4 G (G.freeze w id x) j b b':=by
 refine⟨_,D7 hb,?_⟩;rw[Pn]
 by_cases hj:j=id
 .subst hj;rw[hid]at hb;cases hb;simp[A4]
 .rw[if_neg hj];cases b<;>simp[A4,A1.Ci,Gh.freeze,E2]
theorem Al(hr:A9 G w)(hid:G.H[id]? =some (.a x)):D3 G (G.freeze w id x):=by
 refine⟨fun j b hb=>Eh hid hb,fun b k v hv=> ?_⟩;show(match G.ρ id with|some p=>if b=p.1 then w.cell? ⟨b,k,none⟩else G.m b k|none=>G.m b k)=some v;split
 .split
  .exact hr.mem b k v hv
  .exact hv
 .exact hv
mutual
theorem RV.Ci{G:Gh}{w:World}(hr:A9 G w){id:Nat}{x:D}(hid:G.H[id]? =some (.a x)):∀{y:AV}{v:Value},RV G y v->RV (G.freeze w id x) (y.Ci id x) v
 | .sl i n sz,v,r=>by
  have hm:=RV.mono (Al hr hid) r;simp only[AV.Ci];split
  .rename_i hb;have hi:=P5 hb;subst hi;split
   .rename_i hn;simp only[RV]at r|-;obtain⟨_,blk,hblk,hp⟩:=r;rw[hid]at hblk;cases hblk;obtain⟨g1,g2,g3⟩:=hp;obtain⟨k1,k2,k3⟩:=hr.blk i _ hid;rcases g3 hn with⟨g4,a,rfl⟩|⟨b,N,cap,g4,rfl,g6,_⟩
    .exact(B7 k1).2 ⟨a,0,by rw[<-hn,g4],om,k2,.inl om⟩
    .rcases k3 with⟨k3,k4⟩|⟨b',N',vs,T,k4,k5,k6,k7⟩
     .exact(B7 k1).2 ⟨_,cap,by rw[<-hn],om,k2,.inl k3⟩
     .rw[g4]at k4;cases k4;refine(B7 k1).2 ⟨_,cap,by rw[<-hn],om,k2,.inr ⟨b,0,rfl,fun k d hd=> ?_⟩⟩;obtain⟨u,hu,h1c,hru⟩:=k7 k d hd;refine⟨u,?_,h1c,hru.mono (Al hr hid).mem⟩;show(match G.ρ i with|some p=>if b=p.1 then w.cell? ⟨b,0+k,none⟩else G.m b (0+k)|none=>G.m b (0+k))=some u;rw[g4];simp only[QC,Pn];rw[Ag k5];exact hu
   .exact hm
  .exact hm
 | .ag _,_,r| .tup _,_,r=>by
  simp only[AV.Ci,RV]at r|-;obtain⟨vs,hv,h⟩:=r;exact⟨vs,hv,AE.Ci hr hid h⟩
 | .fn f a b,v,r=>by
  simp only[AV.Ci,RV]at r|-;obtain⟨p,q,hv,h1,h2⟩:=r;exact⟨p,q,hv,AE.Ci hr hid h1,AE.Ci hr hid h2⟩
 | .d _,_,r| .u,_,r| .e0,_,r| .ptr _ _ _,_,r| .bs _ _ _ _ _,_,r| .ep _ _ _ _ _,_,r| .yl _,_,r| .dp _,_,r| .mp _,_,r=>by have:=RV.mono (Al hr hid) r;simpa only[AV.Ci]using this
theorem AE.Ci{G:Gh}{w:World}(hr:A9 G w){id:Nat}{x:D}(hid:G.H[id]? =some (.a x)):∀{ys:PT}{vs:P2},AE G ys vs->AE (G.freeze w id x) (AV.Eo id x ys) vs
 |[],vs,r=>by simpa[AV.Eo,AE]using r
 |y::ys,vs,r=>by
  simp only[AV.Eo,AE]at r|-;obtain⟨v,q,hv,h1,h2⟩:=r;exact⟨v,q,hv,RV.Ci hr hid h1,AE.Ci hr hid h2⟩
end
theorem BR.Ci(hr:A9 G w)(hid:G.H[id]? =some (.a x)){j:Nat}:∀{b:A1},BR G w j b->BR (G.freeze w id x) w j (b.Ci id x)
 | .gone,_=>trivial
 | .c cs,h=>by
  obtain⟨b,N,vs,T,h1,h2,h3,h4,h6⟩:=h;refine⟨b,N,vs,T,h1,h2,h3,by rw[E2];simpa using h4,fun k y hy=> ?_⟩;rw[E2,Ph,Pg]at hy;obtain⟨z,hz,rfl⟩:=hy;obtain⟨v,hv,hrv⟩:=h6 k z hz;exact⟨v,hv,hrv.Ci hr hid⟩
 | .a y,h=>by
  obtain⟨h1,h2,h3⟩:=h;refine⟨h1,h2,h3.imp_right ?_⟩;rintro⟨b,N,vs,T,g1,g2,g3,g4⟩;refine⟨b,N,vs,T,g1,g2,g3,fun k d hd=> ?_⟩;obtain⟨v,hv,h1c,hrd⟩:=g4 k d hd;exact⟨v,hv,h1c,hrd.mono (Al hr hid).mem⟩
 | .m es,h=>by
  obtain⟨b,N,ms,cl,h1,h2,h3,h4⟩:=h;refine⟨b,N,ms,cl,h1,h2,by rw[Fb];simpa using h3,fun k q hq=> ?_⟩;rw[Fb,Ph,Pg]at hq;obtain⟨z,hz,rfl⟩:=hq;obtain⟨e,he,hd,hrv⟩:=h4 k z hz;exact⟨e,he,hd.mono (Al hr hid).mem,hrv.Ci hr hid⟩
 | .lp r,h=>by
  obtain⟨l,N,df,tmps,h1,h2,h3,h4⟩:=h;exact⟨l,N,df,tmps,h1,h2,h3,h4.mono (Al hr hid)⟩
 | .Bb _ _ _,h=>h
theorem Fs(hr:A9 G w)(hid:G.H[id]? =some (.a x)){b:Nat}(h:Own (G.freeze w id x) b):Own G b/\∀N,G.ρ id≠some (b,N):=by
 obtain⟨j,N,blk,hb,hl,hρ⟩:=h;obtain⟨b0,h1,h2⟩:=Ct hb;rw[Pn]at h2;rcases h2 with⟨_,rfl⟩|⟨h2,rfl⟩
 .simp[A1.live]at hl
 .have hl0:b0.live=true:=by cases b0<;>simp_all[A1.live,A1.Ci]
  refine⟨⟨j,N,b0,h1,hl0,hρ⟩,fun N' hN'=>h2 ?_⟩;exact hr.inj j id b0 _ b N N' h1 hid hl0 rfl hρ hN'
theorem Fa(hr:A9 G w)(hid:G.H[id]? =some (.a x)):A9 (G.freeze w id x) w/\K7 G (G.freeze w id x):=by
 have hmem:∀b k v,(G.freeze w id x).m b k=some v->G.m b k=some v\/(∃N,G.ρ id=some (b,N)/\w.cell? ⟨b,k,none⟩=some v):=by
  intro b k v hv;change (match G.ρ id with|some p=>if b=p.1 then w.cell? ⟨b,k,none⟩else G.m b k|none=>G.m b k)=some v at hv;split at hv
  .rename_i p hp;split at hv
   .rename_i he;subst he;exact .inr ⟨p.2,hp,hv⟩
   .exact .inl hv
  .exact .inl hv
 refine⟨⟨fun j b hb=> ?_,fun i j p q b N N' hp hq lp lq r1 r2=> ?_,fun b k v hv=> ?_,fun b hb k=> ?_,fun b k v hv=>(Al hr hid).mem b k v (hr.st b k v hv)⟩,⟨fun j b b' hb hb'=> ?_,(Al hr hid).mem,fun b hb=>(Fs hr hid hb).1,fun b k v hv=> ?_⟩⟩
 .obtain⟨b0,h1,h2⟩:=Ct hb;rcases h2 with⟨_,rfl⟩|⟨_,rfl⟩
  .trivial
  .exact(hr.blk j b0 h1).Ci hr hid
 .obtain⟨p0,h1,h2⟩:=Ct hp;obtain⟨q0,h3,h4⟩:=Ct hq
  have e1:p0.live=true:=by
   rcases h2 with⟨_,rfl⟩|⟨_,rfl⟩
   .simp[A1.live]at lp
   .cases p0<;>simp_all[A1.live,A1.Ci]
  have e2:q0.live=true:=by
   rcases h4 with⟨_,rfl⟩|⟨_,rfl⟩
   .simp[A1.live]at lq
   .cases q0<;>simp_all[A1.live,A1.Ci]
  exact hr.inj i j p0 q0 b N N' h1 h3 e1 e2 r1 r2
 .rcases hmem b k v hv with h|⟨_,_,h⟩
  .exact hr.mem b k v h
  .exact h
 .obtain⟨h1,h2⟩:=Fs hr hid hb
  cases hm:(G.freeze w id x).m b k with
  |none=>rfl
  |some v=>
   rcases hmem b k v hm with h|⟨N,h,_⟩
   .rw[hr.sep b h1 k]at h;cases h
   .exact absurd h (h2 N)
 .obtain⟨c,hc,hs⟩:=Eh (w:=w) hid hb;rw[hb']at hc;cases hc;exact hs
 .rcases hmem b k v hv with h|⟨N,h,_⟩
  .exact .inl h
  .exact .inr ⟨id,N,_,hid,rfl,h⟩
theorem Marks.MI{N:NB}{G':Gh}{a:Act}(h:Marks N G a w)(t:K7 G G'):Marks N G' a w:=by
 obtain⟨h0,ms,h1,h2,h3⟩:=h;exact⟨h0,ms,h1,h2,fun q hq=>⟨(h3 q hq).1,(h3 q hq).2.1,fun ho'=>(h3 q hq).2.2 (t.own q ho')⟩⟩
variable {S:St}
theorem A6.freeze(id:Nat)(hid:S.H[id]? =some (.a x)):A6 S ⟨KT id x S.env,Bw id x 0 S.H,S.n⟩:=by
 intro ro N G a w r _;have hid':G.H[id]? =some (.a x):=by rw[r.heap];exact hid
 obtain⟨h1,h2⟩:=Fa r.rel hid';refine⟨G.freeze w id x,⟨by show Bw id x 0 G.H=_;rw[r.heap],h1,r.size,fun t y hy=> ?_,r.marks.MI h2,fun i hi=> ?_⟩,h2⟩
 .obtain⟨z,hz,rfl⟩:=Hw hy;obtain⟨v,hv,hrv⟩:=r.env t z hz;exact⟨v,hv,hrv.Ci r.rel hid'⟩
 .obtain⟨q,l,M,q1,q2⟩:=r.round i hi;refine⟨q,l,M,?_,q2⟩;have:=D7 (id:=id) (x:=x) (i:=0) q1;rw[Pn,if_neg (fun e=>by subst e;rw[hid]at q1;cases q1)]at this;exact this
theorem A6.trans{A B C:St}(h:A6 A B)(hl:B.H.length<=A.H.length->True)(k:A6 B C)(hlt:C.H.length<=B.H.length):A6 A C:=by
 intro ro N G a w r hc;obtain⟨G1,r1,t1⟩:=h ro N G a w r (fun id hid=>QX (hc id hid) hlt);obtain⟨G2,r2,t2⟩:=k ro N G1 a w r1 hc;refine⟨G2,r2,⟨fun id b b' hb hb'=> ?_,Mem.le_trans t1.mem t2.mem,fun b hb=>t1.own b (t2.own b hb),fun b k v hv=> ?_⟩⟩
 .have hlt1:id<G1.H.length:=by
   have:id<G2.H.length:=(P6.1 hb').1;rw[r2.heap]at this;rw[r1.heap];omega
  exact(t1.blk id b _ hb (PE hlt1)).trans (t2.blk id _ b' (PE hlt1) hb')
 .rcases t2.memNew b k v hv with h|h
  .exact t1.memNew b k v h
  .exact .inr (t1.own b h)
theorem A6.e0(t:Nat)(q:D)(h:get S.env t=some .e0)(hs:AO q=true)(hl:AD q=0)(ho:AI q):A6 S ⟨(t,.d q)::S.env,S.H,S.n⟩:=by
 intro ro N G a w r _;refine⟨G,⟨r.heap,r.rel,r.size,fun u y hy=> ?_,r.marks,r.round⟩,⟨fun id b b' hb hb'=>by rw[hb]at hb';cases hb';exact A4.refl _ _ _,Mem.le_refl _,fun _ h=>h,fun _ _ _ h=> .inl h⟩⟩;simp only[get]at hy;split at hy
 .rename_i hb;cases hy;have:=P5 hb;subst this;obtain⟨v,hv,hrv⟩:=r.env t _ h;refine⟨v,hv,?_⟩;simp only[RV]at hrv|-;obtain⟨a,rfl⟩:=hrv;exact(B7 hs).2 ⟨a,0,by rw[hl],om,ho,.inl hl⟩
 .exact r.env u y hy
def Gh.nil(G:Gh)(q:D):Gh:={ρ:=fun id=>if id=G.H.length then none else G.ρ id,H:=G.H++[.a q],m:=G.m}
theorem Ez{q:D}(h:G.H[id]? =some b):(G.nil q).H[id]? =some b/\(G.nil q).ρ id=G.ρ id:=by
 have hlt:=(P6.1 h).1;refine⟨by show(G.H++[.a q])[id]? =_;rw[PK hlt];exact h,?_⟩;show(if id=G.H.length then none else G.ρ id)=_;rw[if_neg om]
theorem HI(G:Gh)(q:D):D3 G (G.nil q):=by
 refine⟨fun id b hb=> ?_,Mem.le_refl _⟩;obtain⟨h1,h2⟩:=Ez (q:=q) hb;exact⟨b,h1,(A4.refl G id b).congr rfl h2⟩
theorem Ey{q:D}(h:(G.nil q).H[id]? =some b):(G.H[id]? =some b/\(G.nil q).ρ id=G.ρ id)\/(id=G.H.length/\b= .a q/\(G.nil q).ρ id=none):=by
 rcases PZ id G.H.length with hlt|hge
 .have h':G.H[id]? =some b:=by
   change (G.H++[.a q])[id]? =_ at h;rwa [PK hlt]at h
  exact .inl ⟨h',(Ez h').2⟩
 .change (G.H++[.a q])[id]? =_ at h;rw[PS hge]at h
  have h0:id-G.H.length=0:=by
   rcases Nat.eq_zero_or_pos (id-G.H.length)with h0|h0
   .exact h0
   .rw[QB (by simp;omega)]at h;cases h
  rw[h0]at h;simp only[List.getElem?_cons_zero,P7]at h;have hid:id=G.H.length:=om
  refine .inr ⟨hid,h.symm,?_⟩;show(if id=G.H.length then none else G.ρ id)=none;rw[if_pos hid]
theorem Jr(hr:A9 G w){q:D}(hs:AO q=true)(hl:AD q=0)(ho:AI q):A9 (G.nil q) w/\K7 G (G.nil q):=by
 have own:∀b,Own (G.nil q) b->Own G b:=by
  rintro b ⟨id,N,blk,hb,hlv,hρ⟩;rcases Ey hb with⟨h1,h2⟩|⟨_,_,h3⟩
  .exact⟨id,N,blk,h1,hlv,by rw[<-h2];exact hρ⟩
  .rw[h3]at hρ;cases hρ
 refine⟨⟨fun id b hb=> ?_,fun i j p q' b N N' hp hq lp lq r1 r2=> ?_,hr.mem,fun b hb k=>hr.sep b (own b hb) k,hr.st⟩,⟨fun id b b' hb hb'=> ?_,Mem.le_refl _,own,fun _ _ _ h=> .inl h⟩⟩
 .rcases Ey hb with⟨h1,h2⟩|⟨h1,rfl,h3⟩
  .exact(hr.blk id b h1).HZ (HI G q) (fun _ _ _ _=>rfl) h2
  .exact⟨hs,ho,.inl ⟨hl,h3⟩⟩
 .rcases Ey hp with⟨h1,h2⟩|⟨_,_,h3⟩
  .rcases Ey hq with⟨h4,h5⟩|⟨_,_,h6⟩
   .exact hr.inj i j p q' b N N' h1 h4 lp lq (by rw[<-h2];exact r1) (by rw[<-h5];exact r2)
   .rw[h6]at r2;cases r2
  .rw[h3]at r1;cases r1
 .obtain⟨h1,h2⟩:=Ez (q:=q) hb;rw[h1]at hb';cases hb';exact(A4.refl G id b).congr rfl h2
theorem A6.Je(t:Nat)(q:D)(h:get S.env t=some .e0)(hs:AO q=true)(hl:AD q=0)(ho:AI q):A6 S ⟨(t,.sl S.H.length 0 (AL q))::S.env,S.H++[.a q],S.n⟩:=by
 intro ro N G a w r _;obtain⟨h1,h2⟩:=Jr r.rel hs hl ho;refine⟨G.nil q,⟨by show G.H++[.a q]=_;rw[r.heap],h1,r.size,fun u y hy=> ?_,r.marks.MI h2,fun i hi=> ?_⟩,h2⟩
 .simp only[get]at hy;split at hy
  .rename_i hb;cases hy;have:=P5 hb;subst this;obtain⟨v,hv,hrv⟩:=r.env t _ h;refine⟨v,hv,?_⟩;simp only[RV]at hrv|-;obtain⟨a,rfl⟩:=hrv;refine⟨rfl,.a q,by show(G.H++[A1.a q])[S.H.length]? =_;rw[<-r.heap];simp,rfl,om,fun _=> .inl ⟨trivial,a,rfl⟩⟩
  .obtain⟨v,hv,hrv⟩:=r.env u y hy;exact⟨v,hv,hrv.mono (HI G q)⟩
 .obtain⟨q',l,M,q1,q2⟩:=r.round i hi;rw[<-r.heap]at q1;obtain⟨n1,n2⟩:=Ez (q:=q) q1;exact⟨q',l,M,by rw[<-r.heap];exact n1,by rw[n2];exact q2⟩
section
variable {P:Program}{ro:P3}{ops:P4}{i:Nat}{rest:PC}{S:St}{Q:Exit->St->Prop}{E:Nat->Option AF}
theorem FF{S':St}(t:A6 S S')(hl:S.H.length<=S'.H.length)(k:Wl P ro ops i rest S' Q):Wl P ro ops i rest S Q:=by
 intro hops N G a w r;obtain⟨G',r',t'⟩:=t ro N G a w r (fun id h=>QX (r.IJ id h) hl);have kf:Ap G w G' w:=(Ap.refl G w).ghost t' (by rw[r.heap,r'.heap];exact hl);have hy:=k hops N G' a w r';rw[Bd r r' kf]at hy;exact AP (fun _ _ _ p=>p.trans kf) _ _ _ hy
theorem Hb{f:FuncId}{fn:Func}{c:Code}(hE:AW P E)(hf:P.funcs[f]? =some fn)(hb:fn.body=some c)(hname:(fn.name== "runtime.NumGoroutine")=false){args:PT}{H:Pf}(hn:args.length<=fn.ntmps){R:AV->Pf->Prop}
  (h:W P none c ⟨C5 0 args,H,fn.ntmps⟩ (F9 fun S0=>∃S',A6 S0 S'/\H.length<=S'.H.length/\∃cc x,Bf E S'.env S'.H fn.results.toList=some (cc,x)/\cc=true/\R x S'.H)):Dj P f args H R:=by
 refine Kv hE hf hb hname hn (MX h ?_);intro e S' q
 cases e with
 |normal|ret=>obtain⟨S'',t,hl,q'⟩:=q;exact⟨S'',t,hl,q'⟩
 |_=>exact q.elim
end
end Go.Gar
namespace Go.Gar
def rn:P0->Nat->Nat->Nat
 |[],k,i=>k+i
 |a::_,_,0=>a
 |_::r,k,i+1=>rn r k i
theorem K2:∀{ids:P0}{k i a:Nat},ids[i]? =some a->rn ids k i=a
 |[],k,i,a,h=>by simp at h
 |b::r,k,0,a,h=>by simpa[rn]using h
 |b::r,k,i+1,a,h=>by simp only[rn];exact K2 (by simpa using h)
theorem NJ:∀{ids:P0}{k i:Nat},ids.length<=i->rn ids k i=k+(i-ids.length)
 |[],k,i,h=>by simp[rn]
 |b::r,k,0,h=>by simp at h
 |b::r,k,i+1,h=>by simp only[rn,PX];rw[NJ (by simpa using h)];congr 1;omega
mutual
def AV.ren(ι:Nat->Nat):AV->AV
 | .ptr id o c=> .ptr (ι id) o c
 | .sl id n sz=> .sl (ι id) n sz
 | .bs id o n sz c=> .bs (ι id) o n sz c
 | .ep id i o n sz=> .ep (ι id) i o n sz
 | .ag cs=> .ag (AV.Ai ι cs)
 | .tup cs=> .tup (AV.Ai ι cs)
 | .fn f a b=> .fn f (AV.Ai ι a) (AV.Ai ι b)
 | .yl id=> .yl (ι id)
 | .mp id=> .mp (ι id)
 |v=>v
def AV.Ai(ι:Nat->Nat):PT->PT
 |[]=>[]
 |v::r=>v.ren ι::AV.Ai ι r
end
theorem BZ(ι:Nat->Nat):∀l:PT,AV.Ai ι l=l.map (AV.ren ι)
 |[]=>rfl
 |v::r=>by simp[AV.Ai,BZ ι r]
def Kg(ι:Nat->Nat):Pk->Pk
 |[]=>[]
 |p::r=>(p.1,p.2.ren ι)::Kg ι r
theorem EB(ι:Nat->Nat):∀l:Pk,Kg ι l=l.map fun p=>(p.1,p.2.ren ι)
 |[]=>rfl
 |v::r=>by simp[Kg,EB ι r]
def Fy(ι:Nat->Nat):Pa->Pa
 |[]=>[]
 |p::r=>(p.1,p.2.ren ι)::Fy ι r
theorem E5{ι:Nat->Nat}:∀{e:Pa}{t:Nat},get (Fy ι e) t=(get e t).map (AV.ren ι)
 |[],t=>by simp[Fy,get]
 |p::r,t=>by
  obtain⟨k,v⟩:=p;simp only[Fy,get];split
  .rfl
  .exact E5
def A1.ren(ι:Nat->Nat):A1->A1
 | .gone=> .gone
 | .c cs=> .c (AV.Ai ι cs)
 | .a x=> .a x
 | .m es=> .m (Kg ι es)
 | .lp r=> .lp {r with env:=Fy ι r.env}
 | .Bb b N l=> .Bb b N l
def Bc(ι:Nat->Nat):Pf->Pf
 |[]=>[]
 |b::r=>b.ren ι::Bc ι r
theorem IH(ι:Nat->Nat):∀l:Pf,Bc ι l=l.map (A1.ren ι)
 |[]=>rfl
 |v::r=>by simp[Bc,IH ι r]
theorem Ay(ι:Nat->Nat)(b:A1):(b.ren ι).live=b.live:=by cases b<;>rfl
mutual
theorem RV.ren{G0 G:Gh}{ι:Nat->Nat}(hm:G0.m.le G.m)(hb:∀id b,G0.H[id]? =some b->G.H[ι id]? =some (b.ren ι)/\G.ρ (ι id)=G0.ρ id):∀{x:AV}{v:Value},RV G0 x v->RV G (x.ren ι) v
 | .d x,v,r=>by simp only[AV.ren,RV]at r|-;exact r.mono hm
 | .u,_,_=>by simp[AV.ren,RV]
 | .e0,_,r=>by simpa only[AV.ren,RV]using r
 | .dp cs,v,r=>by
  simp only[AV.ren,RV]at r|-;obtain⟨b,off,hv,hr⟩:=r;exact⟨b,off,hv,Dm.mono hm hr⟩
 | .ptr id _ _,_,r| .bs id _ _ _ _,_,r=>by
  simp only[AV.ren,RV]at r|-;obtain⟨h1,blk,h2,h3⟩:=r;obtain⟨k1,k2⟩:=hb id blk h2;refine⟨h1,_,k1,?_⟩;cases blk<;>simp_all[A1.ren,BZ]
 | .sl id _ _,_,r| .ep id _ _ _ _,_,r| .yl id,_,r| .mp id,_,r=>by
  simp only[AV.ren,RV]at r|-;obtain⟨h1,blk,h2,h3⟩:=r;obtain⟨k1,k2⟩:=hb id blk h2;refine⟨h1,_,k1,?_⟩;cases blk<;>simp_all[A1.ren]
 | .ag _,_,r| .tup _,_,r=>by
  simp only[AV.ren,RV]at r|-;obtain⟨vs,hv,h⟩:=r;exact⟨vs,hv,AE.ren hm hb h⟩
 | .fn f a b,v,r=>by
  simp only[AV.ren,RV]at r|-;obtain⟨p,q,hv,h1,h2⟩:=r;exact⟨p,q,hv,AE.ren hm hb h1,AE.ren hm hb h2⟩
theorem AE.ren{G0 G:Gh}{ι:Nat->Nat}(hm:G0.m.le G.m)(hb:∀id b,G0.H[id]? =some b->G.H[ι id]? =some (b.ren ι)/\G.ρ (ι id)=G0.ρ id):∀{xs:PT}{vs:P2},AE G0 xs vs->AE G (AV.Ai ι xs) vs
 |[],_,r=>by simpa[AV.Ai,AE]using r
 |x::xs,vs,r=>by
  simp only[AV.Ai,AE]at r|-;obtain⟨v,q,hv,h1,h2⟩:=r;exact⟨v,q,hv,RV.ren hm hb h1,AE.ren hm hb h2⟩
end
mutual
theorem RV.Ce{G0 G:Gh}{ι:Nat->Nat}{n:Nat}(hm:G.m.le G0.m)(hb:∀id,id<n->∃b,G0.H[id]? =some b/\G.H[ι id]? =some (b.ren ι)/\G.ρ (ι id)=G0.ρ id):∀{x:AV}{v:Value},x.ok n=true->RV G (x.ren ι) v->RV G0 x v
 | .d x,v,_,r=>by simp only[AV.ren,RV]at r|-;exact r.mono hm
 | .u,_,_,_=>by simp[RV]
 | .e0,_,_,r=>by simpa only[AV.ren,RV]using r
 | .dp cs,v,_,r=>by
  simp only[AV.ren,RV]at r|-;obtain⟨b,off,hv,hr⟩:=r;exact⟨b,off,hv,Dm.mono hm hr⟩
 | .ptr id _ _,_,ho,r| .bs id _ _ _ _,_,ho,r=>by
  simp only[AV.ren,RV]at r|-;obtain⟨h1,blk,h2,h3⟩:=r;obtain⟨b,k0,k1,k2⟩:=hb id (by simpa[AV.ok,QF]using ho);rw[k1]at h2;cases h2;refine⟨h1,_,k0,?_⟩;cases b<;>simp_all[A1.ren,BZ]
 | .sl id _ _,_,ho,r| .ep id _ _ _ _,_,ho,r| .yl id,_,ho,r| .mp id,_,ho,r=>by
  simp only[AV.ren,RV]at r|-;obtain⟨h1,blk,h2,h3⟩:=r;obtain⟨b,k0,k1,k2⟩:=hb id (by simpa[AV.ok,QF]using ho);rw[k1]at h2;cases h2;refine⟨h1,_,k0,?_⟩;cases b<;>simp_all[A1.ren,BZ]
 | .ag _,_,ho,r| .tup _,_,ho,r=>by
  simp only[AV.ren,RV]at r|-;obtain⟨vs,hv,h⟩:=r;exact⟨vs,hv,AE.Ce hm hb (by simpa[AV.ok]using ho) h⟩
 | .fn f a b,v,ho,r=>by
  simp only[AV.ren,RV]at r|-;simp only[AV.ok,P8]at ho;obtain⟨p,q,hv,h1,h2⟩:=r;exact⟨p,q,hv,AE.Ce hm hb ho.1 h1,AE.Ce hm hb ho.2 h2⟩
theorem AE.Ce{G0 G:Gh}{ι:Nat->Nat}{n:Nat}(hm:G.m.le G0.m)(hb:∀id,id<n->∃b,G0.H[id]? =some b/\G.H[ι id]? =some (b.ren ι)/\G.ρ (ι id)=G0.ρ id):∀{xs:PT}{vs:P2},AV.oks n xs=true->AE G (AV.Ai ι xs) vs->AE G0 xs vs
 |[],_,_,r=>by simpa[AV.Ai,AE]using r
 |x::xs,vs,ho,r=>by
  simp only[AV.Ai,AE]at r|-;simp only[AV.oks,P8]at ho;obtain⟨v,q,hv,h1,h2⟩:=r;exact⟨v,q,hv,RV.Ce hm hb ho.1 h1,AE.Ce hm hb ho.2 h2⟩
end
variable {G0 G:Gh}{w:World}{ι:Nat->Nat}{i:Nat}
theorem BR.ren(hm:G0.m.le G.m)(hb:∀id b,G0.H[id]? =some b->G.H[ι id]? =some (b.ren ι)/\G.ρ (ι id)=G0.ρ id)(hρ:G.ρ (ι i)=G0.ρ i):∀{b:A1},BR G0 w i b->BR G w (ι i) (b.ren ι)
 | .gone,_=>trivial
 | .c cs,h=>by
  obtain⟨b,N,vs,T,h1,h2,h3,h4,h6⟩:=h;refine⟨b,N,vs,T,hρ.trans h1,h2,h3,by rw[BZ];simpa using h4,fun k y hy=> ?_⟩;rw[BZ,Ph,Pg]at hy;obtain⟨z,hz,rfl⟩:=hy;obtain⟨v,hv,hrv⟩:=h6 k z hz;exact⟨v,hv,hrv.ren hm hb⟩
 | .a y,h=>by
  obtain⟨h1,h2,h3⟩:=h;refine⟨h1,h2,?_⟩;rcases h3 with⟨h3,h4⟩|⟨b,N,vs,T,g1,g2,g3,g4⟩
  .exact .inl ⟨h3,hρ.trans h4⟩
  .refine .inr ⟨b,N,vs,T,hρ.trans g1,g2,g3,fun k d hd=> ?_⟩;obtain⟨v,hv,h1c,hrd⟩:=g4 k d hd;exact⟨v,hv,h1c,hrd.mono hm⟩
 | .m es,h=>by
  obtain⟨b,N,ms,cl,h1,h2,h3,h4⟩:=h;refine⟨b,N,ms,cl,hρ.trans h1,h2,by rw[EB];simpa using h3,fun k q hq=> ?_⟩;rw[EB,Ph,Pg]at hq;obtain⟨z,hz,rfl⟩:=hq;obtain⟨e,he,hd,hrv⟩:=h4 k z hz;exact⟨e,he,hd.mono hm,hrv.ren hm hb⟩
 | .lp r,h=>by
  obtain⟨l,N,df,tmps,h1,h2,h3,h4⟩:=h;refine⟨l,N,df,tmps,hρ.trans h1,h2,h3,fun t x hx=> ?_⟩;change get (Fy ι r.env) t=some x at hx;rw[E5,Pg]at hx;obtain⟨z,hz,rfl⟩:=hx;obtain⟨v,hv,hrv⟩:=h4 t z hz;exact⟨v,hv,hrv.ren hm hb⟩
 | .Bb _ _ _,h=>by
  obtain⟨vs,T,h1,h2⟩:=h;exact⟨vs,T,hρ.trans h1,h2⟩
theorem BR.Ce{n:Nat}(hm:G.m.le G0.m)(hb:∀id,id<n->∃b,G0.H[id]? =some b/\G.H[ι id]? =some (b.ren ι)/\G.ρ (ι id)=G0.ρ id)(hρ:G.ρ (ι i)=G0.ρ i):∀{b:A1},b.ok n=true->BR G w (ι i) (b.ren ι)->BR G0 w i b
 | .gone,_,_=>trivial
 | .c cs,ho,h=>by
  obtain⟨b,N,vs,T,h1,h2,h3,h4,h6⟩:=h;rw[BZ]at h4 h6;refine⟨b,N,vs,T,hρ.symm.trans h1,h2,h3,by simpa using h4,fun k y hy=> ?_⟩;obtain⟨v,hv,hrv⟩:=h6 k (y.ren ι) (by simp[hy]);exact⟨v,hv,hrv.Ce hm hb (Jt ho hy)⟩
 | .a y,_,h=>by
  obtain⟨h1,h2,h3⟩:=h;refine⟨h1,h2,?_⟩;rcases h3 with⟨h3,h4⟩|⟨b,N,vs,T,g1,g2,g3,g4⟩
  .exact .inl ⟨h3,hρ.symm.trans h4⟩
  .refine .inr ⟨b,N,vs,T,hρ.symm.trans g1,g2,g3,fun k d hd=> ?_⟩;obtain⟨v,hv,h1c,hrd⟩:=g4 k d hd;exact⟨v,hv,h1c,hrd.mono hm⟩
 | .m es,ho,h=>by
  obtain⟨b,N,ms,cl,h1,h2,h3,h4⟩:=h;rw[EB]at h3 h4;refine⟨b,N,ms,cl,hρ.symm.trans h1,h2,by simpa using h3,fun k q hq=> ?_⟩;obtain⟨e,he,hd,hrv⟩:=h4 k (q.1,q.2.ren ι) (by simp[hq]);exact⟨e,he,hd.mono hm,hrv.Ce hm hb (GZ ho hq)⟩
 | .lp r,ho,h=>by
  obtain⟨l,N,df,tmps,h1,h2,h3,h4⟩:=h;refine⟨l,N,df,tmps,hρ.symm.trans h1,h2,h3,fun t x hx=> ?_⟩;obtain⟨v,hv,hrv⟩:=h4 t (x.ren ι) (by show get (Fy ι r.env) t=_;rw[E5,hx];rfl);exact⟨v,hv,hrv.Ce hm hb (ES ho hx)⟩
 | .Bb _ _ _,_,h=>by
  obtain⟨vs,T,h1,h2⟩:=h;exact⟨vs,T,hρ.symm.trans h1,h2⟩
theorem A4.ren{G0' G':Gh}{j:Nat}{b b':A1}(h:A4 G0 G0' i b b')(e:G.ρ j=G0.ρ i)(e':G'.ρ j=G0'.ρ i):A4 G G' j (b.ren ι) (b'.ren ι):=by
 cases b<;>cases b'<;>simp only[A4,A1.ren]at h|-<;>simp_all[BZ]
def Ed:P0->Pf->Pf->Pf
 |[],H,l=>H++l
 |a::r,H,b::l=>Ed r (H.set a b) l
 |_::_,H,[]=>H
theorem Jc:∀{ids:P0}{H l:Pf}{j:Nat},ids.Nodup->ids.length<=l.length->(∀a∈ids,a<H.length)->
  (Ed ids H l)[j]? =if j∈ids then l[ids.idxOf j]? else if j<H.length then H[j]? else l[ids.length+(j-H.length)]?
 |[],H,l,j,_,_,_=>by
  simp only[Ed,List.not_mem_nil,QK,Px,Pn];split
  .rename_i h;rw[PK h]
  .rename_i h;rw[PS om]
 |a::r,H,[],j,_,hl,_=>by simp at hl
 |a::r,H,b::l,j,hn,hl,ha=>by
  obtain⟨h1,h2⟩:=List.nodup_cons.1 hn;simp only[Ed];rw[Jc h2 (by simpa using hl) (fun c hc=>by simpa using ha c (by simp[hc]))]
  by_cases hj:j=a
  .subst hj;have hlt:=ha j sm;have e1:(H.set j b).length=H.length:=by simp
   have e2:j∈j::r:=by simp
   simp only[h1,QK,e1,hlt,QC,e2,PU,List.idxOf_cons_self,List.getElem?_cons_zero]
  .have e3:(j∈a::r)↔(j∈r):=by simp[hj]
   by_cases hr:j∈r
   .have e4:(a::r).idxOf j=r.idxOf j+1:=by
     rw[List.idxOf_cons];have:(a==j)=false:=by simpa using(Ne.symm hj)
     rw[this];rfl
    simp only[hr,QC,e3,e4,List.getElem?_cons_succ]
   .simp only[hr,QK,e3,List.length_set];split
    .rw[PY (Ne.symm hj)]
    .simp only[PX];rw[show r.length+1+(j-H.length)=r.length+(j-H.length)+1 by omega];simp
def Am(ι:Nat->Nat)(H2:Pf):P0->Pf->Prop
 |[],[]=>True
 |a::r,b::l=>H2[a]? =some (b.ren ι)/\Am ι H2 r l
 |_,_=>False
theorem Fh{ι:Nat->Nat}{H2:Pf}:∀{ids:P0}{H:Pf},Am ι H2 ids H->ids.length=H.length
 |[],[],_=>rfl
 |a::r,b::l,h=>by simp only[PX];rw[Fh h.2]
 |[],_::_,h=>h.elim
 |_::_,[],h=>h.elim
theorem CZ{ι:Nat->Nat}{H2:Pf}:∀{ids:P0}{H:Pf},Am ι H2 ids H->∀{i:Nat}{b:A1},H[i]? =some b->∃a,ids[i]? =some a/\H2[a]? =some (b.ren ι)
 |[],[],_,i,b,hb=>by simp at hb
 |a::r,c::l,h,0,b,hb=>by simp at hb;subst hb;exact⟨a,sm,h.1⟩
 |a::r,c::l,h,i+1,b,hb=>by
  obtain⟨x,h1,h2⟩:=CZ h.2 (i:=i) (by simpa using hb);exact⟨x,by simpa using h1,h2⟩
 |[],_::_,h,_,_,_=>h.elim
 |_::_,[],h,_,_,_=>h.elim
variable {H H2:Pf}{ids:P0}
theorem EZ{G0':Gh}{w':World}(hG:G.H=H2)(hn:ids.Nodup)(hm:Am (rn ids H2.length) H2 ids H)(hr:A9 G w)(hf:Ap ⟨fun i=>G.ρ (rn ids H2.length i),H,G.m⟩ w G0' w')(h':A9 G0' w'):
  ∃G'':Gh,G''.H=Ed ids H2 (Bc (rn ids H2.length) G0'.H)/\A9 G'' w'/\Ap G w G'' w'/\G0'.m.le G''.m/\(∀id b,G0'.H[id]? =some b->G''.H[rn ids H2.length id]? =some (b.ren (rn ids H2.length))/\G''.ρ (rn ids H2.length id)=G0'.ρ id):=by
 generalize hι:rn ids H2.length=ι at *;have hlen:ids.length=H.length:=Fh hm;have hgl:H.length<=G0'.H.length:=hf.gle.len
 have hid:∀a∈ids,a<H2.length:=by
  intro a ha;obtain⟨i,hi,rfl⟩:=List.mem_iff_getElem.1 ha;obtain⟨x,h1,h2⟩:=CZ hm (i:=i) (b:=H[i]'om) sm;rw[PE hi]at h1;cases h1;exact(P6.1 h2).1
 have lowι:∀i (hi:i<ids.length),ι i=ids[i]:=fun i hi=>by rw[<-hι];exact K2 (PE hi)
 have highι:∀i,ids.length<=i->ι i=H2.length+(i-ids.length):=fun i hi=>by rw[<-hι];exact NJ hi
 let κ:Nat->P3:=fun j=>if j∈ids then some (ids.idxOf j)else if j<H2.length then none else some (ids.length+(j-H2.length))
 have κι:∀i,κ (ι i)=some i:=by
  intro i;rcases PZ i ids.length with hi|hi
  .rw[lowι i hi];simp only[κ];rw[if_pos (List.getElem_mem hi),hn.idxOf_getElem i hi]
  .rw[highι i hi];simp only[κ];rw[if_neg (fun h=>by have:=hid _ h;omega),if_neg om]
   congr 1;omega
 have ικ:∀j i,κ j=some i->ι i=j:=by
  intro j i h;simp only[κ]at h;split at h
  .rename_i hj;cases h;rw[lowι _ (List.idxOf_lt_length_of_mem hj),List.getElem_idxOf]
  .split at h
   .cases h
   .cases h;rw[highι _ om];omega
 let K:Gh:=⟨fun j=>match κ j with|some i=>G0'.ρ i|none=>G.ρ j,Ed ids H2 (Bc ι G0'.H),G0'.m⟩;have kρ1:∀i,K.ρ (ι i)=G0'.ρ i:=fun i=>by show(match κ (ι i)with|some i=>G0'.ρ i|none=>G.ρ (ι i))=_;rw[κι]
 have kρ2:∀j,κ j=none->K.ρ j=G.ρ j:=fun j h=>by show(match κ j with|some i=>G0'.ρ i|none=>G.ρ j)=_;rw[h]
 have kget:∀j,K.H[j]? =match κ j with|some i=>(G0'.H[i]?).map (A1.ren ι)|none=>H2[j]?:=by
  intro j;show(Ed ids H2 (Bc ι G0'.H))[j]? =_;rw[IH,Jc hn (by simp;omega) hid];simp only[κ];split
  .simp
  .split
   .rfl
   .simp
 have kup:∀id b,G0'.H[id]? =some b->K.H[ι id]? =some (b.ren ι)/\K.ρ (ι id)=G0'.ρ id:=by
  intro id b hb;refine⟨?_,kρ1 id⟩;rw[kget,κι];simp[hb]
 have up0:∀id b,H[id]? =some b->G.H[ι id]? =some (b.ren ι):=by
  intro id b hb;obtain⟨a,h1,h2⟩:=CZ hm hb;have:ι id=a:=by rw[<-hι];exact K2 h1
  rw[this,hG];exact h2
 have own0:∀b,Own ⟨fun i=>G.ρ (ι i),H,G.m⟩ b->Own G b:=by
  rintro b ⟨i,N,q,hq,hl,hρ⟩;exact⟨ι i,N,_,up0 i q hq,by rw[Ay];exact hl,hρ⟩
 have split:∀j b,K.H[j]? =some b->(∃i b0,ι i=j/\κ j=some i/\G0'.H[i]? =some b0/\b=b0.ren ι)\/(κ j=none/\G.H[j]? =some b):=by
  intro j b hb;rw[kget]at hb
  cases hk:κ j with
  |none=>rw[hk]at hb;exact .inr ⟨rfl,by rw[hG];exact hb⟩
  |some i=>
   rw[hk]at hb;simp only[Pg]at hb;obtain⟨b0,h1,h2⟩:=hb;exact .inl ⟨i,b0,ικ j i hk,rfl,h1,h2.symm⟩
 have far:∀j b N q,κ j=none->G.H[j]? =some q->q.live=true->G.ρ j=some (b,N)->b<w.heap.size/\¬Own ⟨fun i=>G.ρ (ι i),H,G.m⟩ b:=by
  intro j b N q hk hq hl hρ;refine⟨BQ hr ⟨j,N,q,hq,hl,hρ⟩,?_⟩;rintro⟨i,N',q',hq',hl',hρ'⟩;have:=hr.inj j (ι i) q _ b N N' hq (up0 i q' hq') hl (by rw[Ay];exact hl') hρ hρ';rw[this,κι]at hk;cases hk
 have ownK:∀b,Own K b->Own G0' b\/(Own G b/\b<w.heap.size/\¬Own ⟨fun i=>G.ρ (ι i),H,G.m⟩ b):=by
  rintro b ⟨j,N,q,hq,hl,hρ⟩;rcases split j q hq with⟨i,b0,rfl,_,h3,rfl⟩|⟨h1,h2⟩
  .exact .inl ⟨i,N,b0,h3,by rw[Ay]at hl;exact hl,by rw[<-kρ1];exact hρ⟩
  .rw[kρ2 j h1]at hρ;exact .inr ⟨⟨j,N,q,h2,hl,hρ⟩,far j b N q h1 h2 hl hρ⟩
 have g2:D3 G K:=by
  refine⟨fun j b hb=> ?_,hf.gle.mem⟩
  cases hk:κ j with
  |none=>exact⟨b,by rw[kget,hk,<-hG];exact hb,(A4.refl G j b).congr rfl (kρ2 j hk)⟩
  |some i=>
   have hj:j<H2.length:=by rw[<-hG];exact(P6.1 hb).1
   have hi:i<ids.length:=by
    simp only[κ]at hk;split at hk
    .rename_i hm;cases hk;exact List.idxOf_lt_length_of_mem hm
    .simp[hj]at hk
   have hji:=ικ j i hk;subst hji;have hb1:=up0 i _ (PE (l:=H) (by omega:i<H.length));rw[hb]at hb1;cases hb1;obtain⟨b',hb',hs⟩:=hf.gle.blk i H[i] (PE (by omega:i<H.length));exact⟨_,(kup i b' hb').1,hs.ren rfl (kρ1 i)⟩
 refine⟨K,rfl,⟨fun j b hb=> ?_,fun i j p q b N N' hp hq lp lq r1 r2=> ?_,h'.mem,fun b hb k=> ?_,h'.st⟩,⟨hf.os,hf.tape,hf.output,hf.size,fun b hb ho=> ?_,fun b k v hv=> ?_,g2⟩,Mem.le_refl _,kup⟩
 .rcases split j b hb with⟨i,b0,rfl,_,h3,rfl⟩|⟨h1,h2⟩
  .exact BR.ren (G0:=G0') (G:=K) (ι:=ι) (Mem.le_refl _) kup (kρ1 i) (h'.blk i b0 h3)
  .refine(hr.blk j b h2).HZ g2 (fun q N hl hρ=> ?_) (kρ2 j h1);obtain⟨f1,f2⟩:=far j q N b h1 h2 hl hρ;exact(hf.keep q f1 f2).1
 .rcases split i p hp with⟨i0,p0,rfl,_,h3,rfl⟩|⟨h1,h2⟩
  .rw[kρ1]at r1;rw[Ay]at lp;rcases split j q hq with⟨j0,q0,rfl,_,h6,rfl⟩|⟨h4,h5⟩
   .rw[kρ1]at r2;rw[Ay]at lq;rw[h'.inj i0 j0 p0 q0 b N N' h3 h6 lp lq r1 r2]
   .rw[kρ2 j h4]at r2;obtain⟨f1,f2⟩:=far j b N' q h4 h5 lq r2;exact absurd ⟨i0,N,p0,h3,lp,r1⟩ (hf.keep b f1 f2).2
  .rw[kρ2 i h1]at r1;rcases split j q hq with⟨j0,q0,rfl,_,h6,rfl⟩|⟨h4,h5⟩
   .rw[kρ1]at r2;rw[Ay]at lq;obtain⟨f1,f2⟩:=far i b N p h1 h2 lp r1;exact absurd ⟨j0,N',q0,h6,lq,r2⟩ (hf.keep b f1 f2).2
   .rw[kρ2 j h4]at r2;exact hr.inj i j p q b N N' h2 h5 lp lq r1 r2
 .rcases ownK b hb with h|⟨h1,h2,h3⟩
  .exact h'.sep b h k
  .cases hm:G0'.m b k with
   |none=>rfl
   |some v=>
    rcases hf.memNew b k v hm with h|h|h
    .have:=hr.sep b h1 k;rw[show G.m b k=some v from h]at this;cases this
    .exact absurd h h3
    .omega
 .obtain⟨h1,h2⟩:=hf.keep b hb (fun h=>ho (own0 b h));refine⟨h1,fun h=> ?_⟩;rcases ownK b h with h|⟨h,_⟩
  .exact h2 h
  .exact ho h
 .rcases hf.memNew b k v hv with h|h|h
  .exact .inl h
  .exact .inr (.inl (own0 b h))
  .exact .inr (.inr h)
theorem HR(hG:G.H=H2)(hn:ids.Nodup)(hm:Am (rn ids H2.length) H2 ids H)(hr:A9 G w)(ho:AK H.length H=true):
  A9 ⟨fun i=>G.ρ (rn ids H2.length i),H,G.m⟩ w/\∀{x:PT}{vs:P2},AV.oks H.length x=true->AE G (AV.Ai (rn ids H2.length) x) vs->AE ⟨fun i=>G.ρ (rn ids H2.length i),H,G.m⟩ x vs:=by
 generalize hι:rn ids H2.length=ι at*
 have up0:∀id b,H[id]? =some b->G.H[ι id]? =some (b.ren ι)/\∃h:id<ids.length,ι id=ids[id]:=by
  intro id b hb;obtain⟨a,h1,h2⟩:=CZ hm hb;have e:ι id=a:=by rw[<-hι];exact K2 h1
  obtain⟨h3,h4⟩:=P6.1 h1;exact⟨by rw[e,hG];exact h2,h3,by rw[e,h4]⟩
 let G0:Gh:=⟨fun i=>G.ρ (ι i),H,G.m⟩
 have hb:∀id,id<H.length->∃b,G0.H[id]? =some b/\G.H[ι id]? =some (b.ren ι)/\G.ρ (ι id)=G0.ρ id:=
  fun id hid=>⟨H[id],PE hid,(up0 id _ (PE hid)).1,rfl⟩
 refine⟨⟨fun i b hbi=> ?_,fun i j p q b N N' hp hq lp lq r1 r2=> ?_,hr.mem,fun b hb k=> ?_,hr.st⟩,fun hx h=>AE.Ce (G0:=G0) (G:=G) (ι:=ι) (Mem.le_refl _) hb hx h⟩
 .exact BR.Ce (G0:=G0) (G:=G) (ι:=ι) (Mem.le_refl _) hb rfl (Dc ho hbi) (hr.blk _ _ (up0 i b hbi).1)
 .obtain⟨e1,e2,e3⟩:=up0 i p hp;obtain⟨f1,f2,f3⟩:=up0 j q hq;have:=hr.inj _ _ _ _ b N N' e1 f1 (by rw[Ay];exact lp) (by rw[Ay];exact lq) r1 r2;rw[e3,f3]at this;exact(List.getElem_inj hn).1 this
 .obtain⟨i,N,q,hq,hl,hρ⟩:=hb;exact hr.sep b ⟨ι i,N,_,(up0 i q hq).1,by rw[Ay];exact hl,hρ⟩ k
theorem Dj.ren{P:Program}{f:FuncId}{args:PT}{R:AV->Pf->Prop}(ids:P0)(h:Dj P f args H R)(hn:ids.Nodup)(hm:Am (rn ids H2.length) H2 ids H)(ho:AK H.length H=true)(ha:AV.oks H.length args=true):
  Dj P f (AV.Ai (rn ids H2.length) args) H2 fun r H2'=>∃r' H',R r' H'/\r=r'.ren (rn ids H2.length)/\H2'=Ed ids H2 (Bc (rn ids H2.length) H'):=by
 refine⟨h.1,fun G w vs hG hr hargs=> ?_⟩;obtain⟨h1,h2⟩:=HR hG hn hm hr ho;refine(h.2 _ w vs rfl h1 (h2 ha hargs)).mono ?_;rintro e w' ⟨v,r,G0',rfl,hR,hv,hr',hfr⟩;obtain⟨G'',q1,q2,q3,q4,q5⟩:=EZ hG hn hm hr hfr hr';exact⟨v,_,G'',rfl,⟨r,G0'.H,hR,rfl,q1⟩,hv.ren q4 q5,q2,q3⟩
end Go.Gar
namespace Go.Gar
def Di(P:Program)(f:FuncId)(args:PT)(H:Pf)(r:AV)(H':Pf):Prop:=Dj P f args H fun x K=>x=r/\K=H'
def nodupB:P0->Bool
 |[]=>true
 |a::r=>(r.all fun b=> !(Nat.beq a b))&&nodupB r
theorem D9:∀{l:P0},nodupB l=true->l.Nodup
 |[],_=>List.nodup_nil
 |a::r,h=>by
  simp only[nodupB,P8,Qh]at h;refine List.nodup_cons.2 ⟨fun ha=> ?_,D9 h.2⟩;have:=h.1 a ha;simp at this
theorem Di.ren{P:Program}{f:FuncId}{args:PT}{H H2:Pf}{r:AV}{H':Pf}(ids:P0)(h:Di P f args H r H')(hn:nodupB ids=true)(hm:Am (rn ids H2.length) H2 ids H)(ho:AK H.length H=true)(ha:AV.oks H.length args=true):
  Di P f (AV.Ai (rn ids H2.length) args) H2 (r.ren (rn ids H2.length)) (Ed ids H2 (Bc (rn ids H2.length) H')):=
 (Dj.ren ids h (D9 hn) hm ho ha).mono fun x K ⟨r',H'',⟨h1,h2⟩,h3,h4⟩=>by subst h1;subst h2;exact⟨h3,h4⟩
section
variable {P:Program}{ro:P3}{ops:P4}{i:Nat}{rest:PC}{S S0:St}{Q:Exit->St->Prop}{o:Oper}{E:Nat->Option AF}{A:Prop}{acc:List Rc}
variable {args:PT}{H:Pf}{r:AV}{H':Pf}
theorem Wl_D{g:Nat}(ids:P0)(hF:Di P g args H r H')(hg:A2 ops S.env o=some true)(h:AR S.env o.op=some (g,AV.Ai (rn ids S.H.length) args))(hd:A7 o.dst S.n=true)(hm:Am (rn ids S.H.length) S.H ids H)(hn:nodupB ids=true)(ho:AK H.length H=true)(ha:AV.oks H.length args=true)(k:Wl P ro ops (i+1) rest ⟨AN o.dst (r.ren (rn ids S.H.length)) S.env,Ed ids S.H (Bc (rn ids S.H.length) H'),S.n⟩ Q):Wl P ro ops i (o::rest) S Q:=
 NX hg h hd (hF.ren ids hn hm ho ha) fun x K ⟨h1,h2⟩=>by subst h1;subst h2;exact k
theorem Wd_D{g:Nat}(ids:P0)(hF:Di P g args H r H')(hg:A2 ops (BG (looks ops o) S.env) o=some true)(h:AR (BG (looks ops o) S.env) o.op=some (g,AV.Ai (rn ids S.H.length) args))(hd:A7 o.dst S.n=true)(hm:Am (rn ids S.H.length) S.H ids H)(hn:nodupB ids=true)(ho:AK H.length H=true)(ha:AV.oks H.length args=true)(hk:Wd P ro E ops S0 A (⟨BG (looks ops o) S.env,S.H,r.ren (rn ids S.H.length),.eff⟩::acc) rest ⟨AN o.dst (r.ren (rn ids S.H.length)) S.env,Ed ids S.H (Bc (rn ids S.H.length) H'),S.n⟩):Wd P ro E ops S0 A acc (o::rest) S:=
 Wd_T hg h hd (hF.ren ids hn hm ho ha) hk
theorem Ku{f:FuncId}{fn:Func}{c:Code}(hE:AW P E)(hf:P.funcs[f]? =some fn)(hb:fn.body=some c)(hname:(fn.name== "runtime.NumGoroutine")=false)(hn:args.length<=fn.ntmps)(h:W P none c ⟨C5 0 args,H,fn.ntmps⟩ (F9 fun S0=>∃S',A6 S0 S'/\H.length<=S'.H.length/\∃cc x,Bf E S'.env S'.H fn.results.toList=some (cc,x)/\cc=true/\x=r/\S'.H=H')):Di P f args H r H':=
 Hb hE hf hb hname hn h
def Lp.is(r:Lp)(n:Nat)(env:Pa)(ps:Array Tmp)(asg body:Code):Prop:=
 r.state= .ready/\r.pending=none/\r.n=n/\r.env=env/\r.params=ps/\r.assign=asg/\r.body=body
def Lp.busy(r:Lp):Lp:=r.at_ .busy none
def Lp.left(r:Lp)(c:Code):Lp:=r.at_ .done (some c)
def Lp.out(r:Lp):Lp:=r.at_ .exhausted r.pending
variable {ps:Array Tmp}
theorem L4{g:Operand}{asg body:Code}{f:FuncId}{first cap:PT}(K:Lp->AV->Pf->Prop)(hg:B6 S.env g=some (.fn (.func f) first cap))(seq:∀r,r.is S.n S.env ps asg body->Dj P f (first++[.yl S.H.length]++cap) (S.H++[.lp r]) (K r))(k:∀r,r.is S.n S.env ps asg body->∀x H',K r x H'->
   (H'[S.H.length]? =some (.lp r)/\Q .normal ⟨S.env,H'.set S.H.length (.lp r.out),S.n⟩)\/
   ∃c,H'[S.H.length]? =some (.lp (r.left c))/\W P ro c ⟨S.env,H'.set S.H.length (.lp (r.left c).out),S.n⟩ Q):W P ro (.rangeFunc g ps asg body) S Q:=by
 refine Mb (K:=fun x H'=>∃fn,K ⟨.ready,none,fn,S.n,S.env,ps,asg,body⟩ x H') hg (fun fn=>(seq _ ⟨rfl,rfl,rfl,rfl,rfl,rfl,rfl⟩).mono fun x H h=>⟨fn,h⟩) ?_;rintro x H' ⟨fn,h⟩;rcases k _ ⟨rfl,rfl,rfl,rfl,rfl,rfl,rfl⟩ x H' h with⟨h1,h2⟩|⟨c,h1,h2⟩
 .exact⟨_,h1,rfl,h2⟩
 .exact⟨_,h1,rfl,h2⟩
def Of(id n:Nat)(r:Lp)(R:AV->Pf->Prop)(e:Exit)(S:St):Prop:=
 ∃S'',A6 S S''/\n<=S''.H.length/\S''.H[id]? =some (.lp r.busy)/\
  match e with
  | .normal=>R (.d (.b true)) (S''.H.set id (.lp r))
  | .ret=>R (.d (.b false)) (S''.H.set id (.lp (r.left .ret)))
  | .exit i=>R (.d (.b false)) (S''.H.set id (.lp (r.left (.exit i))))
  | .goto l=>R (.d (.b false)) (S''.H.set id (.lp (r.left (.goto l))))
  |_=>False
def QAs(P:Program)(id n:Nat)(r:Lp)(body:Code)(R:AV->Pf->Prop):Exit->St->Prop
 | .normal,S=>S.H[id]? =some (.lp r)/\W P (some id) body ⟨S.env,S.H.set id (.lp r.busy),S.n⟩ (Of id n r R)
 |_,_=>False
theorem Lp.Mo{r:Lp}(h:r.state= .ready)(h2:r.pending=none):r.busy.at_ .ready none=r:=by
 obtain⟨a,b,c,d,e,f,g,i⟩:=r;subst h;subst h2;rfl
theorem CU{id n:Nat}{env:Pa}{asg body:Code}{r:Lp}{R:AV->Pf->Prop}(hr:r.is n env ps asg body)(hid:H[id]? =some (.lp r))(hlen:args.length=ps.size)(hps:(ps.toList.all fun t=>Nat.blt t n)=true)(hb:W P (some id) asg ⟨IC ps.toList args env,H,n⟩ (QAs P id H.length r body R)):YT P id args H R:=by
 obtain⟨h1,h2,h3,h4,h5,h6,h7⟩:=hr;subst h3;subst h4;subst h5;subst h6;subst h7;refine Mj hid h1 hlen (fun t ht=> ?_) (hb.mono ?_)
 .rw[Qh]at hps;have:=hps t ht;simpa[QF]using this
 .intro e S q
  cases e with
  |normal=>
   obtain⟨q1,q2⟩:=q;refine⟨r,q1,h1,?_⟩;rw[h2];refine W.mono q2 ?_;rintro e S' ⟨S'',t,hl,hi,hm⟩;have hlt:=(P6.1 hi).1
   cases e with
   |normal=>exact⟨none,rfl,S'',t,hl,hlt,_,hi,by rw[show F4 none= .ready from rfl,Lp.Mo h1 h2];exact hm⟩
   |ret=>exact⟨some .ret,rfl,S'',t,hl,hlt,_,hi,hm⟩
   |exit i=>exact⟨some (.exit i),rfl,S'',t,hl,hlt,_,hi,hm⟩
   |goto l=>exact⟨some (.goto l),rfl,S'',t,hl,hlt,_,hi,hm⟩
   |_=>exact hm.elim
  |_=>exact q.elim
end
end Go.Gar
namespace Go.Gar
theorem Bv(u:UInt8):C7 .i64 (u.toNat:Int)=true:=by
 have:=u.toNat_lt;simp[C7];omega
theorem I8(a b:Nat):Nat.beq a b=decide (a=b):=by
 by_cases h:a=b
 .subst h;simp
 .rw[Pv h];cases hb:Nat.beq a b with
  |false=>rfl
  |true=>exact absurd (P5 hb) h
theorem Kr(n:Int):Bh .i64 n=n:=rfl
theorem ML(n:Int):Bh .u8 n=n%256:=by
 simp[Bh,IntKind.wrap,IntKind.bits,IntKind.signed]
theorem Ks(n:Int):Bh .u64 n=n%18446744073709551616:=by
 simp[Bh,IntKind.wrap,IntKind.bits,IntKind.signed]
theorem I0(n:Int):IntKind.wrap .u8 n=n%256:=by
 simp[IntKind.wrap,IntKind.bits,IntKind.signed]
theorem FY(n:Int)(k:Nat):n.fdiv ((k:Nat):Int)=n/(k:Int):=Int.fdiv_eq_ediv_of_nonneg n (QA k)
theorem shr8(n:Int):n.fdiv (2^min 8 64)=n/256:=FY n 256
theorem OZ(n:Int):n.fdiv (2^min 16 64)=n/65536:=FY n 65536
theorem Oa(n:Int):n.fdiv (2^min 32 64)=n/4294967296:=FY n 4294967296
theorem tF{p:Prop}(h:true=false):p:=absurd h (by decide)
theorem fT{p:Prop}(h:false=true):p:=absurd h (by decide)
theorem GC:(∀(p:Prop)[Decidable p],(decide p=true)↔p)/\(∀(p:Prop)[Decidable p],(decide p=false)↔¬p)/\(∀b:Bool,((!b)=true)↔b=false)/\(∀b:Bool,((!b)=false)↔b=true)/\
  (∀(α:Type)[BEq α][LawfulBEq α](a b:α),((a==b)=true)↔a=b)/\(∀(α:Type)[BEq α][LawfulBEq α](a b:α),((a==b)=false)↔¬a=b)/\(∀(α:Type)[BEq α][LawfulBEq α](a b:α),((a !=b)=true)↔¬a=b)/\(∀(α:Type)[BEq α][LawfulBEq α](a b:α),((a !=b)=false)↔a=b)/\
  (∀(α:Type)(a b:α),(a≠b)↔¬a=b)/\(∀a b:Int,(¬a<b)↔b<=a)/\(∀a b:Int,(¬a<=b)↔b<a)/\(∀(α:Type)[LE α](a b:α),(a>=b)↔b<=a)/\(∀(α:Type)[LT α](a b:α),(a>b)↔b<a):=
 ⟨fun p _=>decide_eq_true_iff,fun p _=>decide_eq_false_iff_not,fun b=>by cases b<;>simp,fun b=>by cases b<;>simp,fun α _ _ a b=>beq_iff_eq,fun α _ _ a b=>beq_eq_false_iff_ne,fun α _ _ a b=>bne_iff_ne,fun α _ _ a b=>bne_eq_false_iff_eq,fun α a b=>Iff.rfl,fun a b=>Int.not_lt,fun a b=>Int.not_le,fun α _ a b=>Iff.rfl,fun α _ a b=>Iff.rfl⟩
theorem Dk:(∀n,Bh .i64 n=n)/\(∀n,Bh .u8 n=n%256)/\(∀n,Bh .u64 n=n%18446744073709551616)/\(∀n,IntKind.wrap .u8 n=n%256)/\IntKind.bits .i64=64/\IntKind.bits .u8=8/\IntKind.bits .u64=64/\
  (∀n:Int,n.fdiv (2^min 8 64)=n/256)/\(∀n:Int,n.fdiv (2^min 16 64)=n/65536)/\(∀n:Int,n.fdiv (2^min 32 64)=n/4294967296)/\
  (∀l,AD (.by l)=l.length)/\(∀l,AD (.is l)=l.length)/\(∀k l,AD (.sl k l)=l.length)/\(∀l,AL (.by l)=1)/\(∀l,AL (.is l)=1)/\(∀k l,AL (.sl k l)=k)/\
  (∀{α:Type}(a:α)(l:List α),(a::l).length=l.length+1)/\(∀{α:Type},([]:List α).length=0)/\(∀{α β:Type}(f:α->β)(l:List α),(l.map f).length=l.length)/\
  (∀n:Int,0+n=n)/\(∀n:Int,n+0=n)/\(∀n:Nat,0+n=n)/\(∀n:Nat,n+0=n)/\(∀n:Nat,(n:Int).toNat=n)/\
  (∀{α:Type}(a:α)(l:List α)(d:α),(a::l).getD 0 d=a)/\(∀{α:Type}(a:α)(l:List α)(n:Nat)(d:α),(a::l).getD (n+1) d=l.getD n d)/\
  (∀n l,BD n (.by l)= .by (l.drop n))/\(∀n l,BD n (.is l)= .is (l.drop n))/\(∀n k l,BD n (.sl k l)= .sl k (l.drop n))/\(∀n l,takeD n (.by l)= .by (l.take n))/\(∀n l,takeD n (.is l)= .is (l.take n))/\(∀n k l,takeD n (.sl k l)= .sl k (l.take n))/\
  (∀{α:Type}(a b c:List α),a++b++c=a++(b++c))/\(∀{α:Type}(a:List α),[]++a=a)/\(∀{α:Type}(x:α)(a b:List α),x::a++b=x::(a++b))/\(∀{α:Type}(a:List α),a++[]=a)/\
  (∀{α:Type}(n:Nat)(x:α)(l:List α),(x::l).drop (n+1)=l.drop n)/\(∀{α:Type}(l:List α),l.drop 0=l)/\(∀{α:Type}(n:Nat)(x:α)(l:List α),(x::l).take (n+1)=x::l.take n)/\(∀{α:Type}(l:List α),l.take 0=[])/\
  (!true)=false/\(!false)=true/\(∀l:On,(l==l)=true)/\(∀n:Int,(n==n)=true)/\(∀b:Bool,(b==b)=true)/\(∀n:Int,(n !=n)=false)/\(∀l:On,(l !=l)=false)/\(∀l:Ow,decide (l=l)=true)/\(∀l:On,decide (l=l)=true):=by
 refine⟨Kr,ML,Ks,I0,rfl,rfl,rfl,shr8,OZ,Oa,fun _=>rfl,fun _=>rfl,fun _ _=>rfl,fun _=>rfl,fun _=>rfl,fun _ _=>rfl,fun _ _=>rfl,rfl,fun _ _=>Po _,Int.zero_add,Int.add_zero,Pn,Qc,Int.toNat_natCast,?_⟩;refine⟨fun _ _ _=>rfl,fun _ _ _ _=>rfl,fun _ _=>rfl,fun _ _=>rfl,fun _ _ _=>rfl,fun _ _=>rfl,fun _ _=>rfl,fun _ _ _=>rfl,QL,fun _=>rfl,fun _ _ _=>rfl,List.append_nil,fun _ _ _=>rfl,fun _=>rfl,fun _ _ _=>rfl,fun _=>rfl,rfl,rfl,?_⟩;simp
theorem Cf:(∀(ι:Nat->Nat) x,AV.ren ι (.d x)= .d x)/\(∀(ι:Nat->Nat),AV.ren ι .u= .u)/\(∀(ι:Nat->Nat),AV.ren ι .e0= .e0)/\(∀(ι:Nat->Nat) x,AV.ren ι (.dp x)= .dp x)/\(∀(ι:Nat->Nat) a b c,AV.ren ι (.ptr a b c)= .ptr (ι a) b c)/\(∀(ι:Nat->Nat) a b c,AV.ren ι (.sl a b c)= .sl (ι a) b c)/\
  (∀(ι:Nat->Nat) a,AV.ren ι (.ag a)= .ag (AV.Ai ι a))/\(∀(ι:Nat->Nat) a,AV.ren ι (.tup a)= .tup (AV.Ai ι a))/\(∀(ι:Nat->Nat) f a b,AV.ren ι (.fn f a b)= .fn f (AV.Ai ι a) (AV.Ai ι b))/\(∀(ι:Nat->Nat),AV.Ai ι []=[])/\(∀(ι:Nat->Nat) x l,AV.Ai ι (x::l)=x.ren ι::AV.Ai ι l)/\
  (∀k i,rn [] k i=k+i)/\(∀a r k,rn (a::r) k 0=a)/\(∀a r k i,rn (a::r) k (i+1)=rn r k i)/\
  (∀H l,Ed [] H l=H++l)/\(∀a r H b l,Ed (a::r) H (b::l)=Ed r (H.set a b) l)/\(∀ι:Nat->Nat,Bc ι []=[])/\(∀(ι:Nat->Nat) b l,Bc ι (b::l)=b.ren ι::Bc ι l)/\
  (∀(ι:Nat->Nat),A1.ren ι .gone= .gone)/\(∀(ι:Nat->Nat) l,A1.ren ι (.c l)= .c (AV.Ai ι l))/\(∀(ι:Nat->Nat) x,A1.ren ι (.a x)= .a x)/\
  (∀{α:Type}(x a:α)(l:List α),(x::l).set 0 a=a::l)/\(∀{α:Type}(x a:α)(l:List α)(n:Nat),(x::l).set (n+1) a=x::l.set n a)/\(∀{α:Type}(a:α)(n:Nat),[].set n a=[])/\
  (∀{α:Type}(a:List α),[]++a=a)/\(∀{α:Type}(x:α)(a b:List α),x::a++b=x::(a++b))/\(∀{α:Type}(a:List α),a++[]=a)/\(∀{α:Type}(a:α)(l:List α),(a::l).length=l.length+1)/\(∀{α:Type},([]:List α).length=0)/\(∀n:Nat,0+n=n)/\(∀n:Nat,n+0=n):=by
 refine⟨fun _ _=>rfl,fun _=>rfl,fun _=>rfl,fun _ _=>rfl,fun _ _ _ _=>rfl,fun _ _ _ _=>rfl,fun _ _=>rfl,fun _ _=>rfl,fun _ _ _ _=>rfl,fun _=>rfl,fun _ _ _=>rfl,fun _ _=>rfl,fun _ _ _=>rfl,fun _ _ _ _=>rfl,fun _ _=>rfl,fun _ _ _ _ _=>rfl,fun _=>rfl,fun _ _ _=>rfl,fun _=>rfl,fun _ _=>rfl,fun _ _=>rfl,fun _ _ _=>rfl,fun _ _ _ _=>rfl,fun _ _=>rfl,fun _=>rfl,fun _ _ _=>rfl,List.append_nil,fun _ _=>rfl,rfl,Pn,Qc⟩
theorem GD:(∀a b,Nat.beq a b=decide (a=b))/\(∀n len,(HD n len=true)=(0<=n/\n<(len:Int)))/\(∀n,(C7 .i64 n=true)=(-9223372036854775808<=n/\n<=9223372036854775807))/\(∀n,C7 .u8 n=true)/\(∀n,C7 .u64 n=true)/\
  (∀l,AD (.by l)=l.length)/\(∀l,AD (.is l)=l.length)/\(∀k l,AD (.sl k l)=l.length)/\(∀l,AL (.by l)=1)/\(∀l,AL (.is l)=1)/\(∀k l,AL (.sl k l)=k)/\
  (∀l,AO (.by l)=true)/\(∀l,AO (.is l)=true)/\(∀k l,AO (.sl k l)=true)/\(∀{α:Type}(a b:List α),(a++b).length=a.length+b.length)/\(∀n:Nat,n*1=n)/\(∀n:Nat,1*n=n):=by
 refine⟨I8,fun n len=>propext B1,fun n=> ?_,fun _=>rfl,fun _=>rfl,fun _=>rfl,fun _=>rfl,fun _ _=>rfl,fun _=>rfl,fun _=>rfl,fun _ _=>rfl,fun _=>rfl,fun _=>rfl,fun _ _=>rfl,fun _ _=>Pm,Nat.mul_one,Nat.one_mul⟩;simp only[C7,P8,PO]
mutual
theorem AV.Js{k k':Nat}(hk:k<=k'):∀{x:AV},x.ok k=true->x.ok k'=true
 | .d _,_=>rfl
 | .u,_=>rfl
 | .e0,_=>rfl
 | .dp _,_=>rfl
 | .ptr _ _ _,h| .sl _ _ _,h| .bs _ _ _ _ _,h| .ep _ _ _ _ _,h| .yl _,h| .mp _,h=>by simp only[AV.ok,QF]at h|-;omega
 | .ag _,h| .tup _,h=>by simp only[AV.ok]at h|-;exact AV.E9 hk h
 | .fn _ a b,h=>by simp only[AV.ok,P8]at h|-;exact⟨AV.E9 hk h.1,AV.E9 hk h.2⟩
theorem AV.E9{k k':Nat}(hk:k<=k'):∀{l:PT},AV.oks k l=true->AV.oks k' l=true
 |[],_=>rfl
 |x::r,h=>by simp only[AV.oks,P8]at h|-;exact⟨AV.Js hk h.1,AV.E9 hk h.2⟩
end
variable {H:Pf}{xs:PT}{l:PQ}
theorem MS:B3 H (.tup xs) (.tup l)↔B4 H xs l:=by simp[B3]
theorem IV:B3 H (.ag xs) (.agg l)↔B4 H xs l:=by simp[B3]
variable {y:D}
theorem EP{x:AV}:B4 H (x::xs) (y::l)↔B3 H x y/\B4 H xs l:=by
 simp only[B4];constructor
 .rintro⟨_,_,h,h1,h2⟩;cases h;exact⟨h1,h2⟩
 .rintro⟨h1,h2⟩;exact⟨_,_,rfl,h1,h2⟩
theorem F6:B4 H [] []↔True:=by simp[B4]
theorem Kx{x:D}:B3 H (.d x) y↔y=x:=by simp[B3]
theorem NO:B3 H .e0 y↔AO y=true/\AD y=0/\AI y:=by simp[B3]
theorem IW{i n sz:Nat}:B3 H (.sl i n sz) y↔H[i]? =some (.a y)/\n=AD y:=by simp[B3]
def AG(dst:Option Tmp)(x:AV)(env:Pa):Option (Pa):=
 match dst with
 |some d=>some ((d,x)::env)
 |none=>some env
theorem AB{dst:Option Tmp}{x:AV}{env e:Pa}(h:AG dst x env=some e):e=AN dst x env:=by
 cases dst<;>simp_all[AG,AN]
def B9:P0->Pa->Option (Pa)
 |[],_=>some []
 |t::r,env=>match get env t with
  |some x=>match B9 r env with
   |some l=>some ((t,x)::l)
   |none=>none
  |none=>B9 r env
theorem Aa:∀{l:P0}{env e:Pa},B9 l env=some e->e=BG l env
 |[],env,e,h=>by simp[B9]at h;simp[BG,h]
 |t::r,env,e,h=>by
  simp only[B9]at h;simp only[BG];split at h
  .rename_i x hx;rw[hx];split at h
   .rename_i l hl;cases h;rw[Aa hl]
   .cases h
  .rename_i hx;rw[hx];exact Aa h
def C1:Pf->A1->Option (Pf)
 |[],b=>some [b]
 |x::r,b=>match C1 r b with
  |some l=>some (x::l)
  |none=>none
theorem CN:∀{H:Pf}{b:A1}{l:Pf},C1 H b=some l->l=H++[b]
 |[],b,l,h=>by simp[C1]at h;simp[h]
 |x::r,b,l,h=>by
  simp only[C1]at h;split at h
  .rename_i q hq;cases h;rw[CN hq];rfl
  .cases h
section
variable {P:Program}{ro:P3}{ops:P4}{i:Nat}{rest:PC}{S0:St}{en:Pa}{hp:Pf}{nt:Nat}{Q:Exit->St->Prop}{o:Oper}{E:Nat->Option AF}{A:Prop}{acc:List Rc}
variable {e:Pa}
theorem Xn(live:P0)(h:B9 live en=some e)(k:Q .normal ⟨e,hp,nt⟩):Wl P ro ops i [] ⟨en,hp,nt⟩ Q:=by
 have:=Aa h;subst this;exact Ia (fun t x hx=>(DF hx).2) (LA k)
variable {x x':AV}{c:Bool}
theorem Xq(hE:AW P E)(hg:A2 ops en o=some true)(h:Ev E en hp o.op=some (c,x))(hd:A7 o.dst nt=true)(he:AG o.dst x' en=some e)(k:Wl P ro ops (i+1) rest ⟨e,hp,nt⟩ Q)(hc:c=true)(hx:x=x':=by first|(simp only[Dk,Cf,Nat.reduceAdd,Int.reduceAdd,Int.reduceSub,Int.reduceMul,Int.reduceToNat,nS];rfl)|rfl):Wl P ro ops i (o::rest) ⟨en,hp,nt⟩ Q:=by
 subst hx;rw[AB he]at k;exact NY hE hg h hd hc k
def OV:Op->Bool
 | .move _| .assign _| .extract _ _| .pick _ _ _=>true
 |_=>false
variable {b:Bool}
theorem sg(h:b=true):b=true:=h
variable {S:St}
theorem O2(k:Wl P ro ops i rest S Q):Wl P ro ops i rest S Q:=k
theorem Oh(k:Wd P ro E ops S0 A acc rest S):Wd P ro E ops S0 A acc rest S:=k
theorem D5(_:OV o.op=true)(k:Wl P ro ops i (o::rest) S Q):Wl P ro ops i (o::rest) S Q:=k
theorem Es(_:OV o.op=true)(k:Wd P ro E ops S0 A acc (o::rest) S):Wd P ro E ops S0 A acc (o::rest) S:=k
theorem Nz(hE:AW P E)(hg:A2 ops en o=some true)(h:Ev E en hp o.op=some (true,x))(hd:A7 o.dst nt=true)(he:AG o.dst x en=some e)(k:Wl P ro ops (i+1) rest ⟨e,hp,nt⟩ Q):Wl P ro ops i (o::rest) ⟨en,hp,nt⟩ Q:=by
 rw[AB he]at k;exact NY hE hg h hd rfl k
variable {f:Nat->AV}{H':Pf}
theorem Xa(hE:AW P E){b:A1}(hg:A2 ops en o=some true)(h:Mp E en hp o.op=some (c,f,b))(hd:A7 o.dst nt=true)(he:AG o.dst x' en=some e)(hH:C1 hp b=some H')(k:Wl P ro ops (i+1) rest ⟨e,H',nt⟩ Q)(hc:c=true)(hx:f hp.length=x':=by first|(simp only[Dk,Cf,Nat.reduceAdd,Int.reduceAdd,Int.reduceSub,Int.reduceMul,Int.reduceToNat,nS];rfl)|rfl):Wl P ro ops i (o::rest) ⟨en,hp,nt⟩ Q:=by
 subst hx;rw[AB he,CN hH]at k;exact Wl_a hE hg h hd hc k
variable {q:D}
theorem Xao(hE:AW P E)(hg:A2 ops en o=some true)(h:FP E en hp o.op=some (c,q))(hd:A7 o.dst nt=true)(he:AG o.dst x' en=some e)(hH:C1 hp (.a q)=some H')(k:Wl P ro ops (i+1) rest ⟨e,H',nt⟩ Q)(hc:c=true)(hx: .sl hp.length (AD q) (AL q)=x':=by first|(simp only[Dk,Cf,Nat.reduceAdd,Int.reduceAdd,Int.reduceSub,Int.reduceMul,Int.reduceToNat,nS];rfl)|rfl):Wl P ro ops i (o::rest) ⟨en,hp,nt⟩ Q:=by
 subst hx;rw[AB he,CN hH]at k;exact OI hE hg h hd hc k
def Ee(dst:Option Tmp)(L:P0):Bool:=
 match dst with
 |some d=>L.any (Nat.beq d)
 |none=>false
theorem XaoL(L:P0)(hE:AW P E)(_:Ee o.dst L=true)(hg:A2 ops en o=some true)(h:FP E en hp o.op=some (c,q))(hd:A7 o.dst nt=true)(he:AG o.dst x' en=some e)(hH:C1 hp (.a q)=some H')(k:Wl P ro ops (i+1) rest ⟨e,H',nt⟩ Q)(hc:c=true)(hx: .sl hp.length (AD q) (AL q)=x':=by first|(simp only[Dk,Cf,Nat.reduceAdd,Int.reduceAdd,Int.reduceSub,Int.reduceMul,Int.reduceToNat,nS];rfl)|rfl):Wl P ro ops i (o::rest) ⟨en,hp,nt⟩ Q:=Xao hE hg h hd he hH k hc hx
theorem Xw(hE:AW P E)(hg:A2 ops en o=some true)(h:Nh E en hp o.op=some (c,x,H'))(hd:A7 o.dst nt=true)(he:AG o.dst x' en=some e)(k:Wl P ro ops (i+1) rest ⟨e,H',nt⟩ Q)(hc:c=true)(hx:x=x':=by first|(simp only[Dk,Cf,Nat.reduceAdd,Int.reduceAdd,Int.reduceSub,Int.reduceMul,Int.reduceToNat,nS];rfl)|rfl):Wl P ro ops i (o::rest) ⟨en,hp,nt⟩ Q:=by
 subst hx;rw[AB he]at k;exact Wl_w hE hg h hd hc k
theorem Xs(hg:A2 ops en o=some false)(hd:A7 o.dst nt=true)(he:AG o.dst (.d (.tup [])) en=some e)(k:Wl P ro ops (i+1) rest ⟨e,hp,nt⟩ Q):Wl P ro ops i (o::rest) ⟨en,hp,nt⟩ Q:=by
 rw[AB he]at k;exact Mh hg hd k
variable {es:List (PQ)}{e':Pa}
theorem Ny(hE:AW P E){n:Int}{e:PQ}(hg:A2 ops en o=some true)(h:Ev E en hp o.op=some (HD n es.length&&b,.dp (es.getD n.toNat [])))(hd:A7 o.dst nt=true)(he':AG o.dst (.dp e) en=some e')(hb:b=true)(hn:0<=n)(he:es[n.toNat]? =some e)(k:Wl P ro ops (i+1) rest ⟨e',hp,nt⟩ Q):Wl P ro ops i (o::rest) ⟨en,hp,nt⟩ Q:=by
 rw[AB he']at k;exact OK hE hg h hd hb hn he k
theorem FH{d:Nat}(hg:KV ops o=some d)(hb:get en d=some (.d (.b b)))(ht:b=true->Wl P ro ops i (o::rest) ⟨(d,.d (.b true))::en,hp,nt⟩ Q)(hf:b=false->Wl P ro ops i (o::rest) ⟨(d,.d (.b false))::en,hp,nt⟩ Q):Wl P ro ops i (o::rest) ⟨en,hp,nt⟩ Q:=
 LC hg hb ht hf
theorem Gs{d:Nat}(hg:KV ops o=some d)(hb:get en d=some (.d (.b b)))(ht:b=true->Wd P ro E ops S0 A acc (o::rest) ⟨(d,.d (.b true))::en,hp,nt⟩)(hf:b=false->Wd P ro E ops S0 A acc (o::rest) ⟨(d,.d (.b false))::en,hp,nt⟩):Wd P ro E ops S0 A acc (o::rest) ⟨en,hp,nt⟩:=
 L6 hg hb ht hf
variable {g:Nat}{ds:PQ}
theorem XF{r r':D}(hF:Go.Gar.Fn P g ds r)(hg:A2 ops en o=some true)(h:AR en o.op=some (g,ds.map .d))(hd:A7 o.dst nt=true)(he:AG o.dst (.d r') en=some e)(k:Wl P ro ops (i+1) rest ⟨e,hp,nt⟩ Q)(hr:r=r':=by first|(simp only[Dk,Cf,Nat.reduceAdd,Int.reduceAdd,Int.reduceSub,Int.reduceMul,Int.reduceToNat,nS];rfl)|rfl):Wl P ro ops i (o::rest) ⟨en,hp,nt⟩ Q:=by
 subst hr;rw[AB he]at k;exact OF hF hg h hd k
variable {xs:PT}
theorem OL{r r':D}(hF:Go.Gar.Fn P g ds r)(hg:A2 ops en o=some true)(h:AR en o.op=some (g,xs))(hd:A7 o.dst nt=true)(he:AG o.dst (.d r') en=some e)(hx:Gj xs ds)(k:Wl P ro ops (i+1) rest ⟨e,hp,nt⟩ Q)(hr:r=r':=by first|(simp only[Dk,Cf,Nat.reduceAdd,Int.reduceAdd,Int.reduceSub,Int.reduceMul,Int.reduceToNat,nS];rfl)|rfl):Wl P ro ops i (o::rest) ⟨en,hp,nt⟩ Q:=by
 subst hr;rw[AB he]at k;exact OE hg h hd hF hx k
theorem XD{args:PT}{H:Pf}{r r':AV}{H'':Pf}(ids:P0)(hF:Di P g args H r H')(hg:A2 ops en o=some true)(h:AR en o.op=some (g,AV.Ai (rn ids hp.length) args))(hd:A7 o.dst nt=true)(hm:Am (rn ids hp.length) hp ids H)(hn:nodupB ids=true)(ho:AK H.length H=true)(ha:AV.oks H.length args=true)(he:AG o.dst r' en=some e)(k:Wl P ro ops (i+1) rest ⟨e,H'',nt⟩ Q)(hr:r.ren (rn ids hp.length)=r':=by first|(simp only[Dk,Cf,Nat.reduceAdd,Int.reduceAdd,Int.reduceSub,Int.reduceMul,Int.reduceToNat,nS];rfl)|rfl)(hH:Ed ids hp (Bc (rn ids hp.length) H')=H'':=by first|(simp only[Cf,Nat.reduceAdd];rfl)|rfl):Wl P ro ops i (o::rest) ⟨en,hp,nt⟩ Q:=by
 subst hr;subst hH;rw[AB he]at k;exact Wl_D ids hF hg h hd hm hn ho ha k
theorem Xy{id:Nat}{r0:Lp}(hT:YT P id xs hp fun r K=>r=x/\K=H')(hg:A2 ops en o=some true)(h:Dw en o.op=some (id,xs))(hd:A7 o.dst nt=true)(hlp:hp[id]? =some (.lp r0))(he:AG o.dst x en=some e)(k:Wl P ro ops (i+1) rest ⟨e,H',nt⟩ Q):Wl P ro ops i (o::rest) ⟨en,hp,nt⟩ Q:=by
 rw[AB he]at k;exact Wl_y hg h hd hlp hT fun r K ⟨h1,h2⟩=>by subst h1;subst h2;exact k
variable {ps:Array Tmp}
theorem L5{g:Operand}{asg body:Code}{f:FuncId}{first cap:PT}{L:Nat}{F:Lp->Pf}(K:Lp->AV->Pf->Prop)(hg:B6 en g=some (.fn (.func f) first cap))(hL:hp.length=L)(hxs:first++[.yl L]++cap=xs)(hF:∀r,hp++[.lp r]=F r)(seq:∀r,r.is nt en ps asg body->Dj P f xs (F r) (K r))(k:∀r,r.is nt en ps asg body->∀x H',K r x H'->
   (H'[L]? =some (.lp r)/\Q .normal ⟨en,H'.set L (.lp r.out),nt⟩)\/
   ∃c,H'[L]? =some (.lp (r.left c))/\W P ro c ⟨en,H'.set L (.lp (r.left c).out),nt⟩ Q):W P ro (.rangeFunc g ps asg body) ⟨en,hp,nt⟩ Q:=by
 subst hL;subst hxs;exact L4 (S:=⟨en,hp,nt⟩) K hg (fun r hr=>by have:=seq r hr;rw[<-hF]at this;exact this) k
theorem A6.refl(S:St):A6 S S:=fun _ _ G _ _ r _=>⟨G,r,⟨fun id b b' hb hb'=>by rw[hb]at hb';cases hb';exact A4.refl _ _ _,Mem.le_refl _,fun _ h=>h,fun _ _ _ h=> .inl h⟩⟩
def QRI{α:Type}(I:α->Prop)(St0:α->St)(lt:α->Prop)(k:Nat)(Q:Exit->St->Prop):Exit->St->Prop
 | .normal,S'=>∃y,I y/\lt y/\k<=(St0 y).H.length/\A6 S' (St0 y)
 |e,S'=>Q e S'
theorem Aq{α:Type}{c:Code}(I:α->Prop)(St0:α->St)(μ:α->Nat)(x0:α)(h0:I x0)(t:A6 S (St0 x0))(hl:S.H.length<=(St0 x0).H.length)(body:∀x,I x->W P ro c (St0 x) (QRI I St0 (fun y=>μ y<μ x) (St0 x).H.length Q)):W P ro (.loop c) S Q:=by
 refine NT (α:={x // I x}) (fun x=>St0 x.1) (fun x=>μ x.1) ⟨x0,h0⟩ t hl (fun x=>(body x.1 x.2).mono ?_);intro e S' q
 cases e with
 |normal=>obtain⟨y,h1,h2,h3,h4⟩:=q;exact⟨⟨y,h1⟩,h2,h3,h4⟩
 |_=>exact q
theorem Ih{k k':Nat}(hk:k<=k')(h:BE k e=true):BE k' e=true:=by
 induction e with
 |nil=>rfl
 |cons p r ih=>simp only[BE,P8]at h|-;exact⟨AV.Js hk h.1,ih h.2⟩
theorem Lp.is.ok{r:Lp}{n:Nat}{env:Pa}{asg body:Code}(h:r.is n env ps asg body){k:Nat}(hk:BE k env=true):∀k',(decide (k<=k'))=true->BE k' r.env=true/\BE k' r.busy.env=true/\BE k' r.out.env=true/\∀c,BE k' (r.left c).env=true:=by
 intro k' hle;have:BE k' r.env=true:=by rw[h.2.2.2.1];exact Ih (of_decide_eq_true hle) hk
 exact⟨this,this,this,fun _=>this⟩
theorem Yn{id:Nat}(live:P0)(l:P1)(hm:P.follows .mixedOrders=true)(hE:AW P E)(hd:Cn ops (acc.reverse.map Rc.k) l=true)(hx:Ao E ops acc.reverse hp l)(he:B9 live en=some e)(hQ:Q .normal ⟨e,hp,nt⟩):Wd P ro E ops S0 (W P ro (.region id ops true) S0 Q) acc [] ⟨en,hp,nt⟩:=by
 have:=Aa he;subst this;exact IY (fun t x hx=>(DF hx).2) (NU (S:=⟨BG live en,hp,nt⟩) l hm hE hd hx hQ)
variable {e0:Pa}
theorem Yp(hE:AW P E)(hl:B9 (looks ops o) en=some e0)(hg:A2 ops e0 o=some true)(h:∀H,Ev E e0 H o.op=some (c,x))(hd:A7 o.dst nt=true)(he:AG o.dst x' en=some e)(hk:Wd P ro E ops S0 A (⟨e0,hp,x',.any⟩::acc) rest ⟨e,hp,nt⟩)(hc:c=true)(hx:x=x':=by first|(simp only[Dk,Cf,Nat.reduceAdd,Int.reduceAdd,Int.reduceSub,Int.reduceMul,Int.reduceToNat,nS];rfl)|rfl):Wd P ro E ops S0 A acc (o::rest) ⟨en,hp,nt⟩:=by
 subst hx;rw[AB he]at hk;have:=Aa hl;subst this;exact NV hE hg h hd hc hk
theorem Og(hE:AW P E)(hl:B9 (looks ops o) en=some e0)(hg:A2 ops e0 o=some true)(h:∀H,Ev E e0 H o.op=some (true,x))(hd:A7 o.dst nt=true)(he:AG o.dst x en=some e)(hk:Wd P ro E ops S0 A (⟨e0,hp,x,.any⟩::acc) rest ⟨e,hp,nt⟩):Wd P ro E ops S0 A acc (o::rest) ⟨en,hp,nt⟩:=by
 rw[AB he]at hk;have:=Aa hl;subst this;exact NV hE hg h hd rfl hk
theorem Yq(hl:B9 (looks ops o) en=some e0)(hg:A2 ops e0 o=some true)(h:Ev E e0 hp o.op=some (c,x))(hd:A7 o.dst nt=true)(he:AG o.dst x' en=some e)(hk:Wd P ro E ops S0 A (⟨e0,hp,x',.quiet⟩::acc) rest ⟨e,hp,nt⟩)(hc:c=true)(hx:x=x':=by first|(simp only[Dk,Cf,Nat.reduceAdd,Int.reduceAdd,Int.reduceSub,Int.reduceMul,Int.reduceToNat,nS];rfl)|rfl):Wd P ro E ops S0 A acc (o::rest) ⟨en,hp,nt⟩:=by
 subst hx;rw[AB he]at hk;have:=Aa hl;subst this;exact Wd_q hg h hd hc hk
theorem Ys(hl:B9 (looks ops o) en=some e0)(hg:A2 ops e0 o=some false)(hd:A7 o.dst nt=true)(he:AG o.dst (.d (.tup [])) en=some e)(hk:Wd P ro E ops S0 A (⟨e0,hp,.d (.tup []),.skip⟩::acc) rest ⟨e,hp,nt⟩):Wd P ro E ops S0 A acc (o::rest) ⟨en,hp,nt⟩:=by
 rw[AB he]at hk;have:=Aa hl;subst this;exact Mf hg hd hk
theorem YF{q':D}(hF:Go.Gar.Fn P g ds q)(hl:B9 (looks ops o) en=some e0)(hg:A2 ops e0 o=some true)(h:AR e0 o.op=some (g,ds.map .d))(hd:A7 o.dst nt=true)(he:AG o.dst (.d q') en=some e)(hk:Wd P ro E ops S0 A (⟨e0,hp,.d q',.any⟩::acc) rest ⟨e,hp,nt⟩)(hr:q=q':=by first|(simp only[Dk,Cf,Nat.reduceAdd,Int.reduceAdd,Int.reduceSub,Int.reduceMul,Int.reduceToNat,nS];rfl)|rfl):Wd P ro E ops S0 A acc (o::rest) ⟨en,hp,nt⟩:=by
 subst hr;rw[AB he]at hk;have:=Aa hl;subst this;exact OA hF hg h hd hk
theorem YFz{q':D}(hF:Go.Gar.Fn P g ds q)(hl:B9 (looks ops o) en=some e0)(hg:A2 ops e0 o=some true)(h:AR e0 o.op=some (g,xs))(hd:A7 o.dst nt=true)(he:AG o.dst (.d q') en=some e)(hx:Gj xs ds)(hk:Wd P ro E ops S0 A (⟨e0,hp,.d q',.any⟩::acc) rest ⟨e,hp,nt⟩)(hr:q=q':=by first|(simp only[Dk,Cf,Nat.reduceAdd,Int.reduceAdd,Int.reduceSub,Int.reduceMul,Int.reduceToNat,nS];rfl)|rfl):Wd P ro E ops S0 A acc (o::rest) ⟨en,hp,nt⟩:=by
 subst hr;rw[AB he]at hk;have:=Aa hl;subst this;exact O9 hg h hd hF hx hk
theorem YD{args:PT}{H:Pf}{r r':AV}{H'':Pf}(ids:P0)(hF:Di P g args H r H')(hl:B9 (looks ops o) en=some e0)(hg:A2 ops e0 o=some true)(h:AR e0 o.op=some (g,AV.Ai (rn ids hp.length) args))(hd:A7 o.dst nt=true)(hm:Am (rn ids hp.length) hp ids H)(hn:nodupB ids=true)(ho:AK H.length H=true)(ha:AV.oks H.length args=true)(he:AG o.dst r' en=some e)(hk:Wd P ro E ops S0 A (⟨e0,hp,r',.eff⟩::acc) rest ⟨e,H'',nt⟩)(hr:r.ren (rn ids hp.length)=r':=by first|(simp only[Dk,Cf,Nat.reduceAdd,Int.reduceAdd,Int.reduceSub,Int.reduceMul,Int.reduceToNat,nS];rfl)|rfl)(hH:Ed ids hp (Bc (rn ids hp.length) H')=H'':=by first|(simp only[Cf,Nat.reduceAdd];rfl)|rfl):Wd P ro E ops S0 A acc (o::rest) ⟨en,hp,nt⟩:=by
 subst hr;subst hH;rw[AB he]at hk;have:=Aa hl;subst this;exact Wd_D ids hF hg h hd hm hn ho ha hk
theorem Ya(hE:AW P E){b:A1}(hl:B9 (looks ops o) en=some e0)(hg:A2 ops e0 o=some true)(h:Mp E e0 hp o.op=some (c,f,b))(hd:A7 o.dst nt=true)(he:AG o.dst x' en=some e)(hH:C1 hp b=some H')(hk:Wd P ro E ops S0 A (⟨e0,hp,x',.eff⟩::acc) rest ⟨e,H',nt⟩)(hc:c=true)(hx:f hp.length=x':=by first|(simp only[Dk,Cf,Nat.reduceAdd,Int.reduceAdd,Int.reduceSub,Int.reduceMul,Int.reduceToNat,nS];rfl)|rfl):Wd P ro E ops S0 A acc (o::rest) ⟨en,hp,nt⟩:=by
 subst hx;rw[AB he,CN hH]at hk;have:=Aa hl;subst this;exact Wd_a hE hg h hd hc hk
theorem Yao(hE:AW P E)(hl:B9 (looks ops o) en=some e0)(hg:A2 ops e0 o=some true)(h:FP E e0 hp o.op=some (c,q))(hd:A7 o.dst nt=true)(he:AG o.dst x' en=some e)(hH:C1 hp (.a q)=some H')(hk:Wd P ro E ops S0 A (⟨e0,hp,x',.eff⟩::acc) rest ⟨e,H',nt⟩)(hc:c=true)(hx: .sl hp.length (AD q) (AL q)=x':=by first|(simp only[Dk,Cf,Nat.reduceAdd,Int.reduceAdd,Int.reduceSub,Int.reduceMul,Int.reduceToNat,nS];rfl)|rfl):Wd P ro E ops S0 A acc (o::rest) ⟨en,hp,nt⟩:=by
 subst hx;rw[AB he,CN hH]at hk;have:=Aa hl;subst this;exact OB hE hg h hd hc hk
theorem YaoL(L:P0)(hE:AW P E)(_:Ee o.dst L=true)(hl:B9 (looks ops o) en=some e0)(hg:A2 ops e0 o=some true)(h:FP E e0 hp o.op=some (c,q))(hd:A7 o.dst nt=true)(he:AG o.dst x' en=some e)(hH:C1 hp (.a q)=some H')(hk:Wd P ro E ops S0 A (⟨e0,hp,x',.eff⟩::acc) rest ⟨e,H',nt⟩)(hc:c=true)(hx: .sl hp.length (AD q) (AL q)=x':=by first|(simp only[Dk,Cf,Nat.reduceAdd,Int.reduceAdd,Int.reduceSub,Int.reduceMul,Int.reduceToNat,nS];rfl)|rfl):Wd P ro E ops S0 A acc (o::rest) ⟨en,hp,nt⟩:=Yao hE hl hg h hd he hH hk hc hx
theorem Yw(hE:AW P E)(hl:B9 (looks ops o) en=some e0)(hg:A2 ops e0 o=some true)(h:Nh E e0 hp o.op=some (c,x,H'))(hd:A7 o.dst nt=true)(he:AG o.dst x' en=some e)(hk:Wd P ro E ops S0 A (⟨e0,hp,x',.eff⟩::acc) rest ⟨e,H',nt⟩)(hc:c=true)(hx:x=x':=by first|(simp only[Dk,Cf,Nat.reduceAdd,Int.reduceAdd,Int.reduceSub,Int.reduceMul,Int.reduceToNat,nS];rfl)|rfl):Wd P ro E ops S0 A acc (o::rest) ⟨en,hp,nt⟩:=by
 subst hx;rw[AB he]at hk;have:=Aa hl;subst this;exact Wd_w hE hg h hd hc hk
theorem OO(hE:AW P E){n:Int}{e:PQ}(hl:B9 (looks ops o) en=some e0)(hg:A2 ops e0 o=some true)(h:∀H,Ev E e0 H o.op=some (HD n es.length&&b,.dp (es.getD n.toNat [])))(hd:A7 o.dst nt=true)(he':AG o.dst (.dp e) en=some e')(hb:b=true)(hn:0<=n)(he:es[n.toNat]? =some e)(hk:Wd P ro E ops S0 A (⟨e0,hp,.dp e,.any⟩::acc) rest ⟨e',hp,nt⟩):Wd P ro E ops S0 A acc (o::rest) ⟨en,hp,nt⟩:=by
 rw[AB he']at hk;have:=Aa hl;subst this;exact OD hE hg h hd hb hn he hk
end
theorem A6.OP{S:St}(t id:Nat){x:D}{n sz:Nat}(hid:S.H[id]? =some (.a x))(ht:get S.env t=some (.sl id n sz))(hn:n=AD x):A6 S ⟨(t,.d x)::S.env,Bw id x 0 S.H,S.n⟩:=by
 intro ro N G a w r _;have hid':G.H[id]? =some (.a x):=by rw[r.heap];exact hid
 obtain⟨h1,h2⟩:=Fa r.rel hid';refine⟨G.freeze w id x,⟨by show Bw id x 0 G.H=_;rw[r.heap],h1,r.size,fun u y hy=> ?_,r.marks.MI h2,fun i hi=> ?_⟩,h2⟩
 .simp only[get]at hy;split at hy
  .rename_i hb;cases hy;have:=P5 hb;subst this;obtain⟨v,hv,hrv⟩:=r.env t _ ht;refine⟨v,hv,?_⟩;have:=hrv.Ci r.rel hid';simpa[AV.Ci,hn]using this
  .obtain⟨v,hv,hrv⟩:=r.env u y hy;exact⟨v,hv,hrv.mono (Al r.rel hid')⟩
 .obtain⟨q,l,M,q1,q2⟩:=r.round i hi;refine⟨q,l,M,?_,q2⟩;have:=D7 (id:=id) (x:=x) (i:=0) q1;rw[Pn,if_neg (fun e=>by subst e;rw[hid]at q1;cases q1)]at this;exact this
theorem Dj.e0{P:Program}{f:FuncId}{rest:PT}{R:AV->Pf->Prop}(q:D)(hs:AO q=true)(hl:AD q=0)(ho:AI q)(h:Dj P f (.sl H.length 0 (AL q)::rest) (H++[.a q]) R):Dj P f (.e0::rest) H R:=by
 refine⟨h.1,fun G w vs hG hr hargs=> ?_⟩;obtain⟨h1,h2⟩:=Jr hr hs hl ho;have hfr:Ap G w (G.nil q) w:=(Ap.refl G w).ghost h2 (by show G.H.length<=(G.H++[A1.a q]).length;simp);have hGH:(G.nil q).H=H++[.a q]:=by show G.H++[A1.a q]=_;rw[hG]
 have ha:AE (G.nil q) (.sl H.length 0 (AL q)::rest) vs.toList:=by
  simp only[AE]at hargs|-;obtain⟨v,r,hv,⟨a,rfl⟩,hr⟩:=hargs;refine⟨_,r,hv,?_,hr.mono (HI G q)⟩;simp only[RV];exact⟨rfl,.a q,by rw[hGH];simp,rfl,om,fun _=> .inl ⟨trivial,a,rfl⟩⟩
 refine(h.2 (G.nil q) w vs hGH h1 ha).mono ?_;rintro e w' ⟨v,r,G',rfl,hR,hv,hr',hf⟩;exact⟨v,r,G',rfl,hR,hv,hr',hfr.trans hf⟩
end Go.Gar
namespace Go.Gar
inductive Sh where
 |int (k:IntKind)
 |bool
 |str
 |by
 |is
 |sl (l:List Sh)
mutual
def JP:Sh->D->Prop
 | .int k,d=>∃n,d= .i k n/\(Lit.int k n).wf=true
 | .bool,d=>∃b,d= .b b
 | .str,d=>∃l,d= .s l/\l.length<=maxLen
 | .by,d=>∃l,d= .by l/\l.length<=maxLen
 | .is,d=>∃l,d= .is l/\l.length<=maxLen/\∀n∈l,(Lit.int .i64 n).wf=true
 | .sl shs,d=>∃es,d= .sl (GG shs) es/\es.length<=maxLen/\∀e∈es,Au shs e
def Au:List Sh->PQ->Prop
 |[],ds=>ds=[]
 |s::l,ds=>∃d r,ds=d::r/\JP s d/\Au l r
def GG:List Sh->Nat
 |[]=>0
 |_::l=>GG l+1
end
def M9:Nat->List Sh->List Sh
 |0,_=>[]
 |n+1,l=>l++M9 n l
mutual
def MQ(E:Nat->Option AF):Nat->Nat->Option (List Sh)
 |0,_=>none
 |n+1,t=>match E t with
  |none=>none
  |some y=>match y.k with
   | .int k=>some [.int k]
   | .bool=>some [.bool]
   | .str=>some [.str]
   | .sl e=>match E e with
    |none=>none
    |some z=>match z.k with
     | .int .u8=>match Nat.beq z.size 1 with
      |true=>some [.by]
      |false=>none
     | .int .i64=>match Nat.beq z.size 1 with
      |true=>some [.is]
      |false=>none
     |_=>match MQ E n e with
      |some l=>match Nat.beq (GG l) z.size,Nat.beq z.size 0 with
       |true,false=>some [.sl l]
       |_,_=>none
      |none=>none
   | .st fs=>match O4 E n 0 fs with
    |some l=>match Nat.beq (GG l) y.size with
     |true=>some l
     |false=>none
    |none=>none
   | .arr k e=>match E e,MQ E n e with
    |some z,some l=>match Nat.beq (GG l) z.size,Nat.beq (k*z.size) y.size with
     |true,true=>some (M9 k l)
     |_,_=>none
    |_,_=>none
   |_=>none
def O4(E:Nat->Option AF):Nat->Nat->P1->Option (List Sh)
 |_,_,[]=>some []
 |0,_,_::_=>none
 |n+1,o,(off,ft)::r=>match Nat.beq o off,E ft,MQ E n ft with
  |true,some z,some l=>match Nat.beq (GG l) z.size with
   |true=>match O4 E n (o+z.size) r with
    |some l'=>some (l++l')
    |none=>none
   |false=>none
  |_,_,_=>none
end
theorem CK:∀l:List Sh,GG l=l.length
 |[]=>rfl
 |_::l=>by simp[GG,CK l]
def Bg(w:World):Mem:=fun b k=>w.cell? ⟨b,k,none⟩
theorem F7:∀{a b:List Sh}{x y:PQ},Au a x->Au b y->Au (a++b) (x++y)
 |[],b,x,y,h,k=>by simp only[Au]at h;subst h;exact k
 |s::a,b,x,y,h,k=>by
  simp only[Au]at h;obtain⟨d,r,rfl,h1,h2⟩:=h;simp only[QU,Au];exact⟨d,r++y,rfl,h1,F7 h2 k⟩
theorem F8:∀{a:List Sh}{x:PQ},Au a x->x.length=a.length
 |[],x,h=>by simp only[Au]at h;simp[h]
 |s::a,x,h=>by
  simp only[Au]at h;obtain⟨d,r,rfl,_,h2⟩:=h;simp[F8 h2]
theorem Gn{m:Mem}:∀{a b:PQ}{x y:P2},An m a x->An m b y->An m (a++b) (x++y)
 |[],b,x,y,h,k=>by simp only[An]at h;subst h;exact k
 |s::a,b,x,y,h,k=>by
  simp only[An]at h;obtain⟨d,r,rfl,h1,h2⟩:=h;simp only[QU,An];exact⟨d,r++y,rfl,h1,Gn h2 k⟩
theorem LM{n:Int}(h:(Lit.int .u8 n).wf=true):n=((UInt8.ofNat n.toNat).toNat:Int):=by
 simp[Lit.wf,IntKind.min,IntKind.max,IntKind.signed,IntKind.bits]at h;rw[UInt8.toNat_ofNat'];omega
section
variable {P:Program}{E:Nat->Option AF}{H:Type}{enc:TypeId×Value->H}{w:World}{base:Nat}{sp:Nat->Bool}{held:Bool}
theorem Bt{t:Nat}{y:AF}(h:BP P t=some y):P.cellsOf t=y.size:=by
 obtain⟨i,d,z,h1,_,_,_,h5,_⟩:=AS h;simp[Program.cellsOf,h1,h5]
theorem G9{t:Nat}{y:AF}(h:BP P t=some y):∃d,P.underlying t=some d/\Ei d=y.k:=by
 obtain⟨i,d,z,_,h2,_,h4,_⟩:=AS h;exact⟨d,h2,h4.symm⟩
theorem I7{α:Type}{g:Nat->Option α}:∀{n s:Nat}{l:List α},((List.range' s n).mapM g)=some l->l.length=n/\∀i,i<n->l[i]? =g (s+i)
 |0,s,l,h=>by simp at h;subst h;simp
 |n+1,s,l,h=>by
  rw[Qg,List.mapM_cons]at h;simp only[Option.bind_eq_bind,Option.pure_def,Option.bind_eq_some_iff,P7]at h;obtain⟨a,ha,r,hr,rfl⟩:=h;obtain⟨h1,h2⟩:=I7 hr;refine⟨by simp[h1],fun i hi=> ?_⟩
  cases i with
  |zero=>simp[ha]
  |succ i=>
   simp only[List.getElem?_cons_succ];rw[h2 i om,show s+1+i=s+(i+1)by omega]
theorem FN{a:Addr}{n:Nat}{cs:P2}(h:w.cells? base a n=some cs):cs.length=n/\∀i,i<n->cs[i]? =w.cell? (a.add i):=by
 unfold World.cells? at h;split at h
 .rw[List.range_eq_range']at h;obtain⟨h1,h2⟩:=I7 h;exact⟨h1,fun i hi=>by rw[h2 i hi,Pn]⟩
 .cases h
theorem cell_spot{a:Addr}{v:Value}(h:w.cell? a=some v):a.spot=none:=by
 unfold World.cell? at h;split at h
 .split at h
  .cases h
  .rename_i hs;cases hsp:a.spot with
   |none=>rfl
   |some _=>rw[hsp]at hs;simp at hs
 .cases h
theorem Hi(b off k:Nat):(Addr.mk b off none).add k=⟨b,off+k,none⟩:=addr_add b off k
theorem J6{b off sz:Nat}{shs:List Sh}{n:Nat}(hn:shs.length=sz)(h:∀i,i<n->∃ds vs,Au shs ds/\An (Bg w) ds vs/\(∀c∈vs,c.oneCell'=true)/\vs.length=sz/\∀k,k<sz->vs[k]? =w.cell? ⟨b,off+i*sz+k,none⟩):
  ∃es:List (PQ),es.length=n/\(∀e∈es,Au shs e)/\Gm (Bg w) sz es b off:=by
 induction n generalizing off with
 |zero=>exact⟨[],rfl,sm,by simp[Gm]⟩
 |succ n ih=>
  obtain⟨ds,vs,h1,h2,h3,h4,h5⟩:=h 0 om
  obtain⟨es,k1,k2,k3⟩:=ih (off:=off+sz) (fun i hi=>by
   obtain⟨ds,vs,g1,g2,g3,g4,g5⟩:=h (i+1) om
   exact⟨ds,vs,g1,g2,g3,g4,fun k hk=>by rw[g5 k hk,Nat.succ_mul];congr 2;omega⟩)
  refine⟨ds::es,by simp[k1],?_,?_⟩
  .intro e he;rcases Qe.1 he with rfl|he
   .exact h1
   .exact k2 e he
  .simp only[Gm];refine⟨by rw[F8 h1,hn],Bi.2 fun k d hd=> ?_,k3⟩;obtain⟨hl,hg⟩:=B0.1 h2;obtain⟨v,hv,hr⟩:=hg k d hd;have hk:k<sz:=by rw[<-h4];exact(P6.1 hv).1
   refine⟨v,?_,h3 v (List.mem_of_getElem? hv),hr⟩;have:=h5 k hk;rw[hv]at this;show w.cell? ⟨b,off+k,none⟩=some v;rw[this];congr 2;omega
theorem G5{E:Nat->Option AF}(hE:AW P E){cs:P2}{m:Nat}(ih:∀{n t:Nat}{shs:List Sh}{cs:P2}{x:DataW H×List MemPlace},n<m->MQ E n t=some shs->(∃fuel,DataW.trod enc P w base sp held fuel t cs=some x)->∃ds,Au shs ds/\An (Bg w) ds cs/\(∀c∈cs,c.oneCell'=true)):
  ∀{n o:Nat}{fs:P1}{l:List Sh},n<=m->O4 E n o fs=some l->(∀off ft,(off,ft)∈fs->∃fuel x,DataW.trod enc P w base sp held fuel ft ((cs.drop off).take (P.cellsOf ft))=some x)->
   o+l.length<=cs.length->∃ds,Au l ds/\An (Bg w) ds ((cs.drop o).take l.length)/\(∀c∈(cs.drop o).take l.length,c.oneCell'=true)
 |n,o,[],l,_,h,_,_=>by
  cases n<;>simp[O4]at h<;>subst h<;>exact⟨[],by simp[Au],by simp[An],sm⟩
 |0,o,_::_,l,_,h,_,_=>by simp[O4]at h
 |n+1,o,(off,ft)::r,l,hnm,h,hx,hl=>by
  simp only[O4]at h;split at h
  .rename_i z l1 hb hz hs;split at h
   .rename_i hlen;split at h
    .rename_i l2 h2;cases h;have ho:=P5 hb;subst ho;have hsz:=P5 hlen;rw[CK]at hsz;have hc:=Bt (hE _ _ hz);simp only[Pm]at hl;obtain⟨fuel,x,hxx⟩:=hx _ _ (List.mem_cons_self);obtain⟨ds1,a1,a2,a3⟩:=ih om hs ⟨fuel,hxx⟩;rw[hc,<-hsz]at a2 a3;obtain⟨ds2,b1,b2,b3⟩:=G5 hE (fun h=>ih h) (n:=n) om h2 (fun off ft hm=>hx off ft (List.mem_cons_of_mem _ hm)) om;rw[<-hsz]at b2 b3
     have e:(cs.drop o).take (l1++l2).length=(cs.drop o).take l1.length++(cs.drop (o+l1.length)).take l2.length:=by
      rw[Pm,List.take_add,List.drop_drop]
     refine⟨ds1++ds2,F7 a1 b1,by rw[e];exact Gn a2 b2,fun c hc=> ?_⟩;rw[e]at hc;rcases List.mem_append.1 hc with hc|hc
     .exact a3 c hc
     .exact b3 c hc
    .cases h
   .cases h
  .cases h
theorem Gd{sz:Nat}{shs:List Sh}(hn:shs.length=sz):∀{k:Nat}{cs:P2},cs.length=k*sz->(∀i,i<k->∃ds,Au shs ds/\An (Bg w) ds ((cs.drop (i*sz)).take sz)/\∀c∈(cs.drop (i*sz)).take sz,c.oneCell'=true)->
  ∃ds,Au (M9 k shs) ds/\An (Bg w) ds cs/\∀c∈cs,c.oneCell'=true
 |0,cs,hl,_=>by
  have:cs=[]:=QI (by simpa using hl);subst this;exact⟨[],by simp[M9,Au],by simp[An],sm⟩
 |k+1,cs,hl,h=>by
  rw[Nat.succ_mul]at hl;obtain⟨ds1,a1,a2,a3⟩:=h 0 om;simp only[Nat.zero_mul,List.drop_zero]at a2 a3
  obtain⟨ds2,b1,b2,b3⟩:=Gd hn (k:=k) (cs:=cs.drop sz) (by simp;omega) (fun i hi=>by
   obtain⟨ds,c1,c2,c3⟩:=h (i+1) om;rw[Nat.succ_mul,Nat.add_comm,<-List.drop_drop]at c2 c3
   exact⟨ds,c1,c2,c3⟩)
  refine⟨ds1++ds2,by simp only[M9];exact F7 a1 b1,?_,fun c hc=> ?_⟩
  .rw[<-List.take_append_drop sz cs];exact Gn a2 b2
  .rw[<-List.take_append_drop sz cs]at hc;rcases List.mem_append.1 hc with hc|hc
   .exact a3 c hc
   .exact b3 c hc
theorem DG{E:Nat->Option AF}(hE:AW P E):∀(m:Nat){n t:Nat}{shs:List Sh}{cs:P2}{x:DataW H×List MemPlace},n<m->MQ E n t=some shs->(∃fuel,DataW.trod enc P w base sp held fuel t cs=some x)->∃ds,Au shs ds/\An (Bg w) ds cs/\(∀c∈cs,c.oneCell'=true)
 |0,_,_,_,_,_,h,_,_=>by omega
 |m+1,0,t,shs,cs,x,_,h,_=>by simp[MQ]at h
 |m+1,n+1,t,shs,cs,x,hnm,h,⟨fuel,hx⟩=>by
  simp only[MQ]at h;split at h
  .cases h
  .rename_i y hy;have hmk:=hE _ _ hy;obtain⟨dsc,hu,hk⟩:=G9 hmk;split at h
   .rename_i k hyk;cases h;rw[hyk]at hk;rw[C8 hk]at hu;obtain⟨v,rfl,_,hw⟩:=DataW.trod_int hu hx;exact⟨[.i k v],by simp[Au,JP,hw],by simp[An,RD],by simp[Value.oneCell']⟩
   .rename_i hyk;cases h;rw[hyk]at hk;rw[E8 hk]at hu;obtain⟨v,rfl,_⟩:=DataW.trod_bool hu hx;exact⟨[.b v],by simp[Au,JP],by simp[An,RD],by simp[Value.oneCell']⟩
   .rename_i hyk;cases h;rw[hyk]at hk;rw[Bl hk]at hu;obtain⟨v,rfl,_,hw⟩:=DataW.trod_string hu hx;exact⟨[.s v.data.toList],by simp[Au,JP];simpa using hw,by simp[An,RD],by simp[Value.oneCell']⟩
   .rename_i e hyk;rw[hyk]at hk;rw[B5 hk]at hu;split at h
    .cases h
    .rename_i z hz;have hmz:=hE _ _ hz;have hc:=Bt hmz;obtain⟨ez,hez,hkz⟩:=G9 hmz
     have key:∀{sh:List Sh},sh.length=z.size->z.size≠0->(∀{cs:P2}{x:DataW H×List MemPlace}{fuel:Nat},DataW.trod enc P w base sp held fuel e cs=some x->∃ds,Au sh ds/\An (Bg w) ds cs/\(∀c∈cs,c.oneCell'=true))->
       ∃a cap es,cs=[.slice a es.length cap]/\es.length<=cap/\es.length<=maxLen/\(∀e∈es,Au sh e)/\(es=[]\/∃b off,a=some ⟨b,off,none⟩/\Gm (Bg w) z.size es b off):=by
      intro sh hsh hnz hel;rcases DataW.trod_slice hu hx with⟨rfl,_⟩|⟨a,len,cap,elems,rest,n',rfl,rfl,_,_,hlc,hcm,hlen,hget,_⟩
      .exact⟨none,0,[],rfl,sm,sm,sm,.inl rfl⟩
      .rcases Nat.eq_zero_or_pos len with h0|h0
       .subst h0;exact⟨some a,cap,[],rfl,sm,sm,sm,.inl rfl⟩
       .have at_:∀i,i<len->∃vs x,w.cells? base (a.add (i*z.size)) z.size=some vs/\DataW.trod enc P w base sp held n' e vs=some x:=by
         intro i hi;have:=hget i hi;rw[hc,PE om]at this;rw[Option.bind_eq_some_iff]at this;obtain⟨vs,h1,h2⟩:=this;exact⟨vs,_,h1,h2⟩
        by_cases hz0:z.size=0
        .exact absurd hz0 hnz
        .obtain⟨vs0,x0,h01,h02⟩:=at_ 0 h0;obtain⟨e01,e02⟩:=FN h01
         have hsp:a.spot=none:=by
          have h3:=e02 0 om;rw[PE om]at h3;have:=cell_spot h3.symm;simpa[Addr.add]using this
         obtain⟨b,off,spt⟩:=a;simp only at hsp;subst hsp
         obtain⟨es,k1,k2,k3⟩:=J6 (w:=w) (b:=b) (off:=off) (sz:=z.size) (shs:=sh) (n:=len) hsh (fun i hi=>by
          obtain⟨vs,x',h1,h2⟩:=at_ i hi;obtain⟨ds,d1,d2,d3⟩:=hel h2;obtain⟨e1,e2⟩:=FN h1;refine⟨ds,vs,d1,d2,d3,e1,fun k hk=> ?_⟩
          rw[e2 k hk,Hi,Hi])
         exact⟨some ⟨b,off,none⟩,cap,es,by rw[k1],om,om,k2,.inr ⟨b,off,rfl,k3⟩⟩
     have conv:∀{q:D}{es:List (PQ)}{a:Option Addr}{cap:Nat},AO q=true->AI q->AD q=es.length->slc q=es.flatten->es.length<=cap->(es=[]\/∃b off,a=some ⟨b,off,none⟩/\Gm (Bg w) z.size es b off)->RD (Bg w) q (.slice a es.length cap):=by
      intro q es a cap q1 q2 q3 q4 hc h5;refine(B7 q1).2 ⟨a,cap,by rw[q3],om,q2,?_⟩;rcases h5 with rfl|⟨b,off,ha,hr⟩
      .exact .inl (by simpa using q3)
      .refine .inr ⟨b,off,ha,?_⟩;rw[q4];exact Bi.1 (Dn.1 hr).2
     split at h
     .rename_i hzk;split at h
      .rename_i hb;cases h;have hz1:=P5 hb;rw[hzk]at hkz;rw[C8 hkz]at hez
       obtain⟨a,cap,es,rfl,h1,h2,h3,h4⟩:=key (sh:=[.int .u8]) (by simp[hz1]) om (fun hx=>by
        obtain⟨v,rfl,_,hw⟩:=DataW.trod_int hez hx
        exact⟨[.i .u8 v],by simp[Au,JP,hw],by simp[An,RD],by simp[Value.oneCell']⟩)
       obtain⟨l,l1,l2⟩:∃l:On,es.flatten=l.map (fun x=>D.i .u8 (x.toNat:Int))/\l.length=es.length:=by
        clear h1 h2 h4 conv key hx
        induction es with
        |nil=>exact⟨[],rfl,rfl⟩
        |cons e r ih=>
         obtain⟨l,l1,l2⟩:=ih (fun e he=>h3 e (by simp[he]));have h0:=h3 e sm;simp only[Au,JP]at h0;obtain⟨d,r',rfl,⟨n,rfl,hw⟩,rfl⟩:=h0;exact⟨UInt8.ofNat n.toNat::l,by simp only[QG,l1,Q5,<-LM hw,QU,List.nil_append],by simp[l2]⟩
       refine⟨[.by l],by simp[Au,JP];omega,?_,by simp[Value.oneCell']⟩;simp only[An];exact⟨_,[],rfl,conv (q:=.by l) rfl trivial l2 l1.symm h1 h4,rfl⟩
      .cases h
     .rename_i hzk;split at h
      .rename_i hb;cases h;have hz1:=P5 hb;rw[hzk]at hkz;rw[C8 hkz]at hez
       obtain⟨a,cap,es,rfl,h1,h2,h3,h4⟩:=key (sh:=[.int .i64]) (by simp[hz1]) om (fun hx=>by
        obtain⟨v,rfl,_,hw⟩:=DataW.trod_int hez hx
        exact⟨[.i .i64 v],by simp[Au,JP,hw],by simp[An,RD],by simp[Value.oneCell']⟩)
       obtain⟨l,l1,l2,l3⟩:∃l:Ow,es.flatten=l.map (fun x=>D.i .i64 x)/\l.length=es.length/\∀n∈l,(Lit.int .i64 n).wf=true:=by
        clear h1 h2 h4 conv key hx
        induction es with
        |nil=>exact⟨[],rfl,rfl,sm⟩
        |cons e r ih=>
         obtain⟨l,l1,l2,l3⟩:=ih (fun e he=>h3 e (by simp[he]));have h0:=h3 e sm;simp only[Au,JP]at h0;obtain⟨d,r',rfl,⟨n,rfl,hw⟩,rfl⟩:=h0;refine⟨n::l,by simp only[QG,l1,Q5,QU,List.nil_append],by simp[l2],fun n' hn'=> ?_⟩;rcases Qe.1 hn' with rfl|hn'
         .exact hw
         .exact l3 n' hn'
       refine⟨[.is l],?_,?_,by simp[Value.oneCell']⟩
       .simp only[Au,JP];exact⟨_,[],rfl,⟨l,rfl,om,l3⟩,rfl⟩
       .simp only[An];exact⟨_,[],rfl,conv (q:=.is l) rfl trivial l2 l1.symm h1 h4,rfl⟩
      .cases h
     .split at h
      .rename_i l hl;split at h
       .rename_i hb hb0;cases h;have hz1:=P5 hb;rw[CK]at hz1;obtain⟨a,cap,es,rfl,h1,h2,h3,h4⟩:=key (sh:=l) hz1 (fun e=>by rw[e]at hb0;cases hb0) (fun hx=>DG hE m om hl ⟨_,hx⟩);refine⟨[.sl (GG l) es],?_,?_,by simp[Value.oneCell']⟩
        .simp only[Au,JP];exact⟨_,[],rfl,⟨es,rfl,h2,h3⟩,rfl⟩
        .simp only[An];refine⟨_,[],rfl,conv (q:=.sl (GG l) es) rfl (fun e he=>by rw[F8 (h3 e he),CK]) rfl rfl h1 h4,rfl⟩
       .cases h
      .cases h
   .rename_i fs hyk;rw[hyk]at hk;obtain⟨q,rfl,rfl⟩:=EX hk;split at h
    .rename_i l hl;split at h
     .rename_i hb;cases h;have hz1:=P5 hb;rw[CK]at hz1;obtain⟨xs,n',rfl,_,hlen,hxl,hget⟩:=DataW.trod_struct hu hx;rw[Bt hmk]at hlen
      obtain⟨ds,d1,d2,d3⟩:=G5 (m:=m) hE (fun hh hs ⟨fuel,hx⟩=>DG hE m hh hs ⟨fuel,hx⟩) (cs:=cs) (n:=n) om hl (fun off ft hm=>by
       simp only[List.mem_map,PD]at hm;obtain⟨f,hf,rfl,rfl⟩:=hm;obtain⟨i,hi,hfi⟩:=List.mem_iff_getElem.1 hf
       have hq:q[i]? =some f:=by
        rw[<-Array.getElem?_toList,PE hi,hfi]
       have:=hget i f hq;have hi':i<q.size:=by simpa using hi
       rw[PE om]at this
       exact⟨n',_,this⟩) om
      rw[List.drop_zero,hz1,<-hlen,Pz]at d2 d3;exact⟨ds,d1,d2,d3⟩
     .cases h
    .cases h
   .rename_i k e hyk;rw[hyk]at hk;rw[CX hk]at hu;split at h
    .rename_i z l hz hl;split at h
     .rename_i hb hb2;cases h;have hz1:=P5 hb;have hz2:=P5 hb2;rw[CK]at hz1;have hc:=Bt (hE _ _ hz);obtain⟨xs,n',rfl,_,hlen,hxl,hget⟩:=DataW.trod_array hu hx;rw[Bt hmk,<-hz2]at hlen;refine Gd hz1 hlen (fun i hi=> ?_);have:=hget i hi;rw[PE om,hc]at this;exact DG hE m om hl ⟨n',this⟩
     .cases h
    .cases h
   .cases h
end
end Go.Gar
namespace Go.Gar
open Go.ChangeShapes Go.WideShapes Go.ChangeAt Go.RowKit
def Fj(E:Nat->Option AF)(t:Nat)(d:D):Prop:=
 match E t,MQ E 40 t with
 |some y,some shs=>match y.agg with
  |true=>∃l,d= .agg l/\Au shs l
  |false=>∃s,shs=[s]/\JP s d
 |_,_=>False
def Fl(E:Nat->Option AF):P0->PQ->Prop
 |[],ds=>ds=[]
 |t::ts,ds=>∃d r,ds=d::r/\Fj E t d/\Fl E ts r
def N5(E:Nat->Option AF)(t:Nat):Bool:=
 match E t,MQ E 40 t with
 |some y,some shs=>match y.agg,y.k,shs with
  |true,.st _,_=>true
  |true,.arr _ _,_=>true
  |false,.int _,[_]=>true
  |false,.bool,[_]=>true
  |false,.str,[_]=>true
  |false,.sl _,[_]=>true
  |_,_,_=>false
 |_,_=>false
section
variable {P:Program}{E:Nat->Option AF}{H:Type}{enc:TypeId×Value->H}{W:World}{base:Nat}{sp:Nat->Bool}{held:Bool}
theorem Lz(hE:AW P E){t:Nat}{v:Value}{d:DataW H}{ps:List MemPlace}{b0:Nat}{r:Reach}(hb:N5 E t=true)(h:DataW.Trod enc P W base sp held t v d ps)(ho:Value.okWide P W r b0 t v):∃x,Fj E t x/\RD (Bg W) x v:=by
 unfold N5 at hb;unfold Fj
 cases hy:E t with
 |none=>rw[hy]at hb;simp at hb
 |some y=>
  cases hs:MQ E 40 t with
  |none=>rw[hy,hs]at hb;simp at hb
  |some shs=>
   rw[hy,hs]at hb;simp only at hb|-;obtain⟨fuel,hf⟩:=h;obtain⟨ds,d1,d2,d3⟩:=DG hE 41 om hs ⟨fuel,hf⟩;obtain⟨dsc,hu,hk⟩:=G9 (hE _ _ hy);have notagg:(∀cs,v≠ .agg cs)->v.cells.toList=[v]:=fun h=>by cases v<;>first|rfl|exact absurd rfl (h _)
   have fin:∀s,shs=[s]->(∀cs,v≠ .agg cs)->∃x,(∃s,shs=[s]/\JP s x)/\RD (Bg W) x v:=by
    intro s hs' hna;subst hs';rw[notagg hna]at d2;simp only[Au]at d1;obtain⟨x,r,rfl,h1,rfl⟩:=d1;simp only[An]at d2;obtain⟨u,q,e,h2,rfl⟩:=d2;cases e;exact⟨x,⟨s,rfl,h1⟩,h2⟩
   split at hb
   .rename_i ha hk';simp only[ha];obtain⟨q,hq,_⟩:=EX (hk.trans hk');subst hq;unfold Value.okWide at ho;rw[hu]at ho;obtain⟨cs,rfl,_⟩:=ho;exact⟨.agg ds,⟨ds,rfl,d1⟩,by simp only[RD];exact⟨cs.toList,sm,d2⟩⟩
   .rename_i ha hk';simp only[ha];have hq:=CX (hk.trans hk');subst hq;unfold Value.okWide at ho;rw[hu]at ho;obtain⟨cs,rfl,_⟩:=ho;exact⟨.agg ds,⟨ds,rfl,d1⟩,by simp only[RD];exact⟨cs.toList,sm,d2⟩⟩
   .rename_i s ha hk';simp only[ha];have hq:=C8 (hk.trans hk');subst hq;refine fin s rfl fun cs e=> ?_
    subst e;simp[Value.okWide,Cell.okWide,Cell.ok,hu]at ho
   .rename_i s ha hk';simp only[ha];have hq:=E8 (hk.trans hk');subst hq;refine fin s rfl fun cs e=> ?_
    subst e;simp[Value.okWide,Cell.okWide,Cell.ok,hu]at ho
   .rename_i s ha hk';simp only[ha];have hq:=Bl (hk.trans hk');subst hq;refine fin s rfl fun cs e=> ?_
    subst e;simp[Value.okWide,Cell.okWide,Cell.ok,hu]at ho
   .rename_i s ha hk';simp only[ha];have hq:=B5 (hk.trans hk');subst hq;refine fin s rfl fun cs e=> ?_
    subst e;simp[Value.okWide,Cell.okWide,Cell.ok,hu]at ho
   .cases hb
theorem Gb(hE:AW P E){b0:Nat}{r:Reach}:∀{ts:P0}{vs:P2}{ds:List (DataW H)}{ps:List MemPlace},ts.all (N5 E)=true->DataW.TrodAll enc P W base sp held ts vs ds ps->(∀(j:Nat) t v,ts[j]? =some t->vs[j]? =some v->Value.okWide P W r b0 t v)->
  (∃xs,Fl E ts xs/\An (Bg W) xs vs)/\ds.length=ts.length
 |[],[],[],_,_,_,_=>⟨⟨[],by simp[Fl],by simp[An]⟩,rfl⟩
 |t::ts,v::vs,d::ds,ps,hb,h,ho=>by
  simp only[List.all_cons,P8]at hb;obtain⟨p,q,h1,h2,_⟩:=h;obtain⟨x,x1,x2⟩:=Lz hE hb.1 h1 (ho 0 t v rfl rfl);obtain⟨⟨xs,y1,y2⟩,hl⟩:=Gb hE hb.2 h2 (fun j t v ht hv=>ho (j+1) t v (by simpa using ht) (by simpa using hv));exact⟨⟨x::xs,by simp only[Fl];exact⟨x,xs,rfl,x1,y1⟩,by simp only[An];exact⟨v,vs,rfl,x2,y2⟩⟩,by simp[hl]⟩
 |[],[],_::_,_,_,h,_=>h.elim
 |[],_::_,_,_,_,h,_=>by cases h
 |_::_,[],_,_,_,h,_=>by cases h
 |_::_,_::_,[],_,_,h,_=>by cases h
theorem DR(hl:laidOutB P=true){W':World}(hb:Below W.heap.size W W'):∀{ts:P0}{vs:P2}{ds:List (DataW H)}{ps:List MemPlace},(ts.all fun t=>P.readableRec t&&decide (t<P.types.size))=true->DataW.TrodAll enc P W 0 (fun _=>true) true ts vs ds ps->(∀x∈ps,x.block<W.heap.size)->
  DataW.TrodAll enc P W' 0 (fun b=>decide (b<W.heap.size)) true ts vs ds ps
 |[],[],[],_,_,h,_=>h
 |t::ts,v::vs,d::ds,ps,hr,h,hlt=>by
  simp only[List.all_cons,P8,PO]at hr;obtain⟨p,q,h1,h2,rfl⟩:=h;exact⟨p,q,Below.trod hl hr.1.1 hr.1.2 h1 hb (fun x hx=>hlt x (by simp[hx])),DR hl hb (by simpa using hr.2) h2 (fun x hx=>hlt x (by simp[hx])),rfl⟩
 |[],[],_::_,_,_,h,_=>h.elim
 |[],_::_,_,_,_,h,_=>by cases h
 |_::_,[],_,_,_,h,_=>by cases h
 |_::_,_::_,[],_,_,h,_=>by cases h
theorem J1{W W':World}(ho:W'.os=W.os)(hout:W'.output=W.output)(h:∀b,b<W.heap.size->W'.heap[b]? =W.heap[b]?)(may:MemPlace->Prop):W.keptBut W' may:=by
 refine⟨ho,hout,fun i hi=> ?_⟩;rw[h i hi];exact(World.keptBut_refl W may).2.2 i hi
theorem KY{fn:Func}{f:FuncId}{s:ChangeSpec}{tb:Nat}(hE:AW P E)(hl:laidOutB P=true)(hr:(fn.params.toList.all fun t=>P.readableRec t&&decide (t<P.types.size))=true)(hp:fn.params.toList.all (N5 E)=true)
  (hres:fn.resultTypes.toList=[tb]) (htb:P.underlying tb=some .bool) (hvars:s.vars=[]) (hs:∀(H:Type)(ds:List (DataW H)),ds.length=fn.params.toList.length->s.fn H ds={results:=[.lit (.bool true)],args:=ds})
  (hF:∀xs,Fl E fn.params.toList xs->Go.Gar.Fn P f xs (.b true)) {args:PF} {ds gs:List (DataW H)} {before:List MemPlace}
  (hval:∀(j:Nat) t v,fn.params[j]? =some t->args[j]? =some v->Value.okWide P W .any base t v) (hW:DataW.Whole enc P fn.params.toList s.vars false W args.toList ds gs before) (hst:NS (Bg W):=by intro b k v h;cases h):
  Calls P f args W fun e W'=>∃v,e= .returned v/\s.post enc P fn false true false false W args v W':=by
 have hW':=hW;obtain⟨p,q,hA,hV,rfl,_,_⟩:=hW;rw[hvars]at hV;obtain⟨rfl,rfl⟩:=trodVars_none hV;obtain⟨⟨xs,x1,x2⟩,hlen⟩:=Gb hE hp hA (fun j t v ht hv=>hval j t v (by simpa using ht) (by simpa using hv));have hc:=(hF xs x1).2 (Bg W) W args (fun b k v h=>h) hst x2;rw[callsIn_wide]at hc;refine hc.mono ?_;rintro e W' ⟨v,m',rfl,h1,_,_,_,h5,h6,h7,h8,h9⟩;simp only[RD]at h1;subst h1;have hb:Below W.heap.size W W':=⟨h5,h6,h7,h8,h9⟩;have hlt:∀x∈p,x.block<W.heap.size:=fun x hx=>hW'.lt x (by simp[hx])
 have hsz:fn.resultTypes.size=1:=by
  have:=congrArg List.length hres;simpa using this
 refine⟨_,rfl,ds,[],p++[],[],p,[],hW',?_,?_,?_,J1 h5 h7 h9 _,fun h=>by cases h⟩
 .rw[hs H (ds++[]) (by simpa using hlen),hres];simp only[Value.resultList,hsz,QC];exact trodAll_mk1 (shut_bool htb true)
 .rw[hs H (ds++[]) (by simpa using hlen)];rw[List.append_nil];exact DR hl hb hr hA hlt
 .rw[hs H (ds++[]) (by simpa using hlen),hvars];rfl
end
end Go.Gar
