/- Part 3 of a proof. Conditions: those that its theorems state. -/
import Derived.Test.YtmlaifbbpdanmaaV02
import Derived.ProofKit
import Derived.OpenShut
set_option linter.unusedSimpArgs false
set_option linter.unusedVariables false
set_option linter.unnecessarySimpa false
set_option maxHeartbeats 40000000
set_option maxRecDepth 4000
namespace Go.Gar
mutual
def AV.Db(id:Nat)(x:D):AV->AV
 | .sl i n sz=>match Nat.beq i id with
  |true=>if n=AI x then .d x else .sl i n sz
  |false=> .sl i n sz
 | .ag cs=> .ag (AV.Ff id x cs)
 | .tup cs=> .tup (AV.Ff id x cs)
 | .fn f a b=> .fn f (AV.Ff id x a) (AV.Ff id x b)
 |v=>v
def AV.Ff(id:Nat)(x:D):R8->R8
 |[]=>[]
 |v::r=>v.Db id x::AV.Ff id x r
end
theorem Eh(id:Nat)(x:D):∀l:R8,AV.Ff id x l=l.map (AV.Db id x)
 |[]=>rfl
 |v::r=>by simp[AV.Ff,Eh id x r]
def O2(id:Nat)(x:D):RL->RL
 |[]=>[]
 |p::r=>(p.1,p.2.Db id x)::O2 id x r
theorem GX(id:Nat)(x:D):∀l:RL,O2 id x l=l.map fun p=>(p.1,p.2.Db id x)
 |[]=>rfl
 |v::r=>by simp[O2,GX id x r]
def A2.Db(id:Nat)(x:D):A2->A2
 | .c cs=> .c (AV.Ff id x cs)
 | .m es=> .m (O2 id x es)
 |b=>b
def LO(id:Nat)(x:D):R9->R9
 |[]=>[]
 |p::r=>(p.1,p.2.Db id x)::LO id x r
def Cn(id:Nat)(x:D):Nat->RE->RE
 |_,[]=>[]
 |i,b::r=>(match Nat.beq i id with|true=> .gone|false=>b.Db id x)::Cn id x (i+1) r
theorem Ic{id:Nat}{x:D}:∀{e:R9}{t:Nat}{y:AV},get (LO id x e) t=some y->∃z,get e t=some z/\y=z.Db id x
 |[],t,y,h=>by simp[LO,get]at h
 |p::r,t,y,h=>by
  obtain⟨k,v⟩:=p;simp only[LO,get]at h|-;split at h
  .rename_i hb;rw[Rf hb];cases h;exact⟨v,rfl,rfl⟩
  .rename_i hb;rw[Rw hb];exact Ic h
theorem Co{id:Nat}{x:D}:∀{l:RE}{i j:Nat}{b:A2},(Cn id x i l)[j]? =some b->∃b0,l[j]? =some b0/\((i+j=id/\b= .gone)\/(i+j≠id/\b=b0.Db id x))
 |[],i,j,b,h=>by simp[Cn]at h
 |c::r,i,0,b,h=>by
  simp only[Cn,List.getElem?_cons_zero,Qj]at h;refine⟨c,sm,?_⟩
  cases hb:Nat.beq i id with
  |true=>rw[hb]at h;exact .inl ⟨by have:=Qi hb;omega,h.symm⟩
  |false=>rw[hb]at h;exact .inr ⟨fun e=>by rw[Sm]at e;subst e;simp at hb,h.symm⟩
 |c::r,i,j+1,b,h=>by
  simp only[Cn,List.getElem?_cons_succ]at h;obtain⟨b0,h1,h2⟩:=Co h;refine⟨b0,by simpa using h1,?_⟩;rw[show i+(j+1)=i+1+j by omega];exact h2
theorem E2{id:Nat}{x:D}:∀{l:RE}{i j:Nat}{b0:A2},l[j]? =some b0->(Cn id x i l)[j]? =some (if i+j=id then .gone else b0.Db id x)
 |[],i,j,b,h=>by simp at h
 |c::r,i,0,b,h=>by
  simp only[List.getElem?_cons_zero,Qj]at h;subst h;simp only[Cn,List.getElem?_cons_zero,Sm]
  cases hb:Nat.beq i id with
  |true=>have:=Qi hb;subst this;simp
  |false=>rw[Rw (fun e=>by subst e;simp at hb)]
 |c::r,i,j+1,b,h=>by
  simp only[Cn,List.getElem?_cons_succ]at h|-;rw[show i+(j+1)=i+1+j by omega];exact E2 h
theorem Eg{id:Nat}{x:D}:∀{l:RE}{i:Nat},(Cn id x i l).length=l.length
 |[],i=>by simp[Cn]
 |c::r,i=>by simp[Cn,Eg (l:=r)]
def Gh.freeze(G:Gh)(w:World)(id:Nat)(x:D):Gh where
 ρ:=G.ρ
 H:=Cn id x 0 G.H
 m:=fun b k=>match G.ρ id with
  |some p=>if b=p.1 then w.cell? ⟨b,k,none⟩else G.m b k
  |none=>G.m b k
variable {G:Gh}{w:World}{id:Nat}{x:D}{b:A2}
theorem FU(hid:G.H[id]? =some (.a x)){j:Nat}(hb:G.H[j]? =some b):∃b',(G.freeze w id x).H[j]? =some b'/\A6 G (G.freeze w id x) j b b':=by
 refine⟨_,E2 hb,?_⟩;rw[RZ]
 by_cases hj:j=id
 .subst hj;rw[hid]at hb;cases hb;simp[A6]
 .rw[Rw hj];cases b<;>simp[A6,A2.Db,Gh.freeze,Eh]
theorem BH(hr:AD G w)(hid:G.H[id]? =some (.a x)):DN G (G.freeze w id x):=by
 refine⟨fun j b hb=>FU hid hb,fun b k v hv=> ?_⟩;show(match G.ρ id with|some p=>if b=p.1 then w.cell? ⟨b,k,none⟩else G.m b k|none=>G.m b k)=some v;split
 .split
  .exact hr.mem b k v hv
  .exact hv
 .exact hv
mutual
theorem RV.Db{G:Gh}{w:World}(hr:AD G w){id:Nat}{x:D}(hid:G.H[id]? =some (.a x)):∀{y:AV}{v:Value},RV G y v->RV (G.freeze w id x) (y.Db id x) v
 | .sl i n sz,v,r=>by
  have hm:=RV.mono (BH hr hid) r;simp only[AV.Db];split
  .rename_i hb;have hi:=Qi hb;subst hi;split
   .rename_i hn;simp only[RV]at r|-;obtain⟨_,blk,hblk,hp⟩:=r;rw[hid]at hblk;cases hblk;obtain⟨g1,g2,g3⟩:=hp;obtain⟨k1,k2,k3⟩:=hr.blk i _ hid;rcases g3 hn with⟨g4,a,rfl⟩|⟨b,N,cap,g4,rfl,g6,_⟩
    .exact(Bm k1).2 ⟨a,0,by rw[<-hn,g4],om,k2,.inl om⟩
    .rcases k3 with⟨k3,k4⟩|⟨b',N',vs,T,k4,k5,k6,k7⟩
     .exact(Bm k1).2 ⟨_,cap,by rw[<-hn],om,k2,.inl k3⟩
     .rw[g4]at k4;cases k4;refine(Bm k1).2 ⟨_,cap,by rw[<-hn],om,k2,.inr ⟨b,0,rfl,fun k d hd=> ?_⟩⟩;obtain⟨u,hu,h1c,hru⟩:=k7 k d hd;refine⟨u,?_,h1c,hru.mono (BH hr hid).mem⟩;show(match G.ρ i with|some p=>if b=p.1 then w.cell? ⟨b,0+k,none⟩else G.m b (0+k)|none=>G.m b (0+k))=some u;rw[g4];simp only[SG,RZ];rw[BG k5];exact hu
   .exact hm
  .exact hm
 | .ag _,_,r| .tup _,_,r=>by
  simp only[AV.Db,RV]at r|-;obtain⟨vs,hv,h⟩:=r;exact⟨vs,hv,AH.Db hr hid h⟩
 | .fn f a b,v,r=>by
  simp only[AV.Db,RV]at r|-;obtain⟨p,q,hv,h1,h2⟩:=r;exact⟨p,q,hv,AH.Db hr hid h1,AH.Db hr hid h2⟩
 | .d _,_,r| .u,_,r| .e0,_,r| .ptr _ _ _,_,r| .bs _ _ _ _ _,_,r| .ep _ _ _ _ _,_,r| .yl _,_,r| .dp _,_,r| .mp _,_,r=>by have:=RV.mono (BH hr hid) r;simpa only[AV.Db]using this
theorem AH.Db{G:Gh}{w:World}(hr:AD G w){id:Nat}{x:D}(hid:G.H[id]? =some (.a x)):∀{ys:R8}{vs:Qf},AH G ys vs->AH (G.freeze w id x) (AV.Ff id x ys) vs
 |[],vs,r=>by simpa[AV.Ff,AH]using r
 |y::ys,vs,r=>by
  simp only[AV.Ff,AH]at r|-;obtain⟨v,q,hv,h1,h2⟩:=r;exact⟨v,q,hv,RV.Db hr hid h1,AH.Db hr hid h2⟩
end
theorem BR.Db(hr:AD G w)(hid:G.H[id]? =some (.a x)){j:Nat}:∀{b:A2},BR G w j b->BR (G.freeze w id x) w j (b.Db id x)
 | .gone,_=>trivial
 | .c cs,h=>by
  obtain⟨b,N,vs,T,h1,h2,h3,h4,h6⟩:=h;refine⟨b,N,vs,T,h1,h2,h3,by rw[Eh];simpa using h4,fun k y hy=> ?_⟩;rw[Eh,RX,RS]at hy;obtain⟨z,hz,rfl⟩:=hy;obtain⟨v,hv,hrv⟩:=h6 k z hz;exact⟨v,hv,hrv.Db hr hid⟩
 | .a y,h=>by
  obtain⟨h1,h2,h3⟩:=h;refine⟨h1,h2,h3.imp_right ?_⟩;rintro⟨b,N,vs,T,g1,g2,g3,g4⟩;refine⟨b,N,vs,T,g1,g2,g3,fun k d hd=> ?_⟩;obtain⟨v,hv,h1c,hrd⟩:=g4 k d hd;exact⟨v,hv,h1c,hrd.mono (BH hr hid).mem⟩
 | .m es,h=>by
  obtain⟨b,N,ms,cl,h1,h2,h3,h4⟩:=h;refine⟨b,N,ms,cl,h1,h2,by rw[GX];simpa using h3,fun k q hq=> ?_⟩;rw[GX,RX,RS]at hq;obtain⟨z,hz,rfl⟩:=hq;obtain⟨e,he,hd,hrv⟩:=h4 k z hz;exact⟨e,he,hd.mono (BH hr hid).mem,hrv.Db hr hid⟩
 | .lp r,h=>by
  obtain⟨l,N,df,tmps,h1,h2,h3,h4⟩:=h;exact⟨l,N,df,tmps,h1,h2,h3,h4.mono (BH hr hid)⟩
 | .D5 _ _ _,h=>h
 | .many _,h=>h
theorem GY(j:Nat)(rs:List (Option (Nat×Nat×A5)))(h:(G.freeze w id x).H[j]? =some (.many rs)):G.H[j]? =some (.many rs):=by
 obtain⟨b0,h1,h2⟩:=Co h;rcases h2 with⟨_,e⟩|⟨_,e⟩
 .cases e
 .cases b0<;>simp only[A2.Db,reduceCtorEq,A2.many.injEq]at e;subst e;exact h1
theorem Gg(hr:AD G w)(hid:G.H[id]? =some (.a x)){b:Nat}(h:Own (G.freeze w id x) b):Own G b/\∀N,G.ρ id≠some (b,N):=by
 rcases h with⟨j,N,blk,hb,hl,hρ⟩|⟨j,rs,hb,hc⟩
 case inr=>exact⟨.inr ⟨j,rs,GY j rs hb,hc⟩,fun N hN=>((hr.mny j rs (GY j rs hb)).2 b hc).1 ⟨id,N,_,hid,rfl,hN⟩⟩
 obtain⟨b0,h1,h2⟩:=Co hb;rw[RZ]at h2;rcases h2 with⟨_,rfl⟩|⟨h2,rfl⟩
 .simp[A2.live]at hl
 .have hl0:b0.live=true:=by cases b0<;>simp_all[A2.live,A2.Db]
  refine⟨.inl ⟨j,N,b0,h1,hl0,hρ⟩,fun N' hN'=>h2 ?_⟩;exact hr.inj j id b0 _ b N N' h1 hid hl0 rfl hρ hN'
theorem GW(hr:AD G w)(hid:G.H[id]? =some (.a x)):AD (G.freeze w id x) w/\IL G (G.freeze w id x):=by
 have hmem:∀b k v,(G.freeze w id x).m b k=some v->G.m b k=some v\/(∃N,G.ρ id=some (b,N)/\w.cell? ⟨b,k,none⟩=some v):=by
  intro b k v hv;change (match G.ρ id with|some p=>if b=p.1 then w.cell? ⟨b,k,none⟩else G.m b k|none=>G.m b k)=some v at hv;split at hv
  .rename_i p hp;split at hv
   .rename_i he;subst he;exact .inr ⟨p.2,hp,hv⟩
   .exact .inl hv
  .exact .inl hv
 refine⟨⟨fun j b hb=> ?_,fun i j p q b N N' hp hq lp lq r1 r2=> ?_,fun b k v hv=> ?_,fun b hb k=> ?_,fun b k v hv=>(BH hr hid).mem b k v (hr.st b k v hv),hr.mny.of (fun b hb=>Ad hr (.inr hb)) GY (fun b hb=> .inl (by
  obtain⟨j,N,blk,hb,hl,hρ⟩:=hb;obtain⟨b0,h1,h2⟩:=Co hb;rcases h2 with⟨_,rfl⟩|⟨_,rfl⟩
  .simp[A2.live]at hl
  .exact⟨j,N,b0,h1,by cases b0<;>simp_all[A2.live,A2.Db],hρ⟩))⟩,⟨fun j b b' hb hb'=> ?_,(BH hr hid).mem,fun b hb=>(Gg hr hid hb).1,fun b k v hv=> ?_⟩⟩
 .obtain⟨b0,h1,h2⟩:=Co hb;rcases h2 with⟨_,rfl⟩|⟨_,rfl⟩
  .trivial
  .exact(hr.blk j b0 h1).Db hr hid
 .obtain⟨p0,h1,h2⟩:=Co hp;obtain⟨q0,h3,h4⟩:=Co hq
  have e1:p0.live=true:=by
   rcases h2 with⟨_,rfl⟩|⟨_,rfl⟩
   .simp[A2.live]at lp
   .cases p0<;>simp_all[A2.live,A2.Db]
  have e2:q0.live=true:=by
   rcases h4 with⟨_,rfl⟩|⟨_,rfl⟩
   .simp[A2.live]at lq
   .cases q0<;>simp_all[A2.live,A2.Db]
  exact hr.inj i j p0 q0 b N N' h1 h3 e1 e2 r1 r2
 .rcases hmem b k v hv with h|⟨_,_,h⟩
  .exact hr.mem b k v h
  .exact h
 .obtain⟨h1,h2⟩:=Gg hr hid hb
  cases hm:(G.freeze w id x).m b k with
  |none=>rfl
  |some v=>
   rcases hmem b k v hm with h|⟨N,h,_⟩
   .rw[hr.sep b h1 k]at h;cases h
   .exact absurd h (h2 N)
 .obtain⟨c,hc,hs⟩:=FU (w:=w) hid hb;rw[hb']at hc;cases hc;exact hs
 .rcases hmem b k v hv with h|⟨N,h,_⟩
  .exact .inl h
  .exact .inr (.inl ⟨id,N,_,hid,rfl,h⟩)
theorem Marks.HV{N:NB}{G':Gh}{a:Act}(h:Marks N G a w)(t:IL G G'):Marks N G' a w:=by
 obtain⟨h0,ms,h1,h2,h3⟩:=h;exact⟨h0,ms,h1,h2,fun q hq=>⟨(h3 q hq).1,(h3 q hq).2.1,fun ho'=>(h3 q hq).2.2 (t.own q ho')⟩⟩
variable {S:St}
theorem A3.freeze(id:Nat)(hid:S.H[id]? =some (.a x)):A3 S ⟨LO id x S.env,Cn id x 0 S.H,S.n⟩:=by
 intro ro N G a w r _;have hid':G.H[id]? =some (.a x):=by rw[r.heap];exact hid
 obtain⟨h1,h2⟩:=GW r.rel hid';refine⟨G.freeze w id x,⟨by show Cn id x 0 G.H=_;rw[r.heap],h1,r.size,fun t y hy=> ?_,r.marks.HV h2,fun i hi=> ?_⟩,h2⟩
 .obtain⟨z,hz,rfl⟩:=Ic hy;obtain⟨v,hv,hrv⟩:=r.env t z hz;exact⟨v,hv,hrv.Db r.rel hid'⟩
 .obtain⟨q,l,M,q1,q2⟩:=r.round i hi;refine⟨q,l,M,?_,q2⟩;have:=E2 (id:=id) (x:=x) (i:=0) q1;rw[RZ,Rw (fun e=>by subst e;rw[hid]at q1;cases q1)]at this;exact this
theorem A3.trans{A B C:St}(h:A3 A B)(hl:B.H.length<=A.H.length->True)(k:A3 B C)(hlt:C.H.length<=B.H.length):A3 A C:=by
 intro ro N G a w r hc;obtain⟨G1,r1,t1⟩:=h ro N G a w r (fun id hid=>TG (hc id hid) hlt);obtain⟨G2,r2,t2⟩:=k ro N G1 a w r1 hc;refine⟨G2,r2,⟨fun id b b' hb hb'=> ?_,Mem.le_trans t1.mem t2.mem,fun b hb=>t1.own b (t2.own b hb),fun b k v hv=> ?_⟩⟩
 .have hlt1:id<G1.H.length:=by
   have:id<G2.H.length:=(Qh.1 hb').1;rw[r2.heap]at this;rw[r1.heap];omega
  exact(t1.blk id b _ hb (Qm hlt1)).trans (t2.blk id _ b' (Qm hlt1) hb')
 .rcases t2.memNew b k v hv with h|h
  .exact t1.memNew b k v h
  .exact .inr (t1.own b h)
theorem A3.e0(t:Nat)(q:D)(h:get S.env t=some .e0)(hs:Af q=true)(hl:AI q=0)(ho:AX q):A3 S ⟨(t,.d q)::S.env,S.H,S.n⟩:=by
 intro ro N G a w r _;refine⟨G,⟨r.heap,r.rel,r.size,fun u y hy=> ?_,r.marks,r.round⟩,⟨fun id b b' hb hb'=>by rw[hb]at hb';cases hb';exact A6.refl _ _ _,Mem.le_refl _,fun _ h=>h,fun _ _ _ h=> .inl h⟩⟩;simp only[get]at hy;split at hy
 .rename_i hb;cases hy;have:=Qi hb;subst this;obtain⟨v,hv,hrv⟩:=r.env t _ h;refine⟨v,hv,?_⟩;simp only[RV]at hrv|-;obtain⟨a,rfl⟩:=hrv;exact(Bm hs).2 ⟨a,0,by rw[hl],om,ho,.inl hl⟩
 .exact r.env u y hy
def Gh.nil(G:Gh)(q:D):Gh:={ρ:=fun id=>if id=G.H.length then none else G.ρ id,H:=G.H++[.a q],m:=G.m}
theorem Fs{q:D}(h:G.H[id]? =some b):(G.nil q).H[id]? =some b/\(G.nil q).ρ id=G.ρ id:=by
 have hlt:=(Qh.1 h).1;refine⟨by show(G.H++[.a q])[id]? =_;rw[Qq hlt];exact h,?_⟩;show(if id=G.H.length then none else G.ρ id)=_;rw[Rw om]
theorem I0(G:Gh)(q:D):DN G (G.nil q):=by
 refine⟨fun id b hb=> ?_,Mem.le_refl _⟩;obtain⟨h1,h2⟩:=Fs (q:=q) hb;exact⟨b,h1,(A6.refl G id b).congr rfl h2⟩
theorem Eo{q:D}(h:(G.nil q).H[id]? =some b):(G.H[id]? =some b/\(G.nil q).ρ id=G.ρ id)\/(id=G.H.length/\b= .a q/\(G.nil q).ρ id=none):=by
 rcases RJ id G.H.length with hlt|hge
 .have h':G.H[id]? =some b:=by
   change (G.H++[.a q])[id]? =_ at h;rwa [Qq hlt]at h
  exact .inl ⟨h',(Fs h').2⟩
 .change (G.H++[.a q])[id]? =_ at h;rw[Qx hge]at h
  have h0:id-G.H.length=0:=by
   rcases Nat.eq_zero_or_pos (id-G.H.length)with h0|h0
   .exact h0
   .rw[Rn (by simp;omega)]at h;cases h
  rw[h0]at h;simp only[List.getElem?_cons_zero,Qj]at h;have hid:id=G.H.length:=om
  refine .inr ⟨hid,h.symm,?_⟩;show(if id=G.H.length then none else G.ρ id)=none;rw[Rf hid]
theorem Kf(hr:AD G w){q:D}(hs:Af q=true)(hl:AI q=0)(ho:AX q):AD (G.nil q) w/\IL G (G.nil q):=by
 have hS:∀(j:Nat)(rs:List (Option (Nat×Nat×A5))),(G.nil q).H[j]? =some (.many rs)->G.H[j]? =some (.many rs):=fun j rs hb=>by
  rcases Eo hb with⟨h1,_⟩|⟨_,e,_⟩
  .exact h1
  .cases e
 have hP:∀b,B8 (G.nil q) b->B8 G b:=by
  rintro b ⟨id,N,blk,hb,hlv,hρ⟩;rcases Eo hb with⟨h1,h2⟩|⟨_,_,h3⟩
  .exact⟨id,N,blk,h1,hlv,by rw[<-h2];exact hρ⟩
  .rw[h3]at hρ;cases hρ
 have own:=Dr hS hP;refine⟨⟨fun id b hb=> ?_,fun i j p q' b N N' hp hq lp lq r1 r2=> ?_,hr.mem,fun b hb k=>hr.sep b (own b hb) k,hr.st,hr.mny.of (fun b hb=>Ad hr (.inr hb)) hS (fun c hc=> .inl (hP c hc))⟩,⟨fun id b b' hb hb'=> ?_,Mem.le_refl _,own,fun _ _ _ h=> .inl h⟩⟩
 .rcases Eo hb with⟨h1,h2⟩|⟨h1,rfl,h3⟩
  .exact(hr.blk id b h1).Gz (I0 G q) (fun _ _ _ _=>rfl) h2
  .exact⟨hs,ho,.inl ⟨hl,h3⟩⟩
 .rcases Eo hp with⟨h1,h2⟩|⟨_,_,h3⟩
  .rcases Eo hq with⟨h4,h5⟩|⟨_,_,h6⟩
   .exact hr.inj i j p q' b N N' h1 h4 lp lq (by rw[<-h2];exact r1) (by rw[<-h5];exact r2)
   .rw[h6]at r2;cases r2
  .rw[h3]at r1;cases r1
 .obtain⟨h1,h2⟩:=Fs (q:=q) hb;rw[h1]at hb';cases hb';exact(A6.refl G id b).congr rfl h2
theorem A3.OQ(t:Nat)(q:D)(h:get S.env t=some .e0)(hs:Af q=true)(hl:AI q=0)(ho:AX q):A3 S ⟨(t,.sl S.H.length 0 (AU q))::S.env,S.H++[.a q],S.n⟩:=by
 intro ro N G a w r _;obtain⟨h1,h2⟩:=Kf r.rel hs hl ho;refine⟨G.nil q,⟨by show G.H++[.a q]=_;rw[r.heap],h1,r.size,fun u y hy=> ?_,r.marks.HV h2,fun i hi=> ?_⟩,h2⟩
 .simp only[get]at hy;split at hy
  .rename_i hb;cases hy;have:=Qi hb;subst this;obtain⟨v,hv,hrv⟩:=r.env t _ h;refine⟨v,hv,?_⟩;simp only[RV]at hrv|-;obtain⟨a,rfl⟩:=hrv;refine⟨rfl,.a q,by show(G.H++[A2.a q])[S.H.length]? =_;rw[<-r.heap];simp,rfl,om,fun _=> .inl ⟨trivial,a,rfl⟩⟩
  .obtain⟨v,hv,hrv⟩:=r.env u y hy;exact⟨v,hv,hrv.mono (I0 G q)⟩
 .obtain⟨q',l,M,q1,q2⟩:=r.round i hi;rw[<-r.heap]at q1;obtain⟨n1,n2⟩:=Fs (q:=q) q1;exact⟨q',l,M,by rw[<-r.heap];exact n1,by rw[n2];exact q2⟩
section
variable {P:Program}{ro:Qt}{ops:R0}{i:Nat}{rest:R1}{S:St}{Q:Exit->St->Prop}{E:Nat->Option AK}
theorem GE{S':St}(t:A3 S S')(hl:S.H.length<=S'.H.length)(k:Wl P ro ops i rest S' Q):Wl P ro ops i rest S Q:=by
 intro hops N G a w r;obtain⟨G',r',t'⟩:=t ro N G a w r (fun id h=>TG (r.J1 id h) hl);have kf:BE G w G' w:=(BE.refl G w).ghost t' (by rw[r.heap,r'.heap];exact hl);have hy:=k hops N G' a w r';rw[CH r r' kf]at hy;exact Am (fun _ _ _ p=>p.trans kf) _ _ _ hy
theorem II{f:FuncId}{fn:Func}{c:Code}(hE:Ai P E)(hf:P.funcs[f]? =some fn)(hb:fn.body=some c)(hname:(fn.name== "runtime.NumGoroutine")=false){args:R8}{H:RE}(hn:args.length<=fn.ntmps){R:AV->RE->Prop}
  (h:W P none c ⟨Cu 0 args,H,fn.ntmps⟩ (G9 fun S0=>∃S',A3 S0 S'/\H.length<=S'.H.length/\∃cc x,C8 E S'.env S'.H fn.results.toList=some (cc,x)/\cc=true/\R x S'.H)):Bv P f args H R:=by
 refine Ls hE hf hb hname hn (Ni h ?_);intro e S' q
 cases e with
 |normal|ret=>obtain⟨S'',t,hl,q'⟩:=q;exact⟨S'',t,hl,q'⟩
 |_=>exact q.elim
end
end Go.Gar
namespace Go.Gar
def rn:QQ->Nat->Nat->Nat
 |[],k,i=>k+i
 |a::_,_,0=>a
 |_::r,k,i+1=>rn r k i
theorem J0:∀{ids:QQ}{k i a:Nat},ids[i]? =some a->rn ids k i=a
 |[],k,i,a,h=>by simp at h
 |b::r,k,0,a,h=>by simpa[rn]using h
 |b::r,k,i+1,a,h=>by simp only[rn];exact J0 (by simpa using h)
theorem OU:∀{ids:QQ}{k i:Nat},ids.length<=i->rn ids k i=k+(i-ids.length)
 |[],k,i,h=>by simp[rn]
 |b::r,k,0,h=>by simp at h
 |b::r,k,i+1,h=>by simp only[rn,Qz];rw[OU (by simpa using h)];congr 1;omega
mutual
def AV.ren(ι:Nat->Nat):AV->AV
 | .ptr id o c=> .ptr (ι id) o c
 | .sl id n sz=> .sl (ι id) n sz
 | .bs id o n sz c=> .bs (ι id) o n sz c
 | .ep id i o n sz=> .ep (ι id) i o n sz
 | .ag cs=> .ag (AV.B4 ι cs)
 | .tup cs=> .tup (AV.B4 ι cs)
 | .fn f a b=> .fn f (AV.B4 ι a) (AV.B4 ι b)
 | .yl id=> .yl (ι id)
 | .mp id=> .mp (ι id)
 |v=>v
def AV.B4(ι:Nat->Nat):R8->R8
 |[]=>[]
 |v::r=>v.ren ι::AV.B4 ι r
end
theorem CS(ι:Nat->Nat):∀l:R8,AV.B4 ι l=l.map (AV.ren ι)
 |[]=>rfl
 |v::r=>by simp[AV.B4,CS ι r]
def La(ι:Nat->Nat):RL->RL
 |[]=>[]
 |p::r=>(p.1,p.2.ren ι)::La ι r
theorem Er(ι:Nat->Nat):∀l:RL,La ι l=l.map fun p=>(p.1,p.2.ren ι)
 |[]=>rfl
 |v::r=>by simp[La,Er ι r]
def Gj(ι:Nat->Nat):R9->R9
 |[]=>[]
 |p::r=>(p.1,p.2.ren ι)::Gj ι r
theorem Ej{ι:Nat->Nat}:∀{e:R9}{t:Nat},get (Gj ι e) t=(get e t).map (AV.ren ι)
 |[],t=>by simp[Gj,get]
 |p::r,t=>by
  obtain⟨k,v⟩:=p;simp only[Gj,get];split
  .rfl
  .exact Ej
def A2.ren(ι:Nat->Nat):A2->A2
 | .gone=> .gone
 | .c cs=> .c (AV.B4 ι cs)
 | .a x=> .a x
 | .m es=> .m (La ι es)
 | .lp r=> .lp {r with env:=Gj ι r.env}
 | .D5 b N l=> .D5 b N l
 | .many rs=> .many rs
def CG(ι:Nat->Nat):RE->RE
 |[]=>[]
 |b::r=>b.ren ι::CG ι r
theorem Iy(ι:Nat->Nat):∀l:RE,CG ι l=l.map (A2.ren ι)
 |[]=>rfl
 |v::r=>by simp[CG,Iy ι r]
theorem B3(ι:Nat->Nat)(b:A2):(b.ren ι).live=b.live:=by cases b<;>rfl
mutual
theorem RV.ren{G0 G:Gh}{ι:Nat->Nat}(hm:G0.m.le G.m)(hb:∀id b,G0.H[id]? =some b->G.H[ι id]? =some (b.ren ι)/\G.ρ (ι id)=G0.ρ id):∀{x:AV}{v:Value},RV G0 x v->RV G (x.ren ι) v
 | .d x,v,r=>by simp only[AV.ren,RV]at r|-;exact r.mono hm
 | .u,_,_=>by simp[AV.ren,RV]
 | .e0,_,r=>by simpa only[AV.ren,RV]using r
 | .dp cs,v,r=>by
  simp only[AV.ren,RV]at r|-;obtain⟨b,off,hv,hr⟩:=r;exact⟨b,off,hv,EP.mono hm hr⟩
 | .ptr id _ _,_,r| .bs id _ _ _ _,_,r=>by
  simp only[AV.ren,RV]at r|-;obtain⟨h1,blk,h2,h3⟩:=r;obtain⟨k1,k2⟩:=hb id blk h2;refine⟨h1,_,k1,?_⟩;cases blk<;>simp_all[A2.ren,CS]
 | .sl id _ _,_,r| .ep id _ _ _ _,_,r| .yl id,_,r| .mp id,_,r=>by
  simp only[AV.ren,RV]at r|-;obtain⟨h1,blk,h2,h3⟩:=r;obtain⟨k1,k2⟩:=hb id blk h2;refine⟨h1,_,k1,?_⟩;cases blk<;>simp_all[A2.ren]
 | .ag _,_,r| .tup _,_,r=>by
  simp only[AV.ren,RV]at r|-;obtain⟨vs,hv,h⟩:=r;exact⟨vs,hv,AH.ren hm hb h⟩
 | .fn f a b,v,r=>by
  simp only[AV.ren,RV]at r|-;obtain⟨p,q,hv,h1,h2⟩:=r;exact⟨p,q,hv,AH.ren hm hb h1,AH.ren hm hb h2⟩
theorem AH.ren{G0 G:Gh}{ι:Nat->Nat}(hm:G0.m.le G.m)(hb:∀id b,G0.H[id]? =some b->G.H[ι id]? =some (b.ren ι)/\G.ρ (ι id)=G0.ρ id):∀{xs:R8}{vs:Qf},AH G0 xs vs->AH G (AV.B4 ι xs) vs
 |[],_,r=>by simpa[AV.B4,AH]using r
 |x::xs,vs,r=>by
  simp only[AV.B4,AH]at r|-;obtain⟨v,q,hv,h1,h2⟩:=r;exact⟨v,q,hv,RV.ren hm hb h1,AH.ren hm hb h2⟩
end
mutual
theorem RV.Dc{G0 G:Gh}{ι:Nat->Nat}{n:Nat}(hm:G.m.le G0.m)(hb:∀id,id<n->∃b,G0.H[id]? =some b/\G.H[ι id]? =some (b.ren ι)/\G.ρ (ι id)=G0.ρ id):∀{x:AV}{v:Value},x.ok n=true->RV G (x.ren ι) v->RV G0 x v
 | .d x,v,_,r=>by simp only[AV.ren,RV]at r|-;exact r.mono hm
 | .u,_,_,_=>by simp[RV]
 | .e0,_,_,r=>by simpa only[AV.ren,RV]using r
 | .dp cs,v,_,r=>by
  simp only[AV.ren,RV]at r|-;obtain⟨b,off,hv,hr⟩:=r;exact⟨b,off,hv,EP.mono hm hr⟩
 | .ptr id _ _,_,ho,r| .bs id _ _ _ _,_,ho,r=>by
  simp only[AV.ren,RV]at r|-;obtain⟨h1,blk,h2,h3⟩:=r;obtain⟨b,k0,k1,k2⟩:=hb id (by simpa[AV.ok,S9]using ho);rw[k1]at h2;cases h2;refine⟨h1,_,k0,?_⟩;cases b<;>simp_all[A2.ren,CS]
 | .sl id _ _,_,ho,r| .ep id _ _ _ _,_,ho,r| .yl id,_,ho,r| .mp id,_,ho,r=>by
  simp only[AV.ren,RV]at r|-;obtain⟨h1,blk,h2,h3⟩:=r;obtain⟨b,k0,k1,k2⟩:=hb id (by simpa[AV.ok,S9]using ho);rw[k1]at h2;cases h2;refine⟨h1,_,k0,?_⟩;cases b<;>simp_all[A2.ren,CS]
 | .ag _,_,ho,r| .tup _,_,ho,r=>by
  simp only[AV.ren,RV]at r|-;obtain⟨vs,hv,h⟩:=r;exact⟨vs,hv,AH.Dc hm hb (by simpa[AV.ok]using ho) h⟩
 | .fn f a b,v,ho,r=>by
  simp only[AV.ren,RV]at r|-;simp only[AV.ok,Qk]at ho;obtain⟨p,q,hv,h1,h2⟩:=r;exact⟨p,q,hv,AH.Dc hm hb ho.1 h1,AH.Dc hm hb ho.2 h2⟩
theorem AH.Dc{G0 G:Gh}{ι:Nat->Nat}{n:Nat}(hm:G.m.le G0.m)(hb:∀id,id<n->∃b,G0.H[id]? =some b/\G.H[ι id]? =some (b.ren ι)/\G.ρ (ι id)=G0.ρ id):∀{xs:R8}{vs:Qf},AV.oks n xs=true->AH G (AV.B4 ι xs) vs->AH G0 xs vs
 |[],_,_,r=>by simpa[AV.B4,AH]using r
 |x::xs,vs,ho,r=>by
  simp only[AV.B4,AH]at r|-;simp only[AV.oks,Qk]at ho;obtain⟨v,q,hv,h1,h2⟩:=r;exact⟨v,q,hv,RV.Dc hm hb ho.1 h1,AH.Dc hm hb ho.2 h2⟩
end
variable {G0 G:Gh}{w:World}{ι:Nat->Nat}{i:Nat}
theorem BR.ren(hm:G0.m.le G.m)(hb:∀id b,G0.H[id]? =some b->G.H[ι id]? =some (b.ren ι)/\G.ρ (ι id)=G0.ρ id)(hρ:G.ρ (ι i)=G0.ρ i):∀{b:A2},BR G0 w i b->BR G w (ι i) (b.ren ι)
 | .gone,_=>trivial
 | .c cs,h=>by
  obtain⟨b,N,vs,T,h1,h2,h3,h4,h6⟩:=h;refine⟨b,N,vs,T,hρ.trans h1,h2,h3,by rw[CS];simpa using h4,fun k y hy=> ?_⟩;rw[CS,RX,RS]at hy;obtain⟨z,hz,rfl⟩:=hy;obtain⟨v,hv,hrv⟩:=h6 k z hz;exact⟨v,hv,hrv.ren hm hb⟩
 | .a y,h=>by
  obtain⟨h1,h2,h3⟩:=h;refine⟨h1,h2,?_⟩;rcases h3 with⟨h3,h4⟩|⟨b,N,vs,T,g1,g2,g3,g4⟩
  .exact .inl ⟨h3,hρ.trans h4⟩
  .refine .inr ⟨b,N,vs,T,hρ.trans g1,g2,g3,fun k d hd=> ?_⟩;obtain⟨v,hv,h1c,hrd⟩:=g4 k d hd;exact⟨v,hv,h1c,hrd.mono hm⟩
 | .m es,h=>by
  obtain⟨b,N,ms,cl,h1,h2,h3,h4⟩:=h;refine⟨b,N,ms,cl,hρ.trans h1,h2,by rw[Er];simpa using h3,fun k q hq=> ?_⟩;rw[Er,RX,RS]at hq;obtain⟨z,hz,rfl⟩:=hq;obtain⟨e,he,hd,hrv⟩:=h4 k z hz;exact⟨e,he,hd.mono hm,hrv.ren hm hb⟩
 | .lp r,h=>by
  obtain⟨l,N,df,tmps,h1,h2,h3,h4⟩:=h;refine⟨l,N,df,tmps,hρ.trans h1,h2,h3,fun t x hx=> ?_⟩;change get (Gj ι r.env) t=some x at hx;rw[Ej,RS]at hx;obtain⟨z,hz,rfl⟩:=hx;obtain⟨v,hv,hrv⟩:=h4 t z hz;exact⟨v,hv,hrv.ren hm hb⟩
 | .D5 _ _ _,h=>by
  obtain⟨vs,T,h1,h2⟩:=h;exact⟨vs,T,hρ.trans h1,h2⟩
 | .many _,h=>h
theorem BR.Dc{n:Nat}(hm:G.m.le G0.m)(hb:∀id,id<n->∃b,G0.H[id]? =some b/\G.H[ι id]? =some (b.ren ι)/\G.ρ (ι id)=G0.ρ id)(hρ:G.ρ (ι i)=G0.ρ i):∀{b:A2},b.ok n=true->BR G w (ι i) (b.ren ι)->BR G0 w i b
 | .gone,_,_=>trivial
 | .c cs,ho,h=>by
  obtain⟨b,N,vs,T,h1,h2,h3,h4,h6⟩:=h;rw[CS]at h4 h6;refine⟨b,N,vs,T,hρ.symm.trans h1,h2,h3,by simpa using h4,fun k y hy=> ?_⟩;obtain⟨v,hv,hrv⟩:=h6 k (y.ren ι) (by simp[hy]);exact⟨v,hv,hrv.Dc hm hb (Ki ho hy)⟩
 | .a y,_,h=>by
  obtain⟨h1,h2,h3⟩:=h;refine⟨h1,h2,?_⟩;rcases h3 with⟨h3,h4⟩|⟨b,N,vs,T,g1,g2,g3,g4⟩
  .exact .inl ⟨h3,hρ.symm.trans h4⟩
  .refine .inr ⟨b,N,vs,T,hρ.symm.trans g1,g2,g3,fun k d hd=> ?_⟩;obtain⟨v,hv,h1c,hrd⟩:=g4 k d hd;exact⟨v,hv,h1c,hrd.mono hm⟩
 | .m es,ho,h=>by
  obtain⟨b,N,ms,cl,h1,h2,h3,h4⟩:=h;rw[Er]at h3 h4;refine⟨b,N,ms,cl,hρ.symm.trans h1,h2,by simpa using h3,fun k q hq=> ?_⟩;obtain⟨e,he,hd,hrv⟩:=h4 k (q.1,q.2.ren ι) (by simp[hq]);exact⟨e,he,hd.mono hm,hrv.Dc hm hb (HO ho hq)⟩
 | .lp r,ho,h=>by
  obtain⟨l,N,df,tmps,h1,h2,h3,h4⟩:=h;refine⟨l,N,df,tmps,hρ.symm.trans h1,h2,h3,fun t x hx=> ?_⟩;obtain⟨v,hv,hrv⟩:=h4 t (x.ren ι) (by show get (Gj ι r.env) t=_;rw[Ej,hx];rfl);exact⟨v,hv,hrv.Dc hm hb (FA ho hx)⟩
 | .D5 _ _ _,_,h=>by
  obtain⟨vs,T,h1,h2⟩:=h;exact⟨vs,T,hρ.symm.trans h1,h2⟩
 | .many _,_,h=>h
theorem A6.ren{G0' G':Gh}{j:Nat}{b b':A2}(h:A6 G0 G0' i b b')(e:G.ρ j=G0.ρ i)(e':G'.ρ j=G0'.ρ i):A6 G G' j (b.ren ι) (b'.ren ι):=by
 cases b<;>cases b'<;>simp only[A6,A2.ren]at h|-<;>simp_all[CS]
def F7:QQ->RE->RE->RE
 |[],H,l=>H++l
 |a::r,H,b::l=>F7 r (H.set a b) l
 |_::_,H,[]=>H
theorem KJ:∀{ids:QQ}{H l:RE}{j:Nat},ids.Nodup->ids.length<=l.length->(∀a∈ids,a<H.length)->
  (F7 ids H l)[j]? =if j∈ids then l[ids.idxOf j]? else if j<H.length then H[j]? else l[ids.length+(j-H.length)]?
 |[],H,l,j,_,_,_=>by
  simp only[F7,List.not_mem_nil,SY,RY,RZ];split
  .rename_i h;rw[Qq h]
  .rename_i h;rw[Qx om]
 |a::r,H,[],j,_,hl,_=>by simp at hl
 |a::r,H,b::l,j,hn,hl,ha=>by
  obtain⟨h1,h2⟩:=Sj.1 hn;simp only[F7];rw[KJ h2 (by simpa using hl) (fun c hc=>by simpa using ha c (by simp[hc]))]
  by_cases hj:j=a
  .subst hj;have hlt:=ha j sm;have e1:(H.set j b).length=H.length:=by simp
   have e2:j∈j::r:=by simp
   simp only[h1,SY,e1,hlt,SG,e2,Qs,List.idxOf_cons_self,List.getElem?_cons_zero]
  .have e3:(j∈a::r)↔(j∈r):=by simp[hj]
   by_cases hr:j∈r
   .have e4:(a::r).idxOf j=r.idxOf j+1:=by
     rw[List.idxOf_cons];have:(a==j)=false:=by simpa using(Ne.symm hj)
     rw[this];rfl
    simp only[hr,SG,e3,e4,List.getElem?_cons_succ]
   .simp only[hr,SY,e3,SS];split
    .rw[RG (Ne.symm hj)]
    .simp only[Qz];rw[show r.length+1+(j-H.length)=r.length+(j-H.length)+1 by omega];simp
def Az(ι:Nat->Nat)(H2:RE):QQ->RE->Prop
 |[],[]=>True
 |a::r,b::l=>H2[a]? =some (b.ren ι)/\Az ι H2 r l
 |_,_=>False
theorem Gb{ι:Nat->Nat}{H2:RE}:∀{ids:QQ}{H:RE},Az ι H2 ids H->ids.length=H.length
 |[],[],_=>rfl
 |a::r,b::l,h=>by simp only[Qz];rw[Gb h.2]
 |[],_::_,h=>h.elim
 |_::_,[],h=>h.elim
theorem CE{ι:Nat->Nat}{H2:RE}:∀{ids:QQ}{H:RE},Az ι H2 ids H->∀{i:Nat}{b:A2},H[i]? =some b->∃a,ids[i]? =some a/\H2[a]? =some (b.ren ι)
 |[],[],_,i,b,hb=>by simp at hb
 |a::r,c::l,h,0,b,hb=>by simp at hb;subst hb;exact⟨a,sm,h.1⟩
 |a::r,c::l,h,i+1,b,hb=>by
  obtain⟨x,h1,h2⟩:=CE h.2 (i:=i) (by simpa using hb);exact⟨x,by simpa using h1,h2⟩
 |[],_::_,h,_,_,_=>h.elim
 |_::_,[],h,_,_,_=>h.elim
variable {H H2:RE}{ids:QQ}
theorem FJ{G0':Gh}{w':World}(hG:G.H=H2)(hn:ids.Nodup)(hm:Az (rn ids H2.length) H2 ids H)(hr:AD G w)(hf:BE ⟨fun i=>G.ρ (rn ids H2.length i),H,G.m⟩ w G0' w')(h':AD G0' w'):
  ∃G'':Gh,G''.H=F7 ids H2 (CG (rn ids H2.length) G0'.H)/\AD G'' w'/\BE G w G'' w'/\G0'.m.le G''.m/\(∀id b,G0'.H[id]? =some b->G''.H[rn ids H2.length id]? =some (b.ren (rn ids H2.length))/\G''.ρ (rn ids H2.length id)=G0'.ρ id):=by
 generalize hι:rn ids H2.length=ι at *;have hlen:ids.length=H.length:=Gb hm;have hgl:H.length<=G0'.H.length:=hf.gle.len
 have hid:∀a∈ids,a<H2.length:=by
  intro a ha;obtain⟨i,hi,rfl⟩:=List.mem_iff_getElem.1 ha;obtain⟨x,h1,h2⟩:=CE hm (i:=i) (b:=H[i]'om) sm;rw[Qm hi]at h1;cases h1;exact(Qh.1 h2).1
 have lowι:∀i (hi:i<ids.length),ι i=ids[i]:=fun i hi=>by rw[<-hι];exact J0 (Qm hi)
 have highι:∀i,ids.length<=i->ι i=H2.length+(i-ids.length):=fun i hi=>by rw[<-hι];exact OU hi
 let κ:Nat->Qt:=fun j=>if j∈ids then some (ids.idxOf j)else if j<H2.length then none else some (ids.length+(j-H2.length))
 have κι:∀i,κ (ι i)=some i:=by
  intro i;rcases RJ i ids.length with hi|hi
  .rw[lowι i hi];simp only[κ];rw[Rf (List.getElem_mem hi),hn.idxOf_getElem i hi]
  .rw[highι i hi];simp only[κ];rw[Rw (fun h=>by have:=hid _ h;omega),Rw om]
   congr 1;omega
 have ικ:∀j i,κ j=some i->ι i=j:=by
  intro j i h;simp only[κ]at h;split at h
  .rename_i hj;cases h;rw[lowι _ (List.idxOf_lt_length_of_mem hj),List.getElem_idxOf]
  .split at h
   .cases h
   .cases h;rw[highι _ om];omega
 let K:Gh:=⟨fun j=>match κ j with|some i=>G0'.ρ i|none=>G.ρ j,F7 ids H2 (CG ι G0'.H),G0'.m⟩;have kρ1:∀i,K.ρ (ι i)=G0'.ρ i:=fun i=>by show(match κ (ι i)with|some i=>G0'.ρ i|none=>G.ρ (ι i))=_;rw[κι]
 have kρ2:∀j,κ j=none->K.ρ j=G.ρ j:=fun j h=>by show(match κ j with|some i=>G0'.ρ i|none=>G.ρ j)=_;rw[h]
 have kget:∀j,K.H[j]? =match κ j with|some i=>(G0'.H[i]?).map (A2.ren ι)|none=>H2[j]?:=by
  intro j;show(F7 ids H2 (CG ι G0'.H))[j]? =_;rw[Iy,KJ hn (by simp;omega) hid];simp only[κ];split
  .simp
  .split
   .rfl
   .simp
 have kup:∀id b,G0'.H[id]? =some b->K.H[ι id]? =some (b.ren ι)/\K.ρ (ι id)=G0'.ρ id:=by
  intro id b hb;refine⟨?_,kρ1 id⟩;rw[kget,κι];simp[hb]
 have up0:∀id b,H[id]? =some b->G.H[ι id]? =some (b.ren ι):=by
  intro id b hb;obtain⟨a,h1,h2⟩:=CE hm hb;have:ι id=a:=by rw[<-hι];exact J0 h1
  rw[this,hG];exact h2
 have own0:∀b,Own ⟨fun i=>G.ρ (ι i),H,G.m⟩ b->Own G b:=by
  rintro b (⟨i,N,q,hq,hl,hρ⟩|⟨i,rs,hq,hc⟩)
  .exact .inl ⟨ι i,N,_,up0 i q hq,by rw[B3];exact hl,hρ⟩
  .exact .inr ⟨ι i,rs,up0 i _ hq,hc⟩
 have split:∀j b,K.H[j]? =some b->(∃i b0,ι i=j/\κ j=some i/\G0'.H[i]? =some b0/\b=b0.ren ι)\/(κ j=none/\G.H[j]? =some b):=by
  intro j b hb;rw[kget]at hb
  cases hk:κ j with
  |none=>rw[hk]at hb;exact .inr ⟨rfl,by rw[hG];exact hb⟩
  |some i=>
   rw[hk]at hb;simp only[RS]at hb;obtain⟨b0,h1,h2⟩:=hb;exact .inl ⟨i,b0,ικ j i hk,rfl,h1,h2.symm⟩
 have far:∀j b N q,κ j=none->G.H[j]? =some q->q.live=true->G.ρ j=some (b,N)->b<w.heap.size/\¬Own ⟨fun i=>G.ρ (ι i),H,G.m⟩ b:=by
  intro j b N q hk hq hl hρ;refine⟨Ad hr (.inl ⟨j,N,q,hq,hl,hρ⟩),?_⟩;rintro(⟨i,N',q',hq',hl',hρ'⟩|⟨i,rs,hq',hc⟩)
  case inr=>exact((hr.mny (ι i) rs (up0 i _ hq')).2 b hc).1 ⟨j,N,q,hq,hl,hρ⟩
  have:=hr.inj j (ι i) q _ b N N' hq (up0 i q' hq') hl (by rw[B3];exact hl') hρ hρ';rw[this,κι]at hk;cases hk
 have farS:∀(j:Nat)(rs:List (Option (Nat×Nat×A5)))(b:Nat),κ j=none->G.H[j]? =some (.many rs)->b∈BX rs->b<w.heap.size/\¬Own ⟨fun i=>G.ρ (ι i),H,G.m⟩ b:=by
  intro j rs b hk hq hc;refine⟨Ad hr (.inr ⟨j,rs,hq,hc⟩),?_⟩;rintro(⟨i,N',q',hq',hl',hρ'⟩|⟨i,rs',hq',hc'⟩)
  .exact((hr.mny j rs hq).2 b hc).1 ⟨ι i,N',_,up0 i q' hq',by rw[B3];exact hl',hρ'⟩
  .have:=((hr.mny j rs hq).2 b hc).2 (ι i) rs' (up0 i _ hq') hc';rw[<-this,κι]at hk;cases hk
 have splitS:∀(j:Nat)(rs:List (Option (Nat×Nat×A5))),K.H[j]? =some (.many rs)->(∃i,ι i=j/\κ j=some i/\G0'.H[i]? =some (.many rs))\/(κ j=none/\G.H[j]? =some (.many rs)):=by
  intro j rs hb;rcases split j _ hb with⟨i,b0,h1,h2,h3,h4⟩|h
  .cases b0<;>simp only[A2.ren,reduceCtorEq,A2.many.injEq]at h4;subst h4;exact .inl ⟨i,h1,h2,h3⟩
  .exact .inr h
 have ownP:∀b,B8 K b->B8 G0' b\/(B8 G b/\b<w.heap.size/\¬Own ⟨fun i=>G.ρ (ι i),H,G.m⟩ b):=by
  rintro b ⟨j,N,q,hq,hl,hρ⟩;rcases split j q hq with⟨i,b0,rfl,_,h3,rfl⟩|⟨h1,h2⟩
  .exact .inl ⟨i,N,b0,h3,by rw[B3]at hl;exact hl,by rw[<-kρ1];exact hρ⟩
  .rw[kρ2 j h1]at hρ;exact .inr ⟨⟨j,N,q,h2,hl,hρ⟩,far j b N q h1 h2 hl hρ⟩
 have ownK:∀b,Own K b->Own G0' b\/(Own G b/\b<w.heap.size/\¬Own ⟨fun i=>G.ρ (ι i),H,G.m⟩ b):=by
  rintro b (h|⟨j,rs,hq,hc⟩)
  .rcases ownP b h with h|⟨h1,h2⟩
   .exact .inl (.inl h)
   .exact .inr ⟨.inl h1,h2⟩
  .rcases splitS j rs hq with⟨i,rfl,_,h3⟩|⟨h1,h2⟩
   .exact .inl (.inr ⟨i,rs,h3,hc⟩)
   .exact .inr ⟨.inr ⟨j,rs,h2,hc⟩,farS j rs b h1 h2 hc⟩
 have g2:DN G K:=by
  refine⟨fun j b hb=> ?_,hf.gle.mem⟩
  cases hk:κ j with
  |none=>exact⟨b,by rw[kget,hk,<-hG];exact hb,(A6.refl G j b).congr rfl (kρ2 j hk)⟩
  |some i=>
   have hj:j<H2.length:=by rw[<-hG];exact(Qh.1 hb).1
   have hi:i<ids.length:=by
    simp only[κ]at hk;split at hk
    .rename_i hm;cases hk;exact List.idxOf_lt_length_of_mem hm
    .simp[hj]at hk
   have hji:=ικ j i hk;subst hji;have hb1:=up0 i _ (Qm (l:=H) (by omega:i<H.length));rw[hb]at hb1;cases hb1;obtain⟨b',hb',hs⟩:=hf.gle.blk i H[i] (Qm (by omega:i<H.length));exact⟨_,(kup i b' hb').1,hs.ren rfl (kρ1 i)⟩
 refine⟨K,rfl,⟨fun j b hb=> ?_,fun i j p q b N N' hp hq lp lq r1 r2=> ?_,h'.mem,fun b hb k=> ?_,h'.st,fun j rs hj=> ?_⟩,⟨hf.os,hf.tape,hf.output,hf.size,fun b hb ho=> ?_,fun b k v hv=> ?_,g2⟩,Mem.le_refl _,kup⟩
 .rcases split j b hb with⟨i,b0,rfl,_,h3,rfl⟩|⟨h1,h2⟩
  .exact BR.ren (G0:=G0') (G:=K) (ι:=ι) (Mem.le_refl _) kup (kρ1 i) (h'.blk i b0 h3)
  .refine(hr.blk j b h2).Gz g2 (fun q N hl hρ=> ?_) (kρ2 j h1) (fun rs e c hc=>by
    subst e;obtain⟨f1,f2⟩:=farS j rs c h1 h2 hc
    exact(hf.keep c f1 f2).1)
   obtain⟨f1,f2⟩:=far j q N b h1 h2 hl hρ;exact(hf.keep q f1 f2).1
 .rcases split i p hp with⟨i0,p0,rfl,_,h3,rfl⟩|⟨h1,h2⟩
  .rw[kρ1]at r1;rw[B3]at lp;rcases split j q hq with⟨j0,q0,rfl,_,h6,rfl⟩|⟨h4,h5⟩
   .rw[kρ1]at r2;rw[B3]at lq;rw[h'.inj i0 j0 p0 q0 b N N' h3 h6 lp lq r1 r2]
   .rw[kρ2 j h4]at r2;obtain⟨f1,f2⟩:=far j b N' q h4 h5 lq r2;exact absurd (.inl ⟨i0,N,p0,h3,lp,r1⟩) (hf.keep b f1 f2).2
  .rw[kρ2 i h1]at r1;rcases split j q hq with⟨j0,q0,rfl,_,h6,rfl⟩|⟨h4,h5⟩
   .rw[kρ1]at r2;rw[B3]at lq;obtain⟨f1,f2⟩:=far i b N p h1 h2 lp r1;exact absurd (.inl ⟨j0,N',q0,h6,lq,r2⟩) (hf.keep b f1 f2).2
   .rw[kρ2 j h4]at r2;exact hr.inj i j p q b N N' h2 h5 lp lq r1 r2
 .rcases ownK b hb with h|⟨h1,h2,h3⟩
  .exact h'.sep b h k
  .cases hm:G0'.m b k with
   |none=>rfl
   |some v=>
    rcases hf.memNew b k v hm with h|h|h
    .have:=hr.sep b h1 k;rw[show G.m b k=some v from h]at this;cases this
    .exact absurd h h3
    .omega
 .rcases splitS j rs hj with⟨i,rfl,_,h3⟩|⟨h1,h2⟩
  .obtain⟨m1,m2⟩:=h'.mny i rs h3;refine⟨m1,fun b hb=>⟨fun h=> ?_,fun j' rs' hj' hb'=> ?_⟩⟩
   .rcases ownP b h with h|⟨_,f1,f2⟩
    .exact(m2 b hb).1 h
    .exact(hf.keep b f1 f2).2 (.inr ⟨i,rs,h3,hb⟩)
   .rcases splitS j' rs' hj' with⟨i',rfl,_,h3'⟩|⟨h1',h2'⟩
    .rw[(m2 b hb).2 i' rs' h3' hb']
    .obtain⟨f1,f2⟩:=farS j' rs' b h1' h2' hb';exact absurd (.inr ⟨i,rs,h3,hb⟩) (hf.keep b f1 f2).2
  .obtain⟨m1,m2⟩:=hr.mny j rs h2;refine⟨m1,fun b hb=> ?_⟩;obtain⟨f1,f2⟩:=farS j rs b h1 h2 hb;refine⟨fun h=> ?_,fun j' rs' hj' hb'=> ?_⟩
   .rcases ownP b h with h|⟨h,_⟩
    .exact(hf.keep b f1 f2).2 (.inl h)
    .exact(m2 b hb).1 h
   .rcases splitS j' rs' hj' with⟨i',rfl,_,h3'⟩|⟨_,h2'⟩
    .exact absurd (.inr ⟨i',rs',h3',hb'⟩) (hf.keep b f1 f2).2
    .exact(m2 b hb).2 j' rs' h2' hb'
 .obtain⟨h1,h2⟩:=hf.keep b hb (fun h=>ho (own0 b h));refine⟨h1,fun h=> ?_⟩;rcases ownK b h with h|⟨h,_⟩
  .exact h2 h
  .exact ho h
 .rcases hf.memNew b k v hv with h|h|h
  .exact .inl h
  .exact .inr (.inl (own0 b h))
  .exact .inr (.inr h)
theorem Fx(hG:G.H=H2)(hn:ids.Nodup)(hm:Az (rn ids H2.length) H2 ids H)(hr:AD G w)(ho:AM H.length H=true):
  AD ⟨fun i=>G.ρ (rn ids H2.length i),H,G.m⟩ w/\∀{x:R8}{vs:Qf},AV.oks H.length x=true->AH G (AV.B4 (rn ids H2.length) x) vs->AH ⟨fun i=>G.ρ (rn ids H2.length i),H,G.m⟩ x vs:=by
 generalize hι:rn ids H2.length=ι at*
 have up0:∀id b,H[id]? =some b->G.H[ι id]? =some (b.ren ι)/\∃h:id<ids.length,ι id=ids[id]:=by
  intro id b hb;obtain⟨a,h1,h2⟩:=CE hm hb;have e:ι id=a:=by rw[<-hι];exact J0 h1
  obtain⟨h3,h4⟩:=Qh.1 h1;exact⟨by rw[e,hG];exact h2,h3,by rw[e,h4]⟩
 let G0:Gh:=⟨fun i=>G.ρ (ι i),H,G.m⟩
 have hb:∀id,id<H.length->∃b,G0.H[id]? =some b/\G.H[ι id]? =some (b.ren ι)/\G.ρ (ι id)=G0.ρ id:=
  fun id hid=>⟨H[id],Qm hid,(up0 id _ (Qm hid)).1,rfl⟩
 refine⟨⟨fun i b hbi=> ?_,fun i j p q b N N' hp hq lp lq r1 r2=> ?_,hr.mem,fun b hb k=> ?_,hr.st,fun i rs hi=> ?_⟩,fun hx h=>AH.Dc (G0:=G0) (G:=G) (ι:=ι) (Mem.le_refl _) hb hx h⟩
 .exact BR.Dc (G0:=G0) (G:=G) (ι:=ι) (Mem.le_refl _) hb rfl (EL ho hbi) (hr.blk _ _ (up0 i b hbi).1)
 .obtain⟨e1,e2,e3⟩:=up0 i p hp;obtain⟨f1,f2,f3⟩:=up0 j q hq;have:=hr.inj _ _ _ _ b N N' e1 f1 (by rw[B3];exact lp) (by rw[B3];exact lq) r1 r2;rw[e3,f3]at this;exact(List.getElem_inj hn).1 this
 .rcases hb with⟨i,N,q,hq,hl,hρ⟩|⟨i,rs,hq,hc⟩
  .exact hr.sep b (.inl ⟨ι i,N,_,(up0 i q hq).1,by rw[B3];exact hl,hρ⟩) k
  .exact hr.sep b (.inr ⟨ι i,rs,(up0 i _ hq).1,hc⟩) k
 .obtain⟨e1,e2,e3⟩:=up0 i _ hi;obtain⟨m1,m2⟩:=hr.mny _ rs e1;refine⟨m1,fun b hb=>⟨?_,fun i' rs' hi' hb'=> ?_⟩⟩
  .rintro⟨j,N,q,hq,hl,hρ⟩;exact(m2 b hb).1 ⟨ι j,N,_,(up0 j q hq).1,by rw[B3];exact hl,hρ⟩
  .obtain⟨f1,f2,f3⟩:=up0 i' _ hi';have:=(m2 b hb).2 _ rs' f1 hb';rw[e3,f3]at this;exact(List.getElem_inj hn).1 this
theorem Bv.ren{P:Program}{f:FuncId}{args:R8}{R:AV->RE->Prop}(ids:QQ)(h:Bv P f args H R)(hn:ids.Nodup)(hm:Az (rn ids H2.length) H2 ids H)(ho:AM H.length H=true)(ha:AV.oks H.length args=true):
  Bv P f (AV.B4 (rn ids H2.length) args) H2 fun r H2'=>∃r' H',R r' H'/\r=r'.ren (rn ids H2.length)/\H2'=F7 ids H2 (CG (rn ids H2.length) H'):=by
 refine⟨h.1,fun G w vs hG hr hargs=> ?_⟩;obtain⟨h1,h2⟩:=Fx hG hn hm hr ho;refine(h.2 _ w vs rfl h1 (h2 ha hargs)).mono ?_;rintro e w' ⟨v,r,G0',rfl,hR,hv,hr',hfr⟩;obtain⟨G'',q1,q2,q3,q4,q5⟩:=FJ hG hn hm hr hfr hr';exact⟨v,_,G'',rfl,⟨r,G0'.H,hR,rfl,q1⟩,hv.ren q4 q5,q2,q3⟩
end Go.Gar
namespace Go.Gar
def Df(P:Program)(f:FuncId)(args:R8)(H:RE)(r:AV)(H':RE):Prop:=Bv P f args H fun x K=>x=r/\K=H'
def nodupB:QQ->Bool
 |[]=>true
 |a::r=>(r.all fun b=> !(Nat.beq a b))&&nodupB r
theorem Bz:∀{l:QQ},nodupB l=true->l.Nodup
 |[],_=>List.nodup_nil
 |a::r,h=>by
  simp only[nodupB,Qk,TA]at h;refine Sj.2 ⟨fun ha=> ?_,Bz h.2⟩;have:=h.1 a ha;simp at this
theorem Df.ren{P:Program}{f:FuncId}{args:R8}{H H2:RE}{r:AV}{H':RE}(ids:QQ)(h:Df P f args H r H')(hn:nodupB ids=true)(hm:Az (rn ids H2.length) H2 ids H)(ho:AM H.length H=true)(ha:AV.oks H.length args=true):
  Df P f (AV.B4 (rn ids H2.length) args) H2 (r.ren (rn ids H2.length)) (F7 ids H2 (CG (rn ids H2.length) H')):=
 (Bv.ren ids h (Bz hn) hm ho ha).mono fun x K ⟨r',H'',⟨h1,h2⟩,h3,h4⟩=>by subst h1;subst h2;exact⟨h3,h4⟩
section
variable {P:Program}{ro:Qt}{ops:R0}{i:Nat}{rest:R1}{S S0:St}{Q:Exit->St->Prop}{o:Oper}{E:Nat->Option AK}{A:Prop}{acc:List Rc}
variable {args:R8}{H:RE}{r:AV}{H':RE}
theorem Wl_D{g:Nat}(ids:QQ)(hF:Df P g args H r H')(hg:A4 ops S.env o=some true)(h:Ab S.env o.op=some (g,AV.B4 (rn ids S.H.length) args))(hd:AA o.dst S.n=true)(hm:Az (rn ids S.H.length) S.H ids H)(hn:nodupB ids=true)(ho:AM H.length H=true)(ha:AV.oks H.length args=true)(k:Wl P ro ops (i+1) rest ⟨AW o.dst (r.ren (rn ids S.H.length)) S.env,F7 ids S.H (CG (rn ids S.H.length) H'),S.n⟩ Q):Wl P ro ops i (o::rest) S Q:=
 Om hg h hd (hF.ren ids hn hm ho ha) fun x K ⟨h1,h2⟩=>by subst h1;subst h2;exact k
theorem Wd_D{g:Nat}(ids:QQ)(hF:Df P g args H r H')(hg:A4 ops (B7 (looks ops o) S.env) o=some true)(h:Ab (B7 (looks ops o) S.env) o.op=some (g,AV.B4 (rn ids S.H.length) args))(hd:AA o.dst S.n=true)(hm:Az (rn ids S.H.length) S.H ids H)(hn:nodupB ids=true)(ho:AM H.length H=true)(ha:AV.oks H.length args=true)(hk:Wd P ro E ops S0 A (⟨B7 (looks ops o) S.env,S.H,r.ren (rn ids S.H.length),.eff⟩::acc) rest ⟨AW o.dst (r.ren (rn ids S.H.length)) S.env,F7 ids S.H (CG (rn ids S.H.length) H'),S.n⟩):Wd P ro E ops S0 A acc (o::rest) S:=
 Wd_T hg h hd (hF.ren ids hn hm ho ha) hk
theorem Lr{f:FuncId}{fn:Func}{c:Code}(hE:Ai P E)(hf:P.funcs[f]? =some fn)(hb:fn.body=some c)(hname:(fn.name== "runtime.NumGoroutine")=false)(hn:args.length<=fn.ntmps)(h:W P none c ⟨Cu 0 args,H,fn.ntmps⟩ (G9 fun S0=>∃S',A3 S0 S'/\H.length<=S'.H.length/\∃cc x,C8 E S'.env S'.H fn.results.toList=some (cc,x)/\cc=true/\x=r/\S'.H=H')):Df P f args H r H':=
 II hE hf hb hname hn h
def Lp.is(r:Lp)(n:Nat)(env:R9)(ps:Array Tmp)(asg body:Code):Prop:=
 r.state= .ready/\r.pending=none/\r.n=n/\r.env=env/\r.params=ps/\r.assign=asg/\r.body=body
def Lp.busy(r:Lp):Lp:=r.at_ .busy none
def Lp.left(r:Lp)(c:Code):Lp:=r.at_ .done (some c)
def Lp.out(r:Lp):Lp:=r.at_ .exhausted r.pending
variable {ps:Array Tmp}
theorem M0{g:Operand}{asg body:Code}{f:FuncId}{first cap:R8}(K:Lp->AV->RE->Prop)(hg:Bh S.env g=some (.fn (.func f) first cap))(seq:∀r,r.is S.n S.env ps asg body->Bv P f (first++[.yl S.H.length]++cap) (S.H++[.lp r]) (K r))(k:∀r,r.is S.n S.env ps asg body->∀x H',K r x H'->
   (H'[S.H.length]? =some (.lp r)/\Q .normal ⟨S.env,H'.set S.H.length (.lp r.out),S.n⟩)\/
   ∃c,H'[S.H.length]? =some (.lp (r.left c))/\W P ro c ⟨S.env,H'.set S.H.length (.lp (r.left c).out),S.n⟩ Q):W P ro (.rangeFunc g ps asg body) S Q:=by
 refine Nk (K:=fun x H'=>∃fn,K ⟨.ready,none,fn,S.n,S.env,ps,asg,body⟩ x H') hg (fun fn=>(seq _ ⟨rfl,rfl,rfl,rfl,rfl,rfl,rfl⟩).mono fun x H h=>⟨fn,h⟩) ?_;rintro x H' ⟨fn,h⟩;rcases k _ ⟨rfl,rfl,rfl,rfl,rfl,rfl,rfl⟩ x H' h with⟨h1,h2⟩|⟨c,h1,h2⟩
 .exact⟨_,h1,rfl,h2⟩
 .exact⟨_,h1,rfl,h2⟩
def QA(id n:Nat)(r:Lp)(R:AV->RE->Prop)(e:Exit)(S:St):Prop:=
 ∃S'',A3 S S''/\n<=S''.H.length/\S''.H[id]? =some (.lp r.busy)/\
  match e with
  | .normal=>R (.d (.b true)) (S''.H.set id (.lp r))
  | .ret=>R (.d (.b false)) (S''.H.set id (.lp (r.left .ret)))
  | .exit i=>R (.d (.b false)) (S''.H.set id (.lp (r.left (.exit i))))
  | .goto l=>R (.d (.b false)) (S''.H.set id (.lp (r.left (.goto l))))
  |_=>False
def QAs(P:Program)(id n:Nat)(r:Lp)(body:Code)(R:AV->RE->Prop):Exit->St->Prop
 | .normal,S=>S.H[id]? =some (.lp r)/\W P (some id) body ⟨S.env,S.H.set id (.lp r.busy),S.n⟩ (QA id n r R)
 |_,_=>False
theorem Lp.Nw{r:Lp}(h:r.state= .ready)(h2:r.pending=none):r.busy.at_ .ready none=r:=by
 obtain⟨a,b,c,d,e,f,g,i⟩:=r;subst h;subst h2;rfl
theorem BN{id n:Nat}{env:R9}{asg body:Code}{r:Lp}{R:AV->RE->Prop}(hr:r.is n env ps asg body)(hid:H[id]? =some (.lp r))(hlen:args.length=ps.size)(hps:(ps.toList.all fun t=>Nat.blt t n)=true)(hb:W P (some id) asg ⟨Iu ps.toList args env,H,n⟩ (QAs P id H.length r body R)):YT P id args H R:=by
 obtain⟨h1,h2,h3,h4,h5,h6,h7⟩:=hr;subst h3;subst h4;subst h5;subst h6;subst h7;refine Nr hid h1 hlen (fun t ht=> ?_) (hb.mono ?_)
 .rw[TA]at hps;have:=hps t ht;simpa[S9]using this
 .intro e S q
  cases e with
  |normal=>
   obtain⟨q1,q2⟩:=q;refine⟨r,q1,h1,?_⟩;rw[h2];refine W.mono q2 ?_;rintro e S' ⟨S'',t,hl,hi,hm⟩;have hlt:=(Qh.1 hi).1
   cases e with
   |normal=>exact⟨none,rfl,S'',t,hl,hlt,_,hi,by rw[show Fy none= .ready from rfl,Lp.Nw h1 h2];exact hm⟩
   |ret=>exact⟨some .ret,rfl,S'',t,hl,hlt,_,hi,hm⟩
   |exit i=>exact⟨some (.exit i),rfl,S'',t,hl,hlt,_,hi,hm⟩
   |goto l=>exact⟨some (.goto l),rfl,S'',t,hl,hlt,_,hi,hm⟩
   |_=>exact hm.elim
  |_=>exact q.elim
end
end Go.Gar
namespace Go.Gar
theorem AP(u:UInt8):Cw .i64 (u.toNat:Int)=true:=by
 have:=u.toNat_lt;simp[Cw];omega
theorem Iq(a b:Nat):Nat.beq a b=decide (a=b):=by
 by_cases h:a=b
 .subst h;simp
 .rw[decide_eq_false h];cases hb:Nat.beq a b with
  |false=>rfl
  |true=>exact absurd (Qi hb) h
theorem Ln(n:Int):Cb .i64 n=n:=rfl
theorem NT(n:Int):Cb .u8 n=n%256:=by
 simp[Cb,IntKind.wrap,IntKind.bits,IntKind.signed]
theorem Lo(n:Int):Cb .u64 n=n%18446744073709551616:=by
 simp[Cb,IntKind.wrap,IntKind.bits,IntKind.signed]
theorem Ih(n:Int):IntKind.wrap .u8 n=n%256:=by
 simp[IntKind.wrap,IntKind.bits,IntKind.signed]
theorem GU(n:Int)(k:Nat):n.fdiv ((k:Nat):Int)=n/(k:Int):=Int.fdiv_eq_ediv_of_nonneg n (RF k)
theorem shr8(n:Int):n.fdiv (2^min 8 64)=n/256:=GU n 256
theorem Q2(n:Int):n.fdiv (2^min 16 64)=n/65536:=GU n 65536
theorem Q3(n:Int):n.fdiv (2^min 32 64)=n/4294967296:=GU n 4294967296
theorem tF{p:Prop}(h:true=false):p:=absurd h (by decide)
theorem fT{p:Prop}(h:false=true):p:=absurd h (by decide)
theorem CV:(∀(p:Prop)[Decidable p],(decide p=true)↔p)/\(∀(p:Prop)[Decidable p],(decide p=false)↔¬p)/\(∀b:Bool,((!b)=true)↔b=false)/\(∀b:Bool,((!b)=false)↔b=true)/\
  (∀(α:Type)[BEq α][LawfulBEq α](a b:α),((a==b)=true)↔a=b)/\(∀(α:Type)[BEq α][LawfulBEq α](a b:α),((a==b)=false)↔¬a=b)/\(∀(α:Type)[BEq α][LawfulBEq α](a b:α),((a !=b)=true)↔¬a=b)/\(∀(α:Type)[BEq α][LawfulBEq α](a b:α),((a !=b)=false)↔a=b)/\
  (∀(α:Type)(a b:α),(a≠b)↔¬a=b)/\(∀a b:Int,(¬a<b)↔b<=a)/\(∀a b:Int,(¬a<=b)↔b<a)/\(∀(α:Type)[LE α](a b:α),(a>=b)↔b<=a)/\(∀(α:Type)[LT α](a b:α),(a>b)↔b<a):=
 ⟨fun p _=>decide_eq_true_iff,fun p _=>decide_eq_false_iff_not,fun b=>by cases b<;>simp,fun b=>by cases b<;>simp,fun α _ _ a b=>beq_iff_eq,fun α _ _ a b=>beq_eq_false_iff_ne,fun α _ _ a b=>bne_iff_ne,fun α _ _ a b=>bne_eq_false_iff_eq,fun α a b=>Iff.rfl,fun a b=>Int.not_lt,fun a b=>Int.not_le,fun α _ a b=>Iff.rfl,fun α _ a b=>Iff.rfl⟩
theorem EN:(∀n,Cb .i64 n=n)/\(∀n,Cb .u8 n=n%256)/\(∀n,Cb .u64 n=n%18446744073709551616)/\(∀n,IntKind.wrap .u8 n=n%256)/\IntKind.bits .i64=64/\IntKind.bits .u8=8/\IntKind.bits .u64=64/\
  (∀n:Int,n.fdiv (2^min 8 64)=n/256)/\(∀n:Int,n.fdiv (2^min 16 64)=n/65536)/\(∀n:Int,n.fdiv (2^min 32 64)=n/4294967296)/\
  (∀l,AI (.by l)=l.length)/\(∀l,AI (.is l)=l.length)/\(∀k l,AI (.sl k l)=l.length)/\(∀l,AU (.by l)=1)/\(∀l,AU (.is l)=1)/\(∀k l,AU (.sl k l)=k)/\
  (∀{α:Type}(a:α)(l:List α),(a::l).length=l.length+1)/\(∀{α:Type},([]:List α).length=0)/\(∀{α β:Type}(f:α->β)(l:List α),(l.map f).length=l.length)/\
  (∀n:Int,0+n=n)/\(∀n:Int,n+0=n)/\(∀n:Nat,0+n=n)/\(∀n:Nat,n+0=n)/\(∀n:Nat,(n:Int).toNat=n)/\
  (∀{α:Type}(a:α)(l:List α)(d:α),(a::l).getD 0 d=a)/\(∀{α:Type}(a:α)(l:List α)(n:Nat)(d:α),(a::l).getD (n+1) d=l.getD n d)/\
  (∀n l,Bw n (.by l)= .by (l.drop n))/\(∀n l,Bw n (.is l)= .is (l.drop n))/\(∀n k l,Bw n (.sl k l)= .sl k (l.drop n))/\(∀n l,takeD n (.by l)= .by (l.take n))/\(∀n l,takeD n (.is l)= .is (l.take n))/\(∀n k l,takeD n (.sl k l)= .sl k (l.take n))/\
  (∀{α:Type}(a b c:List α),a++b++c=a++(b++c))/\(∀{α:Type}(a:List α),[]++a=a)/\(∀{α:Type}(x:α)(a b:List α),x::a++b=x::(a++b))/\(∀{α:Type}(a:List α),a++[]=a)/\
  (∀{α:Type}(n:Nat)(x:α)(l:List α),(x::l).drop (n+1)=l.drop n)/\(∀{α:Type}(l:List α),l.drop 0=l)/\(∀{α:Type}(n:Nat)(x:α)(l:List α),(x::l).take (n+1)=x::l.take n)/\(∀{α:Type}(l:List α),l.take 0=[])/\
  (!true)=false/\(!false)=true/\(∀l:A5,(l==l)=true)/\(∀n:Int,(n==n)=true)/\(∀b:Bool,(b==b)=true)/\(∀n:Int,(n !=n)=false)/\(∀l:A5,(l !=l)=false)/\(∀l:QP,decide (l=l)=true)/\(∀l:A5,decide (l=l)=true):=by
 refine⟨Ln,NT,Lo,Ih,rfl,rfl,rfl,shr8,Q2,Q3,fun _=>rfl,fun _=>rfl,fun _ _=>rfl,fun _=>rfl,fun _=>rfl,fun _ _=>rfl,fun _ _=>rfl,rfl,fun _ _=>Rh _,Int.zero_add,Int.add_zero,RZ,Sm,SQ,?_⟩;refine⟨fun _ _ _=>rfl,fun _ _ _ _=>rfl,fun _ _=>rfl,fun _ _=>rfl,fun _ _ _=>rfl,fun _ _=>rfl,fun _ _=>rfl,fun _ _ _=>rfl,Rl,fun _=>rfl,fun _ _ _=>rfl,List.append_nil,fun _ _ _=>rfl,fun _=>rfl,fun _ _ _=>rfl,fun _=>rfl,rfl,rfl,?_⟩;simp
theorem CU:(∀(ι:Nat->Nat) x,AV.ren ι (.d x)= .d x)/\(∀(ι:Nat->Nat),AV.ren ι .u= .u)/\(∀(ι:Nat->Nat),AV.ren ι .e0= .e0)/\(∀(ι:Nat->Nat) x,AV.ren ι (.dp x)= .dp x)/\(∀(ι:Nat->Nat) a b c,AV.ren ι (.ptr a b c)= .ptr (ι a) b c)/\(∀(ι:Nat->Nat) a b c,AV.ren ι (.sl a b c)= .sl (ι a) b c)/\
  (∀(ι:Nat->Nat) a,AV.ren ι (.ag a)= .ag (AV.B4 ι a))/\(∀(ι:Nat->Nat) a,AV.ren ι (.tup a)= .tup (AV.B4 ι a))/\(∀(ι:Nat->Nat) f a b,AV.ren ι (.fn f a b)= .fn f (AV.B4 ι a) (AV.B4 ι b))/\(∀(ι:Nat->Nat),AV.B4 ι []=[])/\(∀(ι:Nat->Nat) x l,AV.B4 ι (x::l)=x.ren ι::AV.B4 ι l)/\
  (∀k i,rn [] k i=k+i)/\(∀a r k,rn (a::r) k 0=a)/\(∀a r k i,rn (a::r) k (i+1)=rn r k i)/\
  (∀H l,F7 [] H l=H++l)/\(∀a r H b l,F7 (a::r) H (b::l)=F7 r (H.set a b) l)/\(∀ι:Nat->Nat,CG ι []=[])/\(∀(ι:Nat->Nat) b l,CG ι (b::l)=b.ren ι::CG ι l)/\
  (∀(ι:Nat->Nat),A2.ren ι .gone= .gone)/\(∀(ι:Nat->Nat) l,A2.ren ι (.c l)= .c (AV.B4 ι l))/\(∀(ι:Nat->Nat) x,A2.ren ι (.a x)= .a x)/\
  (∀{α:Type}(x a:α)(l:List α),(x::l).set 0 a=a::l)/\(∀{α:Type}(x a:α)(l:List α)(n:Nat),(x::l).set (n+1) a=x::l.set n a)/\(∀{α:Type}(a:α)(n:Nat),[].set n a=[])/\
  (∀{α:Type}(a:List α),[]++a=a)/\(∀{α:Type}(x:α)(a b:List α),x::a++b=x::(a++b))/\(∀{α:Type}(a:List α),a++[]=a)/\(∀{α:Type}(a:α)(l:List α),(a::l).length=l.length+1)/\(∀{α:Type},([]:List α).length=0)/\(∀n:Nat,0+n=n)/\(∀n:Nat,n+0=n):=by
 refine⟨fun _ _=>rfl,fun _=>rfl,fun _=>rfl,fun _ _=>rfl,fun _ _ _ _=>rfl,fun _ _ _ _=>rfl,fun _ _=>rfl,fun _ _=>rfl,fun _ _ _ _=>rfl,fun _=>rfl,fun _ _ _=>rfl,fun _ _=>rfl,fun _ _ _=>rfl,fun _ _ _ _=>rfl,fun _ _=>rfl,fun _ _ _ _ _=>rfl,fun _=>rfl,fun _ _ _=>rfl,fun _=>rfl,fun _ _=>rfl,fun _ _=>rfl,fun _ _ _=>rfl,fun _ _ _ _=>rfl,fun _ _=>rfl,fun _=>rfl,fun _ _ _=>rfl,List.append_nil,fun _ _=>rfl,rfl,RZ,Sm⟩
theorem BB:(∀a b,Nat.beq a b=decide (a=b))/\(∀n len,(Hv n len=true)=(0<=n/\n<(len:Int)))/\(∀n,(Cw .i64 n=true)=(-9223372036854775808<=n/\n<=9223372036854775807))/\(∀n,Cw .u8 n=true)/\(∀n,Cw .u64 n=true)/\
  (∀l,AI (.by l)=l.length)/\(∀l,AI (.is l)=l.length)/\(∀k l,AI (.sl k l)=l.length)/\(∀l,AU (.by l)=1)/\(∀l,AU (.is l)=1)/\(∀k l,AU (.sl k l)=k)/\
  (∀l,Af (.by l)=true)/\(∀l,Af (.is l)=true)/\(∀k l,Af (.sl k l)=true)/\(∀{α:Type}(a b:List α),(a++b).length=a.length+b.length)/\(∀n:Nat,n*1=n)/\(∀n:Nat,1*n=n):=by
 refine⟨Iq,fun n len=>propext Bd,fun n=> ?_,fun _=>rfl,fun _=>rfl,fun _=>rfl,fun _=>rfl,fun _ _=>rfl,fun _=>rfl,fun _=>rfl,fun _ _=>rfl,fun _=>rfl,fun _=>rfl,fun _ _=>rfl,fun _ _=>RH,SE,Nat.one_mul⟩;simp only[Cw,Qk,Qv]
mutual
theorem AV.Kh{k k':Nat}(hk:k<=k'):∀{x:AV},x.ok k=true->x.ok k'=true
 | .d _,_=>rfl
 | .u,_=>rfl
 | .e0,_=>rfl
 | .dp _,_=>rfl
 | .ptr _ _ _,h| .sl _ _ _,h| .bs _ _ _ _ _,h| .ep _ _ _ _ _,h| .yl _,h| .mp _,h=>by simp only[AV.ok,S9]at h|-;omega
 | .ag _,h| .tup _,h=>by simp only[AV.ok]at h|-;exact AV.Ep hk h
 | .fn _ a b,h=>by simp only[AV.ok,Qk]at h|-;exact⟨AV.Ep hk h.1,AV.Ep hk h.2⟩
theorem AV.Ep{k k':Nat}(hk:k<=k'):∀{l:R8},AV.oks k l=true->AV.oks k' l=true
 |[],_=>rfl
 |x::r,h=>by simp only[AV.oks,Qk]at h|-;exact⟨AV.Kh hk h.1,AV.Ep hk h.2⟩
end
variable {H:RE}{xs:R8}{l:R6}
theorem Nc:Bg H (.tup xs) (.tup l)↔BY H xs l:=by simp[Bg]
theorem JB:Bg H (.ag xs) (.agg l)↔BY H xs l:=by simp[Bg]
variable {y:D}
theorem F3{x:AV}:BY H (x::xs) (y::l)↔Bg H x y/\BY H xs l:=by
 simp only[BY];constructor
 .rintro⟨_,_,h,h1,h2⟩;cases h;exact⟨h1,h2⟩
 .rintro⟨h1,h2⟩;exact⟨_,_,rfl,h1,h2⟩
theorem G6:BY H [] []↔True:=by simp[BY]
theorem Lt{x:D}:Bg H (.d x) y↔y=x:=by simp[Bg]
theorem Ob:Bg H .e0 y↔Af y=true/\AI y=0/\AX y:=by simp[Bg]
theorem JC{i n sz:Nat}:Bg H (.sl i n sz) y↔H[i]? =some (.a y)/\n=AI y:=by simp[Bg]
def AL(dst:Option Tmp)(x:AV)(env:R9):Option (R9):=
 match dst with
 |some d=>some ((d,x)::env)
 |none=>some env
theorem AE{dst:Option Tmp}{x:AV}{env e:R9}(h:AL dst x env=some e):e=AW dst x env:=by
 cases dst<;>simp_all[AL,AW]
def BK:QQ->R9->Option (R9)
 |[],_=>some []
 |t::r,env=>match get env t with
  |some x=>match BK r env with
   |some l=>some ((t,x)::l)
   |none=>none
  |none=>BK r env
theorem Aa:∀{l:QQ}{env e:R9},BK l env=some e->e=B7 l env
 |[],env,e,h=>by simp[BK]at h;simp[B7,h]
 |t::r,env,e,h=>by
  simp only[BK]at h;simp only[B7];split at h
  .rename_i x hx;rw[hx];split at h
   .rename_i l hl;cases h;rw[Aa hl]
   .cases h
  .rename_i hx;rw[hx];exact Aa h
def Ca:RE->A2->Option (RE)
 |[],b=>some [b]
 |x::r,b=>match Ca r b with
  |some l=>some (x::l)
  |none=>none
theorem Cr:∀{H:RE}{b:A2}{l:RE},Ca H b=some l->l=H++[b]
 |[],b,l,h=>by simp[Ca]at h;simp[h]
 |x::r,b,l,h=>by
  simp only[Ca]at h;split at h
  .rename_i q hq;cases h;rw[Cr hq];rfl
  .cases h
section
variable {P:Program}{ro:Qt}{ops:R0}{i:Nat}{rest:R1}{S0:St}{en:R9}{hp:RE}{nt:Nat}{Q:Exit->St->Prop}{o:Oper}{E:Nat->Option AK}{A:Prop}{acc:List Rc}
variable {e:R9}
theorem Xn(live:QQ)(h:BK live en=some e)(k:Q .normal ⟨e,hp,nt⟩):Wl P ro ops i [] ⟨en,hp,nt⟩ Q:=by
 have:=Aa h;subst this;exact JH (fun t x hx=>(Cg hx).2) (M7 k)
variable {x x':AV}{c:Bool}
theorem Xq(hE:Ai P E)(hg:A4 ops en o=some true)(h:Fl E en hp o.op=some (c,x))(hd:AA o.dst nt=true)(he:AL o.dst x' en=some e)(k:Wl P ro ops (i+1) rest ⟨e,hp,nt⟩ Q)(hc:c=true)(hx:x=x':=by first|(simp only[EN,CU,Nat.reduceAdd,Int.reduceAdd,Int.reduceSub,Int.reduceMul,Int.reduceToNat,nS];rfl)|rfl):Wl P ro ops i (o::rest) ⟨en,hp,nt⟩ Q:=by
 subst hx;rw[AE he]at k;exact On hE hg h hd hc k
def Pv:Op->Bool
 | .move _| .assign _| .extract _ _| .pick _ _ _=>true
 |_=>false
variable {b:Bool}
theorem sg(h:b=true):b=true:=h
variable {S:St}
theorem Fg(k:Wl P ro ops i rest S Q):Wl P ro ops i rest S Q:=k
theorem LP(k:Wd P ro E ops S0 A acc rest S):Wd P ro E ops S0 A acc rest S:=k
theorem AZ(_:Pv o.op=true)(k:Wl P ro ops i (o::rest) S Q):Wl P ro ops i (o::rest) S Q:=k
theorem Bb(_:Pv o.op=true)(k:Wd P ro E ops S0 A acc (o::rest) S):Wd P ro E ops S0 A acc (o::rest) S:=k
theorem Fa(hE:Ai P E)(hg:A4 ops en o=some true)(h:Fl E en hp o.op=some (true,x))(hd:AA o.dst nt=true)(he:AL o.dst x en=some e)(k:Wl P ro ops (i+1) rest ⟨e,hp,nt⟩ Q):Wl P ro ops i (o::rest) ⟨en,hp,nt⟩ Q:=by
 rw[AE he]at k;exact On hE hg h hd rfl k
variable {f:Nat->AV}{H':RE}
theorem Xa(hE:Ai P E){b:A2}(hg:A4 ops en o=some true)(h:Ny E en hp o.op=some (c,f,b))(hd:AA o.dst nt=true)(he:AL o.dst x' en=some e)(hH:Ca hp b=some H')(k:Wl P ro ops (i+1) rest ⟨e,H',nt⟩ Q)(hc:c=true)(hx:f hp.length=x':=by first|(simp only[EN,CU,Nat.reduceAdd,Int.reduceAdd,Int.reduceSub,Int.reduceMul,Int.reduceToNat,nS];rfl)|rfl):Wl P ro ops i (o::rest) ⟨en,hp,nt⟩ Q:=by
 subst hx;rw[AE he,Cr hH]at k;exact Wl_a hE hg h hd hc k
variable {q:D}
theorem Xao(hE:Ai P E)(hg:A4 ops en o=some true)(h:GL E en hp o.op=some (c,q))(hd:AA o.dst nt=true)(he:AL o.dst x' en=some e)(hH:Ca hp (.a q)=some H')(k:Wl P ro ops (i+1) rest ⟨e,H',nt⟩ Q)(hc:c=true)(hx: .sl hp.length (AI q) (AU q)=x':=by first|(simp only[EN,CU,Nat.reduceAdd,Int.reduceAdd,Int.reduceSub,Int.reduceMul,Int.reduceToNat,nS];rfl)|rfl):Wl P ro ops i (o::rest) ⟨en,hp,nt⟩ Q:=by
 subst hx;rw[AE he,Cr hH]at k;exact Ph hE hg h hd hc k
def FP(dst:Option Tmp)(L:QQ):Bool:=
 match dst with
 |some d=>L.any (Nat.beq d)
 |none=>false
theorem XaoL(L:QQ)(hE:Ai P E)(_:FP o.dst L=true)(hg:A4 ops en o=some true)(h:GL E en hp o.op=some (c,q))(hd:AA o.dst nt=true)(he:AL o.dst x' en=some e)(hH:Ca hp (.a q)=some H')(k:Wl P ro ops (i+1) rest ⟨e,H',nt⟩ Q)(hc:c=true)(hx: .sl hp.length (AI q) (AU q)=x':=by first|(simp only[EN,CU,Nat.reduceAdd,Int.reduceAdd,Int.reduceSub,Int.reduceMul,Int.reduceToNat,nS];rfl)|rfl):Wl P ro ops i (o::rest) ⟨en,hp,nt⟩ Q:=Xao hE hg h hd he hH k hc hx
theorem Xw(hE:Ai P E)(hg:A4 ops en o=some true)(h:Ox E en hp o.op=some (c,x,H'))(hd:AA o.dst nt=true)(he:AL o.dst x' en=some e)(k:Wl P ro ops (i+1) rest ⟨e,H',nt⟩ Q)(hc:c=true)(hx:x=x':=by first|(simp only[EN,CU,Nat.reduceAdd,Int.reduceAdd,Int.reduceSub,Int.reduceMul,Int.reduceToNat,nS];rfl)|rfl):Wl P ro ops i (o::rest) ⟨en,hp,nt⟩ Q:=by
 subst hx;rw[AE he]at k;exact Wl_w hE hg h hd hc k
theorem Xs(hg:A4 ops en o=some false)(hd:AA o.dst nt=true)(he:AL o.dst (.d (.tup [])) en=some e)(k:Wl P ro ops (i+1) rest ⟨e,hp,nt⟩ Q):Wl P ro ops i (o::rest) ⟨en,hp,nt⟩ Q:=by
 rw[AE he]at k;exact Np hg hd k
variable {es:List (R6)}{e':R9}
theorem IH(hE:Ai P E){n:Int}{e:R6}(hg:A4 ops en o=some true)(h:Fl E en hp o.op=some (Hv n es.length&&b,.dp (es.getD n.toNat [])))(hd:AA o.dst nt=true)(he':AL o.dst (.dp e) en=some e')(hb:b=true)(hn:0<=n)(he:es[n.toNat]? =some e)(k:Wl P ro ops (i+1) rest ⟨e',hp,nt⟩ Q):Wl P ro ops i (o::rest) ⟨en,hp,nt⟩ Q:=by
 rw[AE he']at k;exact Pk hE hg h hd hb hn he k
theorem D3{d:Nat}(hg:LQ ops o=some d)(hb:get en d=some (.d (.b b)))(ht:b=true->Wl P ro ops i (o::rest) ⟨(d,.d (.b true))::en,hp,nt⟩ Q)(hf:b=false->Wl P ro ops i (o::rest) ⟨(d,.d (.b false))::en,hp,nt⟩ Q):Wl P ro ops i (o::rest) ⟨en,hp,nt⟩ Q:=
 M9 hg hb ht hf
theorem DT{d:Nat}(hg:LQ ops o=some d)(hb:get en d=some (.d (.b b)))(ht:b=true->Wd P ro E ops S0 A acc (o::rest) ⟨(d,.d (.b true))::en,hp,nt⟩)(hf:b=false->Wd P ro E ops S0 A acc (o::rest) ⟨(d,.d (.b false))::en,hp,nt⟩):Wd P ro E ops S0 A acc (o::rest) ⟨en,hp,nt⟩:=
 M3 hg hb ht hf
variable {g:Nat}{ds:R6}
theorem XF{r r':D}(hF:Go.Gar.Fn P g ds r)(hg:A4 ops en o=some true)(h:Ab en o.op=some (g,ds.map .d))(hd:AA o.dst nt=true)(he:AL o.dst (.d r') en=some e)(k:Wl P ro ops (i+1) rest ⟨e,hp,nt⟩ Q)(hr:r=r':=by first|(simp only[EN,CU,Nat.reduceAdd,Int.reduceAdd,Int.reduceSub,Int.reduceMul,Int.reduceToNat,nS];rfl)|rfl):Wl P ro ops i (o::rest) ⟨en,hp,nt⟩ Q:=by
 subst hr;rw[AE he]at k;exact Pg hF hg h hd k
variable {xs:R8}
theorem Pl{r r':D}(hF:Go.Gar.Fn P g ds r)(hg:A4 ops en o=some true)(h:Ab en o.op=some (g,xs))(hd:AA o.dst nt=true)(he:AL o.dst (.d r') en=some e)(hx:Gw xs ds)(k:Wl P ro ops (i+1) rest ⟨e,hp,nt⟩ Q)(hr:r=r':=by first|(simp only[EN,CU,Nat.reduceAdd,Int.reduceAdd,Int.reduceSub,Int.reduceMul,Int.reduceToNat,nS];rfl)|rfl):Wl P ro ops i (o::rest) ⟨en,hp,nt⟩ Q:=by
 subst hr;rw[AE he]at k;exact Pf hg h hd hF hx k
theorem XD{args:R8}{H:RE}{r r':AV}{H'':RE}(ids:QQ)(hF:Df P g args H r H')(hg:A4 ops en o=some true)(h:Ab en o.op=some (g,AV.B4 (rn ids hp.length) args))(hd:AA o.dst nt=true)(hm:Az (rn ids hp.length) hp ids H)(hn:nodupB ids=true)(ho:AM H.length H=true)(ha:AV.oks H.length args=true)(he:AL o.dst r' en=some e)(k:Wl P ro ops (i+1) rest ⟨e,H'',nt⟩ Q)(hr:r.ren (rn ids hp.length)=r':=by first|(simp only[EN,CU,Nat.reduceAdd,Int.reduceAdd,Int.reduceSub,Int.reduceMul,Int.reduceToNat,nS];rfl)|rfl)(hH:F7 ids hp (CG (rn ids hp.length) H')=H'':=by first|(simp only[CU,Nat.reduceAdd];rfl)|rfl):Wl P ro ops i (o::rest) ⟨en,hp,nt⟩ Q:=by
 subst hr;subst hH;rw[AE he]at k;exact Wl_D ids hF hg h hd hm hn ho ha k
theorem Xy{id:Nat}{r0:Lp}(hT:YT P id xs hp fun r K=>r=x/\K=H')(hg:A4 ops en o=some true)(h:Eb en o.op=some (id,xs))(hd:AA o.dst nt=true)(hlp:hp[id]? =some (.lp r0))(he:AL o.dst x en=some e)(k:Wl P ro ops (i+1) rest ⟨e,H',nt⟩ Q):Wl P ro ops i (o::rest) ⟨en,hp,nt⟩ Q:=by
 rw[AE he]at k;exact Wl_y hg h hd hlp hT fun r K ⟨h1,h2⟩=>by subst h1;subst h2;exact k
variable {ps:Array Tmp}
theorem M1{g:Operand}{asg body:Code}{f:FuncId}{first cap:R8}{L:Nat}{F:Lp->RE}(K:Lp->AV->RE->Prop)(hg:Bh en g=some (.fn (.func f) first cap))(hL:hp.length=L)(hxs:first++[.yl L]++cap=xs)(hF:∀r,hp++[.lp r]=F r)(seq:∀r,r.is nt en ps asg body->Bv P f xs (F r) (K r))(k:∀r,r.is nt en ps asg body->∀x H',K r x H'->
   (H'[L]? =some (.lp r)/\Q .normal ⟨en,H'.set L (.lp r.out),nt⟩)\/
   ∃c,H'[L]? =some (.lp (r.left c))/\W P ro c ⟨en,H'.set L (.lp (r.left c).out),nt⟩ Q):W P ro (.rangeFunc g ps asg body) ⟨en,hp,nt⟩ Q:=by
 subst hL;subst hxs;exact M0 (S:=⟨en,hp,nt⟩) K hg (fun r hr=>by have:=seq r hr;rw[<-hF]at this;exact this) k
theorem A3.refl(S:St):A3 S S:=fun _ _ G _ _ r _=>⟨G,r,⟨fun id b b' hb hb'=>by rw[hb]at hb';cases hb';exact A6.refl _ _ _,Mem.le_refl _,fun _ h=>h,fun _ _ _ h=> .inl h⟩⟩
def QRI{α:Type}(I:α->Prop)(St0:α->St)(lt:α->Prop)(k:Nat)(Q:Exit->St->Prop):Exit->St->Prop
 | .normal,S'=>∃y,I y/\lt y/\k<=(St0 y).H.length/\A3 S' (St0 y)
 |e,S'=>Q e S'
theorem AT{α:Type}{c:Code}(I:α->Prop)(St0:α->St)(μ:α->Nat)(x0:α)(h0:I x0)(t:A3 S (St0 x0))(hl:S.H.length<=(St0 x0).H.length)(body:∀x,I x->W P ro c (St0 x) (QRI I St0 (fun y=>μ y<μ x) (St0 x).H.length Q)):W P ro (.loop c) S Q:=by
 refine Og (α:={x // I x}) (fun x=>St0 x.1) (fun x=>μ x.1) ⟨x0,h0⟩ t hl (fun x=>(body x.1 x.2).mono ?_);intro e S' q
 cases e with
 |normal=>obtain⟨y,h1,h2,h3,h4⟩:=q;exact⟨⟨y,h1⟩,h2,h3,h4⟩
 |_=>exact q
theorem JN{k k':Nat}(hk:k<=k')(h:Bn k e=true):Bn k' e=true:=by
 induction e with
 |nil=>rfl
 |cons p r ih=>simp only[Bn,Qk]at h|-;exact⟨AV.Kh hk h.1,ih h.2⟩
theorem Lp.is.ok{r:Lp}{n:Nat}{env:R9}{asg body:Code}(h:r.is n env ps asg body){k:Nat}(hk:Bn k env=true):∀k',(decide (k<=k'))=true->Bn k' r.env=true/\Bn k' r.busy.env=true/\Bn k' r.out.env=true/\∀c,Bn k' (r.left c).env=true:=by
 intro k' hle;have:Bn k' r.env=true:=by rw[h.2.2.2.1];exact JN (of_decide_eq_true hle) hk
 exact⟨this,this,this,fun _=>this⟩
theorem Yn{id:Nat}(live:QQ)(l:QR)(hm:P.follows .mixedOrders=true)(hE:Ai P E)(hd:Dl ops (acc.reverse.map Rc.k) l=true)(hx:Au E ops acc.reverse hp l)(he:BK live en=some e)(hQ:Q .normal ⟨e,hp,nt⟩):Wd P ro E ops S0 (W P ro (.region id ops true) S0 Q) acc [] ⟨en,hp,nt⟩:=by
 have:=Aa he;subst this;exact JF (fun t x hx=>(Cg hx).2) (Oi (S:=⟨B7 live en,hp,nt⟩) l hm hE hd hx hQ)
variable {e0:R9}
theorem Yp(hE:Ai P E)(hl:BK (looks ops o) en=some e0)(hg:A4 ops e0 o=some true)(h:∀H,Fl E e0 H o.op=some (c,x))(hd:AA o.dst nt=true)(he:AL o.dst x' en=some e)(hk:Wd P ro E ops S0 A (⟨e0,hp,x',.any⟩::acc) rest ⟨e,hp,nt⟩)(hc:c=true)(hx:x=x':=by first|(simp only[EN,CU,Nat.reduceAdd,Int.reduceAdd,Int.reduceSub,Int.reduceMul,Int.reduceToNat,nS];rfl)|rfl):Wd P ro E ops S0 A acc (o::rest) ⟨en,hp,nt⟩:=by
 subst hx;rw[AE he]at hk;have:=Aa hl;subst this;exact Oj hE hg h hd hc hk
theorem L5(hE:Ai P E)(hl:BK (looks ops o) en=some e0)(hg:A4 ops e0 o=some true)(h:∀H,Fl E e0 H o.op=some (true,x))(hd:AA o.dst nt=true)(he:AL o.dst x en=some e)(hk:Wd P ro E ops S0 A (⟨e0,hp,x,.any⟩::acc) rest ⟨e,hp,nt⟩):Wd P ro E ops S0 A acc (o::rest) ⟨en,hp,nt⟩:=by
 rw[AE he]at hk;have:=Aa hl;subst this;exact Oj hE hg h hd rfl hk
theorem Yq(hl:BK (looks ops o) en=some e0)(hg:A4 ops e0 o=some true)(h:Fl E e0 hp o.op=some (c,x))(hd:AA o.dst nt=true)(he:AL o.dst x' en=some e)(hk:Wd P ro E ops S0 A (⟨e0,hp,x',.quiet⟩::acc) rest ⟨e,hp,nt⟩)(hc:c=true)(hx:x=x':=by first|(simp only[EN,CU,Nat.reduceAdd,Int.reduceAdd,Int.reduceSub,Int.reduceMul,Int.reduceToNat,nS];rfl)|rfl):Wd P ro E ops S0 A acc (o::rest) ⟨en,hp,nt⟩:=by
 subst hx;rw[AE he]at hk;have:=Aa hl;subst this;exact Wd_q hg h hd hc hk
theorem Ys(hl:BK (looks ops o) en=some e0)(hg:A4 ops e0 o=some false)(hd:AA o.dst nt=true)(he:AL o.dst (.d (.tup [])) en=some e)(hk:Wd P ro E ops S0 A (⟨e0,hp,.d (.tup []),.skip⟩::acc) rest ⟨e,hp,nt⟩):Wd P ro E ops S0 A acc (o::rest) ⟨en,hp,nt⟩:=by
 rw[AE he]at hk;have:=Aa hl;subst this;exact Nn hg hd hk
theorem YF{q':D}(hF:Go.Gar.Fn P g ds q)(hl:BK (looks ops o) en=some e0)(hg:A4 ops e0 o=some true)(h:Ab e0 o.op=some (g,ds.map .d))(hd:AA o.dst nt=true)(he:AL o.dst (.d q') en=some e)(hk:Wd P ro E ops S0 A (⟨e0,hp,.d q',.any⟩::acc) rest ⟨e,hp,nt⟩)(hr:q=q':=by first|(simp only[EN,CU,Nat.reduceAdd,Int.reduceAdd,Int.reduceSub,Int.reduceMul,Int.reduceToNat,nS];rfl)|rfl):Wd P ro E ops S0 A acc (o::rest) ⟨en,hp,nt⟩:=by
 subst hr;rw[AE he]at hk;have:=Aa hl;subst this;exact Pa hF hg h hd hk
theorem YFz{q':D}(hF:Go.Gar.Fn P g ds q)(hl:BK (looks ops o) en=some e0)(hg:A4 ops e0 o=some true)(h:Ab e0 o.op=some (g,xs))(hd:AA o.dst nt=true)(he:AL o.dst (.d q') en=some e)(hx:Gw xs ds)(hk:Wd P ro E ops S0 A (⟨e0,hp,.d q',.any⟩::acc) rest ⟨e,hp,nt⟩)(hr:q=q':=by first|(simp only[EN,CU,Nat.reduceAdd,Int.reduceAdd,Int.reduceSub,Int.reduceMul,Int.reduceToNat,nS];rfl)|rfl):Wd P ro E ops S0 A acc (o::rest) ⟨en,hp,nt⟩:=by
 subst hr;rw[AE he]at hk;have:=Aa hl;subst this;exact PZ hg h hd hF hx hk
theorem YD{args:R8}{H:RE}{r r':AV}{H'':RE}(ids:QQ)(hF:Df P g args H r H')(hl:BK (looks ops o) en=some e0)(hg:A4 ops e0 o=some true)(h:Ab e0 o.op=some (g,AV.B4 (rn ids hp.length) args))(hd:AA o.dst nt=true)(hm:Az (rn ids hp.length) hp ids H)(hn:nodupB ids=true)(ho:AM H.length H=true)(ha:AV.oks H.length args=true)(he:AL o.dst r' en=some e)(hk:Wd P ro E ops S0 A (⟨e0,hp,r',.eff⟩::acc) rest ⟨e,H'',nt⟩)(hr:r.ren (rn ids hp.length)=r':=by first|(simp only[EN,CU,Nat.reduceAdd,Int.reduceAdd,Int.reduceSub,Int.reduceMul,Int.reduceToNat,nS];rfl)|rfl)(hH:F7 ids hp (CG (rn ids hp.length) H')=H'':=by first|(simp only[CU,Nat.reduceAdd];rfl)|rfl):Wd P ro E ops S0 A acc (o::rest) ⟨en,hp,nt⟩:=by
 subst hr;subst hH;rw[AE he]at hk;have:=Aa hl;subst this;exact Wd_D ids hF hg h hd hm hn ho ha hk
theorem Ya(hE:Ai P E){b:A2}(hl:BK (looks ops o) en=some e0)(hg:A4 ops e0 o=some true)(h:Ny E e0 hp o.op=some (c,f,b))(hd:AA o.dst nt=true)(he:AL o.dst x' en=some e)(hH:Ca hp b=some H')(hk:Wd P ro E ops S0 A (⟨e0,hp,x',.eff⟩::acc) rest ⟨e,H',nt⟩)(hc:c=true)(hx:f hp.length=x':=by first|(simp only[EN,CU,Nat.reduceAdd,Int.reduceAdd,Int.reduceSub,Int.reduceMul,Int.reduceToNat,nS];rfl)|rfl):Wd P ro E ops S0 A acc (o::rest) ⟨en,hp,nt⟩:=by
 subst hx;rw[AE he,Cr hH]at hk;have:=Aa hl;subst this;exact Wd_a hE hg h hd hc hk
theorem Yao(hE:Ai P E)(hl:BK (looks ops o) en=some e0)(hg:A4 ops e0 o=some true)(h:GL E e0 hp o.op=some (c,q))(hd:AA o.dst nt=true)(he:AL o.dst x' en=some e)(hH:Ca hp (.a q)=some H')(hk:Wd P ro E ops S0 A (⟨e0,hp,x',.eff⟩::acc) rest ⟨e,H',nt⟩)(hc:c=true)(hx: .sl hp.length (AI q) (AU q)=x':=by first|(simp only[EN,CU,Nat.reduceAdd,Int.reduceAdd,Int.reduceSub,Int.reduceMul,Int.reduceToNat,nS];rfl)|rfl):Wd P ro E ops S0 A acc (o::rest) ⟨en,hp,nt⟩:=by
 subst hx;rw[AE he,Cr hH]at hk;have:=Aa hl;subst this;exact Pb hE hg h hd hc hk
theorem YaoL(L:QQ)(hE:Ai P E)(_:FP o.dst L=true)(hl:BK (looks ops o) en=some e0)(hg:A4 ops e0 o=some true)(h:GL E e0 hp o.op=some (c,q))(hd:AA o.dst nt=true)(he:AL o.dst x' en=some e)(hH:Ca hp (.a q)=some H')(hk:Wd P ro E ops S0 A (⟨e0,hp,x',.eff⟩::acc) rest ⟨e,H',nt⟩)(hc:c=true)(hx: .sl hp.length (AI q) (AU q)=x':=by first|(simp only[EN,CU,Nat.reduceAdd,Int.reduceAdd,Int.reduceSub,Int.reduceMul,Int.reduceToNat,nS];rfl)|rfl):Wd P ro E ops S0 A acc (o::rest) ⟨en,hp,nt⟩:=Yao hE hl hg h hd he hH hk hc hx
theorem Yw(hE:Ai P E)(hl:BK (looks ops o) en=some e0)(hg:A4 ops e0 o=some true)(h:Ox E e0 hp o.op=some (c,x,H'))(hd:AA o.dst nt=true)(he:AL o.dst x' en=some e)(hk:Wd P ro E ops S0 A (⟨e0,hp,x',.eff⟩::acc) rest ⟨e,H',nt⟩)(hc:c=true)(hx:x=x':=by first|(simp only[EN,CU,Nat.reduceAdd,Int.reduceAdd,Int.reduceSub,Int.reduceMul,Int.reduceToNat,nS];rfl)|rfl):Wd P ro E ops S0 A acc (o::rest) ⟨en,hp,nt⟩:=by
 subst hx;rw[AE he]at hk;have:=Aa hl;subst this;exact Wd_w hE hg h hd hc hk
theorem MC(hE:Ai P E){n:Int}{e:R6}(hl:BK (looks ops o) en=some e0)(hg:A4 ops e0 o=some true)(h:∀H,Fl E e0 H o.op=some (Hv n es.length&&b,.dp (es.getD n.toNat [])))(hd:AA o.dst nt=true)(he':AL o.dst (.dp e) en=some e')(hb:b=true)(hn:0<=n)(he:es[n.toNat]? =some e)(hk:Wd P ro E ops S0 A (⟨e0,hp,.dp e,.any⟩::acc) rest ⟨e',hp,nt⟩):Wd P ro E ops S0 A acc (o::rest) ⟨en,hp,nt⟩:=by
 rw[AE he']at hk;have:=Aa hl;subst this;exact Pe hE hg h hd hb hn he hk
end
theorem A3.Pp{S:St}(t id:Nat){x:D}{n sz:Nat}(hid:S.H[id]? =some (.a x))(ht:get S.env t=some (.sl id n sz))(hn:n=AI x):A3 S ⟨(t,.d x)::S.env,Cn id x 0 S.H,S.n⟩:=by
 intro ro N G a w r _;have hid':G.H[id]? =some (.a x):=by rw[r.heap];exact hid
 obtain⟨h1,h2⟩:=GW r.rel hid';refine⟨G.freeze w id x,⟨by show Cn id x 0 G.H=_;rw[r.heap],h1,r.size,fun u y hy=> ?_,r.marks.HV h2,fun i hi=> ?_⟩,h2⟩
 .simp only[get]at hy;split at hy
  .rename_i hb;cases hy;have:=Qi hb;subst this;obtain⟨v,hv,hrv⟩:=r.env t _ ht;refine⟨v,hv,?_⟩;have:=hrv.Db r.rel hid';simpa[AV.Db,hn]using this
  .obtain⟨v,hv,hrv⟩:=r.env u y hy;exact⟨v,hv,hrv.mono (BH r.rel hid')⟩
 .obtain⟨q,l,M,q1,q2⟩:=r.round i hi;refine⟨q,l,M,?_,q2⟩;have:=E2 (id:=id) (x:=x) (i:=0) q1;rw[RZ,Rw (fun e=>by subst e;rw[hid]at q1;cases q1)]at this;exact this
theorem Bv.e0{P:Program}{f:FuncId}{rest:R8}{R:AV->RE->Prop}(q:D)(hs:Af q=true)(hl:AI q=0)(ho:AX q)(h:Bv P f (.sl H.length 0 (AU q)::rest) (H++[.a q]) R):Bv P f (.e0::rest) H R:=by
 refine⟨h.1,fun G w vs hG hr hargs=> ?_⟩;obtain⟨h1,h2⟩:=Kf hr hs hl ho;have hfr:BE G w (G.nil q) w:=(BE.refl G w).ghost h2 (by show G.H.length<=(G.H++[A2.a q]).length;simp);have hGH:(G.nil q).H=H++[.a q]:=by show G.H++[A2.a q]=_;rw[hG]
 have ha:AH (G.nil q) (.sl H.length 0 (AU q)::rest) vs.toList:=by
  simp only[AH]at hargs|-;obtain⟨v,r,hv,⟨a,rfl⟩,hr⟩:=hargs;refine⟨_,r,hv,?_,hr.mono (I0 G q)⟩;simp only[RV];exact⟨rfl,.a q,by rw[hGH];simp,rfl,om,fun _=> .inl ⟨trivial,a,rfl⟩⟩
 refine(h.2 (G.nil q) w vs hGH h1 ha).mono ?_;rintro e w' ⟨v,r,G',rfl,hR,hv,hr',hf⟩;exact⟨v,r,G',rfl,hR,hv,hr',hfr.trans hf⟩
end Go.Gar
namespace Go.Gar
inductive Sh where
 |int (k:IntKind)
 |bool
 |str
 |by
 |is
 |sl (l:List Sh)
mutual
def K9:Sh->D->Prop
 | .int k,d=>∃n,d= .i k n/\(Lit.int k n).wf=true
 | .bool,d=>∃b,d= .b b
 | .str,d=>∃l,d= .s l/\l.length<=maxLen
 | .by,d=>∃l,d= .by l/\l.length<=maxLen
 | .is,d=>∃l,d= .is l/\l.length<=maxLen/\∀n∈l,(Lit.int .i64 n).wf=true
 | .sl shs,d=>∃es,d= .sl (H3 shs) es/\es.length<=maxLen/\∀e∈es,BP shs e
def BP:List Sh->R6->Prop
 |[],ds=>ds=[]
 |s::l,ds=>∃d r,ds=d::r/\K9 s d/\BP l r
def H3:List Sh->Nat
 |[]=>0
 |_::l=>H3 l+1
end
def ND:Nat->List Sh->List Sh
 |0,_=>[]
 |n+1,l=>l++ND n l
mutual
def NZ(E:Nat->Option AK):Nat->Nat->Option (List Sh)
 |0,_=>none
 |n+1,t=>match E t with
  |none=>none
  |some y=>match y.k with
   | .int k=>some [.int k]
   | .bool=>some [.bool]
   | .str=>some [.str]
   | .sl e=>match E e with
    |none=>none
    |some z=>match z.k with
     | .int .u8=>match Nat.beq z.size 1 with
      |true=>some [.by]
      |false=>none
     | .int .i64=>match Nat.beq z.size 1 with
      |true=>some [.is]
      |false=>none
     |_=>match NZ E n e with
      |some l=>match Nat.beq (H3 l) z.size,Nat.beq z.size 0 with
       |true,false=>some [.sl l]
       |_,_=>none
      |none=>none
   | .st fs=>match PP E n 0 fs with
    |some l=>match Nat.beq (H3 l) y.size with
     |true=>some l
     |false=>none
    |none=>none
   | .arr k e=>match E e,NZ E n e with
    |some z,some l=>match Nat.beq (H3 l) z.size,Nat.beq (k*z.size) y.size with
     |true,true=>some (ND k l)
     |_,_=>none
    |_,_=>none
   |_=>none
def PP(E:Nat->Option AK):Nat->Nat->QR->Option (List Sh)
 |_,_,[]=>some []
 |0,_,_::_=>none
 |n+1,o,(off,ft)::r=>match Nat.beq o off,E ft,NZ E n ft with
  |true,some z,some l=>match Nat.beq (H3 l) z.size with
   |true=>match PP E n (o+z.size) r with
    |some l'=>some (l++l')
    |none=>none
   |false=>none
  |_,_,_=>none
end
theorem DF:∀l:List Sh,H3 l=l.length
 |[]=>rfl
 |_::l=>by simp[H3,DF l]
def CZ(w:World):Mem:=fun b k=>w.cell? ⟨b,k,none⟩
theorem G7:∀{a b:List Sh}{x y:R6},BP a x->BP b y->BP (a++b) (x++y)
 |[],b,x,y,h,k=>by simp only[BP]at h;subst h;exact k
 |s::a,b,x,y,h,k=>by
  simp only[BP]at h;obtain⟨d,r,rfl,h1,h2⟩:=h;simp only[List.cons_append,BP];exact⟨d,r++y,rfl,h1,G7 h2 k⟩
theorem G8:∀{a:List Sh}{x:R6},BP a x->x.length=a.length
 |[],x,h=>by simp only[BP]at h;simp[h]
 |s::a,x,h=>by
  simp only[BP]at h;obtain⟨d,r,rfl,_,h2⟩:=h;simp[G8 h2]
theorem Hb{m:Mem}:∀{a b:R6}{x y:Qf},BJ m a x->BJ m b y->BJ m (a++b) (x++y)
 |[],b,x,y,h,k=>by simp only[BJ]at h;subst h;exact k
 |s::a,b,x,y,h,k=>by
  simp only[BJ]at h;obtain⟨d,r,rfl,h1,h2⟩:=h;simp only[List.cons_append,BJ];exact⟨d,r++y,rfl,h1,Hb h2 k⟩
theorem MJ{n:Int}(h:(Lit.int .u8 n).wf=true):n=((UInt8.ofNat n.toNat).toNat:Int):=by
 simp[Lit.wf,IntKind.min,IntKind.max,IntKind.signed,IntKind.bits]at h;rw[UInt8.toNat_ofNat'];omega
section
variable {P:Program}{E:Nat->Option AK}{H:Type}{enc:TypeId×Value->H}{w:World}{base:Nat}{sp:Nat->Bool}{held:Bool}
theorem Cl{t:Nat}{y:AK}(h:CF P t=some y):P.cellsOf t=y.size:=by
 obtain⟨i,d,z,h1,_,_,_,h5,_⟩:=Ak h;simp[Program.cellsOf,h1,h5]
theorem Gt{t:Nat}{y:AK}(h:CF P t=some y):∃d,P.underlying t=some d/\FV d=y.k:=by
 obtain⟨i,d,z,_,h2,_,h4,_⟩:=Ak h;exact⟨d,h2,h4.symm⟩
theorem Ip{α:Type}{g:Nat->Option α}:∀{n s:Nat}{l:List α},((List.range' s n).mapM g)=some l->l.length=n/\∀i,i<n->l[i]? =g (s+i)
 |0,s,l,h=>by simp at h;subst h;simp
 |n+1,s,l,h=>by
  rw[TL,List.mapM_cons]at h;simp only[Option.bind_eq_bind,Option.pure_def,Option.bind_eq_some_iff,Qj]at h;obtain⟨a,ha,r,hr,rfl⟩:=h;obtain⟨h1,h2⟩:=Ip hr;refine⟨by simp[h1],fun i hi=> ?_⟩
  cases i with
  |zero=>simp[ha]
  |succ i=>
   simp only[List.getElem?_cons_succ];rw[h2 i om,show s+1+i=s+(i+1)by omega]
theorem GK{a:Addr}{n:Nat}{cs:Qf}(h:w.cells? base a n=some cs):cs.length=n/\∀i,i<n->cs[i]? =w.cell? (a.add i):=by
 unfold World.cells? at h;split at h
 .rw[List.range_eq_range']at h;obtain⟨h1,h2⟩:=Ip h;exact⟨h1,fun i hi=>by rw[h2 i hi,RZ]⟩
 .cases h
theorem cell_spot{a:Addr}{v:Value}(h:w.cell? a=some v):a.spot=none:=by
 unfold World.cell? at h;split at h
 .split at h
  .cases h
  .rename_i hs;cases hsp:a.spot with
   |none=>rfl
   |some _=>rw[hsp]at hs;simp at hs
 .cases h
theorem IQ(b off k:Nat):(Addr.mk b off none).add k=⟨b,off+k,none⟩:=addr_add b off k
theorem Jn{b off sz:Nat}{shs:List Sh}{n:Nat}(hn:shs.length=sz)(h:∀i,i<n->∃ds vs,BP shs ds/\BJ (CZ w) ds vs/\(∀c∈vs,c.oneCell'=true)/\vs.length=sz/\∀k,k<sz->vs[k]? =w.cell? ⟨b,off+i*sz+k,none⟩):
  ∃es:List (R6),es.length=n/\(∀e∈es,BP shs e)/\Ha (CZ w) sz es b off:=by
 induction n generalizing off with
 |zero=>exact⟨[],rfl,sm,by simp[Ha]⟩
 |succ n ih=>
  obtain⟨ds,vs,h1,h2,h3,h4,h5⟩:=h 0 om
  obtain⟨es,k1,k2,k3⟩:=ih (off:=off+sz) (fun i hi=>by
   obtain⟨ds,vs,g1,g2,g3,g4,g5⟩:=h (i+1) om
   exact⟨ds,vs,g1,g2,g3,g4,fun k hk=>by rw[g5 k hk,Nat.succ_mul];congr 2;omega⟩)
  refine⟨ds::es,by simp[k1],?_,?_⟩
  .intro e he;rcases Si.1 he with rfl|he
   .exact h1
   .exact k2 e he
  .simp only[Ha];refine⟨by rw[G8 h1,hn],Cc.2 fun k d hd=> ?_,k3⟩;obtain⟨hl,hg⟩:=BZ.1 h2;obtain⟨v,hv,hr⟩:=hg k d hd;have hk:k<sz:=by rw[<-h4];exact(Qh.1 hv).1
   refine⟨v,?_,h3 v (Ro hv),hr⟩;have:=h5 k hk;rw[hv]at this;show w.cell? ⟨b,off+k,none⟩=some v;rw[this];congr 2;omega
theorem Gm{E:Nat->Option AK}(hE:Ai P E){cs:Qf}{m:Nat}(ih:∀{n t:Nat}{shs:List Sh}{cs:Qf}{x:DataW H×List MemPlace},n<m->NZ E n t=some shs->(∃fuel,DataW.trod enc P w base sp held fuel t cs=some x)->∃ds,BP shs ds/\BJ (CZ w) ds cs/\(∀c∈cs,c.oneCell'=true)):
  ∀{n o:Nat}{fs:QR}{l:List Sh},n<=m->PP E n o fs=some l->(∀off ft,(off,ft)∈fs->∃fuel x,DataW.trod enc P w base sp held fuel ft ((cs.drop off).take (P.cellsOf ft))=some x)->
   o+l.length<=cs.length->∃ds,BP l ds/\BJ (CZ w) ds ((cs.drop o).take l.length)/\(∀c∈(cs.drop o).take l.length,c.oneCell'=true)
 |n,o,[],l,_,h,_,_=>by
  cases n<;>simp[PP]at h<;>subst h<;>exact⟨[],by simp[BP],by simp[BJ],sm⟩
 |0,o,_::_,l,_,h,_,_=>by simp[PP]at h
 |n+1,o,(off,ft)::r,l,hnm,h,hx,hl=>by
  simp only[PP]at h;split at h
  .rename_i z l1 hb hz hs;split at h
   .rename_i hlen;split at h
    .rename_i l2 h2;cases h;have ho:=Qi hb;subst ho;have hsz:=Qi hlen;rw[DF]at hsz;have hc:=Cl (hE _ _ hz);simp only[RH]at hl;obtain⟨fuel,x,hxx⟩:=hx _ _ (List.mem_cons_self);obtain⟨ds1,a1,a2,a3⟩:=ih om hs ⟨fuel,hxx⟩;rw[hc,<-hsz]at a2 a3;obtain⟨ds2,b1,b2,b3⟩:=Gm hE (fun h=>ih h) (n:=n) om h2 (fun off ft hm=>hx off ft (List.mem_cons_of_mem _ hm)) om;rw[<-hsz]at b2 b3
     have e:(cs.drop o).take (l1++l2).length=(cs.drop o).take l1.length++(cs.drop (o+l1.length)).take l2.length:=by
      rw[RH,List.take_add,List.drop_drop]
     refine⟨ds1++ds2,G7 a1 b1,by rw[e];exact Hb a2 b2,fun c hc=> ?_⟩;rw[e]at hc;rcases TI.1 hc with hc|hc
     .exact a3 c hc
     .exact b3 c hc
    .cases h
   .cases h
  .cases h
theorem HT{sz:Nat}{shs:List Sh}(hn:shs.length=sz):∀{k:Nat}{cs:Qf},cs.length=k*sz->(∀i,i<k->∃ds,BP shs ds/\BJ (CZ w) ds ((cs.drop (i*sz)).take sz)/\∀c∈(cs.drop (i*sz)).take sz,c.oneCell'=true)->
  ∃ds,BP (ND k shs) ds/\BJ (CZ w) ds cs/\∀c∈cs,c.oneCell'=true
 |0,cs,hl,_=>by
  have:cs=[]:=SL (by simpa using hl);subst this;exact⟨[],by simp[ND,BP],by simp[BJ],sm⟩
 |k+1,cs,hl,h=>by
  rw[Nat.succ_mul]at hl;obtain⟨ds1,a1,a2,a3⟩:=h 0 om;simp only[Nat.zero_mul,List.drop_zero]at a2 a3
  obtain⟨ds2,b1,b2,b3⟩:=HT hn (k:=k) (cs:=cs.drop sz) (by simp;omega) (fun i hi=>by
   obtain⟨ds,c1,c2,c3⟩:=h (i+1) om;rw[Nat.succ_mul,Nat.add_comm,<-List.drop_drop]at c2 c3
   exact⟨ds,c1,c2,c3⟩)
  refine⟨ds1++ds2,by simp only[ND];exact G7 a1 b1,?_,fun c hc=> ?_⟩
  .rw[<-List.take_append_drop sz cs];exact Hb a2 b2
  .rw[<-List.take_append_drop sz cs]at hc;rcases TI.1 hc with hc|hc
   .exact a3 c hc
   .exact b3 c hc
theorem E7{E:Nat->Option AK}(hE:Ai P E):∀(m:Nat){n t:Nat}{shs:List Sh}{cs:Qf}{x:DataW H×List MemPlace},n<m->NZ E n t=some shs->(∃fuel,DataW.trod enc P w base sp held fuel t cs=some x)->∃ds,BP shs ds/\BJ (CZ w) ds cs/\(∀c∈cs,c.oneCell'=true)
 |0,_,_,_,_,_,h,_,_=>by omega
 |m+1,0,t,shs,cs,x,_,h,_=>by simp[NZ]at h
 |m+1,n+1,t,shs,cs,x,hnm,h,⟨fuel,hx⟩=>by
  simp only[NZ]at h;split at h
  .cases h
  .rename_i y hy;have hmk:=hE _ _ hy;obtain⟨dsc,hu,hk⟩:=Gt hmk;split at h
   .rename_i k hyk;cases h;rw[hyk]at hk;rw[Cz hk]at hu;obtain⟨v,rfl,_,hw⟩:=DataW.trod_int hu hx;exact⟨[.i k v],by simp[BP,K9,hw],by simp[BJ,RD],by simp[Value.oneCell']⟩
   .rename_i hyk;cases h;rw[hyk]at hk;rw[En hk]at hu;obtain⟨v,rfl,_⟩:=DataW.trod_bool hu hx;exact⟨[.b v],by simp[BP,K9],by simp[BJ,RD],by simp[Value.oneCell']⟩
   .rename_i hyk;cases h;rw[hyk]at hk;rw[Cf hk]at hu;obtain⟨v,rfl,_,hw⟩:=DataW.trod_string hu hx;exact⟨[.s v.data.toList],by simp[BP,K9];simpa using hw,by simp[BJ,RD],by simp[Value.oneCell']⟩
   .rename_i e hyk;rw[hyk]at hk;rw[Bj hk]at hu;split at h
    .cases h
    .rename_i z hz;have hmz:=hE _ _ hz;have hc:=Cl hmz;obtain⟨ez,hez,hkz⟩:=Gt hmz
     have key:∀{sh:List Sh},sh.length=z.size->z.size≠0->(∀{cs:Qf}{x:DataW H×List MemPlace}{fuel:Nat},DataW.trod enc P w base sp held fuel e cs=some x->∃ds,BP sh ds/\BJ (CZ w) ds cs/\(∀c∈cs,c.oneCell'=true))->
       ∃a cap es,cs=[.slice a es.length cap]/\es.length<=cap/\es.length<=maxLen/\(∀e∈es,BP sh e)/\(es=[]\/∃b off,a=some ⟨b,off,none⟩/\Ha (CZ w) z.size es b off):=by
      intro sh hsh hnz hel;rcases DataW.trod_slice hu hx with⟨rfl,_⟩|⟨a,len,cap,elems,rest,n',rfl,rfl,_,_,hlc,hcm,hlen,hget,_⟩
      .exact⟨none,0,[],rfl,sm,sm,sm,.inl rfl⟩
      .rcases Nat.eq_zero_or_pos len with h0|h0
       .subst h0;exact⟨some a,cap,[],rfl,sm,sm,sm,.inl rfl⟩
       .have at_:∀i,i<len->∃vs x,w.cells? base (a.add (i*z.size)) z.size=some vs/\DataW.trod enc P w base sp held n' e vs=some x:=by
         intro i hi;have:=hget i hi;rw[hc,Qm om]at this;rw[Option.bind_eq_some_iff]at this;obtain⟨vs,h1,h2⟩:=this;exact⟨vs,_,h1,h2⟩
        by_cases hz0:z.size=0
        .exact absurd hz0 hnz
        .obtain⟨vs0,x0,h01,h02⟩:=at_ 0 h0;obtain⟨e01,e02⟩:=GK h01
         have hsp:a.spot=none:=by
          have h3:=e02 0 om;rw[Qm om]at h3;have:=cell_spot h3.symm;simpa[Addr.add]using this
         obtain⟨b,off,spt⟩:=a;simp only at hsp;subst hsp
         obtain⟨es,k1,k2,k3⟩:=Jn (w:=w) (b:=b) (off:=off) (sz:=z.size) (shs:=sh) (n:=len) hsh (fun i hi=>by
          obtain⟨vs,x',h1,h2⟩:=at_ i hi;obtain⟨ds,d1,d2,d3⟩:=hel h2;obtain⟨e1,e2⟩:=GK h1;refine⟨ds,vs,d1,d2,d3,e1,fun k hk=> ?_⟩
          rw[e2 k hk,IQ,IQ])
         exact⟨some ⟨b,off,none⟩,cap,es,by rw[k1],om,om,k2,.inr ⟨b,off,rfl,k3⟩⟩
     have conv:∀{q:D}{es:List (R6)}{a:Option Addr}{cap:Nat},Af q=true->AX q->AI q=es.length->slc q=es.flatten->es.length<=cap->(es=[]\/∃b off,a=some ⟨b,off,none⟩/\Ha (CZ w) z.size es b off)->RD (CZ w) q (.slice a es.length cap):=by
      intro q es a cap q1 q2 q3 q4 hc h5;refine(Bm q1).2 ⟨a,cap,by rw[q3],om,q2,?_⟩;rcases h5 with rfl|⟨b,off,ha,hr⟩
      .exact .inl (by simpa using q3)
      .refine .inr ⟨b,off,ha,?_⟩;rw[q4];exact Cc.1 (EQ.1 hr).2
     split at h
     .rename_i hzk;split at h
      .rename_i hb;cases h;have hz1:=Qi hb;rw[hzk]at hkz;rw[Cz hkz]at hez
       obtain⟨a,cap,es,rfl,h1,h2,h3,h4⟩:=key (sh:=[.int .u8]) (by simp[hz1]) om (fun hx=>by
        obtain⟨v,rfl,_,hw⟩:=DataW.trod_int hez hx
        exact⟨[.i .u8 v],by simp[BP,K9,hw],by simp[BJ,RD],by simp[Value.oneCell']⟩)
       obtain⟨l,l1,l2⟩:∃l:A5,es.flatten=l.map (fun x=>D.i .u8 (x.toNat:Int))/\l.length=es.length:=by
        clear h1 h2 h4 conv key hx
        induction es with
        |nil=>exact⟨[],rfl,rfl⟩
        |cons e r ih=>
         obtain⟨l,l1,l2⟩:=ih (fun e he=>h3 e (by simp[he]));have h0:=h3 e sm;simp only[BP,K9]at h0;obtain⟨d,r',rfl,⟨n,rfl,hw⟩,rfl⟩:=h0;exact⟨UInt8.ofNat n.toNat::l,by simp only[Rx,l1,Ru,<-MJ hw,List.cons_append,List.nil_append],by simp[l2]⟩
       refine⟨[.by l],by simp[BP,K9];omega,?_,by simp[Value.oneCell']⟩;simp only[BJ];exact⟨_,[],rfl,conv (q:=.by l) rfl trivial l2 l1.symm h1 h4,rfl⟩
      .cases h
     .rename_i hzk;split at h
      .rename_i hb;cases h;have hz1:=Qi hb;rw[hzk]at hkz;rw[Cz hkz]at hez
       obtain⟨a,cap,es,rfl,h1,h2,h3,h4⟩:=key (sh:=[.int .i64]) (by simp[hz1]) om (fun hx=>by
        obtain⟨v,rfl,_,hw⟩:=DataW.trod_int hez hx
        exact⟨[.i .i64 v],by simp[BP,K9,hw],by simp[BJ,RD],by simp[Value.oneCell']⟩)
       obtain⟨l,l1,l2,l3⟩:∃l:QP,es.flatten=l.map (fun x=>D.i .i64 x)/\l.length=es.length/\∀n∈l,(Lit.int .i64 n).wf=true:=by
        clear h1 h2 h4 conv key hx
        induction es with
        |nil=>exact⟨[],rfl,rfl,sm⟩
        |cons e r ih=>
         obtain⟨l,l1,l2,l3⟩:=ih (fun e he=>h3 e (by simp[he]));have h0:=h3 e sm;simp only[BP,K9]at h0;obtain⟨d,r',rfl,⟨n,rfl,hw⟩,rfl⟩:=h0;refine⟨n::l,by simp only[Rx,l1,Ru,List.cons_append,List.nil_append],by simp[l2],fun n' hn'=> ?_⟩;rcases Si.1 hn' with rfl|hn'
         .exact hw
         .exact l3 n' hn'
       refine⟨[.is l],?_,?_,by simp[Value.oneCell']⟩
       .simp only[BP,K9];exact⟨_,[],rfl,⟨l,rfl,om,l3⟩,rfl⟩
       .simp only[BJ];exact⟨_,[],rfl,conv (q:=.is l) rfl trivial l2 l1.symm h1 h4,rfl⟩
      .cases h
     .split at h
      .rename_i l hl;split at h
       .rename_i hb hb0;cases h;have hz1:=Qi hb;rw[DF]at hz1;obtain⟨a,cap,es,rfl,h1,h2,h3,h4⟩:=key (sh:=l) hz1 (fun e=>by rw[e]at hb0;cases hb0) (fun hx=>E7 hE m om hl ⟨_,hx⟩);refine⟨[.sl (H3 l) es],?_,?_,by simp[Value.oneCell']⟩
        .simp only[BP,K9];exact⟨_,[],rfl,⟨es,rfl,h2,h3⟩,rfl⟩
        .simp only[BJ];refine⟨_,[],rfl,conv (q:=.sl (H3 l) es) rfl (fun e he=>by rw[G8 (h3 e he),DF]) rfl rfl h1 h4,rfl⟩
       .cases h
      .cases h
   .rename_i fs hyk;rw[hyk]at hk;obtain⟨q,rfl,rfl⟩:=FG hk;split at h
    .rename_i l hl;split at h
     .rename_i hb;cases h;have hz1:=Qi hb;rw[DF]at hz1;obtain⟨xs,n',rfl,_,hlen,hxl,hget⟩:=DataW.trod_struct hu hx;rw[Cl hmk]at hlen
      obtain⟨ds,d1,d2,d3⟩:=Gm (m:=m) hE (fun hh hs ⟨fuel,hx⟩=>E7 hE m hh hs ⟨fuel,hx⟩) (cs:=cs) (n:=n) om hl (fun off ft hm=>by
       simp only[List.mem_map,Qo]at hm;obtain⟨f,hf,rfl,rfl⟩:=hm;obtain⟨i,hi,hfi⟩:=List.mem_iff_getElem.1 hf
       have hq:q[i]? =some f:=by
        rw[<-Array.getElem?_toList,Qm hi,hfi]
       have:=hget i f hq;have hi':i<q.size:=by simpa using hi
       rw[Qm om]at this
       exact⟨n',_,this⟩) om
      rw[List.drop_zero,hz1,<-hlen,SK]at d2 d3;exact⟨ds,d1,d2,d3⟩
     .cases h
    .cases h
   .rename_i k e hyk;rw[hyk]at hk;rw[DW hk]at hu;split at h
    .rename_i z l hz hl;split at h
     .rename_i hb hb2;cases h;have hz1:=Qi hb;have hz2:=Qi hb2;rw[DF]at hz1;have hc:=Cl (hE _ _ hz);obtain⟨xs,n',rfl,_,hlen,hxl,hget⟩:=DataW.trod_array hu hx;rw[Cl hmk,<-hz2]at hlen;refine HT hz1 hlen (fun i hi=> ?_);have:=hget i hi;rw[Qm om,hc]at this;exact E7 hE m om hl ⟨n',this⟩
     .cases h
    .cases h
   .cases h
end
end Go.Gar
namespace Go.Gar
open Go.ChangeShapes Go.WideShapes Go.ChangeAt Go.RowKit
def HQ(E:Nat->Option AK)(t:Nat)(d:D):Prop:=
 match E t,NZ E 40 t with
 |some y,some shs=>match y.agg with
  |true=>∃l,d= .agg l/\BP shs l
  |false=>∃s,shs=[s]/\K9 s d
 |_,_=>False
def Ge(E:Nat->Option AK):QQ->R6->Prop
 |[],ds=>ds=[]
 |t::ts,ds=>∃d r,ds=d::r/\HQ E t d/\Ge E ts r
def OD(E:Nat->Option AK)(t:Nat):Bool:=
 match E t,NZ E 40 t with
 |some y,some shs=>match y.agg,y.k,shs with
  |true,.st _,_=>true
  |true,.arr _ _,_=>true
  |false,.int _,[_]=>true
  |false,.bool,[_]=>true
  |false,.str,[_]=>true
  |false,.sl _,[_]=>true
  |_,_,_=>false
 |_,_=>false
section
variable {P:Program}{E:Nat->Option AK}{H:Type}{enc:TypeId×Value->H}{W:World}{base:Nat}{sp:Nat->Bool}{held:Bool}
theorem N6(hE:Ai P E){t:Nat}{v:Value}{d:DataW H}{ps:List MemPlace}{b0:Nat}{r:Reach}(hb:OD E t=true)(h:DataW.Trod enc P W base sp held t v d ps)(ho:Value.okWide P W r b0 t v):∃x,HQ E t x/\RD (CZ W) x v:=by
 unfold OD at hb;unfold HQ
 cases hy:E t with
 |none=>rw[hy]at hb;simp at hb
 |some y=>
  cases hs:NZ E 40 t with
  |none=>rw[hy,hs]at hb;simp at hb
  |some shs=>
   rw[hy,hs]at hb;simp only at hb|-;obtain⟨fuel,hf⟩:=h;obtain⟨ds,d1,d2,d3⟩:=E7 hE 41 om hs ⟨fuel,hf⟩;obtain⟨dsc,hu,hk⟩:=Gt (hE _ _ hy);have notagg:(∀cs,v≠ .agg cs)->v.cells.toList=[v]:=fun h=>by cases v<;>first|rfl|exact absurd rfl (h _)
   have fin:∀s,shs=[s]->(∀cs,v≠ .agg cs)->∃x,(∃s,shs=[s]/\K9 s x)/\RD (CZ W) x v:=by
    intro s hs' hna;subst hs';rw[notagg hna]at d2;simp only[BP]at d1;obtain⟨x,r,rfl,h1,rfl⟩:=d1;simp only[BJ]at d2;obtain⟨u,q,e,h2,rfl⟩:=d2;cases e;exact⟨x,⟨s,rfl,h1⟩,h2⟩
   split at hb
   .rename_i ha hk';simp only[ha];obtain⟨q,hq,_⟩:=FG (hk.trans hk');subst hq;unfold Value.okWide at ho;rw[hu]at ho;obtain⟨cs,rfl,_⟩:=ho;exact⟨.agg ds,⟨ds,rfl,d1⟩,by simp only[RD];exact⟨cs.toList,sm,d2⟩⟩
   .rename_i ha hk';simp only[ha];have hq:=DW (hk.trans hk');subst hq;unfold Value.okWide at ho;rw[hu]at ho;obtain⟨cs,rfl,_⟩:=ho;exact⟨.agg ds,⟨ds,rfl,d1⟩,by simp only[RD];exact⟨cs.toList,sm,d2⟩⟩
   .rename_i s ha hk';simp only[ha];have hq:=Cz (hk.trans hk');subst hq;refine fin s rfl fun cs e=> ?_
    subst e;simp[Value.okWide,Cell.okWide,Cell.ok,hu]at ho
   .rename_i s ha hk';simp only[ha];have hq:=En (hk.trans hk');subst hq;refine fin s rfl fun cs e=> ?_
    subst e;simp[Value.okWide,Cell.okWide,Cell.ok,hu]at ho
   .rename_i s ha hk';simp only[ha];have hq:=Cf (hk.trans hk');subst hq;refine fin s rfl fun cs e=> ?_
    subst e;simp[Value.okWide,Cell.okWide,Cell.ok,hu]at ho
   .rename_i s ha hk';simp only[ha];have hq:=Bj (hk.trans hk');subst hq;refine fin s rfl fun cs e=> ?_
    subst e;simp[Value.okWide,Cell.okWide,Cell.ok,hu]at ho
   .cases hb
theorem HS(hE:Ai P E){b0:Nat}{r:Reach}:∀{ts:QQ}{vs:Qf}{ds:List (DataW H)}{ps:List MemPlace},ts.all (OD E)=true->DataW.TrodAll enc P W base sp held ts vs ds ps->(∀(j:Nat) t v,ts[j]? =some t->vs[j]? =some v->Value.okWide P W r b0 t v)->
  (∃xs,Ge E ts xs/\BJ (CZ W) xs vs)/\ds.length=ts.length
 |[],[],[],_,_,_,_=>⟨⟨[],by simp[Ge],by simp[BJ]⟩,rfl⟩
 |t::ts,v::vs,d::ds,ps,hb,h,ho=>by
  simp only[List.all_cons,Qk]at hb;obtain⟨p,q,h1,h2,_⟩:=h;obtain⟨x,x1,x2⟩:=N6 hE hb.1 h1 (ho 0 t v rfl rfl);obtain⟨⟨xs,y1,y2⟩,hl⟩:=HS hE hb.2 h2 (fun j t v ht hv=>ho (j+1) t v (by simpa using ht) (by simpa using hv));exact⟨⟨x::xs,by simp only[Ge];exact⟨x,xs,rfl,x1,y1⟩,by simp only[BJ];exact⟨v,vs,rfl,x2,y2⟩⟩,by simp[hl]⟩
 |[],[],_::_,_,_,h,_=>h.elim
 |[],_::_,_,_,_,h,_=>by cases h
 |_::_,[],_,_,_,h,_=>by cases h
 |_::_,_::_,[],_,_,h,_=>by cases h
theorem EF(hl:laidOutB P=true){W':World}(hb:Below W.heap.size W W'):∀{ts:QQ}{vs:Qf}{ds:List (DataW H)}{ps:List MemPlace},(ts.all fun t=>P.readableRec t&&decide (t<P.types.size))=true->DataW.TrodAll enc P W 0 (fun _=>true) true ts vs ds ps->(∀x∈ps,x.block<W.heap.size)->
  DataW.TrodAll enc P W' 0 (fun b=>decide (b<W.heap.size)) true ts vs ds ps
 |[],[],[],_,_,h,_=>h
 |t::ts,v::vs,d::ds,ps,hr,h,hlt=>by
  simp only[List.all_cons,Qk,Qv]at hr;obtain⟨p,q,h1,h2,rfl⟩:=h;exact⟨p,q,Below.trod hl hr.1.1 hr.1.2 h1 hb (fun x hx=>hlt x (by simp[hx])),EF hl hb (by simpa using hr.2) h2 (fun x hx=>hlt x (by simp[hx])),rfl⟩
 |[],[],_::_,_,_,h,_=>h.elim
 |[],_::_,_,_,_,h,_=>by cases h
 |_::_,[],_,_,_,h,_=>by cases h
 |_::_,_::_,[],_,_,h,_=>by cases h
theorem Ji{W W':World}(ho:W'.os=W.os)(hout:W'.output=W.output)(h:∀b,b<W.heap.size->W'.heap[b]? =W.heap[b]?)(may:MemPlace->Prop):W.keptBut W' may:=by
 refine⟨ho,hout,fun i hi=> ?_⟩;rw[h i hi];exact(World.keptBut_refl W may).2.2 i hi
theorem LU{fn:Func}{f:FuncId}{s:ChangeSpec}{tb:Nat}(hE:Ai P E)(hl:laidOutB P=true)(hr:(fn.params.toList.all fun t=>P.readableRec t&&decide (t<P.types.size))=true)(hp:fn.params.toList.all (OD E)=true)
  (hres:fn.resultTypes.toList=[tb]) (htb:P.underlying tb=some .bool) (hvars:s.vars=[]) (hs:∀(H:Type)(ds:List (DataW H)),ds.length=fn.params.toList.length->s.fn H ds={results:=[.lit (.bool true)],args:=ds})
  (hF:∀xs,Ge E fn.params.toList xs->Go.Gar.Fn P f xs (.b true)) {args:R2} {ds gs:List (DataW H)} {before:List MemPlace}
  (hval:∀(j:Nat) t v,fn.params[j]? =some t->args[j]? =some v->Value.okWide P W .any base t v) (hW:DataW.Whole enc P fn.params.toList s.vars false W args.toList ds gs before) (hst:Oe (CZ W):=by intro b k v h;cases h):
  Calls P f args W fun e W'=>∃v,e= .returned v/\s.post enc P fn false true false false W args v W':=by
 have hW':=hW;obtain⟨p,q,hA,hV,rfl,_,_⟩:=hW;rw[hvars]at hV;obtain⟨rfl,rfl⟩:=trodVars_none hV;obtain⟨⟨xs,x1,x2⟩,hlen⟩:=HS hE hp hA (fun j t v ht hv=>hval j t v (by simpa using ht) (by simpa using hv));have hc:=(hF xs x1).2 (CZ W) W args (fun b k v h=>h) hst x2;rw[callsIn_wide]at hc;refine hc.mono ?_;rintro e W' ⟨v,m',rfl,h1,_,_,_,h5,h6,h7,h8,h9⟩;simp only[RD]at h1;subst h1;have hb:Below W.heap.size W W':=⟨h5,h6,h7,h8,h9⟩;have hlt:∀x∈p,x.block<W.heap.size:=fun x hx=>hW'.lt x (by simp[hx])
 have hsz:fn.resultTypes.size=1:=by
  have:=congrArg List.length hres;simpa using this
 refine⟨_,rfl,ds,[],p++[],[],p,[],hW',?_,?_,?_,Ji h5 h7 h9 _,fun h=>by cases h⟩
 .rw[hs H (ds++[]) (by simpa using hlen),hres];simp only[Value.resultList,hsz,SG];exact trodAll_mk1 (shut_bool htb true)
 .rw[hs H (ds++[]) (by simpa using hlen)];rw[List.append_nil];exact EF hl hb hr hA hlt
 .rw[hs H (ds++[]) (by simpa using hlen),hvars];rfl
end
end Go.Gar
