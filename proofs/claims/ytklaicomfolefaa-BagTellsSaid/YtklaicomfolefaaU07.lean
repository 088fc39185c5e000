/- Part 7 of a proof. Conditions: those that its theorems state. -/
import Derived.Test.YtklaicomfolefaaU06
set_option linter.unusedSimpArgs false
set_option linter.unusedVariables false
set_option linter.unnecessarySimpa false
set_option maxHeartbeats 40000000
set_option maxRecDepth 4000
namespace Go.Gar
end Go.Gar
namespace Go.Gar
open Go.ChangeShapes Go.WideShapes Go.ChangeAt Go.RowKit
end Go.Gar
namespace Go.Gar
theorem CTl:(∀(α β:Type)(f:α->β)(a b:List α),(a++b).map f=a.map f++b.map f)/\(∀(α β:Type)(f:α->β)(x:α)(a:List α),(x::a).map f=f x::a.map f)/\(∀(α β:Type)(f:α->β),([]:List α).map f=[])/\
  (∀(α:Type)(a b:List α),(a++b).length=a.length+b.length)/\(∀(α:Type)(x:α)(a:List α),(x::a).length=a.length+1)/\(∀(α:Type),([]:List α).length=0)/\(∀(α β:Type)(f:α->β)(a:List α),(a.map f).length=a.length):=
 ⟨fun _ _ _ _ _=>QD,fun _ _ _ _ _=>rfl,fun _ _ _=>rfl,fun _ _ _=>Pm,fun _ _ _=>rfl,fun _=>rfl,fun _ _ _ _=>Po _⟩
theorem A6.cn{S S':St}(hn:S'.n=S.n)(he:Dh S'.env S.env:=by repeat'(first|exact QN|refine PV (by(first|rfl|((with_reducible_and_instances refine congrArg (fun z=>some (AV.d (D.i _ z))) ?_);omega)|(refine congrArg (fun z=>some (AV.d (D.i _ z))) (?_:(_:Int)=_);omega)|(refine congrArg some ?_;simp only[CTl,nC];done)|(refine congrArg some ?_;simp[nC];done))) ?_))
  (hH:Af S'.H S.H:=by repeat'(first|exact QN|refine PV (Or.inr rfl) ?_|refine PV (Or.inl ⟨rfl,rfl⟩) ?_|refine PV (Or.inr (by simp only[CTl,nC])) ?_|refine PV (Or.inr (by simp only[CTl,nC];rfl)) ?_|refine PV (Or.inr (by simp[nC])) ?_))
  (ho:AK S'.H.length S'.H=true:=by first|rfl|(simp(decide:=true) [AK,A1.ok,AV.oks,AV.ok];done)|(simp(decide:=true) [AK,A1.ok,AV.oks,AV.ok,hk];done)) (heo:BE S'.H.length S'.env=true:=by rfl):A6 S S':=A6.cut hn he hH ho heo
section
variable {P:Program}{E:Nat->Option AF}{f:FuncId}{fn:Func}{c:Code}
theorem zF(hE:AW P E)(hf:P.funcs[f]? =some fn){ds:PQ}{r:D}(h:W P none c ⟨C5 0 (ds.map .d),[],fn.ntmps⟩ (F9 fun S'=>∃cc x,Bf E S'.env S'.H fn.results.toList=some (cc,x)/\cc=true/\B3 S'.H x r))
  (hb:fn.body=some c:=by rfl) (hname:(fn.name== "runtime.NumGoroutine")=false:=by rfl) (hn:ds.length<=fn.ntmps:=by exact Qa rfl):Fn P f ds r:=MR hE hf hb hname hn h
variable {R:AV->Pf->Prop}
theorem zT(hE:AW P E)(hf:P.funcs[f]? =some fn){args:PT}{H:Pf}(h:W P none c ⟨C5 0 args,H,fn.ntmps⟩ (F9 fun S0=>∃S',A6 S0 S'/\H.length<=S'.H.length/\∃cc x,Bf E S'.env S'.H fn.results.toList=some (cc,x)/\cc=true/\R x S'.H))(hb:fn.body=some c:=by rfl)(hname:(fn.name== "runtime.NumGoroutine")=false:=by rfl)(hn:args.length<=fn.ntmps:=by exact Qa rfl):Dj P f args H R:=Hb hE hf hb hname hn h
theorem zD(hE:AW P E)(hf:P.funcs[f]? =some fn){args:PT}{H:Pf}{r:AV}{H':Pf}
  (h:W P none c ⟨C5 0 args,H,fn.ntmps⟩ (F9 fun S0=>∃S',A6 S0 S'/\H.length<=S'.H.length/\∃cc x,Bf E S'.env S'.H fn.results.toList=some (cc,x)/\cc=true/\x=r/\S'.H=H'))
  (hb:fn.body=some c:=by rfl) (hname:(fn.name== "runtime.NumGoroutine")=false:=by rfl) (hn:args.length<=fn.ntmps:=by exact Qa rfl):Di P f args H r H':=Ku hE hf hb hname hn h
theorem zR{id n:Nat}{r:Lp}{body:Code}{en:Pa}{hp hp':Pf}{nt:Nat}(k:W P (some id) body ⟨en,hp',nt⟩ (Of id n r R))(h1:hp[id]? =some (.lp r):=by rfl)(h2:hp.set id (.lp r.busy)=hp':=by first|(simp only[Dk,Cf,Nat.reduceAdd,Int.reduceAdd,Int.reduceSub,Int.reduceMul,Int.reduceToNat];done)|(simp only[Dk,Cf,Nat.reduceAdd,Int.reduceAdd,Int.reduceSub,Int.reduceMul,Int.reduceToNat];rfl)|rfl):QAs P id n r body R .normal ⟨en,hp,nt⟩:=by
 subst h2;exact⟨h1,k⟩
variable {rs:List ResultVar}
theorem IS{S:St}{r:D}{cc:Bool}{x:AV}{p:Prop}(n:p)(he:Bf E S.env S.H rs=some (cc,x):=by rfl)(hc:cc=true:=by rfl)(hf:p->B3 S.H x r:=by intro nE;simp[Gk,AD,AO,AI,nE]):∃cc x,Bf E S.env S.H rs=some (cc,x)/\cc=true/\B3 S.H x r:=⟨cc,x,he,hc,hf n⟩
theorem zE{S:St}{r:D}{cc:Bool}{x:AV}(he:Bf E S.env S.H rs=some (cc,x):=by rfl)(hc:cc=true:=by rfl)(hf:B3 S.H x r:=by simp[Gk,AD,AO,AI]):∃cc x,Bf E S.env S.H rs=some (cc,x)/\cc=true/\B3 S.H x r:=⟨cc,x,he,hc,hf⟩
end
theorem zG{P:Program}{ro:P3}{Q:Exit->St->Prop}{g:Operand}{ps:Array Tmp}{asg body:Code}{f:FuncId}{first cap xs:PT}{L:Nat}{F:Lp->Pf}{en:Pa}{hp:Pf}{nt:Nat}(K:Lp->AV->Pf->Prop)
  (seq:∀r,r.is nt en ps asg body->Dj P f xs (F r) (K r))
  (k:∀r,r.is nt en ps asg body->∀x H',K r x H'->
   (H'[L]? =some (.lp r)/\Q .normal ⟨en,H'.set L (.lp r.out),nt⟩)\/
   ∃c,H'[L]? =some (.lp (r.left c))/\W P ro c ⟨en,H'.set L (.lp (r.left c).out),nt⟩ Q)
  (hg:B6 en g=some (.fn (.func f) first cap):=by exact rfl) (hL:hp.length=L:=by first|(simp only[Dk,Cf,Nat.reduceAdd,Int.reduceAdd,Int.reduceSub,Int.reduceMul,Int.reduceToNat];done)|(simp only[Dk,Cf,Nat.reduceAdd,Int.reduceAdd,Int.reduceSub,Int.reduceMul,Int.reduceToNat];rfl)|rfl) (hxs:first++[.yl L]++cap=xs:=by first|(simp only[Dk,Cf,Nat.reduceAdd,Int.reduceAdd,Int.reduceSub,Int.reduceMul,Int.reduceToNat];done)|(simp only[Dk,Cf,Nat.reduceAdd,Int.reduceAdd,Int.reduceSub,Int.reduceMul,Int.reduceToNat];rfl)|rfl) (hF:∀r,hp++[.lp r]=F r:=by intro r;first|(simp only[Dk,Cf,Nat.reduceAdd,Int.reduceAdd,Int.reduceSub,Int.reduceMul,Int.reduceToNat];done)|(simp only[Dk,Cf,Nat.reduceAdd,Int.reduceAdd,Int.reduceSub,Int.reduceMul,Int.reduceToNat];rfl)|rfl):W P ro (.rangeFunc g ps asg body) ⟨en,hp,nt⟩ Q:=
 L5 K hg hL hxs hF seq k
theorem CT0:(∀(α:Type)(a b c:List α),(a++b)++c=a++(b++c))/\(∀(α:Type)(a:List α),a++[]=a)/\(∀(α:Type)(a:List α),[]++a=a)/\(∀(α:Type)(x:α)(a b:List α),(x::a)++b=x::(a++b))/\(∀(α:Type)(a:List α),a.take 0=[])/\(∀(α:Type)(p:α->Bool),([]:List α).any p=false)/\
  (∀(α:Type)(p:α->Bool),([]:List α).filter p=[])/\(∀(α β:Type)(f:β->α->β)(x:β),([]:List α).foldl f x=x)/\(∀(α:Type)(a b:α),(if True then a else b)=a)/\(∀(α:Type)(a b:α),(if False then a else b)=b)/\(∀b:Bool,(true||b)=true)/\(∀b:Bool,(false||b)=b):=by
 simp
theorem A6.co{S S':St}(hn:S'.n=S.n)(he:Dh S'.env S.env:=by repeat'(first|exact QN|refine PV (by(first|rfl|((with_reducible_and_instances refine congrArg (fun z=>some (AV.d (D.i _ z))) ?_);omega)|(refine congrArg (fun z=>some (AV.d (D.i _ z))) (?_:(_:Int)=_);omega)|(refine congrArg some ?_;simp only[CT0,nC,Int.reduceEq,QC,QK,Nat.add_sub_cancel,Nat.succ_ne_zero];done)|(refine congrArg some ?_;simp[nC];done))) ?_))
  (hH:Af S'.H S.H:=by repeat'(first|exact QN|refine PV (Or.inr rfl) ?_|refine PV (Or.inl ⟨rfl,rfl⟩) ?_|refine PV (Or.inr (by simp only[CT0,nC,Int.reduceEq,QC,QK,Nat.add_sub_cancel,Nat.succ_ne_zero])) ?_|refine PV (Or.inr (by simp only[CT0,nC,Int.reduceEq,QC,QK,Nat.add_sub_cancel,Nat.succ_ne_zero];rfl)) ?_|refine PV (Or.inr (by simp[nC])) ?_))
  (ho:AK S'.H.length S'.H=true:=by first|rfl|(simp(decide:=true) [AK,A1.ok,AV.oks,AV.ok];done)|(simp(decide:=true) [AK,A1.ok,AV.oks,AV.ok,hk];done)) (heo:BE S'.H.length S'.env=true:=by rfl):A6 S S':=A6.cut hn he hH ho heo
end Go.Gar
namespace Go.Gar
def JU(S:St)(C:St->Prop):Prop:=∀ro N G a w,Rel ro N S G a w->∃S' G',C S'/\Rel ro N S' G' a w/\K7 G G'
def Gh.Bb(G:Gh)(id b N:Nat)(l:On):Gh:={ρ:=fun j=>if j=G.H.length then some (b,N)else G.ρ j,H:=G.H.set id .gone++[.Bb b N l],m:=G.m}
variable {G:Gh}{b N:Nat}{l:On}
theorem DC{id:Nat}{j:Nat}{q:A1}(h:(G.Bb id b N l).H[j]? =some q):(j=G.H.length/\q= .Bb b N l)\/(j<G.H.length/\j=id/\q= .gone)\/(j<G.H.length/\j≠id/\G.H[j]? =some q):=by
 have h:(G.H.set id .gone++[.Bb b N l])[j]? =some q:=h;rcases PZ j G.H.length with hj|hj
 .rw[PK (by simpa using hj),List.getElem?_set]at h
  by_cases e:id=j
  .subst e;rw[if_pos rfl,if_pos hj]at h;cases h;exact .inr (.inl ⟨hj,rfl,rfl⟩)
  .rw[if_neg e]at h;exact .inr (.inr ⟨hj,Ne.symm e,h⟩)
 .rw[PS (by simpa using hj)]at h;simp only[List.length_set]at h
  have:j-G.H.length=0:=by
   have:=(P6.1 h).1;simp at this;omega
  rw[this]at h;simp at h;exact .inl ⟨om,h.symm⟩
theorem N4{w:World}(hr:A9 G w){id:Nat}(hid:G.H[id]? =some (.a (.by l)))(hρ:G.ρ id=some (b,N))(hl:l.length<=N):A9 (G.Bb id b N l) w/\D3 G (G.Bb id b N l)/\K7 G (G.Bb id b N l):=by
 have hlt:id<G.H.length:=(P6.1 hid).1;have hρ':∀{j},j<G.H.length->(G.Bb id b N l).ρ j=G.ρ j:=fun{j} hj=>if_neg om
 have hρn:(G.Bb id b N l).ρ G.H.length=some (b,N):=if_pos rfl
 have hg:D3 G (G.Bb id b N l):=by
  refine⟨fun j p hp=> ?_,Mem.le_refl _⟩;have hj:j<G.H.length:=(P6.1 hp).1
  by_cases e:j=id
  .subst e;rw[hid]at hp;cases hp;exact⟨.gone,by show(G.H.set j .gone++_)[j]? =_;rw[PK (by simpa using hj),PU hj],trivial⟩
  .refine⟨p,by show(G.H.set id .gone++_)[j]? =_;rw[PK (by simpa using hj),PY (Ne.symm e)];exact hp,?_⟩;have:=hρ' hj;cases p<;>simp_all[A4]
 obtain⟨_,_,hB⟩:=hr.blk id _ hid
 have own:∀c,Own (G.Bb id b N l) c->Own G c:=by
  rintro c ⟨j,M,p,hp,lp,hc⟩;rcases DC hp with⟨rfl,rfl⟩|⟨_,_,rfl⟩|⟨hj,_,h⟩
  .rw[hρn]at hc;cases hc;exact⟨id,N,_,hid,rfl,hρ⟩
  .simp[A1.live]at lp
  .rw[hρ' hj]at hc;exact⟨j,M,p,h,lp,hc⟩
 refine⟨⟨fun j p hp=> ?_,fun i j p q c M M' hp hq lp lq r1 r2=> ?_,hr.mem,fun c hc=>hr.sep c (own c hc),hr.st⟩,hg,⟨fun j p p' hp hp'=> ?_,Mem.le_refl _,own,fun _ _ _ h=> .inl h⟩⟩
 .rcases DC hp with⟨rfl,rfl⟩|⟨_,_,rfl⟩|⟨hj,_,h⟩
  .rcases hB with⟨_,hn⟩|⟨b',N',vs,T,h1,h2,h3,h4⟩
   .rw[hρ]at hn;cases hn
   .rw[hρ]at h1;cases h1;refine⟨vs,T,hρn,h2,h3,hl,fun k x hx=> ?_⟩;obtain⟨v,hv,_,hd⟩:=h4 k (.i .u8 (x.toNat:Int)) (by simp only[slc,Ph,hx,Option.map_some]);simp only[RD]at hd;rw[hv,hd]
  .trivial
  .exact(hr.blk j p h).HZ hg (fun _ _ _ _=>rfl) (hρ' hj)
 .rcases DC hp with⟨rfl,rfl⟩|⟨_,_,rfl⟩|⟨hi,ni,h⟩
  .rcases DC hq with⟨rfl,rfl⟩|⟨_,_,rfl⟩|⟨hj,nj,h'⟩
   .rfl
   .simp[A1.live]at lq
   .rw[hρn]at r1;cases r1;rw[hρ' hj]at r2;exact absurd (hr.inj j id q _ b M' N h' hid lq rfl r2 hρ) nj
  .simp[A1.live]at lp
  .rcases DC hq with⟨rfl,rfl⟩|⟨_,_,rfl⟩|⟨hj,nj,h'⟩
   .rw[hρn]at r2;cases r2;rw[hρ' hi]at r1;exact absurd (hr.inj i id p _ b M N h hid lp rfl r1 hρ) ni
   .simp[A1.live]at lq
   .rw[hρ' hi]at r1;rw[hρ' hj]at r2;exact hr.inj i j p q c M M' h h' lp lq r1 r2
 .rcases DC hp' with⟨rfl,rfl⟩|⟨_,rfl,rfl⟩|⟨hj,_,h⟩
  .have:=(P6.1 hp).1;omega
  .rw[hid]at hp;cases hp;trivial
  .rw[h]at hp;cases hp;have:=hρ' hj;cases p<;>simp_all[A4]
variable {S:St}
theorem Rel.MI{ro:P3}{N:NB}{G':Gh}{a:Act}{w:World}(r:Rel ro N S G a w){env:Pa}(hr:A9 G' w)(t:K7 G G')(he:Bo G' env a.tmps)(hro:∀id q,G.H[id]? =some (.lp q)->G'.H[id]? =some (.lp q)/\G'.ρ id=G.ρ id):Rel ro N ⟨env,G'.H,S.n⟩ G' a w:=
 ⟨rfl,hr,r.size,he,r.marks.MI t,fun id hid=>by
  obtain⟨q,l,M,q1,q2⟩:=r.round id hid;rw[<-r.heap]at q1;obtain⟨h1,h2⟩:=hro id q q1
  exact⟨q,l,M,h1,h2.trans q2⟩⟩
theorem JU.Ni(t id:Nat){d1 d2:D}(ht:get S.env t=some (.ag [.d d1,.sl id l.length 1,.d d2]))(hid:S.H[id]? =some (.a (.by l)))(h0:0<l.length):
  JU S fun S'=>∃b N,(l.length<=N/\N<=maxLen)/\S'=⟨(t,.d (.agg [d1,.raw (.slice (some ⟨b,0,none⟩) l.length N),d2]))::S.env,S.H.set id .gone++[.Bb b N l],S.n⟩:=by
 intro ro M G a w r;have hid':G.H[id]? =some (.a (.by l)):=by rw[r.heap];exact hid
 obtain⟨v,hv,hrv⟩:=r.env t _ ht;simp only[RV,AE]at hrv;obtain⟨us,rfl,u1,_,rfl,h1,u2,_,rfl,⟨h1c,blk,hb,hp⟩,u3,_,rfl,h3,rfl⟩:=hrv;rw[hid']at hb;cases hb;obtain⟨_,_,hp⟩:=hp;rcases hp rfl with⟨e,_⟩|⟨b,N,cap,hρ,rfl,hc1,hc2,rfl⟩
 .omega
 rw[Nat.mul_one]at hρ;obtain⟨k1,k2,k3⟩:=N4 r.rel hid' hρ hc1;refine⟨_,G.Bb id b cap l,⟨b,cap,⟨hc1,hc2⟩,rfl⟩,?_,k3⟩;have:=r.MI (env:=(t,.d (.agg [d1,.raw (.slice (some ⟨b,0,none⟩) l.length cap),d2]))::S.env) k1 k3 (fun s y hy=> ?_) (fun j q hj=> ?_)
 .have e:(G.Bb id b cap l).H=S.H.set id .gone++[.Bb b cap l]:=by show G.H.set id .gone++_=_;rw[r.heap]
  rw[e]at this;exact this
 .simp only[get]at hy;split at hy
  .rename_i hts;have:=P5 hts;subst this;cases hy;refine⟨_,hv,?_⟩;simp only[RV,RD,An];exact⟨_,rfl,_,_,rfl,h1.mono k2.mem,_,_,rfl,⟨rfl,rfl⟩,_,_,rfl,h3.mono k2.mem,rfl⟩
  .obtain⟨z,hz,hrz⟩:=r.env s y hy;exact⟨z,hz,hrz.mono k2⟩
 .have hlt:j<G.H.length:=(P6.1 hj).1;have hne:id≠j:=fun e=>by subst e;rw[hid']at hj;cases hj
  exact⟨by show(G.H.set id .gone++_)[j]? =_;rw[PK (by simpa using hlt),PY hne];exact hj,if_neg om⟩
def Gh.pro(G:Gh)(w:World)(ido idg b:Nat)(x:D):Gh:={ρ:=G.ρ,H:=(G.H.set ido .gone).set idg (.a x),m:=fun c k=>if c=b then w.cell? ⟨b,k,none⟩else G.m c k}
theorem A6.Ni(ido idg p:Nat){sz:Nat}{es es':List (PQ)}(ho:S.H[ido]? =some (.Bb b N l))(hg:S.H[idg]? =some (.a (.sl sz es)))(hc:es.flatten[p]? =some (.raw (.slice (some ⟨b,0,none⟩) l.length N)))(hf:es'.flatten=es.flatten.set p (.by l))(hn:es'.length=es.length)(hz:∀e∈es',e.length=sz):
  A6 S ⟨S.env,(S.H.set ido .gone).set idg (.a (.sl sz es')),S.n⟩:=by
 intro ro M G a w r _;have ho':G.H[ido]? =some (.Bb b N l):=by rw[r.heap];exact ho
 have hg':G.H[idg]? =some (.a (.sl sz es)):=by rw[r.heap];exact hg
 have hne:ido≠idg:=fun e=>by subst e;rw[ho']at hg';cases hg'
 have l1:ido<G.H.length:=(P6.1 ho').1;have l2:idg<G.H.length:=(P6.1 hg').1;obtain⟨vs,T,hρ,hw,hN,hle,hcell⟩:=r.rel.blk ido _ ho';have hownb:Own G b:=⟨ido,N,_,ho',rfl,hρ⟩
 have get:∀{j:Nat}{q:A1},((G.H.set ido .gone).set idg (.a (.sl sz es')))[j]? =some q->(j=ido/\q= .gone)\/(j=idg/\q= .a (.sl sz es'))\/(j≠ido/\j≠idg/\G.H[j]? =some q):=by
  intro j q h
  by_cases e:j=idg
  .subst e;rw[PU (by simpa using l2)]at h;cases h;exact .inr (.inl ⟨rfl,rfl⟩)
  .rw[PY (Ne.symm e)]at h
   by_cases e':j=ido
   .subst e';rw[PU l1]at h;cases h;exact .inl ⟨rfl,rfl⟩
   .rw[PY (Ne.symm e')]at h;exact .inr (.inr ⟨e',e,h⟩)
 let K:=G.pro w ido idg b (.sl sz es')
 have hm:G.m.le K.m:=fun c k v hv=>by
  have:c≠b:=fun e=>by subst e;rw[r.rel.sep c hownb k]at hv;cases hv
  show(if c=b then _ else G.m c k)=_;rw[if_neg this];exact hv
 have hmem:∀c k v,K.m c k=some v->(c=b/\w.cell? ⟨b,k,none⟩=some v)\/(c≠b/\G.m c k=some v):=fun c k v hv=>by
  change (if c=b then w.cell? ⟨b,k,none⟩else G.m c k)=some v at hv;split at hv
  .rename_i e;exact .inl ⟨e,hv⟩
  .rename_i e;exact .inr ⟨e,hv⟩
 have hst:∀{j:Nat}{x:A1},G.H[j]? =some x->∃y,K.H[j]? =some y/\A4 G K j x y:=by
  intro j x hx;have hj:j<G.H.length:=(P6.1 hx).1;have hex:∃y,K.H[j]? =some y:=⟨_,PE (by show j<((G.H.set ido .gone).set idg _).length;simpa using hj)⟩;obtain⟨y,hy⟩:=hex;refine⟨y,hy,?_⟩;rcases get hy with⟨rfl,rfl⟩|⟨rfl,rfl⟩|⟨_,_,h⟩
  .rw[ho']at hx;cases hx;trivial
  .rw[hg']at hx;cases hx;exact⟨rfl,by simp[AD,hn],fun _=>rfl⟩
  .rw[h]at hx;cases hx;cases x<;>simp[A4,K,Gh.pro]
 have hgle:D3 G K:=⟨fun j x hx=>hst hx,hm⟩
 have own:∀c,Own K c->Own G c/\c≠b:=by
  rintro c ⟨j,M',q,hq,lq,hc'⟩;have hc':G.ρ j=some (c,M'):=hc';rcases get hq with⟨rfl,rfl⟩|⟨rfl,rfl⟩|⟨n1,n2,h⟩
  .simp[A1.live]at lq
  .exact⟨⟨j,M',_,hg',rfl,hc'⟩,fun e=>by subst e;exact hne (r.rel.inj ido j _ _ c N M' ho' hg' rfl rfl hρ hc')⟩
  .exact⟨⟨j,M',q,h,lq,hc'⟩,fun e=>by subst e;exact n1 (r.rel.inj j ido _ _ c M' N h ho' lq rfl hc' hρ)⟩
 have hB:=r.rel.blk idg _ hg';obtain⟨_,g2,hB⟩:=hB;refine⟨K,⟨?_,⟨fun j q hq=> ?_,fun i j p q c M1 M2 hp hq lp lq r1 r2=> ?_,fun c k v hv=> ?_,fun c hc' k=> ?_,fun c k v hv=>hm c k v (r.rel.st c k v hv)⟩,r.size,r.env.mono hgle,r.marks.MI ?_,fun j hj=> ?_⟩,?_⟩
 .show(G.H.set ido .gone).set idg _=_;rw[r.heap]
 .rcases get hq with⟨rfl,rfl⟩|⟨rfl,rfl⟩|⟨_,_,h⟩
  .trivial
  .refine⟨rfl,hz,?_⟩;rcases hB with⟨h0,_⟩|⟨b',N',vs',T',k1,k2,k3,k4⟩
   .have:es=[]:=by simpa[AD]using h0
    subst this;simp at hc
   .refine .inr ⟨b',N',vs',T',k1,k2,k3,fun k d hd=> ?_⟩;change es'.flatten[k]? =some d at hd;rw[hf,List.getElem?_set]at hd
    by_cases e:p=k
    .subst e;have hlt:p<es.flatten.length:=(P6.1 hc).1;rw[if_pos rfl,if_pos hlt]at hd;cases hd;obtain⟨v,hv,hv1,hv2⟩:=k4 p _ hc;simp only[RD]at hv2;refine⟨v,hv,hv1,?_⟩;rw[hv2.1];simp only[RD,JR,IT,Po];refine⟨_,N,rfl,hle,.inr ⟨b,0,rfl,fun k x hx=> ?_⟩⟩;simp only[Ph,Pg]at hx;obtain⟨z,hz',rfl⟩:=hx;show(if b=b then w.cell? ⟨b,0+k,none⟩else _)=_;rw[if_pos rfl,Pn,Ag hw];exact hcell k z hz'
    .rw[if_neg e]at hd;obtain⟨v,hv,hv1,hv2⟩:=k4 k d hd;exact⟨v,hv,hv1,hv2.mono hm⟩
  .exact(r.rel.blk j q h).HZ hgle (fun _ _ _ _=>rfl) rfl
 .have back:∀{i:Nat}{p:A1},K.H[i]? =some p->p.live=true->i≠ido/\∃p',G.H[i]? =some p'/\p'.live=true:=by
   intro i p hp lp;rcases get hp with⟨rfl,rfl⟩|⟨rfl,rfl⟩|⟨h1,_,h⟩
   .simp[A1.live]at lp
   .exact⟨Ne.symm hne,_,hg',rfl⟩
   .exact⟨h1,p,h,lp⟩
  obtain⟨_,p',hp',lp'⟩:=back hp lp;obtain⟨_,q',hq',lq'⟩:=back hq lq;exact r.rel.inj i j p' q' c M1 M2 hp' hq' lp' lq' r1 r2
 .rcases hmem c k v hv with⟨rfl,h⟩|⟨_,h⟩
  .exact h
  .exact r.rel.mem c k v h
 .obtain⟨h1,h2⟩:=own c hc';show(if c=b then _ else G.m c k)=none;rw[if_neg h2];exact r.rel.sep c h1 k
 .exact⟨fun j x y hx hy=>by obtain⟨y',h1,h2⟩:=hst hx;rw[hy]at h1;cases h1;exact h2,hm,fun c hc'=>(own c hc').1,fun c k v hv=>(hmem c k v hv).elim (fun h=> .inr (by rw[h.1];exact hownb)) (fun h=> .inl h.2)⟩
 .obtain⟨q,l',M',q1,q2⟩:=r.round j hj;rw[<-r.heap]at q1;refine⟨q,l',M',?_,q2⟩;rw[<-r.heap];show((G.H.set ido .gone).set idg _)[j]? =_;rw[PY (fun e=>by subst e;rw[hg']at q1;cases q1),PY (fun e=>by subst e;rw[ho']at q1;cases q1)];exact q1
 .exact⟨fun j x y hx hy=>by obtain⟨y',h1,h2⟩:=hst hx;rw[hy]at h1;cases h1;exact h2,hm,fun c hc'=>(own c hc').1,fun c k v hv=>(hmem c k v hv).elim (fun h=> .inr (by rw[h.1];exact hownb)) (fun h=> .inl h.2)⟩
section
variable {P:Program}{ro:P3}{ops:P4}{i:Nat}{rest:PC}{Q:Exit->St->Prop}{o:Oper}{en:Pa}{hp:Pf}{nt:Nat}
theorem K9{S:St}{C:St->Prop}(t:JU S C)(hl:∀S',C S'->S.H.length<=S'.H.length)(k:∀S',C S'->Wl P ro ops i rest S' Q):Wl P ro ops i rest S Q:=by
 intro hops N G a w r;obtain⟨S',G',hC,r',t'⟩:=t ro N G a w r;have kf:Ap G w G' w:=(Ap.refl G w).ghost t' (by rw[r.heap,r'.heap];exact hl S' hC);have hy:=k S' hC hops N G' a w r';rw[Bd r r' kf]at hy;exact AP (fun _ _ _ p=>p.trans kf) _ _ _ hy
theorem Mg{l:On}{d1 d2:D}(t id:Nat)(ht:get en t=some (.ag [.d d1,.sl id l.length 1,.d d2]))(hid:hp[id]? =some (.a (.by l)))(h0:0<l.length)
  (k:∀b N,l.length<=N/\N<=maxLen->Wl P ro ops i rest ⟨(t,.d (.agg [d1,.raw (.slice (some ⟨b,0,none⟩) l.length N),d2]))::en,hp.set id .gone++[.Bb b N l],nt⟩ Q):Wl P ro ops i rest ⟨en,hp,nt⟩ Q:=
 K9 (JU.Ni (S:=⟨en,hp,nt⟩) t id ht hid h0) (fun S' ⟨b,N,_,e⟩=>by subst e;simp) (fun S' ⟨b,N,h,e⟩=>by subst e;exact k b N h)
variable {C:Nat->Nat->Prop}{A:Nat->Nat->AV}{B:Nat->Nat->Pf}
theorem OG{g:Nat}{xs:PT}(hT:Dj P g xs [] fun r K=>∃b N,C b N/\r=A b N/\K=B b N)(hg:A2 ops en o=some true)(h:AR en o.op=some (g,AV.Ai (rn [] hp.length) xs))(hd:A7 o.dst nt=true)(k:∀b N,C b N->Wl P ro ops (i+1) rest ⟨AN o.dst ((A b N).ren (rn [] hp.length)) en,Ed [] hp (Bc (rn [] hp.length) (B b N)),nt⟩ Q)(ha:AV.oks 0 xs=true:=by rfl):Wl P ro ops i (o::rest) ⟨en,hp,nt⟩ Q:=
 NX hg h hd (Dj.ren (H2:=hp) [] hT List.nodup_nil trivial rfl ha) fun r K ⟨r',H',⟨b,N,hC,e1,e2⟩,e3,e4⟩=>by
  subst e1;subst e2;subst e3;subst e4;exact k b N hC
theorem OH{g:Nat}{xs:PT}(A':Nat->Nat->AV)(B':Nat->Nat->Pf){e:Nat->Nat->Pa}(hT:Dj P g xs [] fun r K=>∃b N,C b N/\r=A b N/\K=B b N)(hg:A2 ops en o=some true)(h:AR en o.op=some (g,AV.Ai (rn [] hp.length) xs))(hd:A7 o.dst nt=true)(hA:∀b N,(A b N).ren (rn [] hp.length)=A' b N)(hB:∀b N,Ed [] hp (Bc (rn [] hp.length) (B b N))=B' b N)(he:∀b N,AG o.dst (A' b N) en=some (e b N))(k:∀b N,C b N->Wl P ro ops (i+1) rest ⟨e b N,B' b N,nt⟩ Q)(ha:AV.oks 0 xs=true:=by rfl):Wl P ro ops i (o::rest) ⟨en,hp,nt⟩ Q:=
 OG hT hg h hd (fun b N hC=>by rw[hA,hB,<-AB (he b N)];exact k b N hC) ha
end
end Go.Gar
