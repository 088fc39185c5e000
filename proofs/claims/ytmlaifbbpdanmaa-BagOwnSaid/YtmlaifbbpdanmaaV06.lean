/- Part 6 of a proof. Conditions: those that its theorems state. -/
import Derived.Test.YtmlaifbbpdanmaaV05
set_option linter.unusedSimpArgs false
set_option linter.unusedVariables false
set_option maxHeartbeats 40000000
set_option maxRecDepth 4000
namespace Go.Gar
def Lv(_:QQ):Prop:=True
def PW(_:QR):Prop:=True
def Ds(_:QQ)(p:Prop):Prop:=p
def No(_:Nat):Prop:=True
def Dd(_:D):Prop:=True
structure Br (p q A B:Prop):Prop where
 t:p->A
 f:q->B
def Pt:List Rc->Bool
 |[]=>false
 |x::r=>match x.k with
  | .pan _=>true
  |_=>Pt r
structure Sd (c:Bool) (A:Prop):Prop where
 a:A
 c:c=true
structure Rs (R:Prop):Prop where
 x:R
variable {R:Prop}
theorem sdR{c:Bool}{G:Prop}(r:Rs (Sd c R))(k:c=true->Rs R->G):G:=k r.x.2 ⟨r.x.1⟩
variable {p:Prop}
theorem Ds.mk(ids:QQ)(h:p):Ds ids p:=h
section
variable {P:Program}{ro:Qt}{ops:R0}{i:Nat}{rest:R1}{S0:St}{en:R9}{hp:RE}{nt:Nat}{Q:Exit->St->Prop}{o:Oper}{E:Nat->Option AK}{A:Prop}{acc:List Rc}
variable {S:St}
theorem gNil(k:Wl P ro ops i [] S Q):Wl P ro ops i [] S Q:=k
theorem Pr(k:Wd P ro E ops S0 A acc [] S):Wd P ro E ops S0 A acc [] S:=k
def opk:Op->Nat
 | .indexAddr _ _ _=>1
 | .load _ _| .nilCheck _| .binOp _ _ _ _ _| .unOp _ _ _| .convert _ _ _| .slice _ _ _ _ _| .fieldAddr _ _ _| .field _ _ _| .index _ _ _| .build _ _| .makeFunc _ _ _| .extract _ _| .sliceToArrayPointer _ _| .makeInterface _ _| .lookup _ _ _ _| .typeAssert _ _ _ _=>2
 | .call c=>match c.callee with
  | .builtin _=>6
  |_=>3
 | .alloc _| .box _ _| .makeSlice _ _ _| .buildSlice _ _ _| .makeMap _ _=>4
 | .store _ _ _| .insert _ _ _ _| .mapUpdate _ _ _ _=>5
 |_=>6
theorem JI(k:Nat)(_:opk o.op=k)(h:Wl P ro ops i (o::rest) S Q):Wl P ro ops i (o::rest) S Q:=h
theorem JG(k:Nat)(_:opk o.op=k)(h:Wd P ro E ops S0 A acc (o::rest) S):Wd P ro E ops S0 A acc (o::rest) S:=h
theorem Pj(_:o.guard.isSome=true)(h:Wl P ro ops i (o::rest) S Q):Wl P ro ops i (o::rest) S Q:=h
theorem Pd(_:o.guard.isSome=true)(h:Wd P ro E ops S0 A acc (o::rest) S):Wd P ro E ops S0 A acc (o::rest) S:=h
def PQ(ops:R0)(nt:Nat):R1->R9->Nat->R1×R9×Nat
 |[],e,i=>([],e,i)
 |o::r,e,i=>match o.guard with
  |none=>(o::r,e,i)
  |some _=>match A4 ops e o with
   |some false=>match AA o.dst nt with
    |true=>match o.dst with
     |some d=>PQ ops nt r ((d,.d (.tup []))::e) (i+1)
     |none=>PQ ops nt r e (i+1)
    |false=>(o::r,e,i)
   |_=>(o::r,e,i)
theorem Jx:∀(l:R1)(e:R9)(i:Nat){l':R1}{e':R9}{i':Nat},PQ ops nt l e i=(l',e',i')->Wl P ro ops i' l' ⟨e',hp,nt⟩ Q->Wl P ro ops i l ⟨e,hp,nt⟩ Q
 |[],e,i,l',e',i',h,k=>by simp only[PQ,Qo]at h;obtain⟨rfl,rfl,rfl⟩:=h;exact k
 |o::r,e,i,l',e',i',h,k=>by
  simp only[PQ]at h;split at h
  .simp only[Qo]at h;obtain⟨rfl,rfl,rfl⟩:=h;exact k
  .split at h
   .rename_i hg;split at h
    .rename_i hd;split at h
     .rename_i d ho;exact Xs hg hd (by rw[ho];rfl) (Jx r _ _ h k)
     .rename_i ho;exact Xs hg hd (by rw[ho];rfl) (Jx r _ _ h k)
    .simp only[Qo]at h;obtain⟨rfl,rfl,rfl⟩:=h;exact k
   .simp only[Qo]at h;obtain⟨rfl,rfl,rfl⟩:=h;exact k
variable {e0 e:R9}
theorem Ydq(_:Pt acc=true)(h:JM ops acc=true)(hl:BK (looks ops o) en=some e0)(hd:AA o.dst nt=true)(he:AL o.dst .u en=some e)(hk:Wd P ro E ops S0 A (⟨e0,hp,.u,.dead⟩::acc) rest ⟨e,hp,nt⟩):Wd P ro E ops S0 A acc (o::rest) ⟨en,hp,nt⟩:=Yd h hl hd he hk
theorem XsN{l':R1}{e':R9}{i':Nat}(hg:A4 ops en o=some false)(h:PQ ops nt (o::rest) en i=(l',e',i'))(k:Wl P ro ops i' l' ⟨e',hp,nt⟩ Q):Wl P ro ops i (o::rest) ⟨en,hp,nt⟩ Q:=Jx _ _ _ h k
theorem gW{c:Code}(k:W P ro c S Q):W P ro c S Q:=k
variable {id:Nat}
theorem gReg(k:W P ro (.region id ops false) S Q):W P ro (.region id ops false) S Q:=k
theorem gAny(k:W P ro (.region id ops true) S Q):W P ro (.region id ops true) S Q:=k
theorem Pq{c:Operand}{x y:Code}(k:W P ro (.cond c x y) S Q):W P ro (.cond c x y) S Q:=k
variable {K:St->Prop}
theorem qT(k:K S):H7 K Q .normal S:=k
theorem qTr(k:Q .ret S):H7 K Q .ret S:=k
variable {j:Nat}
theorem qTe(k:Q (.exit j) S):H7 K Q (.exit j) S:=k
theorem qTg(k:Q (.goto j) S):H7 K Q (.goto j) S:=k
variable {ch:R4}
theorem qTp(k:Q (.panic ch) S):H7 K Q (.panic ch) S:=k
theorem qBn(k:Q .normal S):F4 j Q .normal S:=k
theorem qBr(k:Q .ret S):F4 j Q .ret S:=k
theorem qBg{l:Nat}(k:Q (.goto l) S):F4 j Q (.goto l) S:=k
theorem qBp(k:Q (.panic ch) S):F4 j Q (.panic ch) S:=k
theorem qSn{c:Code}(k:Q .normal S):CW P ro c Q j .normal S:=by rw[DO (by intro l h;cases h)];exact k
theorem qSr{c:Code}(k:Q .ret S):CW P ro c Q j .ret S:=by rw[DO (by intro l h;cases h)];exact k
theorem qSe{c:Code}{i:Nat}(k:Q (.exit i) S):CW P ro c Q j (.exit i) S:=by rw[DO (by intro l h;cases h)];exact k
theorem qSg{c rest:Code}{l:Nat}(h:findLabel c l=some rest)(k:W P ro rest S (CW P ro c Q j)):CW P ro c Q (j+1) (.goto l) S:=by
 simp only[CW,h];exact k
theorem lQ{e:Exit}(r:Rs (G9 K e S)):G9 K e S:=r.x
theorem lI{α:Type}{I:α->Prop}{F:α->St}{lt:α->Prop}{k:Nat}(r:Rs (QRI I F lt k Q .normal S)):QRI I F lt k Q .normal S:=r.x
variable {n:Nat}
theorem lY{lp:Lp}{R:AV->RE->Prop}{e:Exit}(r:Rs (QA id n lp R e S)):QA id n lp R e S:=r.x
variable {p q B C:Prop}
theorem KB{c:Operand}{x y:Code}{t:Bool}(_:No 1)(hc:Bh S.env c=some (.d (.b t)))(ip:t=true->p)(iq:t=false->q)(r:Rs (Br p q B C))(ht:t=true->Rs B->W P ro x S Q)(hf:t=false->Rs C->W P ro y S Q):W P ro (.cond c x y) S Q:=
 Aj hc (fun h=>ht h ⟨r.x.t (ip h)⟩) (fun h=>hf h ⟨r.x.f (iq h)⟩)
variable {b:Bool}
theorem Ng{d:Nat}(_:No 0)(hg:LQ ops o=some d)(hb:get en d=some (.d (.b b)))(ip:b=true->p)(iq:b=false->q)(r:Rs (Br p q B C))(ht:b=true->Rs B->Wl P ro ops i (o::rest) ⟨(d,.d (.b true))::en,hp,nt⟩ Q)(hf:b=false->Rs C->Wl P ro ops i (o::rest) ⟨(d,.d (.b false))::en,hp,nt⟩ Q):Wl P ro ops i (o::rest) ⟨en,hp,nt⟩ Q:=
 D3 hg hb (fun h=>ht h ⟨r.x.t (ip h)⟩) (fun h=>hf h ⟨r.x.f (iq h)⟩)
theorem Nh{d:Nat}(_:No 0)(hg:LQ ops o=some d)(hb:get en d=some (.d (.b b)))(ip:b=true->p)(iq:b=false->q)(r:Rs (Br p q B C))(ht:b=true->Rs B->Wd P ro E ops S0 A acc (o::rest) ⟨(d,.d (.b true))::en,hp,nt⟩)(hf:b=false->Rs C->Wd P ro E ops S0 A acc (o::rest) ⟨(d,.d (.b false))::en,hp,nt⟩):Wd P ro E ops S0 A acc (o::rest) ⟨en,hp,nt⟩:=
 DT hg hb (fun h=>ht h ⟨r.x.t (ip h)⟩) (fun h=>hf h ⟨r.x.f (iq h)⟩)
variable {live:QQ}
theorem XnL(_:Lv live)(h:BK live en=some e)(k:Q .normal ⟨e,hp,nt⟩):Wl P ro ops i [] ⟨en,hp,nt⟩ Q:=Xn live h k
variable {L:QQ}{c:Bool}{x':AV}{H':RE}
theorem MA(_:Lv L)(hE:Ai P E){q:D}(u2:FP o.dst L=true)(hg:A4 ops en o=some true)(h:GL E en hp o.op=some (c,q))(hd:AA o.dst nt=true)(he:AL o.dst x' en=some e)(hH:Ca hp (.a q)=some H')(k:Wl P ro ops (i+1) rest ⟨e,H',nt⟩ Q)(hc:c=true)(hx: .sl hp.length (AI q) (AU q)=x':=by first|(simp only[EN,CU,Nat.reduceAdd,Int.reduceAdd,Int.reduceSub,Int.reduceMul,Int.reduceToNat,nS];rfl)|rfl):Wl P ro ops i (o::rest) ⟨en,hp,nt⟩ Q:=XaoL L hE u2 hg h hd he hH k hc hx
variable {x:AV}
theorem Oq(_:Lv L)(u1:FP o.dst L=true)(hg:A4 ops en o=some true)(h:GQ en o.op=some (c,x))(hd:AA o.dst nt=true)(he:AL o.dst x' en=some e)(k:Wl P ro ops (i+1) rest ⟨e,hp,nt⟩ Q)(hc:c=true)(hx:x=x':=by rfl):Wl P ro ops i (o::rest) ⟨en,hp,nt⟩ Q:=XwL L u1 hg h hd he k hc hx
theorem MB(_:Lv L)(hE:Ai P E){q:D}(u2:FP o.dst L=true)(hl:BK (looks ops o) en=some e0)(hg:A4 ops e0 o=some true)(h:GL E e0 hp o.op=some (c,q))(hd:AA o.dst nt=true)(he:AL o.dst x' en=some e)(hH:Ca hp (.a q)=some H')(hk:Wd P ro E ops S0 A (⟨e0,hp,x',.eff⟩::acc) rest ⟨e,H',nt⟩)(hc:c=true)(hx: .sl hp.length (AI q) (AU q)=x':=by first|(simp only[EN,CU,Nat.reduceAdd,Int.reduceAdd,Int.reduceSub,Int.reduceMul,Int.reduceToNat,nS];rfl)|rfl):Wd P ro E ops S0 A acc (o::rest) ⟨en,hp,nt⟩:=YaoL L hE u2 hl hg h hd he hH hk hc hx
variable {l:QR}
theorem YnLv(_:Lv live)(_:PW l)(hm:P.follows .mixedOrders=true)(hE:Ai P E)(hd:Dl ops (acc.reverse.map Rc.k) l=true)(hx:Au E ops acc.reverse hp l)(he:BK live en=some e)(hQ:Q .normal ⟨e,hp,nt⟩):Wd P ro E ops S0 (W P ro (.region id ops true) S0 Q) acc [] ⟨en,hp,nt⟩:=Yn live l hm hE hd hx he hQ
theorem YnXL(_:PW l){i0:Nat}(hm:P.follows .mixedOrders=true)(hE:Ai P E)(hp':CR (acc.reverse.map Rc.k)=some (i0,ch))(hd:Bt ops (acc.reverse.map Rc.k) l=true)(hx:Au E ops acc.reverse hp l)(hQ:Q (.panic ch) ⟨[],hp,nt⟩):Wd P ro E ops S0 (W P ro (.region id ops true) S0 Q) acc [] ⟨en,hp,nt⟩:=YnX l hm hE hp' hd hx hQ
theorem Yn2L(_:Lv live)(_:PW l)(hE:Ai P E)(hd:Dl ops (acc.reverse.map Rc.k) l=true)(hx:Au E ops acc.reverse hp l)(he:BK live en=some e)(hQ:Q .normal ⟨e,hp,nt⟩):Wd P ro E ops S0 (GC P ro ops S0 (Qw Q)) acc [] ⟨en,hp,nt⟩:=Yn2 live l hE hd hx he hQ
variable {t:Nat}
theorem Nq(_:No t){x:D}{sz:Nat}(u1:MK t o.op=true)(ht:get en t=some (.sl id n sz))(hid:hp[id]? =some (.a x))(hn:n=AI x)(k:Wl P ro ops i (o::rest) ⟨(t,.d x)::en,Cn id x 0 hp,nt⟩ Q):Wl P ro ops i (o::rest) ⟨en,hp,nt⟩ Q:=Xfz t u1 ht hid hn k
theorem XfuL(_:No t){x:D}{sz:Nat}(u1:Hu t (Mu o.op)=true)(ht:get en t=some (.sl id n sz))(hid:hp[id]? =some (.a x))(hn:n=AI x)(k:Wl P ro ops i (o::rest) ⟨(t,.d x)::en,Cn id x 0 hp,nt⟩ Q):Wl P ro ops i (o::rest) ⟨en,hp,nt⟩ Q:=Xfu t u1 ht hid hn k
theorem Pm(_:No t){q:D}(_:Dd q)(hE:Ai P E){f:Nat->AV}{b:A2}(u3:FP o.dst [t]=true)(hg:A4 ops en o=some true)(h:Ny E en hp o.op=some (c,f,b))(hb:b= .a q)(hd:AA o.dst nt=true)(he:AL o.dst x' en=some e)(hH:Ca hp (.a q)=some H')(hx:f hp.length=x')(k:Wl P ro ops (i+1) rest ⟨e,H',nt⟩ Q)(hc:c=true):Wl P ro ops i (o::rest) ⟨en,hp,nt⟩ Q:=XaB t q hE u3 hg h hb hd he hH hx k hc
variable {H'':RE}
theorem Pn(_:No 2)(hE:Ai P E)(hg:A4 ops en o=some true)(h:JY E en hp o.op=some (c,H'))(hd:AA o.dst nt=true)(he:AL o.dst .u en=some e)(k:Wl P ro ops (i+1) rest ⟨e,H'',nt⟩ Q)(hc:c=true)(hH:H'=H'':=by first|(simp only[nS];rfl)|rfl):Wl P ro ops i (o::rest) ⟨en,hp,nt⟩ Q:=Xsb hE hg h hd he k hc hH
theorem Ot(_:No 2)(hE:Ai P E)(hl:BK (looks ops o) en=some e0)(hg:A4 ops e0 o=some true)(h:JY E e0 hp o.op=some (c,H'))(hd:AA o.dst nt=true)(he:AL o.dst .u en=some e)(k:Wd P ro E ops S0 A (⟨e0,hp,.u,.eff⟩::acc) rest ⟨e,H'',nt⟩)(hc:c=true)(hH:H'=H'':=by first|(simp only[nS];rfl)|rfl):Wd P ro E ops S0 A acc (o::rest) ⟨en,hp,nt⟩:=Ysb hE hl hg h hd he k hc hH
theorem H9(_:Lv L)(u1:Hu id L=false)(h:Wl P ro ops 0 ops.toList S Q):W P ro (.region id ops false) S Q:=L4 L u1 h
theorem Ly(_:Lv L)(E:Nat->Option AK)(u2:Hu id L=false)(h:Wd P ro E ops S (W P ro (.region id ops true) S Q) [] ops.toList S):W P ro (.region id ops true) S Q:=Of L E u2 h
theorem IM(_:No n){c:Code}(h:W P ro c S (Q9 P ro c Q n)):W P ro (.loop c) S Q:=Cd n h
theorem IN{c:Code}(_:No j)(h:W P ro c S (CW P ro c Q j)):W P ro (.scope c) S Q:=Bs j h
variable {g:Nat}{args:R8}{H:RE}{ids:QQ}
theorem NX{r r':AV}(hF:Ds ids (Df P g args H r H'))(hg:A4 ops en o=some true)(h:Ab en o.op=some (g,AV.B4 (rn ids hp.length) args))(hd:AA o.dst nt=true)(hm:Az (rn ids hp.length) hp ids H)(hn:nodupB ids=true)(ho:AM H.length H=true)(ha:AV.oks H.length args=true)(he:AL o.dst r' en=some e)(k:Wl P ro ops (i+1) rest ⟨e,H'',nt⟩ Q)(hr:r.ren (rn ids hp.length)=r':=by first|(simp only[EN,CU,Nat.reduceAdd,Int.reduceAdd,Int.reduceSub,Int.reduceMul,Int.reduceToNat,nS];rfl)|rfl)(hH:F7 ids hp (CG (rn ids hp.length) H')=H'':=by first|(simp only[CU,Nat.reduceAdd];rfl)|rfl):Wl P ro ops i (o::rest) ⟨en,hp,nt⟩ Q:=XD ids hF hg h hd hm hn ho ha he k hr hH
theorem NY{r r':AV}(hF:Ds ids (Df P g args H r H'))(hl:BK (looks ops o) en=some e0)(hg:A4 ops e0 o=some true)(h:Ab e0 o.op=some (g,AV.B4 (rn ids hp.length) args))(hd:AA o.dst nt=true)(hm:Az (rn ids hp.length) hp ids H)(hn:nodupB ids=true)(ho:AM H.length H=true)(ha:AV.oks H.length args=true)(he:AL o.dst r' en=some e)(hk:Wd P ro E ops S0 A (⟨e0,hp,r',.eff⟩::acc) rest ⟨e,H'',nt⟩)(hr:r.ren (rn ids hp.length)=r':=by first|(simp only[EN,CU,Nat.reduceAdd,Int.reduceAdd,Int.reduceSub,Int.reduceMul,Int.reduceToNat,nS];rfl)|rfl)(hH:F7 ids hp (CG (rn ids hp.length) H')=H'':=by first|(simp only[CU,Nat.reduceAdd];rfl)|rfl):Wd P ro E ops S0 A acc (o::rest) ⟨en,hp,nt⟩:=YD ids hF hl hg h hd hm hn ho ha he hk hr hH
theorem PK(hF:Ds ids (NV P g args H ch H'))(hg:A4 ops en o=some true)(h:Ab en o.op=some (g,AV.B4 (rn ids hp.length) args))(hm:Az (rn ids hp.length) hp ids H)(hn:nodupB ids=true)(ho:AM H.length H=true)(ha:AV.oks H.length args=true)(k:Q (.panic ch) ⟨en,H'',nt⟩)(hH:F7 ids hp (CG (rn ids hp.length) H')=H'':=by first|(simp only[CU,Nat.reduceAdd];rfl)|rfl):Wl P ro ops i (o::rest) ⟨en,hp,nt⟩ Q:=XX ids hF hg h hm hn ho ha k hH
theorem PL(hF:Ds ids (NV P g args H ch H'))(hl:BK (looks ops o) en=some e0)(hg:A4 ops e0 o=some true)(h:Ab e0 o.op=some (g,AV.B4 (rn ids hp.length) args))(hd:AA o.dst nt=true)(hm:Az (rn ids hp.length) hp ids H)(hn:nodupB ids=true)(ho:AM H.length H=true)(ha:AV.oks H.length args=true)(he:AL o.dst .u en=some e)(hk:Wd P ro E ops S0 A (⟨e0,hp,.u,.pan ch⟩::acc) rest ⟨e,H'',nt⟩)(hH:F7 ids hp (CG (rn ids hp.length) H')=H'':=by first|(simp only[CU,Nat.reduceAdd];rfl)|rfl):Wd P ro E ops S0 A acc (o::rest) ⟨en,hp,nt⟩:=YX ids hF hl hg h hd hm hn ho ha he hk hH
theorem XfdL{r:D}(_:Dd (.tup [.i .i64 t,r]))(u1:Hu t (Mu o.op)=true)(ht:get en t=some x)(hx:Gw [x] [r])(hne:(match x with| .d _=>false|_=>true)=true)(k:Wl P ro ops i (o::rest) ⟨(t,.d r)::en,hp,nt⟩ Q):Wl P ro ops i (o::rest) ⟨en,hp,nt⟩ Q:=Xfd t r u1 ht hx hne k
theorem XyBR{xs:R8}{r0:Lp}{H1 H2:RE}{e1 e2:R9}(hT:b=true->YT P id xs hp fun r K=>r= .d (.b true)/\K=H1)(hF:b=false->YT P id xs hp fun r K=>r= .d (.b false)/\K=H2)(hg:A4 ops en o=some true)(h:Eb en o.op=some (id,xs))(hd:AA o.dst nt=true)(hlp:hp[id]? =some (.lp r0))(he1:AL o.dst (.d (.b true)) en=some e1)(he2:AL o.dst (.d (.b false)) en=some e2)(hp':b=true->p)(hq':b=false->q)(r:Rs (Br p q B C))(k1:b=true->Rs B->Wl P ro ops (i+1) rest ⟨e1,H1,nt⟩ Q)(k2:b=false->Rs C->Wl P ro ops (i+1) rest ⟨e2,H2,nt⟩ Q):Wl P ro ops i (o::rest) ⟨en,hp,nt⟩ Q:=
 XyB b hT hF hg h hd hlp he1 he2 (fun h=>k1 h ⟨r.x.t (hp' h)⟩) (fun h=>k2 h ⟨r.x.f (hq' h)⟩)
def LW(n:Int):QP->Bool
 |[]=>true
 |k::r=> !(n==k)&&LW n r
def Ga(kd:IntKind):RL->Option (QP)
 |[]=>some []
 |(.i k a,_)::r=>match decide (kd=k),Ga kd r with
  |true,some l=>some (a::l)
  |_,_=>none
 |_::_=>none
theorem HN{kd:IntKind}{n:Int}:∀{es:RL}{ks:QP},Ga kd es=some ks->LW n ks=true->FW (.i kd n) es=some none
 |[],ks,h,hk=>rfl
 |(.i k a,v)::r,ks,h,hk=>by
  simp only[Ga]at h;split at h
  .rename_i l h1 h2;cases h;simp only[LW,Qk,Bool.not_eq_true']at hk;have e:=of_decide_eq_true h1;simp only[FW,sameD,Rf e,hk.1];exact HN h2 hk.2
  .cases h
 |(.b _,_)::_,_,h,_|(.s _,_)::_,_,h,_|(.f _ _,_)::_,_,h,_|(.agg _,_)::_,_,h,_|(.tup _,_)::_,_,h,_|(.by _,_)::_,_,h,_|(.is _,_)::_,_,h,_|(.sl _ _,_)::_,_,h,_|(.np,_)::_,_,h,_|(.nf,_)::_,_,h,_|(.ni,_)::_,_,h,_|(.nm,_)::_,_,h,_|(.ifc _ _,_)::_,_,h,_|(.raw _,_)::_,_,h,_=>by simp[Ga]at h
def KR(E:Nat->Option AK)(env:R9)(H:RE):Op->Option (Int×QP×Bool×AV)
 | .lookup t m k ok=>match Bh env m,Bh env k with
  |some (.mp id),some (.d (.i kd n))=>match H[id]?,E t with
   |some (.m es),some y=>match y.k with
    | .mp kt et=>match E kt,E et,Ga kd es with
     |some yk,some _,some ks=>some (n,ks,FF yk.k,if ok then .tup [.u,.d (.b false)]else .u)
     |_,_,_=>none
    |_=>none
   |_,_=>none
  |_,_=>none
 |_=>none
variable {ks:QP}
theorem KS{env:R9}{op:Op}{n:Int}(h:KR E env H op=some (n,ks,c,x))(hk:LW n ks=true):Fl E env H op=some (c,x):=by
 unfold KR at h;split at h
 .split at h
  .rename_i id kd n' hm hn;split at h
   .rename_i es y hes hy;split at h
    .rename_i kt et hyk;split at h
     .rename_i yk ye ks' h1 h2 h3;simp only[Qj,Qo]at h;obtain⟨rfl,rfl,rfl,rfl⟩:=h;simp only[Fl,hm,hn,Hp,hes,hy,hyk,h1,h2,HN h3 hk]
     .cases h
    .cases h
   .cases h
  .cases h
 .cases h
theorem XlkL{n:Int}(hk:LW n ks=true)(hE:Ai P E)(hg:A4 ops en o=some true)(h:KR E en hp o.op=some (n,ks,c,x))(hd:AA o.dst nt=true)(he:AL o.dst x' en=some e)(k:Wl P ro ops (i+1) rest ⟨e,hp,nt⟩ Q)(hc:c=true)(hx:x=x':=by rfl):Wl P ro ops i (o::rest) ⟨en,hp,nt⟩ Q:=Xq hE hg (KS h hk) hd he k hc hx
theorem YlkL{n:Int}(hk:LW n ks=true)(hl:BK (looks ops o) en=some e0)(hg:A4 ops e0 o=some true)(h:KR E e0 hp o.op=some (n,ks,c,x))(hd:AA o.dst nt=true)(he:AL o.dst x' en=some e)(hk':Wd P ro E ops S0 A (⟨e0,hp,x',.quiet⟩::acc) rest ⟨e,hp,nt⟩)(hc:c=true)(hx:x=x':=by rfl):Wd P ro E ops S0 A acc (o::rest) ⟨en,hp,nt⟩:=Yq hl hg (KS h hk) hd he hk' hc hx
end
structure QE:Prop
theorem J9:QE:=⟨⟩
inductive Sb:Bool->Prop where
 |f:Sb false
 |t:Sb true
theorem P6(b:Bool):Sb b:=by cases b<;>constructor
theorem scO(_:Sb true):No 3:=trivial
variable {a0:Prop}
theorem C0(x0:a0):a0/\QE:=⟨x0,J9⟩
variable {a1:Prop}
theorem Fz(x0:a0)(x1:a1):a0/\a1/\QE:=⟨x0,x1,J9⟩
theorem Na{a2:Prop}(x0:a0)(x1:a1)(x2:a2):a0/\a1/\a2/\QE:=⟨x0,x1,x2,J9⟩
theorem HY(i0:QQ)(x0:a0):Ds i0 a0/\QE:=⟨x0,J9⟩
theorem zd2(i0:QQ)(x0:a0)(i1:QQ)(x1:a1):Ds i0 a0/\Ds i1 a1/\QE:=⟨x0,x1,J9⟩
def Wk(R g:Prop)(L K:QQ)(p q s:Prop)(M:QR)(Z:Bool):Prop:=Lv L->Lv K->PW M->No 0->No 1->Sb Z->p->q->s->Rs R->g
variable {g q s:Prop}
set_option maxRecDepth 100000 in
theorem wb{L K:QQ}{M:QR}{Z:Bool}(h:Lv L->Lv K->PW M->No 0->No 1->Sb Z->p->q->s->Rs R->g:=by intro lv st pr ns nc sc nS zq zd r;(try obtain⟨c1,zq⟩:_/\_:=zq);(try obtain⟨c2,zq⟩:_/\_:=zq);(try obtain⟨c3,zq⟩:_/\_:=zq);(try obtain⟨c4,zq⟩:_/\_:=zq);(try obtain⟨c5,zq⟩:_/\_:=zq);(try obtain⟨c6,zq⟩:_/\_:=zq);(try obtain⟨c7,zq⟩:_/\_:=zq);(try obtain⟨c8,zq⟩:_/\_:=zq);(try obtain⟨c9,zq⟩:_/\_:=zq);(try obtain⟨c10,zq⟩:_/\_:=zq);(try obtain⟨c11,zq⟩:_/\_:=zq);(try obtain⟨c12,zq⟩:_/\_:=zq);(try obtain⟨c13,zq⟩:_/\_:=zq);(try obtain⟨c14,zq⟩:_/\_:=zq);(try obtain⟨c15,zq⟩:_/\_:=zq);(try obtain⟨c16,zq⟩:_/\_:=zq);(try obtain⟨d1,zd⟩:_/\_:=zd);(try obtain⟨d2,zd⟩:_/\_:=zd);(try obtain⟨d3,zd⟩:_/\_:=zd);(try obtain⟨d4,zd⟩:_/\_:=zd);(try obtain⟨d5,zd⟩:_/\_:=zd);(try obtain⟨d6,zd⟩:_/\_:=zd);(try obtain⟨d7,zd⟩:_/\_:=zd);(try obtain⟨d8,zd⟩:_/\_:=zd);(try obtain⟨d9,zd⟩:_/\_:=zd);(try obtain⟨d10,zd⟩:_/\_:=zd);(repeat'(first|((with_reducible refine Fg ?_);first|((with_reducible refine gNil ?_);first|refine XnL lv rfl ?_|refine M7 ?_)|(refine Pj rfl ?_;refine XsN rfl rfl ?_)|(refine XfdL fd1 rfl rfl (by first|(simp[Gw,BY,Bg,Af,AI,AX];done)|(repeat'(first|rfl|trivial|refine⟨rfl,rfl,by simp[AX]⟩|refine⟨_,_,rfl,?_,?_⟩|refine⟨_,rfl,?_⟩))) rfl ?_)|(refine AZ rfl ?_;refine Fa A7 rfl rfl rfl rfl ?_)|(refine JI 1 rfl ?_;first|refine IH A7 rfl rfl rfl rfl rfl (RF _) (Ag ix1) ?_|refine IH A7 rfl rfl rfl rfl rfl (RF _) (Ag ix2) ?_|refine IH A7 rfl rfl rfl rfl rfl (RF _) (Ag ix3) ?_|refine IH A7 rfl rfl rfl rfl rfl (RF _) (Ag ix4) ?_)|((first|(refine JI 1 rfl ?_;first|refine Oq wr rfl rfl rfl rfl rfl ?_ ?_|refine Xq A7 rfl rfl rfl rfl ?_ ?_)|(refine JI 2 rfl ?_;first|refine XlkL lk1 A7 rfl rfl rfl rfl ?_ ?_|refine Oq wr rfl rfl rfl rfl rfl ?_ ?_|refine Xq A7 rfl rfl rfl rfl ?_ ?_)|(refine JI 4 rfl ?_;first|refine MA ow A7 rfl rfl rfl rfl rfl rfl ?_ ?_|refine Pm k1 k2 A7 rfl rfl rfl (by first|rfl|simp[EG]) rfl rfl rfl rfl ?_ ?_|refine Xa A7 rfl rfl rfl rfl rfl ?_ ?_|refine Xq A7 rfl rfl rfl rfl ?_ ?_|refine Xbs A7 rfl rfl rfl rfl rfl rfl ?_ ?_)|(refine JI 5 rfl ?_;first|refine Xw A7 rfl rfl rfl rfl ?_ ?_|refine Pn sb A7 rfl rfl rfl rfl ?_ ?_|refine Xsc A7 rfl rfl rfl rfl ?_ ?_)|(refine JI 6 rfl ?_;first|refine MA ow A7 rfl rfl rfl rfl rfl rfl ?_ ?_|refine Xq A7 rfl rfl rfl rfl ?_ ?_|refine Xw A7 rfl rfl rfl rfl ?_ ?_|refine Xa A7 rfl rfl rfl rfl rfl ?_ ?_));rotate_left;focus((repeat'(first|with_reducible rfl|((with_reducible refine CO ?_);first|kernel_rfl|rfl|(simp[B9,Bc,nS];done))|with_reducible refine CM ?_ ?_|with_reducible exact Ri _|with_reducible exact AP _|((with_reducible refine RQ ?_);first|omega|(simp only[BB,nS];omega))|decide|(simp[BB,slc,AJ,D.one,Ac,AV.one,nS];done)|(simp[BB,nS];omega)));done))|(refine JI 3 rfl ?_;first|refine Nq fz1 rfl rfl rfl (by first|rfl|simp[AI]) ?_|refine Nq fz2 rfl rfl rfl (by first|rfl|simp[AI]) ?_|refine Nq fz3 rfl rfl rfl (by first|rfl|simp[AI]) ?_|refine Nq fz4 rfl rfl rfl (by first|rfl|simp[AI]) ?_|refine XT t1 rfl rfl rfl rfl ?_|refine XF (c1 ..) rfl rfl rfl rfl ?_|refine XF (c2 ..) rfl rfl rfl rfl ?_|refine XF (c3 ..) rfl rfl rfl rfl ?_|refine XF (c4 ..) rfl rfl rfl rfl ?_|refine XF (c5 ..) rfl rfl rfl rfl ?_|refine XF (c6 ..) rfl rfl rfl rfl ?_|refine XF (c7 ..) rfl rfl rfl rfl ?_|refine XF (c8 ..) rfl rfl rfl rfl ?_|refine XF (c9 ..) rfl rfl rfl rfl ?_|refine XF (c10 ..) rfl rfl rfl rfl ?_|refine XF (c11 ..) rfl rfl rfl rfl ?_|refine XF (c12 ..) rfl rfl rfl rfl ?_|refine XF (c13 ..) rfl rfl rfl rfl ?_|refine XF (c14 ..) rfl rfl rfl rfl ?_|refine XF (c15 ..) rfl rfl rfl rfl ?_|refine XF (c16 ..) rfl rfl rfl rfl ?_|(refine Pl (z1 ..) rfl rfl rfl rfl ?_ ?_;(first|(simp[Gw,BY,Bg,Af,AI,AX];done)|(repeat'(first|rfl|trivial|refine⟨rfl,rfl,by simp[AX]⟩|refine⟨_,_,rfl,?_,?_⟩|refine⟨_,rfl,?_⟩))))|(refine Pl (z2 ..) rfl rfl rfl rfl ?_ ?_;(first|(simp[Gw,BY,Bg,Af,AI,AX];done)|(repeat'(first|rfl|trivial|refine⟨rfl,rfl,by simp[AX]⟩|refine⟨_,_,rfl,?_,?_⟩|refine⟨_,rfl,?_⟩))))|(refine Pl (z3 ..) rfl rfl rfl rfl ?_ ?_;(first|(simp[Gw,BY,Bg,Af,AI,AX];done)|(repeat'(first|rfl|trivial|refine⟨rfl,rfl,by simp[AX]⟩|refine⟨_,_,rfl,?_,?_⟩|refine⟨_,rfl,?_⟩))))|(refine NX (d1 ..) rfl rfl rfl ?_ rfl rfl rfl rfl ?_;(focus((repeat(first|exact trivial|refine⟨rfl,?_⟩));done)))|(refine NX (d2 ..) rfl rfl rfl ?_ rfl rfl rfl rfl ?_;(focus((repeat(first|exact trivial|refine⟨rfl,?_⟩));done)))|(refine NX (d3 ..) rfl rfl rfl ?_ rfl rfl rfl rfl ?_;(focus((repeat(first|exact trivial|refine⟨rfl,?_⟩));done)))|(refine NX (d4 ..) rfl rfl rfl ?_ rfl rfl rfl rfl ?_;(focus((repeat(first|exact trivial|refine⟨rfl,?_⟩));done)))|(refine NX (d5 ..) rfl rfl rfl ?_ rfl rfl rfl rfl ?_;(focus((repeat(first|exact trivial|refine⟨rfl,?_⟩));done)))|(refine NX (d6 ..) rfl rfl rfl ?_ rfl rfl rfl rfl ?_;(focus((repeat(first|exact trivial|refine⟨rfl,?_⟩));done)))|(refine NX (d7 ..) rfl rfl rfl ?_ rfl rfl rfl rfl ?_;(focus((repeat(first|exact trivial|refine⟨rfl,?_⟩));done)))|(refine NX (d8 ..) rfl rfl rfl ?_ rfl rfl rfl rfl ?_;(focus((repeat(first|exact trivial|refine⟨rfl,?_⟩));done)))|(refine NX (d9 ..) rfl rfl rfl ?_ rfl rfl rfl rfl ?_;(focus((repeat(first|exact trivial|refine⟨rfl,?_⟩));done)))|(refine NX (d10 ..) rfl rfl rfl ?_ rfl rfl rfl rfl ?_;(focus((repeat(first|exact trivial|refine⟨rfl,?_⟩));done)))|refine Xy q1 rfl rfl rfl rfl rfl ?_|refine Xy (q1 _) rfl rfl rfl rfl rfl ?_|refine Xy (q1 _ _) rfl rfl rfl rfl rfl ?_|(refine' XyBR (g1T _) (g1F _) rfl rfl rfl rfl rfl rfl ?_ ?_ r (fun hc s=> ?_) (fun hc s=> ?_);(all_goals(first|guard_target=Prop|(clear r;have r:=s;clear s;(try simp only[CV]at hc);(try(exfalso;omega)))|(intro hc;(try simp only[CV]at hc);first|done|exact hc))))|(refine PK (x1 ..) rfl rfl ?_ rfl rfl rfl ?_;(focus((repeat(first|exact trivial|refine⟨rfl,?_⟩));done)))|(refine PK (x2 ..) rfl rfl ?_ rfl rfl rfl ?_;(focus((repeat(first|exact trivial|refine⟨rfl,?_⟩));done)))|(refine PK (x3 ..) rfl rfl ?_ rfl rfl rfl ?_;(focus((repeat(first|exact trivial|refine⟨rfl,?_⟩));done)))|(refine PK (x4 ..) rfl rfl ?_ rfl rfl rfl ?_;(focus((repeat(first|exact trivial|refine⟨rfl,?_⟩));done)))|(refine PK (x5 ..) rfl rfl ?_ rfl rfl rfl ?_;(focus((repeat(first|exact trivial|refine⟨rfl,?_⟩));done)))|(refine PK (x6 ..) rfl rfl ?_ rfl rfl rfl ?_;(focus((repeat(first|exact trivial|refine⟨rfl,?_⟩));done))))|refine Xpan rfl rfl rfl ?_|refine XfuL fu1 rfl rfl rfl (by first|rfl|simp[AI]) ?_|(refine' Ng ns rfl rfl ?_ ?_ r (fun hc s=> ?_) (fun hc s=> ?_);(all_goals(first|guard_target=Prop|(clear r;have r:=s;clear s;(fail_if_success (with_reducible first|exact tF hc|exact fT hc));(try simp only[CV]at hc);(try(exfalso;omega)))|(intro hc;(try simp only[CV]at hc);first|done|exact hc))))|(refine' sdR r (fun hs s=> ?_);rotate_left 2;clear r;have r:=s;clear s;first|refine MA ow A7 rfl rfl rfl rfl rfl rfl ?_ hs|refine Pm k1 k2 A7 rfl rfl rfl (by first|rfl|simp[EG]) rfl rfl rfl rfl ?_ hs|refine Xa A7 rfl rfl rfl rfl rfl ?_ hs|refine Oq wr rfl rfl rfl rfl rfl ?_ hs|refine Xq A7 rfl rfl rfl rfl ?_ hs|refine Xw A7 rfl rfl rfl rfl ?_ hs|refine Pn sb A7 rfl rfl rfl rfl ?_ hs|refine Xsc A7 rfl rfl rfl rfl ?_ hs))|((with_reducible refine LP ?_);first|((with_reducible refine Pr ?_);first|(refine YnXL pr mixed A7 rfl (by kernel_rfl) ?_ ?_;focus(simp only[Au];repeat'(first|exact Rk|refine RI ?_ ?_|exact⟨_,rfl,rfl⟩|rfl)))|(refine YnLv lv pr mixed A7 (by kernel_rfl) ?_ rfl ?_;focus(simp only[Au];repeat'(first|exact Rk|refine RI ?_ ?_|exact⟨_,rfl,rfl⟩|rfl)))|(refine Yn2L lv pr A7 (by kernel_rfl) ?_ rfl ?_;focus(simp only[Au];repeat'(first|exact Rk|refine RI ?_ ?_|exact⟨_,rfl,rfl⟩|rfl))))|(refine Ydq rfl ?_ rfl rfl rfl ?_;focus(simp only[JM,List.reverse_cons,List.reverse_nil,List.nil_append,Sl,Ru,TJ,List.cons_append,CR,Qz,RY,List.any_cons,List.any_nil,Kd.El,Bool.or_false,Bool.false_or,Ry,SY];decide +kernel))|(refine Pd rfl ?_;refine Ys rfl rfl rfl rfl ?_)|(refine Bb rfl ?_;refine L5 A7 rfl rfl (fun _=>rfl) rfl rfl ?_)|(refine JG 1 rfl ?_;first|refine MC A7 rfl rfl (fun _=>rfl) rfl rfl rfl (RF _) (Ag ix1) ?_|refine MC A7 rfl rfl (fun _=>rfl) rfl rfl rfl (RF _) (Ag ix2) ?_|refine MC A7 rfl rfl (fun _=>rfl) rfl rfl rfl (RF _) (Ag ix3) ?_|refine MC A7 rfl rfl (fun _=>rfl) rfl rfl rfl (RF _) (Ag ix4) ?_)|((first|(refine JG 1 rfl ?_;first|refine Yp A7 rfl rfl (fun _=>rfl) rfl rfl ?_ ?_|refine Yq rfl rfl rfl rfl rfl ?_ ?_)|(refine JG 2 rfl ?_;first|refine YlkL lk1 rfl rfl rfl rfl rfl ?_ ?_|refine Yp A7 rfl rfl (fun _=>rfl) rfl rfl ?_ ?_|refine Yq rfl rfl rfl rfl rfl ?_ ?_)|(refine JG 4 rfl ?_;first|refine MB ow A7 rfl rfl rfl rfl rfl rfl rfl ?_ ?_|refine Ya A7 rfl rfl rfl rfl rfl rfl ?_ ?_|refine Yp A7 rfl rfl (fun _=>rfl) rfl rfl ?_ ?_|refine Yq rfl rfl rfl rfl rfl ?_ ?_)|(refine JG 5 rfl ?_;first|refine Yw A7 rfl rfl rfl rfl rfl ?_ ?_|refine Ot sb A7 rfl rfl rfl rfl rfl ?_ ?_|refine Ysc A7 rfl rfl rfl rfl rfl ?_ ?_)|(refine JG 6 rfl ?_;first|refine MB ow A7 rfl rfl rfl rfl rfl rfl rfl ?_ ?_|refine Yp A7 rfl rfl (fun _=>rfl) rfl rfl ?_ ?_|refine Yq rfl rfl rfl rfl rfl ?_ ?_|refine Yw A7 rfl rfl rfl rfl rfl ?_ ?_|refine Ot sb A7 rfl rfl rfl rfl rfl ?_ ?_|refine Ysc A7 rfl rfl rfl rfl rfl ?_ ?_|refine Ya A7 rfl rfl rfl rfl rfl rfl ?_ ?_));rotate_left;focus((repeat'(first|with_reducible rfl|((with_reducible refine CO ?_);first|kernel_rfl|rfl|(simp[B9,Bc,nS];done))|with_reducible refine CM ?_ ?_|with_reducible exact Ri _|with_reducible exact AP _|((with_reducible refine RQ ?_);first|omega|(simp only[BB,nS];omega))|decide|(simp[BB,slc,AJ,D.one,Ac,AV.one,nS];done)|(simp[BB,nS];omega)));done))|(refine JG 3 rfl ?_;first|refine YF (c1 ..) rfl rfl rfl rfl rfl ?_|refine YF (c2 ..) rfl rfl rfl rfl rfl ?_|refine YF (c3 ..) rfl rfl rfl rfl rfl ?_|refine YF (c4 ..) rfl rfl rfl rfl rfl ?_|refine YF (c5 ..) rfl rfl rfl rfl rfl ?_|refine YF (c6 ..) rfl rfl rfl rfl rfl ?_|refine YF (c7 ..) rfl rfl rfl rfl rfl ?_|refine YF (c8 ..) rfl rfl rfl rfl rfl ?_|refine YF (c9 ..) rfl rfl rfl rfl rfl ?_|refine YF (c10 ..) rfl rfl rfl rfl rfl ?_|refine YF (c11 ..) rfl rfl rfl rfl rfl ?_|refine YF (c12 ..) rfl rfl rfl rfl rfl ?_|refine YF (c13 ..) rfl rfl rfl rfl rfl ?_|refine YF (c14 ..) rfl rfl rfl rfl rfl ?_|refine YF (c15 ..) rfl rfl rfl rfl rfl ?_|refine YF (c16 ..) rfl rfl rfl rfl rfl ?_|(refine YFz (z1 ..) rfl rfl rfl rfl rfl ?_ ?_;(first|(simp[Gw,BY,Bg,Af,AI,AX];done)|(repeat'(first|rfl|trivial|refine⟨rfl,rfl,by simp[AX]⟩|refine⟨_,_,rfl,?_,?_⟩|refine⟨_,rfl,?_⟩))))|(refine YFz (z2 ..) rfl rfl rfl rfl rfl ?_ ?_;(first|(simp[Gw,BY,Bg,Af,AI,AX];done)|(repeat'(first|rfl|trivial|refine⟨rfl,rfl,by simp[AX]⟩|refine⟨_,_,rfl,?_,?_⟩|refine⟨_,rfl,?_⟩))))|(refine YFz (z3 ..) rfl rfl rfl rfl rfl ?_ ?_;(first|(simp[Gw,BY,Bg,Af,AI,AX];done)|(repeat'(first|rfl|trivial|refine⟨rfl,rfl,by simp[AX]⟩|refine⟨_,_,rfl,?_,?_⟩|refine⟨_,rfl,?_⟩))))|(refine NY (d1 ..) rfl rfl rfl rfl ?_ rfl rfl rfl rfl ?_;(focus((repeat(first|exact trivial|refine⟨rfl,?_⟩));done)))|(refine NY (d2 ..) rfl rfl rfl rfl ?_ rfl rfl rfl rfl ?_;(focus((repeat(first|exact trivial|refine⟨rfl,?_⟩));done)))|(refine NY (d3 ..) rfl rfl rfl rfl ?_ rfl rfl rfl rfl ?_;(focus((repeat(first|exact trivial|refine⟨rfl,?_⟩));done)))|(refine NY (d4 ..) rfl rfl rfl rfl ?_ rfl rfl rfl rfl ?_;(focus((repeat(first|exact trivial|refine⟨rfl,?_⟩));done)))|(refine NY (d5 ..) rfl rfl rfl rfl ?_ rfl rfl rfl rfl ?_;(focus((repeat(first|exact trivial|refine⟨rfl,?_⟩));done)))|(refine NY (d6 ..) rfl rfl rfl rfl ?_ rfl rfl rfl rfl ?_;(focus((repeat(first|exact trivial|refine⟨rfl,?_⟩));done)))|(refine NY (d7 ..) rfl rfl rfl rfl ?_ rfl rfl rfl rfl ?_;(focus((repeat(first|exact trivial|refine⟨rfl,?_⟩));done)))|(refine NY (d8 ..) rfl rfl rfl rfl ?_ rfl rfl rfl rfl ?_;(focus((repeat(first|exact trivial|refine⟨rfl,?_⟩));done)))|(refine NY (d9 ..) rfl rfl rfl rfl ?_ rfl rfl rfl rfl ?_;(focus((repeat(first|exact trivial|refine⟨rfl,?_⟩));done)))|(refine NY (d10 ..) rfl rfl rfl rfl ?_ rfl rfl rfl rfl ?_;(focus((repeat(first|exact trivial|refine⟨rfl,?_⟩));done)))|(refine PL (x1 ..) rfl rfl rfl rfl ?_ rfl rfl rfl rfl ?_;(focus((repeat(first|exact trivial|refine⟨rfl,?_⟩));done)))|(refine PL (x2 ..) rfl rfl rfl rfl ?_ rfl rfl rfl rfl ?_;(focus((repeat(first|exact trivial|refine⟨rfl,?_⟩));done)))|(refine PL (x3 ..) rfl rfl rfl rfl ?_ rfl rfl rfl rfl ?_;(focus((repeat(first|exact trivial|refine⟨rfl,?_⟩));done)))|(refine PL (x4 ..) rfl rfl rfl rfl ?_ rfl rfl rfl rfl ?_;(focus((repeat(first|exact trivial|refine⟨rfl,?_⟩));done)))|(refine PL (x5 ..) rfl rfl rfl rfl ?_ rfl rfl rfl rfl ?_;(focus((repeat(first|exact trivial|refine⟨rfl,?_⟩));done)))|(refine PL (x6 ..) rfl rfl rfl rfl ?_ rfl rfl rfl rfl ?_;(focus((repeat(first|exact trivial|refine⟨rfl,?_⟩));done))))|(refine' Nh ns rfl rfl ?_ ?_ r (fun hc s=> ?_) (fun hc s=> ?_);(all_goals(first|guard_target=Prop|(clear r;have r:=s;clear s;(fail_if_success (with_reducible first|exact tF hc|exact fT hc));(try simp only[CV]at hc);(try(exfalso;omega)))|(intro hc;(try simp only[CV]at hc);first|done|exact hc))))|(refine' sdR r (fun hs s=> ?_);rotate_left 2;clear r;have r:=s;clear s;first|refine MB ow A7 rfl rfl rfl rfl rfl rfl rfl ?_ hs|refine Ya A7 rfl rfl rfl rfl rfl rfl ?_ hs|refine Yp A7 rfl rfl (fun _=>rfl) rfl rfl ?_ hs|refine Yq rfl rfl rfl rfl rfl ?_ hs|refine Yw A7 rfl rfl rfl rfl rfl ?_ hs|refine Ot sb A7 rfl rfl rfl rfl rfl ?_ hs|refine Ysc A7 rfl rfl rfl rfl rfl ?_ hs))|((with_reducible refine gW ?_);first|with_reducible refine BD ?_|((with_reducible refine gReg ?_);refine H9 st rfl ?_)|((with_reducible refine gAny ?_);refine Ly st T.get rfl ?_)|((with_reducible refine Pq ?_);first|refine AO rfl ?_|refine AN rfl ?_|(refine' KB nc rfl ?_ ?_ r (fun hc s=> ?_) (fun hc s=> ?_);(all_goals(first|guard_target=Prop|(clear r;have r:=s;clear s;(try simp only[CV]at hc);(try(exfalso;omega)))|(intro hc;(try simp only[CV]at hc);first|done|exact hc)))))|with_reducible refine Ao ?_|with_reducible refine BC ?_|with_reducible refine AY ?_|with_reducible refine An ?_|with_reducible refine C9 ?_|with_reducible refine Ba ?_|with_reducible refine IM un ?_|with_reducible refine IN (scO sc) ?_)|(with_reducible first|refine qT ?_|refine qTr ?_|refine qTe ?_|refine qTg ?_|refine qTp ?_|refine qBn ?_|refine qBr ?_|refine qBg ?_|refine qBp ?_|refine qSn ?_|refine qSr ?_|refine qSe ?_|exact lQ r|exact lI r|exact lY r)|refine qSg rfl ?_|(first|refine BD ?_|refine H9 st rfl ?_|refine Ly st T.get rfl ?_|refine AO rfl ?_|refine AN rfl ?_|refine Ao ?_|refine BC ?_|refine AY ?_|refine An ?_|refine C9 ?_|refine Ba ?_|refine IM un ?_|refine IN (scO sc) ?_|(refine' KB nc rfl ?_ ?_ r (fun hc s=> ?_) (fun hc s=> ?_);(all_goals(first|guard_target=Prop|(clear r;have r:=s;clear s;(try simp only[CV]at hc);(try(exfalso;omega)))|(intro hc;(try simp only[CV]at hc);first|done|exact hc)))))|exact r.x));all_goals exact True):Wk R g L K p q s M Z:=h
theorem AC(L:QQ)(r:R)(M:QR:=[])(K:QQ:=[])(Z:Bool:=true)(h:Wk R g L K QE QE QE M Z:=by exact wb):g:=h trivial trivial trivial trivial trivial (P6 Z) J9 J9 J9 ⟨r⟩
theorem Ex(L:QQ)(r:R)(b:q)(M:QR:=[])(K:QQ:=[])(Z:Bool:=true)(h:Wk R g L K QE q QE M Z:=by exact wb):g:=h trivial trivial trivial trivial trivial (P6 Z) J9 b J9 ⟨r⟩
theorem B6(L:QQ)(r:R)(a:p)(M:QR:=[])(K:QQ:=[])(Z:Bool:=true)(h:Wk R g L K p QE QE M Z:=by exact wb):g:=h trivial trivial trivial trivial trivial (P6 Z) a J9 J9 ⟨r⟩
theorem D2(L:QQ)(r:R)(a:p)(b:q)(M:QR:=[])(K:QQ:=[])(Z:Bool:=true)(h:Wk R g L K p q QE M Z:=by exact wb):g:=h trivial trivial trivial trivial trivial (P6 Z) a b J9 ⟨r⟩
theorem Fi(L:QQ)(r:R)(d:s)(M:QR:=[])(K:QQ:=[])(Z:Bool:=true)(h:Wk R g L K QE QE s M Z:=by exact wb):g:=h trivial trivial trivial trivial trivial (P6 Z) J9 J9 d ⟨r⟩
theorem HX(L:QQ)(r:R)(a:p)(d:s)(M:QR:=[])(K:QQ:=[])(Z:Bool:=true)(h:Wk R g L K p QE s M Z:=by exact wb):g:=h trivial trivial trivial trivial trivial (P6 Z) a J9 d ⟨r⟩
theorem K4(L:QQ)(r:R)(a:p)(b:q)(d:s)(M:QR:=[])(K:QQ:=[])(Z:Bool:=true)(h:Wk R g L K p q s M Z:=by exact wb):g:=h trivial trivial trivial trivial trivial (P6 Z) a b d ⟨r⟩
end Go.Gar
namespace Go.Gar
theorem A3.ck{S S':St}(hn:S'.n=S.n)(he:Dw S'.env S.env:=by repeat'(first|exact Rk|refine RI (by(first|rfl|((with_reducible_and_instances refine congrArg (fun z=>some (AV.d (D.i _ z))) ?_);omega)|(refine congrArg (fun z=>some (AV.d (D.i _ z))) (?_:(_:Int)=_);omega)|(refine congrArg some ?_;simp;done))) ?_))
  (hH:B0 S'.H S.H:=by repeat'(first|exact Rk|refine RI (Or.inr rfl) ?_|refine RI (Or.inl ⟨rfl,rfl⟩) ?_|refine RI (Or.inr sm) ?_))
  (ho:AM S'.H.length S'.H=true:=by first|rfl|(simp(decide:=true) [AM,A2.ok,AV.oks,AV.ok];done)|(simp(decide:=true) [AM,A2.ok,AV.oks,AV.ok,hk];done)) (heo:Bn S'.H.length S'.env=true:=by rfl):A3 S S':=A3.cut hn he hH ho heo
theorem L1:(∀(H:RE)(xs:R8)(l:R6),Bg H (.tup xs) (.tup l)↔BY H xs l)/\(∀(H:RE)(xs:R8)(l:R6),Bg H (.ag xs) (.agg l)↔BY H xs l)/\
  (∀(H:RE)(x:AV)(xs:R8)(y:D)(l:R6),BY H (x::xs) (y::l)↔Bg H x y/\BY H xs l)/\(∀H:RE,BY H [] []↔True)/\(∀(H:RE)(x y:D),Bg H (.d x) y↔y=x)/\
  (∀(H:RE)(y:D),Bg H .e0 y↔Af y=true/\AI y=0/\AX y)/\(∀(H:RE)(i n sz:Nat)(y:D),Bg H (.sl i n sz) y↔H[i]? =some (.a y)/\n=AI y):=
 ⟨fun _ _ _=>Nc,fun _ _ _=>JB,fun _ _ _ _ _=>F3,fun _=>G6,fun _ _ _=>Lt,fun _ _=>Ob,fun _ _ _ _ _=>JC⟩
end Go.Gar
namespace Go.Gar
def LG(E:Nat->Option AK)(env:R9)(op:Op):Option (Bool×(Nat->AV)×A2):=
 match op with
 | .buildSlice t len ps=>match EV E (Bh env) t len ps.toList with
  |some (z,cs)=>some (decide (len*z.size<=16777216),fun id=> .bs id 0 len z.size cs.length,.c cs)
  |none=>none
 |_=>none
variable {E:Nat->Option AK}
theorem KQ{P:Program}(hE:Ai P E){S:St}{o:Oper}{f:Nat->AV}{b:A2}{c:Bool}(h:LG E S.env o.op=some (c,f,b))(hc:c=true):Bi P o S (f S.H.length) (S.H++[b]):=by
 subst hc;obtain⟨dst,op,ty,pos,after,guard⟩:=o;simp only at h;cases op<;>simp only[LG]at h<;>try(cases h;done)
 case buildSlice t len ps=>
  split at h
  .rename_i z cs hcs;simp only[Qj,Qo,Qv]at h;obtain⟨hsz,rfl,rfl⟩:=h
   exact .BS (f:=fun a=>Instr.buildSlice t len (J8 a.eval ps)) (fun a=>Cv rfl a.eval) fun ro N G a w r=>by
    have:=He hE r.rel (fun o x hx=>AB r.rel.st r.env hx) hcs hsz;rw[r.heap]at this;exact this
  .cases h
theorem EY{env:R9}{o:Oper}{x:Bool×(Nat->AV)×A2}(h:LG E env o.op=some x):∀c,o.op≠ .defer c:=by
 intro c hc;rw[hc]at h;simp[LG]at h
section
variable {P:Program}{ro:Qt}{ops:R0}{i:Nat}{rest:R1}{en:R9}{hp:RE}{nt:Nat}{Q:Exit->St->Prop}{o:Oper}{E:Nat->Option AK}
theorem Xbs(hE:Ai P E){f:Nat->AV}{b:A2}{c:Bool}{x':AV}{e:R9}{H':RE}(hg:A4 ops en o=some true)(h:LG E en o.op=some (c,f,b))(hd:AA o.dst nt=true)(he:AL o.dst x' en=some e)(hH:Ca hp b=some H')(hx:f hp.length=x')
  (k:Wl P ro ops (i+1) rest ⟨e,H',nt⟩ Q) (hc:c=true):Wl P ro ops i (o::rest) ⟨en,hp,nt⟩ Q:=by
 subst hx;rw[AE he,Cr hH]at k;exact FN (S:=⟨en,hp,nt⟩) hg (KQ (S:=⟨en,hp,nt⟩) hE h hc) (EY h) hd k
end
end Go.Gar
