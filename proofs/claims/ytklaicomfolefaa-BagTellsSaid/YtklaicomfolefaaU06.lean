/- Part 6 of a proof. Conditions: those that its theorems state. -/
import Derived.Test.YtklaicomfolefaaU05
set_option linter.unusedSimpArgs false
set_option linter.unusedVariables false
set_option maxHeartbeats 40000000
set_option maxRecDepth 4000
namespace Go.Gar
def Lv(_:P0):Prop:=True
def Od(_:P1):Prop:=True
def Ds(_:P0)(p:Prop):Prop:=p
def No(_:Nat):Prop:=True
def Dd(_:D):Prop:=True
structure Br (p q A B:Prop):Prop where
 t:p->A
 f:q->B
def OT:List Rc->Bool
 |[]=>false
 |x::r=>match x.k with
  | .pan _=>true
  |_=>OT r
structure Sd (c:Bool) (A:Prop):Prop where
 a:A
 c:c=true
structure Rs (R:Prop):Prop where
 x:R
theorem sdR{c:Bool}{R G:Prop}(r:Rs (Sd c R))(k:c=true->Rs R->G):G:=k r.x.2 ⟨r.x.1⟩
theorem Ds.mk(ids:P0){p:Prop}(h:p):Ds ids p:=h
section
variable {P:Program}{ro:P3}{ops:P4}{i:Nat}{rest:PC}{S0:St}{en:Pa}{hp:Pf}{nt:Nat}{Q:Exit->St->Prop}{o:Oper}{E:Nat->Option AF}{A:Prop}{acc:List Rc}
variable {S:St}
theorem gNil(k:Wl P ro ops i [] S Q):Wl P ro ops i [] S Q:=k
theorem OR(k:Wd P ro E ops S0 A acc [] S):Wd P ro E ops S0 A acc [] S:=k
def opk:Op->Nat
 | .indexAddr _ _ _=>1
 | .load _ _| .nilCheck _| .binOp _ _ _ _ _| .unOp _ _ _| .convert _ _ _| .slice _ _ _ _ _| .fieldAddr _ _ _| .field _ _ _| .index _ _ _| .build _ _| .makeFunc _ _ _| .extract _ _| .sliceToArrayPointer _ _| .makeInterface _ _| .lookup _ _ _ _| .typeAssert _ _ _ _=>2
 | .call c=>match c.callee with
  | .builtin _=>6
  |_=>3
 | .alloc _| .box _ _| .makeSlice _ _ _| .buildSlice _ _ _| .makeMap _ _=>4
 | .store _ _ _| .insert _ _ _ _| .mapUpdate _ _ _ _=>5
 |_=>6
theorem Ib(k:Nat)(_:opk o.op=k)(h:Wl P ro ops i (o::rest) S Q):Wl P ro ops i (o::rest) S Q:=h
theorem IZ(k:Nat)(_:opk o.op=k)(h:Wd P ro E ops S0 A acc (o::rest) S):Wd P ro E ops S0 A acc (o::rest) S:=h
theorem OJ(_:o.guard.isSome=true)(h:Wl P ro ops i (o::rest) S Q):Wl P ro ops i (o::rest) S Q:=h
theorem OC(_:o.guard.isSome=true)(h:Wd P ro E ops S0 A acc (o::rest) S):Wd P ro E ops S0 A acc (o::rest) S:=h
def O5(ops:P4)(nt:Nat):PC->Pa->Nat->PC×Pa×Nat
 |[],e,i=>([],e,i)
 |o::r,e,i=>match o.guard with
  |none=>(o::r,e,i)
  |some _=>match A2 ops e o with
   |some false=>match A7 o.dst nt with
    |true=>match o.dst with
     |some d=>O5 ops nt r ((d,.d (.tup []))::e) (i+1)
     |none=>O5 ops nt r e (i+1)
    |false=>(o::r,e,i)
   |_=>(o::r,e,i)
theorem JF:∀(l:PC)(e:Pa)(i:Nat){l':PC}{e':Pa}{i':Nat},O5 ops nt l e i=(l',e',i')->Wl P ro ops i' l' ⟨e',hp,nt⟩ Q->Wl P ro ops i l ⟨e,hp,nt⟩ Q
 |[],e,i,l',e',i',h,k=>by simp only[O5,PD]at h;obtain⟨rfl,rfl,rfl⟩:=h;exact k
 |o::r,e,i,l',e',i',h,k=>by
  simp only[O5]at h;split at h
  .simp only[PD]at h;obtain⟨rfl,rfl,rfl⟩:=h;exact k
  .split at h
   .rename_i hg;split at h
    .rename_i hd;split at h
     .rename_i d ho;exact Xs hg hd (by rw[ho];rfl) (JF r _ _ h k)
     .rename_i ho;exact Xs hg hd (by rw[ho];rfl) (JF r _ _ h k)
    .simp only[PD]at h;obtain⟨rfl,rfl,rfl⟩:=h;exact k
   .simp only[PD]at h;obtain⟨rfl,rfl,rfl⟩:=h;exact k
variable {e0 e:Pa}
theorem Ydq(_:OT acc=true)(h:Ig ops acc=true)(hl:B9 (looks ops o) en=some e0)(hd:A7 o.dst nt=true)(he:AG o.dst .u en=some e)(hk:Wd P ro E ops S0 A (⟨e0,hp,.u,.dead⟩::acc) rest ⟨e,hp,nt⟩):Wd P ro E ops S0 A acc (o::rest) ⟨en,hp,nt⟩:=Yd h hl hd he hk
theorem XsN{l':PC}{e':Pa}{i':Nat}(hg:A2 ops en o=some false)(h:O5 ops nt (o::rest) en i=(l',e',i'))(k:Wl P ro ops i' l' ⟨e',hp,nt⟩ Q):Wl P ro ops i (o::rest) ⟨en,hp,nt⟩ Q:=JF _ _ _ h k
theorem gW{c:Code}(k:W P ro c S Q):W P ro c S Q:=k
variable {id:Nat}
theorem gReg(k:W P ro (.region id ops false) S Q):W P ro (.region id ops false) S Q:=k
theorem gAny(k:W P ro (.region id ops true) S Q):W P ro (.region id ops true) S Q:=k
theorem OQ{c:Operand}{x y:Code}(k:W P ro (.cond c x y) S Q):W P ro (.cond c x y) S Q:=k
variable {K:St->Prop}
theorem qT(k:K S):GI K Q .normal S:=k
theorem qTr(k:Q .ret S):GI K Q .ret S:=k
variable {j:Nat}
theorem qTe(k:Q (.exit j) S):GI K Q (.exit j) S:=k
theorem qTg(k:Q (.goto j) S):GI K Q (.goto j) S:=k
variable {ch:PM}
theorem qTp(k:Q (.panic ch) S):GI K Q (.panic ch) S:=k
theorem qBn(k:Q .normal S):EQ j Q .normal S:=k
theorem qBr(k:Q .ret S):EQ j Q .ret S:=k
theorem qBg{l:Nat}(k:Q (.goto l) S):EQ j Q (.goto l) S:=k
theorem qBp(k:Q (.panic ch) S):EQ j Q (.panic ch) S:=k
theorem qSn{c:Code}(k:Q .normal S):Ba P ro c Q j .normal S:=by rw[CR (by intro l h;cases h)];exact k
theorem qSr{c:Code}(k:Q .ret S):Ba P ro c Q j .ret S:=by rw[CR (by intro l h;cases h)];exact k
theorem qSe{c:Code}{i:Nat}(k:Q (.exit i) S):Ba P ro c Q j (.exit i) S:=by rw[CR (by intro l h;cases h)];exact k
theorem qSg{c rest:Code}{l:Nat}(h:findLabel c l=some rest)(k:W P ro rest S (Ba P ro c Q j)):Ba P ro c Q (j+1) (.goto l) S:=by
 simp only[Ba,h];exact k
theorem lQ{e:Exit}(r:Rs (F9 K e S)):F9 K e S:=r.x
theorem lI{α:Type}{I:α->Prop}{F:α->St}{lt:α->Prop}{k:Nat}(r:Rs (QRI I F lt k Q .normal S)):QRI I F lt k Q .normal S:=r.x
variable {n:Nat}
theorem lY{lp:Lp}{R:AV->Pf->Prop}{e:Exit}(r:Rs (Of id n lp R e S)):Of id n lp R e S:=r.x
variable {p q B C:Prop}
theorem JS{c:Operand}{x y:Code}{t:Bool}(_:No 1)(hc:B6 S.env c=some (.d (.b t)))(ip:t=true->p)(iq:t=false->q)(r:Rs (Br p q B C))(ht:t=true->Rs B->W P ro x S Q)(hf:t=false->Rs C->W P ro y S Q):W P ro (.cond c x y) S Q:=
 Ck hc (fun h=>ht h ⟨r.x.t (ip h)⟩) (fun h=>hf h ⟨r.x.f (iq h)⟩)
variable {b:Bool}
theorem MV{d:Nat}(_:No 0)(hg:KV ops o=some d)(hb:get en d=some (.d (.b b)))(ip:b=true->p)(iq:b=false->q)(r:Rs (Br p q B C))(ht:b=true->Rs B->Wl P ro ops i (o::rest) ⟨(d,.d (.b true))::en,hp,nt⟩ Q)(hf:b=false->Rs C->Wl P ro ops i (o::rest) ⟨(d,.d (.b false))::en,hp,nt⟩ Q):Wl P ro ops i (o::rest) ⟨en,hp,nt⟩ Q:=
 FH hg hb (fun h=>ht h ⟨r.x.t (ip h)⟩) (fun h=>hf h ⟨r.x.f (iq h)⟩)
theorem MW{d:Nat}(_:No 0)(hg:KV ops o=some d)(hb:get en d=some (.d (.b b)))(ip:b=true->p)(iq:b=false->q)(r:Rs (Br p q B C))(ht:b=true->Rs B->Wd P ro E ops S0 A acc (o::rest) ⟨(d,.d (.b true))::en,hp,nt⟩)(hf:b=false->Rs C->Wd P ro E ops S0 A acc (o::rest) ⟨(d,.d (.b false))::en,hp,nt⟩):Wd P ro E ops S0 A acc (o::rest) ⟨en,hp,nt⟩:=
 Gs hg hb (fun h=>ht h ⟨r.x.t (ip h)⟩) (fun h=>hf h ⟨r.x.f (iq h)⟩)
variable {live:P0}
theorem XnL(_:Lv live)(h:B9 live en=some e)(k:Q .normal ⟨e,hp,nt⟩):Wl P ro ops i [] ⟨en,hp,nt⟩ Q:=Xn live h k
variable {L:P0}{c:Bool}{x':AV}{H':Pf}
theorem LD(_:Lv L)(hE:AW P E){q:D}(u2:Ee o.dst L=true)(hg:A2 ops en o=some true)(h:FP E en hp o.op=some (c,q))(hd:A7 o.dst nt=true)(he:AG o.dst x' en=some e)(hH:C1 hp (.a q)=some H')(k:Wl P ro ops (i+1) rest ⟨e,H',nt⟩ Q)(hc:c=true)(hx: .sl hp.length (AD q) (AL q)=x':=by first|(simp only[Dk,Cf,Nat.reduceAdd,Int.reduceAdd,Int.reduceSub,Int.reduceMul,Int.reduceToNat,nS];rfl)|rfl):Wl P ro ops i (o::rest) ⟨en,hp,nt⟩ Q:=XaoL L hE u2 hg h hd he hH k hc hx
variable {x:AV}
theorem Na(_:Lv L)(u1:Ee o.dst L=true)(hg:A2 ops en o=some true)(h:FV en o.op=some (c,x))(hd:A7 o.dst nt=true)(he:AG o.dst x' en=some e)(k:Wl P ro ops (i+1) rest ⟨e,hp,nt⟩ Q)(hc:c=true)(hx:x=x':=by rfl):Wl P ro ops i (o::rest) ⟨en,hp,nt⟩ Q:=XwL L u1 hg h hd he k hc hx
theorem LF(_:Lv L)(hE:AW P E){q:D}(u2:Ee o.dst L=true)(hl:B9 (looks ops o) en=some e0)(hg:A2 ops e0 o=some true)(h:FP E e0 hp o.op=some (c,q))(hd:A7 o.dst nt=true)(he:AG o.dst x' en=some e)(hH:C1 hp (.a q)=some H')(hk:Wd P ro E ops S0 A (⟨e0,hp,x',.eff⟩::acc) rest ⟨e,H',nt⟩)(hc:c=true)(hx: .sl hp.length (AD q) (AL q)=x':=by first|(simp only[Dk,Cf,Nat.reduceAdd,Int.reduceAdd,Int.reduceSub,Int.reduceMul,Int.reduceToNat,nS];rfl)|rfl):Wd P ro E ops S0 A acc (o::rest) ⟨en,hp,nt⟩:=YaoL L hE u2 hl hg h hd he hH hk hc hx
variable {l:P1}
theorem YnLv(_:Lv live)(_:Od l)(hm:P.follows .mixedOrders=true)(hE:AW P E)(hd:Cn ops (acc.reverse.map Rc.k) l=true)(hx:Ao E ops acc.reverse hp l)(he:B9 live en=some e)(hQ:Q .normal ⟨e,hp,nt⟩):Wd P ro E ops S0 (W P ro (.region id ops true) S0 Q) acc [] ⟨en,hp,nt⟩:=Yn live l hm hE hd hx he hQ
theorem YnXL(_:Od l){i0:Nat}(hm:P.follows .mixedOrders=true)(hE:AW P E)(hp':Cw (acc.reverse.map Rc.k)=some (i0,ch))(hd:C4 ops (acc.reverse.map Rc.k) l=true)(hx:Ao E ops acc.reverse hp l)(hQ:Q (.panic ch) ⟨[],hp,nt⟩):Wd P ro E ops S0 (W P ro (.region id ops true) S0 Q) acc [] ⟨en,hp,nt⟩:=YnX l hm hE hp' hd hx hQ
theorem Yn2L(_:Lv live)(_:Od l)(hE:AW P E)(hd:Cn ops (acc.reverse.map Rc.k) l=true)(hx:Ao E ops acc.reverse hp l)(he:B9 live en=some e)(hQ:Q .normal ⟨e,hp,nt⟩):Wd P ro E ops S0 (Gr P ro ops S0 (Qw Q)) acc [] ⟨en,hp,nt⟩:=Yn2 live l hE hd hx he hQ
variable {t:Nat}
theorem Mi(_:No t){x:D}{sz:Nat}(u1:LN t o.op=true)(ht:get en t=some (.sl id n sz))(hid:hp[id]? =some (.a x))(hn:n=AD x)(k:Wl P ro ops i (o::rest) ⟨(t,.d x)::en,Bw id x 0 hp,nt⟩ Q):Wl P ro ops i (o::rest) ⟨en,hp,nt⟩ Q:=Xfz t u1 ht hid hn k
theorem XfuL(_:No t){x:D}{sz:Nat}(u1:Hy t (Mx o.op)=true)(ht:get en t=some (.sl id n sz))(hid:hp[id]? =some (.a x))(hn:n=AD x)(k:Wl P ro ops i (o::rest) ⟨(t,.d x)::en,Bw id x 0 hp,nt⟩ Q):Wl P ro ops i (o::rest) ⟨en,hp,nt⟩ Q:=Xfu t u1 ht hid hn k
theorem OM(_:No t){q:D}(_:Dd q)(hE:AW P E){f:Nat->AV}{b:A1}(u3:Ee o.dst [t]=true)(hg:A2 ops en o=some true)(h:Mp E en hp o.op=some (c,f,b))(hb:b= .a q)(hd:A7 o.dst nt=true)(he:AG o.dst x' en=some e)(hH:C1 hp (.a q)=some H')(hx:f hp.length=x')(k:Wl P ro ops (i+1) rest ⟨e,H',nt⟩ Q)(hc:c=true):Wl P ro ops i (o::rest) ⟨en,hp,nt⟩ Q:=XaB t q hE u3 hg h hb hd he hH hx k hc
variable {H'':Pf}
theorem ON(_:No 2)(hE:AW P E)(hg:A2 ops en o=some true)(h:It E en hp o.op=some (c,H'))(hd:A7 o.dst nt=true)(he:AG o.dst .u en=some e)(k:Wl P ro ops (i+1) rest ⟨e,H'',nt⟩ Q)(hc:c=true)(hH:H'=H'':=by first|(simp only[nS];rfl)|rfl):Wl P ro ops i (o::rest) ⟨en,hp,nt⟩ Q:=Xsb hE hg h hd he k hc hH
theorem Nb(_:No 2)(hE:AW P E)(hl:B9 (looks ops o) en=some e0)(hg:A2 ops e0 o=some true)(h:It E e0 hp o.op=some (c,H'))(hd:A7 o.dst nt=true)(he:AG o.dst .u en=some e)(k:Wd P ro E ops S0 A (⟨e0,hp,.u,.eff⟩::acc) rest ⟨e,H'',nt⟩)(hc:c=true)(hH:H'=H'':=by first|(simp only[nS];rfl)|rfl):Wd P ro E ops S0 A acc (o::rest) ⟨en,hp,nt⟩:=Ysb hE hl hg h hd he k hc hH
theorem GK(_:Lv L)(u1:Hy id L=false)(h:Wl P ro ops 0 ops.toList S Q):W P ro (.region id ops false) S Q:=GL L u1 h
theorem L1(_:Lv L)(E:Nat->Option AF)(u2:Hy id L=false)(h:Wd P ro E ops S (W P ro (.region id ops true) S Q) [] ops.toList S):W P ro (.region id ops true) S Q:=L2 L E u2 h
theorem He(_:No n){c:Code}(h:W P ro c S (Oe P ro c Q n)):W P ro (.loop c) S Q:=Ma n h
theorem Hg{c:Code}(_:No j)(h:W P ro c S (Ba P ro c Q j)):W P ro (.scope c) S Q:=JV j h
variable {g:Nat}{args:PT}{H:Pf}{ids:P0}
theorem MO{r r':AV}(hF:Ds ids (Di P g args H r H'))(hg:A2 ops en o=some true)(h:AR en o.op=some (g,AV.Ai (rn ids hp.length) args))(hd:A7 o.dst nt=true)(hm:Am (rn ids hp.length) hp ids H)(hn:nodupB ids=true)(ho:AK H.length H=true)(ha:AV.oks H.length args=true)(he:AG o.dst r' en=some e)(k:Wl P ro ops (i+1) rest ⟨e,H'',nt⟩ Q)(hr:r.ren (rn ids hp.length)=r':=by first|(simp only[Dk,Cf,Nat.reduceAdd,Int.reduceAdd,Int.reduceSub,Int.reduceMul,Int.reduceToNat,nS];rfl)|rfl)(hH:Ed ids hp (Bc (rn ids hp.length) H')=H'':=by first|(simp only[Cf,Nat.reduceAdd];rfl)|rfl):Wl P ro ops i (o::rest) ⟨en,hp,nt⟩ Q:=XD ids hF hg h hd hm hn ho ha he k hr hH
theorem MP{r r':AV}(hF:Ds ids (Di P g args H r H'))(hl:B9 (looks ops o) en=some e0)(hg:A2 ops e0 o=some true)(h:AR e0 o.op=some (g,AV.Ai (rn ids hp.length) args))(hd:A7 o.dst nt=true)(hm:Am (rn ids hp.length) hp ids H)(hn:nodupB ids=true)(ho:AK H.length H=true)(ha:AV.oks H.length args=true)(he:AG o.dst r' en=some e)(hk:Wd P ro E ops S0 A (⟨e0,hp,r',.eff⟩::acc) rest ⟨e,H'',nt⟩)(hr:r.ren (rn ids hp.length)=r':=by first|(simp only[Dk,Cf,Nat.reduceAdd,Int.reduceAdd,Int.reduceSub,Int.reduceMul,Int.reduceToNat,nS];rfl)|rfl)(hH:Ed ids hp (Bc (rn ids hp.length) H')=H'':=by first|(simp only[Cf,Nat.reduceAdd];rfl)|rfl):Wd P ro E ops S0 A acc (o::rest) ⟨en,hp,nt⟩:=YD ids hF hl hg h hd hm hn ho ha he hk hr hH
theorem Nx(hF:Ds ids (MN P g args H ch H'))(hg:A2 ops en o=some true)(h:AR en o.op=some (g,AV.Ai (rn ids hp.length) args))(hm:Am (rn ids hp.length) hp ids H)(hn:nodupB ids=true)(ho:AK H.length H=true)(ha:AV.oks H.length args=true)(k:Q (.panic ch) ⟨en,H'',nt⟩)(hH:Ed ids hp (Bc (rn ids hp.length) H')=H'':=by first|(simp only[Cf,Nat.reduceAdd];rfl)|rfl):Wl P ro ops i (o::rest) ⟨en,hp,nt⟩ Q:=XX ids hF hg h hm hn ho ha k hH
theorem O0(hF:Ds ids (MN P g args H ch H'))(hl:B9 (looks ops o) en=some e0)(hg:A2 ops e0 o=some true)(h:AR e0 o.op=some (g,AV.Ai (rn ids hp.length) args))(hd:A7 o.dst nt=true)(hm:Am (rn ids hp.length) hp ids H)(hn:nodupB ids=true)(ho:AK H.length H=true)(ha:AV.oks H.length args=true)(he:AG o.dst .u en=some e)(hk:Wd P ro E ops S0 A (⟨e0,hp,.u,.pan ch⟩::acc) rest ⟨e,H'',nt⟩)(hH:Ed ids hp (Bc (rn ids hp.length) H')=H'':=by first|(simp only[Cf,Nat.reduceAdd];rfl)|rfl):Wd P ro E ops S0 A acc (o::rest) ⟨en,hp,nt⟩:=YX ids hF hl hg h hd hm hn ho ha he hk hH
theorem XyBR{xs:PT}{r0:Lp}{H1 H2:Pf}{e1 e2:Pa}(hT:b=true->YT P id xs hp fun r K=>r= .d (.b true)/\K=H1)(hF:b=false->YT P id xs hp fun r K=>r= .d (.b false)/\K=H2)(hg:A2 ops en o=some true)(h:Dw en o.op=some (id,xs))(hd:A7 o.dst nt=true)(hlp:hp[id]? =some (.lp r0))(he1:AG o.dst (.d (.b true)) en=some e1)(he2:AG o.dst (.d (.b false)) en=some e2)(hp':b=true->p)(hq':b=false->q)(r:Rs (Br p q B C))(k1:b=true->Rs B->Wl P ro ops (i+1) rest ⟨e1,H1,nt⟩ Q)(k2:b=false->Rs C->Wl P ro ops (i+1) rest ⟨e2,H2,nt⟩ Q):Wl P ro ops i (o::rest) ⟨en,hp,nt⟩ Q:=
 XyB b hT hF hg h hd hlp he1 he2 (fun h=>k1 h ⟨r.x.t (hp' h)⟩) (fun h=>k2 h ⟨r.x.f (hq' h)⟩)
def KZ(n:Int):Ow->Bool
 |[]=>true
 |k::r=> !(n==k)&&KZ n r
def Fg(kd:IntKind):Pk->Option (Ow)
 |[]=>some []
 |(.i k a,_)::r=>match decide (kd=k),Fg kd r with
  |true,some l=>some (a::l)
  |_,_=>none
 |_::_=>none
theorem GY{kd:IntKind}{n:Int}:∀{es:Pk}{ks:Ow},Fg kd es=some ks->KZ n ks=true->Ej (.i kd n) es=some none
 |[],ks,h,hk=>rfl
 |(.i k a,v)::r,ks,h,hk=>by
  simp only[Fg]at h;split at h
  .rename_i l h1 h2;cases h;simp only[KZ,P8,Bool.not_eq_true']at hk;have e:=of_decide_eq_true h1;simp only[Ej,sameD,if_pos e,hk.1];exact GY h2 hk.2
  .cases h
 |(.b _,_)::_,_,h,_|(.s _,_)::_,_,h,_|(.f _ _,_)::_,_,h,_|(.agg _,_)::_,_,h,_|(.tup _,_)::_,_,h,_|(.by _,_)::_,_,h,_|(.is _,_)::_,_,h,_|(.sl _ _,_)::_,_,h,_|(.np,_)::_,_,h,_|(.nf,_)::_,_,h,_|(.ni,_)::_,_,h,_|(.nm,_)::_,_,h,_|(.ifc _ _,_)::_,_,h,_|(.raw _,_)::_,_,h,_=>by simp[Fg]at h
def Ji(E:Nat->Option AF)(env:Pa)(H:Pf):Op->Option (Int×Ow×Bool×AV)
 | .lookup t m k ok=>match B6 env m,B6 env k with
  |some (.mp id),some (.d (.i kd n))=>match H[id]?,E t with
   |some (.m es),some y=>match y.k with
    | .mp kt et=>match E kt,E et,Fg kd es with
     |some yk,some _,some ks=>some (n,ks,EW yk.k,if ok then .tup [.u,.d (.b false)]else .u)
     |_,_,_=>none
    |_=>none
   |_,_=>none
  |_,_=>none
 |_=>none
variable {ks:Ow}
theorem Jj{env:Pa}{op:Op}{n:Int}(h:Ji E env H op=some (n,ks,c,x))(hk:KZ n ks=true):Ev E env H op=some (c,x):=by
 unfold Ji at h;split at h
 .split at h
  .rename_i id kd n' hm hn;split at h
   .rename_i es y hes hy;split at h
    .rename_i kt et hyk;split at h
     .rename_i yk ye ks' h1 h2 h3;simp only[P7,PD]at h;obtain⟨rfl,rfl,rfl,rfl⟩:=h;simp only[Ev,hm,hn,H7,hes,hy,hyk,h1,h2,GY h3 hk]
     .cases h
    .cases h
   .cases h
  .cases h
 .cases h
theorem XlkL{n:Int}(hk:KZ n ks=true)(hE:AW P E)(hg:A2 ops en o=some true)(h:Ji E en hp o.op=some (n,ks,c,x))(hd:A7 o.dst nt=true)(he:AG o.dst x' en=some e)(k:Wl P ro ops (i+1) rest ⟨e,hp,nt⟩ Q)(hc:c=true)(hx:x=x':=by rfl):Wl P ro ops i (o::rest) ⟨en,hp,nt⟩ Q:=Xq hE hg (Jj h hk) hd he k hc hx
theorem YlkL{n:Int}(hk:KZ n ks=true)(hl:B9 (looks ops o) en=some e0)(hg:A2 ops e0 o=some true)(h:Ji E e0 hp o.op=some (n,ks,c,x))(hd:A7 o.dst nt=true)(he:AG o.dst x' en=some e)(hk':Wd P ro E ops S0 A (⟨e0,hp,x',.quiet⟩::acc) rest ⟨e,hp,nt⟩)(hc:c=true)(hx:x=x':=by rfl):Wd P ro E ops S0 A acc (o::rest) ⟨en,hp,nt⟩:=Yq hl hg (Jj h hk) hd he hk' hc hx
end
structure QE:Prop
theorem AA:QE:=⟨⟩
inductive Sb:Bool->Prop where
 |f:Sb false
 |t:Sb true
theorem sbA(b:Bool):Sb b:=by cases b<;>constructor
theorem scO(_:Sb true):No 3:=trivial
variable {a0:Prop}
theorem BC(x0:a0):a0/\QE:=⟨x0,AA⟩
variable {a1:Prop}
theorem Ha(x0:a0)(x1:a1):a0/\a1/\QE:=⟨x0,x1,AA⟩
variable {a2:Prop}
theorem Om(x0:a0)(x1:a1)(x2:a2):a0/\a1/\a2/\QE:=⟨x0,x1,x2,AA⟩
variable {a3:Prop}
theorem zq4(x0:a0)(x1:a1)(x2:a2)(x3:a3):a0/\a1/\a2/\a3/\QE:=⟨x0,x1,x2,x3,AA⟩
variable {a4:Prop}
theorem zq5(x0:a0)(x1:a1)(x2:a2)(x3:a3)(x4:a4):a0/\a1/\a2/\a3/\a4/\QE:=⟨x0,x1,x2,x3,x4,AA⟩
theorem zq6{a5:Prop}(x0:a0)(x1:a1)(x2:a2)(x3:a3)(x4:a4)(x5:a5):a0/\a1/\a2/\a3/\a4/\a5/\QE:=⟨x0,x1,x2,x3,x4,x5,AA⟩
theorem Oc{a5 a6 a7 a8 a9:Prop}(x0:a0)(x1:a1)(x2:a2)(x3:a3)(x4:a4)(x5:a5)(x6:a6)(x7:a7)(x8:a8)(x9:a9):a0/\a1/\a2/\a3/\a4/\a5/\a6/\a7/\a8/\a9/\QE:=⟨x0,x1,x2,x3,x4,x5,x6,x7,x8,x9,AA⟩
set_option maxRecDepth 100000 in
theorem wd{R g p q:Prop}(L K:P0)(a:p)(b:q)(r:R)(M:P1:=[])(Z:Bool:=false)(h:Lv L->Lv K->Od M->No 0->No 1->Sb Z->p->q->Rs R->g:=by intro lv st pr ns nc sc nS zq r;(first|(have:QE:=zq)|obtain⟨c1,_⟩:_/\QE:=zq|obtain⟨c1,c2,_⟩:_/\_/\QE:=zq|obtain⟨c1,c2,c3,_⟩:_/\_/\_/\QE:=zq|obtain⟨c1,c2,c3,c4,_⟩:_/\_/\_/\_/\QE:=zq|obtain⟨c1,c2,c3,c4,c5,_⟩:_/\_/\_/\_/\_/\QE:=zq|obtain⟨c1,c2,c3,c4,c5,c6,_⟩:_/\_/\_/\_/\_/\_/\QE:=zq|obtain⟨c1,c2,c3,c4,c5,c6,c7,_⟩:_/\_/\_/\_/\_/\_/\_/\QE:=zq|obtain⟨c1,c2,c3,c4,c5,c6,c7,c8,_⟩:_/\_/\_/\_/\_/\_/\_/\_/\QE:=zq|obtain⟨c1,c2,c3,c4,c5,c6,c7,c8,c9,_⟩:_/\_/\_/\_/\_/\_/\_/\_/\_/\QE:=zq|obtain⟨c1,c2,c3,c4,c5,c6,c7,c8,c9,c10,_⟩:_/\_/\_/\_/\_/\_/\_/\_/\_/\_/\QE:=zq|obtain⟨c1,c2,c3,c4,c5,c6,c7,c8,c9,c10,c11,_⟩:_/\_/\_/\_/\_/\_/\_/\_/\_/\_/\_/\QE:=zq|obtain⟨c1,c2,c3,c4,c5,c6,c7,c8,c9,c10,c11,c12,_⟩:_/\_/\_/\_/\_/\_/\_/\_/\_/\_/\_/\_/\QE:=zq|obtain⟨c1,c2,c3,c4,c5,c6,c7,c8,c9,c10,c11,c12,c13,_⟩:_/\_/\_/\_/\_/\_/\_/\_/\_/\_/\_/\_/\_/\QE:=zq|obtain⟨c1,c2,c3,c4,c5,c6,c7,c8,c9,c10,c11,c12,c13,c14,_⟩:_/\_/\_/\_/\_/\_/\_/\_/\_/\_/\_/\_/\_/\_/\QE:=zq|obtain⟨c1,c2,c3,c4,c5,c6,c7,c8,c9,c10,c11,c12,c13,c14,c15,_⟩:_/\_/\_/\_/\_/\_/\_/\_/\_/\_/\_/\_/\_/\_/\_/\QE:=zq|obtain⟨c1,c2,c3,c4,c5,c6,c7,c8,c9,c10,c11,c12,c13,c14,c15,c16,_⟩:_/\_/\_/\_/\_/\_/\_/\_/\_/\_/\_/\_/\_/\_/\_/\_/\QE:=zq);(repeat'(first|((with_reducible refine O2 ?_);first|((with_reducible refine gNil ?_);first|refine XnL lv rfl ?_|refine LA ?_)|(refine OJ rfl ?_;refine XsN rfl rfl ?_)|(refine D5 rfl ?_;refine Nz AM rfl rfl rfl rfl ?_)|(refine Ib 1 rfl ?_;first|refine Ny AM rfl rfl rfl rfl rfl (QA _) (Bz ix1) ?_|refine Ny AM rfl rfl rfl rfl rfl (QA _) (Bz ix2) ?_|refine Ny AM rfl rfl rfl rfl rfl (QA _) (Bz ix3) ?_|refine Ny AM rfl rfl rfl rfl rfl (QA _) (Bz ix4) ?_)|((first|(refine Ib 1 rfl ?_;first|refine Na wr rfl rfl rfl rfl rfl ?_ ?_|refine Xq AM rfl rfl rfl rfl ?_ ?_)|(refine Ib 2 rfl ?_;first|refine XlkL lk1 AM rfl rfl rfl rfl ?_ ?_|refine Na wr rfl rfl rfl rfl rfl ?_ ?_|refine Xq AM rfl rfl rfl rfl ?_ ?_)|(refine Ib 4 rfl ?_;first|refine LD ow AM rfl rfl rfl rfl rfl rfl ?_ ?_|refine OM k1 k2 AM rfl rfl rfl (by first|rfl|simp[DT]) rfl rfl rfl rfl ?_ ?_|refine Xa AM rfl rfl rfl rfl rfl ?_ ?_|refine Xq AM rfl rfl rfl rfl ?_ ?_|refine Xbs AM rfl rfl rfl rfl rfl rfl ?_ ?_)|(refine Ib 5 rfl ?_;first|refine Xw AM rfl rfl rfl rfl ?_ ?_|refine ON sb AM rfl rfl rfl rfl ?_ ?_)|(refine Ib 6 rfl ?_;first|refine LD ow AM rfl rfl rfl rfl rfl rfl ?_ ?_|refine Xq AM rfl rfl rfl rfl ?_ ?_|refine Xw AM rfl rfl rfl rfl ?_ ?_|refine Xa AM rfl rfl rfl rfl rfl ?_ ?_));rotate_left;focus((repeat'(first|with_reducible rfl|((with_reducible refine Ix ?_);first|kernel_rfl|rfl|(simp[C3,DY,nS];done))|with_reducible refine Ie ?_ ?_|with_reducible exact Nat.beq_refl _|with_reducible exact Bv _|((with_reducible refine Pq ?_);first|omega|(simp only[GD,nS];omega))|decide|(simp[GD,slc,BH,D.one,Bs,AV.one,nS];done)|(simp[GD,nS];omega)));done))|(refine Ib 3 rfl ?_;first|refine Mi fz1 rfl rfl rfl (by first|rfl|simp[AD]) ?_|refine Mi fz2 rfl rfl rfl (by first|rfl|simp[AD]) ?_|refine Mi fz3 rfl rfl rfl (by first|rfl|simp[AD]) ?_|refine Mi fz4 rfl rfl rfl (by first|rfl|simp[AD]) ?_|refine XF (c1 ..) rfl rfl rfl rfl ?_|refine XF (c2 ..) rfl rfl rfl rfl ?_|refine XF (c3 ..) rfl rfl rfl rfl ?_|refine XF (c4 ..) rfl rfl rfl rfl ?_|refine XF (c5 ..) rfl rfl rfl rfl ?_|refine XF (c6 ..) rfl rfl rfl rfl ?_|refine XF (c7 ..) rfl rfl rfl rfl ?_|refine XF (c8 ..) rfl rfl rfl rfl ?_|refine XF (c9 ..) rfl rfl rfl rfl ?_|refine XF (c10 ..) rfl rfl rfl rfl ?_|refine XF (c11 ..) rfl rfl rfl rfl ?_|refine XF (c12 ..) rfl rfl rfl rfl ?_|refine XF (c13 ..) rfl rfl rfl rfl ?_|refine XF (c14 ..) rfl rfl rfl rfl ?_|refine XF (c15 ..) rfl rfl rfl rfl ?_|refine XF (c16 ..) rfl rfl rfl rfl ?_|(refine OL (z1 ..) rfl rfl rfl rfl ?_ ?_;(first|(simp[Gj,B4,B3,AO,AD,AI];done)|(repeat'(first|rfl|trivial|refine⟨rfl,rfl,by simp[AI]⟩|refine⟨_,_,rfl,?_,?_⟩|refine⟨_,rfl,?_⟩))))|(refine OL (z2 ..) rfl rfl rfl rfl ?_ ?_;(first|(simp[Gj,B4,B3,AO,AD,AI];done)|(repeat'(first|rfl|trivial|refine⟨rfl,rfl,by simp[AI]⟩|refine⟨_,_,rfl,?_,?_⟩|refine⟨_,rfl,?_⟩))))|(refine OL (z3 ..) rfl rfl rfl rfl ?_ ?_;(first|(simp[Gj,B4,B3,AO,AD,AI];done)|(repeat'(first|rfl|trivial|refine⟨rfl,rfl,by simp[AI]⟩|refine⟨_,_,rfl,?_,?_⟩|refine⟨_,rfl,?_⟩))))|(refine MO (d1 ..) rfl rfl rfl ?_ rfl rfl rfl rfl ?_;(focus((repeat(first|exact trivial|refine⟨rfl,?_⟩));done)))|(refine MO (d2 ..) rfl rfl rfl ?_ rfl rfl rfl rfl ?_;(focus((repeat(first|exact trivial|refine⟨rfl,?_⟩));done)))|(refine MO (d3 ..) rfl rfl rfl ?_ rfl rfl rfl rfl ?_;(focus((repeat(first|exact trivial|refine⟨rfl,?_⟩));done)))|(refine MO (d4 ..) rfl rfl rfl ?_ rfl rfl rfl rfl ?_;(focus((repeat(first|exact trivial|refine⟨rfl,?_⟩));done)))|(refine MO (d5 ..) rfl rfl rfl ?_ rfl rfl rfl rfl ?_;(focus((repeat(first|exact trivial|refine⟨rfl,?_⟩));done)))|(refine MO (d6 ..) rfl rfl rfl ?_ rfl rfl rfl rfl ?_;(focus((repeat(first|exact trivial|refine⟨rfl,?_⟩));done)))|(refine MO (d7 ..) rfl rfl rfl ?_ rfl rfl rfl rfl ?_;(focus((repeat(first|exact trivial|refine⟨rfl,?_⟩));done)))|(refine MO (d8 ..) rfl rfl rfl ?_ rfl rfl rfl rfl ?_;(focus((repeat(first|exact trivial|refine⟨rfl,?_⟩));done)))|(refine MO (d9 ..) rfl rfl rfl ?_ rfl rfl rfl rfl ?_;(focus((repeat(first|exact trivial|refine⟨rfl,?_⟩));done)))|(refine MO (d10 ..) rfl rfl rfl ?_ rfl rfl rfl rfl ?_;(focus((repeat(first|exact trivial|refine⟨rfl,?_⟩));done)))|refine Xy q1 rfl rfl rfl rfl rfl ?_|refine Xy (q1 _) rfl rfl rfl rfl rfl ?_|refine Xy (q1 _ _) rfl rfl rfl rfl rfl ?_|(refine' XyBR (g1T _) (g1F _) rfl rfl rfl rfl rfl rfl ?_ ?_ r (fun hc s=> ?_) (fun hc s=> ?_);(all_goals(first|guard_target=Prop|(clear r;have r:=s;clear s;(try simp only[GC]at hc);(try(exfalso;omega)))|(intro hc;(try simp only[GC]at hc);first|done|exact hc))))|(refine Nx (x1 ..) rfl rfl ?_ rfl rfl rfl ?_;(focus((repeat(first|exact trivial|refine⟨rfl,?_⟩));done)))|(refine Nx (x2 ..) rfl rfl ?_ rfl rfl rfl ?_;(focus((repeat(first|exact trivial|refine⟨rfl,?_⟩));done)))|(refine Nx (x3 ..) rfl rfl ?_ rfl rfl rfl ?_;(focus((repeat(first|exact trivial|refine⟨rfl,?_⟩));done)))|(refine Nx (x4 ..) rfl rfl ?_ rfl rfl rfl ?_;(focus((repeat(first|exact trivial|refine⟨rfl,?_⟩));done)))|(refine Nx (x5 ..) rfl rfl ?_ rfl rfl rfl ?_;(focus((repeat(first|exact trivial|refine⟨rfl,?_⟩));done)))|(refine Nx (x6 ..) rfl rfl ?_ rfl rfl rfl ?_;(focus((repeat(first|exact trivial|refine⟨rfl,?_⟩));done))))|refine Xpan rfl rfl rfl ?_|refine XfuL fu1 rfl rfl rfl (by first|rfl|simp[AD]) ?_|(refine' MV ns rfl rfl ?_ ?_ r (fun hc s=> ?_) (fun hc s=> ?_);(all_goals(first|guard_target=Prop|(clear r;have r:=s;clear s;(fail_if_success (with_reducible first|exact tF hc|exact fT hc));(try simp only[GC]at hc);(try(exfalso;omega)))|(intro hc;(try simp only[GC]at hc);first|done|exact hc))))|(refine' sdR r (fun hs s=> ?_);rotate_left 2;clear r;have r:=s;clear s;first|refine LD ow AM rfl rfl rfl rfl rfl rfl ?_ hs|refine OM k1 k2 AM rfl rfl rfl (by first|rfl|simp[DT]) rfl rfl rfl rfl ?_ hs|refine Xa AM rfl rfl rfl rfl rfl ?_ hs|refine Na wr rfl rfl rfl rfl rfl ?_ hs|refine Xq AM rfl rfl rfl rfl ?_ hs|refine Xw AM rfl rfl rfl rfl ?_ hs|refine ON sb AM rfl rfl rfl rfl ?_ hs))|((with_reducible refine Oh ?_);first|((with_reducible refine OR ?_);first|(refine YnXL pr mixed AM rfl (by kernel_rfl) ?_ ?_;focus(simp only[Ao];repeat'(first|exact QN|refine PV ?_ ?_|exact⟨_,rfl,rfl⟩|rfl)))|(refine YnLv lv pr mixed AM (by kernel_rfl) ?_ rfl ?_;focus(simp only[Ao];repeat'(first|exact QN|refine PV ?_ ?_|exact⟨_,rfl,rfl⟩|rfl)))|(refine Yn2L lv pr AM (by kernel_rfl) ?_ rfl ?_;focus(simp only[Ao];repeat'(first|exact QN|refine PV ?_ ?_|exact⟨_,rfl,rfl⟩|rfl))))|(refine Ydq rfl ?_ rfl rfl rfl ?_;focus(simp only[Ig,List.reverse_cons,List.reverse_nil,List.nil_append,QD,Q5,Qd,QU,Cw,PX,Px,List.any_cons,List.any_nil,Kd.Ep,Bool.or_false,Bool.false_or,Py,QK];decide +kernel))|(refine OC rfl ?_;refine Ys rfl rfl rfl rfl ?_)|(refine Es rfl ?_;refine Og AM rfl rfl (fun _=>rfl) rfl rfl ?_)|(refine IZ 1 rfl ?_;first|refine OO AM rfl rfl (fun _=>rfl) rfl rfl rfl (QA _) (Bz ix1) ?_|refine OO AM rfl rfl (fun _=>rfl) rfl rfl rfl (QA _) (Bz ix2) ?_|refine OO AM rfl rfl (fun _=>rfl) rfl rfl rfl (QA _) (Bz ix3) ?_|refine OO AM rfl rfl (fun _=>rfl) rfl rfl rfl (QA _) (Bz ix4) ?_)|((first|(refine IZ 1 rfl ?_;first|refine Yp AM rfl rfl (fun _=>rfl) rfl rfl ?_ ?_|refine Yq rfl rfl rfl rfl rfl ?_ ?_)|(refine IZ 2 rfl ?_;first|refine YlkL lk1 rfl rfl rfl rfl rfl ?_ ?_|refine Yp AM rfl rfl (fun _=>rfl) rfl rfl ?_ ?_|refine Yq rfl rfl rfl rfl rfl ?_ ?_)|(refine IZ 4 rfl ?_;first|refine LF ow AM rfl rfl rfl rfl rfl rfl rfl ?_ ?_|refine Ya AM rfl rfl rfl rfl rfl rfl ?_ ?_|refine Yp AM rfl rfl (fun _=>rfl) rfl rfl ?_ ?_|refine Yq rfl rfl rfl rfl rfl ?_ ?_)|(refine IZ 5 rfl ?_;first|refine Yw AM rfl rfl rfl rfl rfl ?_ ?_|refine Nb sb AM rfl rfl rfl rfl rfl ?_ ?_)|(refine IZ 6 rfl ?_;first|refine LF ow AM rfl rfl rfl rfl rfl rfl rfl ?_ ?_|refine Yp AM rfl rfl (fun _=>rfl) rfl rfl ?_ ?_|refine Yq rfl rfl rfl rfl rfl ?_ ?_|refine Yw AM rfl rfl rfl rfl rfl ?_ ?_|refine Nb sb AM rfl rfl rfl rfl rfl ?_ ?_|refine Ya AM rfl rfl rfl rfl rfl rfl ?_ ?_));rotate_left;focus((repeat'(first|with_reducible rfl|((with_reducible refine Ix ?_);first|kernel_rfl|rfl|(simp[C3,DY,nS];done))|with_reducible refine Ie ?_ ?_|with_reducible exact Nat.beq_refl _|with_reducible exact Bv _|((with_reducible refine Pq ?_);first|omega|(simp only[GD,nS];omega))|decide|(simp[GD,slc,BH,D.one,Bs,AV.one,nS];done)|(simp[GD,nS];omega)));done))|(refine IZ 3 rfl ?_;first|refine YF (c1 ..) rfl rfl rfl rfl rfl ?_|refine YF (c2 ..) rfl rfl rfl rfl rfl ?_|refine YF (c3 ..) rfl rfl rfl rfl rfl ?_|refine YF (c4 ..) rfl rfl rfl rfl rfl ?_|refine YF (c5 ..) rfl rfl rfl rfl rfl ?_|refine YF (c6 ..) rfl rfl rfl rfl rfl ?_|refine YF (c7 ..) rfl rfl rfl rfl rfl ?_|refine YF (c8 ..) rfl rfl rfl rfl rfl ?_|refine YF (c9 ..) rfl rfl rfl rfl rfl ?_|refine YF (c10 ..) rfl rfl rfl rfl rfl ?_|refine YF (c11 ..) rfl rfl rfl rfl rfl ?_|refine YF (c12 ..) rfl rfl rfl rfl rfl ?_|refine YF (c13 ..) rfl rfl rfl rfl rfl ?_|refine YF (c14 ..) rfl rfl rfl rfl rfl ?_|refine YF (c15 ..) rfl rfl rfl rfl rfl ?_|refine YF (c16 ..) rfl rfl rfl rfl rfl ?_|(refine YFz (z1 ..) rfl rfl rfl rfl rfl ?_ ?_;(first|(simp[Gj,B4,B3,AO,AD,AI];done)|(repeat'(first|rfl|trivial|refine⟨rfl,rfl,by simp[AI]⟩|refine⟨_,_,rfl,?_,?_⟩|refine⟨_,rfl,?_⟩))))|(refine YFz (z2 ..) rfl rfl rfl rfl rfl ?_ ?_;(first|(simp[Gj,B4,B3,AO,AD,AI];done)|(repeat'(first|rfl|trivial|refine⟨rfl,rfl,by simp[AI]⟩|refine⟨_,_,rfl,?_,?_⟩|refine⟨_,rfl,?_⟩))))|(refine YFz (z3 ..) rfl rfl rfl rfl rfl ?_ ?_;(first|(simp[Gj,B4,B3,AO,AD,AI];done)|(repeat'(first|rfl|trivial|refine⟨rfl,rfl,by simp[AI]⟩|refine⟨_,_,rfl,?_,?_⟩|refine⟨_,rfl,?_⟩))))|(refine MP (d1 ..) rfl rfl rfl rfl ?_ rfl rfl rfl rfl ?_;(focus((repeat(first|exact trivial|refine⟨rfl,?_⟩));done)))|(refine MP (d2 ..) rfl rfl rfl rfl ?_ rfl rfl rfl rfl ?_;(focus((repeat(first|exact trivial|refine⟨rfl,?_⟩));done)))|(refine MP (d3 ..) rfl rfl rfl rfl ?_ rfl rfl rfl rfl ?_;(focus((repeat(first|exact trivial|refine⟨rfl,?_⟩));done)))|(refine MP (d4 ..) rfl rfl rfl rfl ?_ rfl rfl rfl rfl ?_;(focus((repeat(first|exact trivial|refine⟨rfl,?_⟩));done)))|(refine MP (d5 ..) rfl rfl rfl rfl ?_ rfl rfl rfl rfl ?_;(focus((repeat(first|exact trivial|refine⟨rfl,?_⟩));done)))|(refine MP (d6 ..) rfl rfl rfl rfl ?_ rfl rfl rfl rfl ?_;(focus((repeat(first|exact trivial|refine⟨rfl,?_⟩));done)))|(refine MP (d7 ..) rfl rfl rfl rfl ?_ rfl rfl rfl rfl ?_;(focus((repeat(first|exact trivial|refine⟨rfl,?_⟩));done)))|(refine MP (d8 ..) rfl rfl rfl rfl ?_ rfl rfl rfl rfl ?_;(focus((repeat(first|exact trivial|refine⟨rfl,?_⟩));done)))|(refine MP (d9 ..) rfl rfl rfl rfl ?_ rfl rfl rfl rfl ?_;(focus((repeat(first|exact trivial|refine⟨rfl,?_⟩));done)))|(refine MP (d10 ..) rfl rfl rfl rfl ?_ rfl rfl rfl rfl ?_;(focus((repeat(first|exact trivial|refine⟨rfl,?_⟩));done)))|(refine O0 (x1 ..) rfl rfl rfl rfl ?_ rfl rfl rfl rfl ?_;(focus((repeat(first|exact trivial|refine⟨rfl,?_⟩));done)))|(refine O0 (x2 ..) rfl rfl rfl rfl ?_ rfl rfl rfl rfl ?_;(focus((repeat(first|exact trivial|refine⟨rfl,?_⟩));done)))|(refine O0 (x3 ..) rfl rfl rfl rfl ?_ rfl rfl rfl rfl ?_;(focus((repeat(first|exact trivial|refine⟨rfl,?_⟩));done)))|(refine O0 (x4 ..) rfl rfl rfl rfl ?_ rfl rfl rfl rfl ?_;(focus((repeat(first|exact trivial|refine⟨rfl,?_⟩));done)))|(refine O0 (x5 ..) rfl rfl rfl rfl ?_ rfl rfl rfl rfl ?_;(focus((repeat(first|exact trivial|refine⟨rfl,?_⟩));done)))|(refine O0 (x6 ..) rfl rfl rfl rfl ?_ rfl rfl rfl rfl ?_;(focus((repeat(first|exact trivial|refine⟨rfl,?_⟩));done))))|(refine' MW ns rfl rfl ?_ ?_ r (fun hc s=> ?_) (fun hc s=> ?_);(all_goals(first|guard_target=Prop|(clear r;have r:=s;clear s;(fail_if_success (with_reducible first|exact tF hc|exact fT hc));(try simp only[GC]at hc);(try(exfalso;omega)))|(intro hc;(try simp only[GC]at hc);first|done|exact hc))))|(refine' sdR r (fun hs s=> ?_);rotate_left 2;clear r;have r:=s;clear s;first|refine LF ow AM rfl rfl rfl rfl rfl rfl rfl ?_ hs|refine Ya AM rfl rfl rfl rfl rfl rfl ?_ hs|refine Yp AM rfl rfl (fun _=>rfl) rfl rfl ?_ hs|refine Yq rfl rfl rfl rfl rfl ?_ hs|refine Yw AM rfl rfl rfl rfl rfl ?_ hs|refine Nb sb AM rfl rfl rfl rfl rfl ?_ hs))|((with_reducible refine gW ?_);first|with_reducible refine FD ?_|((with_reducible refine gReg ?_);refine GK st rfl ?_)|((with_reducible refine gAny ?_);refine L1 st T.get rfl ?_)|((with_reducible refine OQ ?_);first|refine Bq rfl ?_|refine Bp rfl ?_|(refine' JS nc rfl ?_ ?_ r (fun hc s=> ?_) (fun hc s=> ?_);(all_goals(first|guard_target=Prop|(clear r;have r:=s;clear s;(try simp only[GC]at hc);(try(exfalso;omega)))|(intro hc;(try simp only[GC]at hc);first|done|exact hc)))))|with_reducible refine DW ?_|with_reducible refine FC ?_|with_reducible refine CS ?_|with_reducible refine DU ?_|with_reducible refine IX ?_|with_reducible refine Gq ?_|with_reducible refine He un ?_|with_reducible refine Hg (scO sc) ?_)|(with_reducible first|refine qT ?_|refine qTr ?_|refine qTe ?_|refine qTg ?_|refine qTp ?_|refine qBn ?_|refine qBr ?_|refine qBg ?_|refine qBp ?_|refine qSn ?_|refine qSr ?_|refine qSe ?_|exact lQ r|exact lI r|exact lY r)|refine qSg rfl ?_|(first|refine FD ?_|refine GK st rfl ?_|refine L1 st T.get rfl ?_|refine Bq rfl ?_|refine Bp rfl ?_|refine DW ?_|refine FC ?_|refine CS ?_|refine DU ?_|refine IX ?_|refine Gq ?_|refine He un ?_|refine Hg (scO sc) ?_|(refine' JS nc rfl ?_ ?_ r (fun hc s=> ?_) (fun hc s=> ?_);(all_goals(first|guard_target=Prop|(clear r;have r:=s;clear s;(try simp only[GC]at hc);(try(exfalso;omega)))|(intro hc;(try simp only[GC]at hc);first|done|exact hc)))))|exact r.x));all_goals exact True):g:=h trivial trivial trivial trivial trivial (sbA Z) a b ⟨r⟩
end Go.Gar
namespace Go.Gar
theorem A6.ck{S S':St}(hn:S'.n=S.n)(he:Dh S'.env S.env:=by repeat'(first|exact QN|refine PV (by(first|rfl|((with_reducible_and_instances refine congrArg (fun z=>some (AV.d (D.i _ z))) ?_);omega)|(refine congrArg (fun z=>some (AV.d (D.i _ z))) (?_:(_:Int)=_);omega)|(refine congrArg some ?_;simp;done))) ?_))
  (hH:Af S'.H S.H:=by repeat'(first|exact QN|refine PV (Or.inr rfl) ?_|refine PV (Or.inl ⟨rfl,rfl⟩) ?_|refine PV (Or.inr sm) ?_))
  (ho:AK S'.H.length S'.H=true:=by first|rfl|(simp(decide:=true) [AK,A1.ok,AV.oks,AV.ok];done)|(simp(decide:=true) [AK,A1.ok,AV.oks,AV.ok,hk];done)) (heo:BE S'.H.length S'.env=true:=by rfl):A6 S S':=A6.cut hn he hH ho heo
theorem Gk:(∀(H:Pf)(xs:PT)(l:PQ),B3 H (.tup xs) (.tup l)↔B4 H xs l)/\(∀(H:Pf)(xs:PT)(l:PQ),B3 H (.ag xs) (.agg l)↔B4 H xs l)/\
  (∀(H:Pf)(x:AV)(xs:PT)(y:D)(l:PQ),B4 H (x::xs) (y::l)↔B3 H x y/\B4 H xs l)/\(∀H:Pf,B4 H [] []↔True)/\(∀(H:Pf)(x y:D),B3 H (.d x) y↔y=x)/\
  (∀(H:Pf)(y:D),B3 H .e0 y↔AO y=true/\AD y=0/\AI y)/\(∀(H:Pf)(i n sz:Nat)(y:D),B3 H (.sl i n sz) y↔H[i]? =some (.a y)/\n=AD y):=
 ⟨fun _ _ _=>MS,fun _ _ _=>IV,fun _ _ _ _ _=>EP,fun _=>F6,fun _ _ _=>Kx,fun _ _=>NO,fun _ _ _ _ _=>IW⟩
end Go.Gar
namespace Go.Gar
def LV(E:Nat->Option AF)(env:Pa)(op:Op):Option (Bool×(Nat->AV)×A1):=
 match op with
 | .buildSlice t len ps=>match Dr E (B6 env) t len ps.toList with
  |some (z,cs)=>some (decide (len*z.size<=16777216),fun id=> .bs id 0 len z.size cs.length,.c cs)
  |none=>none
 |_=>none
variable {E:Nat->Option AF}
theorem Mr{P:Program}(hE:AW P E){S:St}{o:Oper}{f:Nat->AV}{b:A1}{c:Bool}(h:LV E S.env o.op=some (c,f,b))(hc:c=true):BO P o S (f S.H.length) (S.H++[b]):=by
 subst hc;obtain⟨dst,op,ty,pos,after,guard⟩:=o;simp only at h;cases op<;>simp only[LV]at h<;>try(cases h;done)
 case buildSlice t len ps=>
  split at h
  .rename_i z cs hcs;simp only[P7,PD,PO]at h;obtain⟨hsz,rfl,rfl⟩:=h
   exact .Av (f:=fun a=>Instr.buildSlice t len (IU a.eval ps)) (fun a=>C6 rfl a.eval) fun ro N G a w r=>by
    have:=Gv hE r.rel (fun o x hx=>A8 r.rel.st r.env hx) hcs hsz;rw[r.heap]at this;exact this
  .cases h
theorem Gz{env:Pa}{o:Oper}{x:Bool×(Nat->AV)×A1}(h:LV E env o.op=some x):∀c,o.op≠ .defer c:=by
 intro c hc;rw[hc]at h;simp[LV]at h
section
variable {P:Program}{ro:P3}{ops:P4}{i:Nat}{rest:PC}{en:Pa}{hp:Pf}{nt:Nat}{Q:Exit->St->Prop}{o:Oper}{E:Nat->Option AF}
theorem Xbs(hE:AW P E){f:Nat->AV}{b:A1}{c:Bool}{x':AV}{e:Pa}{H':Pf}(hg:A2 ops en o=some true)(h:LV E en o.op=some (c,f,b))(hd:A7 o.dst nt=true)(he:AG o.dst x' en=some e)(hH:C1 hp b=some H')(hx:f hp.length=x')
  (k:Wl P ro ops (i+1) rest ⟨e,H',nt⟩ Q) (hc:c=true):Wl P ro ops i (o::rest) ⟨en,hp,nt⟩ Q:=by
 subst hx;rw[AB he,CN hH]at k;exact FG (S:=⟨en,hp,nt⟩) hg (Mr (S:=⟨en,hp,nt⟩) hE h hc) (Gz h) hd k
end
end Go.Gar
