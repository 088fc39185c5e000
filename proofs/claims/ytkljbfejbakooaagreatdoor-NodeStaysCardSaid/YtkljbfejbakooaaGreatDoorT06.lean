/- Part 6 of a proof. Conditions: those that its theorems state. -/
import Derived.Test.YtkljbfejbakooaaGreatDoorT05
set_option linter.unusedSimpArgs false
set_option linter.unusedVariables false
set_option maxHeartbeats 40000000
set_option maxRecDepth 4000
namespace Go.Gar
def Lv(_:Aw):Prop:=True
def wW(_:wi):Prop:=True
def Ds(_:Aw)(p:Prop):Prop:=p
def No(_:Nat):Prop:=True
def Dd(_:D):Prop:=True
structure Br (p q A B:Prop):Prop where
 t:p->A
 f:q->B
def vg:List Rc->Bool
 |[]=>false
 |x::r=>match x.k with
  | .pan _=>true
  |_=>vg r
structure Sd (c:Bool) (A:Prop):Prop where
 a:A
 c:c=true
structure Rs (R:Prop):Prop where
 x:R
theorem sdR{c:Bool}{R G:Prop}(r:Rs (Sd c R))(k:c=true->Rs R->G):G:=k r.x.2 ⟨r.x.1⟩
theorem Ds.mk(ids:Aw){p:Prop}(h:p):Ds ids p:=h
section
variable {P:Program}{ro:wk}{ops:wl}{i:Nat}{rest:wm}{S0:St}{en:xF}{hp:xS}{nt:Nat}{Q:Exit->St->Prop}{o:Oper}{E:Nat->Option Be}{A:Prop}{acc:List Rc}
variable {S:St}
theorem gNil(k:Wl P ro ops i [] S Q):Wl P ro ops i [] S Q:=k
theorem vf(k:Wd P ro E ops S0 A acc [] S):Wd P ro E ops S0 A acc [] S:=k
def opk:Op->Nat
 | .indexAddr _ _ _=>1
 | .load _ _| .nilCheck _| .binOp _ _ _ _ _| .unOp _ _ _| .convert _ _ _| .slice _ _ _ _ _| .fieldAddr _ _ _| .field _ _ _| .index _ _ _| .build _ _| .makeFunc _ _ _| .extract _ _| .sliceToArrayPointer _ _| .makeInterface _ _| .lookup _ _ _ _| .typeAssert _ _ _ _=>2
 | .call c=>match c.callee with
  | .builtin _=>6
  |_=>3
 | .alloc _| .box _ _| .makeSlice _ _ _| .buildSlice _ _ _| .makeMap _ _=>4
 | .store _ _ _| .insert _ _ _ _| .mapUpdate _ _ _ _=>5
 |_=>6
theorem Yi(k:Nat)(_:opk o.op=k)(h:Wl P ro ops i (o::rest) S Q):Wl P ro ops i (o::rest) S Q:=h
theorem Yg(k:Nat)(_:opk o.op=k)(h:Wd P ro E ops S0 A acc (o::rest) S):Wd P ro E ops S0 A acc (o::rest) S:=h
theorem vJ(_:o.guard.isSome=true)(h:Wl P ro ops i (o::rest) S Q):Wl P ro ops i (o::rest) S Q:=h
theorem vB(_:o.guard.isSome=true)(h:Wd P ro E ops S0 A acc (o::rest) S):Wd P ro E ops S0 A acc (o::rest) S:=h
def ud(ops:wl)(nt:Nat):wm->xF->Nat->wm×xF×Nat
 |[],e,i=>([],e,i)
 |o::r,e,i=>match o.guard with
  |none=>(o::r,e,i)
  |some _=>match Af ops e o with
   |some false=>match Az o.dst nt with
    |true=>match o.dst with
     |some d=>ud ops nt r ((d,.d (.tup []))::e) (i+1)
     |none=>ud ops nt r e (i+1)
    |false=>(o::r,e,i)
   |_=>(o::r,e,i)
theorem aS:∀(l:wm)(e:xF)(i:Nat){l':wm}{e':xF}{i':Nat},ud ops nt l e i=(l',e',i')->Wl P ro ops i' l' ⟨e',hp,nt⟩ Q->Wl P ro ops i l ⟨e,hp,nt⟩ Q
 |[],e,i,l',e',i',h,k=>by simp only[ud,xZ]at h;obtain⟨rfl,rfl,rfl⟩:=h;exact k
 |o::r,e,i,l',e',i',h,k=>by
  simp only[ud]at h;split at h
  .simp only[xZ]at h;obtain⟨rfl,rfl,rfl⟩:=h;exact k
  .split at h
   .rename_i hg;split at h
    .rename_i hd;split at h
     .rename_i d ho;exact Xs hg hd (by rw[ho];rfl) (aS r _ _ h k)
     .rename_i ho;exact Xs hg hd (by rw[ho];rfl) (aS r _ _ h k)
    .simp only[xZ]at h;obtain⟨rfl,rfl,rfl⟩:=h;exact k
   .simp only[xZ]at h;obtain⟨rfl,rfl,rfl⟩:=h;exact k
variable {e0 e:xF}
theorem Ydq(_:vg acc=true)(h:Yz ops acc=true)(hl:FQ (looks ops o) en=some e0)(hd:Az o.dst nt=true)(he:Bf o.dst .u en=some e)(hk:Wd P ro E ops S0 A (⟨e0,hp,.u,.dead⟩::acc) rest ⟨e,hp,nt⟩):Wd P ro E ops S0 A acc (o::rest) ⟨en,hp,nt⟩:=Yd h hl hd he hk
theorem XsN{l':wm}{e':xF}{i':Nat}(hg:Af ops en o=some false)(h:ud ops nt (o::rest) en i=(l',e',i'))(k:Wl P ro ops i' l' ⟨e',hp,nt⟩ Q):Wl P ro ops i (o::rest) ⟨en,hp,nt⟩ Q:=aS _ _ _ h k
theorem gW{c:Code}(k:W P ro c S Q):W P ro c S Q:=k
variable {id:Nat}
theorem gReg(k:W P ro (.region id ops false) S Q):W P ro (.region id ops false) S Q:=k
theorem gAny(k:W P ro (.region id ops true) S Q):W P ro (.region id ops true) S Q:=k
theorem vd{c:Operand}{x y:Code}(k:W P ro (.cond c x y) S Q):W P ro (.cond c x y) S Q:=k
variable {K:St->Prop}
theorem qT(k:K S):TH K Q .normal S:=k
theorem qTr(k:Q .ret S):TH K Q .ret S:=k
variable {j:Nat}
theorem qTe(k:Q (.exit j) S):TH K Q (.exit j) S:=k
theorem qTg(k:Q (.goto j) S):TH K Q (.goto j) S:=k
variable {ch:wt}
theorem qTp(k:Q (.panic ch) S):TH K Q (.panic ch) S:=k
theorem qBn(k:Q .normal S):Kc j Q .normal S:=k
theorem qBr(k:Q .ret S):Kc j Q .ret S:=k
theorem qBg{l:Nat}(k:Q (.goto l) S):Kc j Q (.goto l) S:=k
theorem qBp(k:Q (.panic ch) S):Kc j Q (.panic ch) S:=k
theorem qSn{c:Code}(k:Q .normal S):Fa P ro c Q j .normal S:=by rw[Ha (by intro l h;cases h)];exact k
theorem qSr{c:Code}(k:Q .ret S):Fa P ro c Q j .ret S:=by rw[Ha (by intro l h;cases h)];exact k
theorem qSe{c:Code}{i:Nat}(k:Q (.exit i) S):Fa P ro c Q j (.exit i) S:=by rw[Ha (by intro l h;cases h)];exact k
theorem qSg{c rest:Code}{l:Nat}(h:findLabel c l=some rest)(k:W P ro rest S (Fa P ro c Q j)):Fa P ro c Q (j+1) (.goto l) S:=by
 simp only[Fa,h];exact k
theorem lQ{e:Exit}(r:Rs (MZ K e S)):MZ K e S:=r.x
theorem lI{α:Type}{I:α->Prop}{F:α->St}{lt:α->Prop}{k:Nat}(r:Rs (ul I F lt k Q .normal S)):ul I F lt k Q .normal S:=r.x
variable {n:Nat}
theorem lY{lp:Lp}{R:AV->xS->Prop}{e:Exit}(r:Rs (rL id n lp R e S)):rL id n lp R e S:=r.x
variable {p q B C:Prop}
theorem ar{c:Operand}{x y:Code}{t:Bool}(_:No 1)(hc:Db S.env c=some (.d (.b t)))(ip:t=true->p)(iq:t=false->q)(r:Rs (Br p q B C))(ht:t=true->Rs B->W P ro x S Q)(hf:t=false->Rs C->W P ro y S Q):W P ro (.cond c x y) S Q:=
 GT hc (fun h=>ht h ⟨r.x.t (ip h)⟩) (fun h=>hf h ⟨r.x.f (iq h)⟩)
variable {b:Bool}
theorem ny{d:Nat}(_:No 0)(hg:eX ops o=some d)(hb:get en d=some (.d (.b b)))(ip:b=true->p)(iq:b=false->q)(r:Rs (Br p q B C))(ht:b=true->Rs B->Wl P ro ops i (o::rest) ⟨(d,.d (.b true))::en,hp,nt⟩ Q)(hf:b=false->Rs C->Wl P ro ops i (o::rest) ⟨(d,.d (.b false))::en,hp,nt⟩ Q):Wl P ro ops i (o::rest) ⟨en,hp,nt⟩ Q:=
 Yk hg hb (fun h=>ht h ⟨r.x.t (ip h)⟩) (fun h=>hf h ⟨r.x.f (iq h)⟩)
theorem nz{d:Nat}(_:No 0)(hg:eX ops o=some d)(hb:get en d=some (.d (.b b)))(ip:b=true->p)(iq:b=false->q)(r:Rs (Br p q B C))(ht:b=true->Rs B->Wd P ro E ops S0 A acc (o::rest) ⟨(d,.d (.b true))::en,hp,nt⟩)(hf:b=false->Rs C->Wd P ro E ops S0 A acc (o::rest) ⟨(d,.d (.b false))::en,hp,nt⟩):Wd P ro E ops S0 A acc (o::rest) ⟨en,hp,nt⟩:=
 ii hg hb (fun h=>ht h ⟨r.x.t (ip h)⟩) (fun h=>hf h ⟨r.x.f (iq h)⟩)
variable {live:Aw}
theorem XnL(_:Lv live)(h:FQ live en=some e)(k:Q .normal ⟨e,hp,nt⟩):Wl P ro ops i [] ⟨en,hp,nt⟩ Q:=Xn live h k
variable {L:Aw}{c:Bool}{x':AV}{H':xS}
theorem ib(_:Lv L)(hE:CP P E){q:D}(u2:Pd o.dst L=true)(hg:Af ops en o=some true)(h:Ob E en hp o.op=some (c,q))(hd:Az o.dst nt=true)(he:Bf o.dst x' en=some e)(hH:HU hp (.a q)=some H')(k:Wl P ro ops (i+1) rest ⟨e,H',nt⟩ Q)(hc:c=true)(hx: .sl hp.length (BK q) (C7 q)=x':=by first|(simp only[N4,HZ,Nat.reduceAdd,Int.reduceAdd,Int.reduceSub,Int.reduceMul,Int.reduceToNat,nS];rfl)|rfl):Wl P ro ops i (o::rest) ⟨en,hp,nt⟩ Q:=oE L hE u2 hg h hd he hH k hc hx
variable {x:AV}
theorem rh(_:Lv L)(u1:Pd o.dst L=true)(hg:Af ops en o=some true)(h:Oe en o.op=some (c,x))(hd:Az o.dst nt=true)(he:Bf o.dst x' en=some e)(k:Wl P ro ops (i+1) rest ⟨e,hp,nt⟩ Q)(hc:c=true)(hx:x=x':=by rfl):Wl P ro ops i (o::rest) ⟨en,hp,nt⟩ Q:=XwL L u1 hg h hd he k hc hx
theorem ie(_:Lv L)(hE:CP P E){q:D}(u2:Pd o.dst L=true)(hl:FQ (looks ops o) en=some e0)(hg:Af ops e0 o=some true)(h:Ob E e0 hp o.op=some (c,q))(hd:Az o.dst nt=true)(he:Bf o.dst x' en=some e)(hH:HU hp (.a q)=some H')(hk:Wd P ro E ops S0 A (⟨e0,hp,x',.eff⟩::acc) rest ⟨e,H',nt⟩)(hc:c=true)(hx: .sl hp.length (BK q) (C7 q)=x':=by first|(simp only[N4,HZ,Nat.reduceAdd,Int.reduceAdd,Int.reduceSub,Int.reduceMul,Int.reduceToNat,nS];rfl)|rfl):Wd P ro E ops S0 A acc (o::rest) ⟨en,hp,nt⟩:=YaoL L hE u2 hl hg h hd he hH hk hc hx
variable {l:wi}
theorem YnLv(_:Lv live)(_:wW l)(hm:P.follows .mixedOrders=true)(hE:CP P E)(hd:Iv ops (acc.reverse.map Rc.k) l=true)(hx:E2 E ops acc.reverse hp l)(he:FQ live en=some e)(hQ:Q .normal ⟨e,hp,nt⟩):Wd P ro E ops S0 (W P ro (.region id ops true) S0 Q) acc [] ⟨en,hp,nt⟩:=Yn live l hm hE hd hx he hQ
theorem YnXL(_:wW l){i0:Nat}(hm:P.follows .mixedOrders=true)(hE:CP P E)(hp':L8 (acc.reverse.map Rc.k)=some (i0,ch))(hd:IY ops (acc.reverse.map Rc.k) l=true)(hx:E2 E ops acc.reverse hp l)(hQ:Q (.panic ch) ⟨[],hp,nt⟩):Wd P ro E ops S0 (W P ro (.region id ops true) S0 Q) acc [] ⟨en,hp,nt⟩:=YnX l hm hE hp' hd hx hQ
theorem Yn2L(_:Lv live)(_:wW l)(hE:CP P E)(hd:Iv ops (acc.reverse.map Rc.k) l=true)(hx:E2 E ops acc.reverse hp l)(he:FQ live en=some e)(hQ:Q .normal ⟨e,hp,nt⟩):Wd P ro E ops S0 (Jg P ro ops S0 (Qw Q)) acc [] ⟨en,hp,nt⟩:=Yn2 live l hE hd hx he hQ
variable {t:Nat}
theorem oF(_:No t){x:D}{sz:Nat}(u1:jS t o.op=true)(ht:get en t=some (.sl id n sz))(hid:hp[id]? =some (.a x))(hn:n=BK x)(k:Wl P ro ops i (o::rest) ⟨(t,.d x)::en,EP id x 0 hp,nt⟩ Q):Wl P ro ops i (o::rest) ⟨en,hp,nt⟩ Q:=Xfz t u1 ht hid hn k
theorem XfuL(_:No t){x:D}{sz:Nat}(u1:XC t (pO o.op)=true)(ht:get en t=some (.sl id n sz))(hid:hp[id]? =some (.a x))(hn:n=BK x)(k:Wl P ro ops i (o::rest) ⟨(t,.d x)::en,EP id x 0 hp,nt⟩ Q):Wl P ro ops i (o::rest) ⟨en,hp,nt⟩ Q:=Xfu t u1 ht hid hn k
theorem vM(_:No t){q:D}(_:Dd q)(hE:CP P E){f:Nat->AV}{b:AI}(u3:Pd o.dst [t]=true)(hg:Af ops en o=some true)(h:gv E en hp o.op=some (c,f,b))(hb:b= .a q)(hd:Az o.dst nt=true)(he:Bf o.dst x' en=some e)(hH:HU hp (.a q)=some H')(hx:f hp.length=x')(k:Wl P ro ops (i+1) rest ⟨e,H',nt⟩ Q)(hc:c=true):Wl P ro ops i (o::rest) ⟨en,hp,nt⟩ Q:=XaB t q hE u3 hg h hb hd he hH hx k hc
variable {H'':xS}
theorem vN(_:No 2)(hE:CP P E)(hg:Af ops en o=some true)(h:Wr E en hp o.op=some (c,H'))(hd:Az o.dst nt=true)(he:Bf o.dst .u en=some e)(k:Wl P ro ops (i+1) rest ⟨e,H'',nt⟩ Q)(hc:c=true)(hH:H'=H'':=by first|(simp only[nS];rfl)|rfl):Wl P ro ops i (o::rest) ⟨en,hp,nt⟩ Q:=Xsb hE hg h hd he k hc hH
theorem ri(_:No 2)(hE:CP P E)(hl:FQ (looks ops o) en=some e0)(hg:Af ops e0 o=some true)(h:Wr E e0 hp o.op=some (c,H'))(hd:Az o.dst nt=true)(he:Bf o.dst .u en=some e)(k:Wd P ro E ops S0 A (⟨e0,hp,.u,.eff⟩::acc) rest ⟨e,H'',nt⟩)(hc:c=true)(hH:H'=H'':=by first|(simp only[nS];rfl)|rfl):Wd P ro E ops S0 A acc (o::rest) ⟨en,hp,nt⟩:=Ysb hE hl hg h hd he k hc hH
theorem TJ(_:Lv L)(u1:XC id L=false)(h:Wl P ro ops 0 ops.toList S Q):W P ro (.region id ops false) S Q:=dY L u1 h
theorem iQ(_:Lv L)(E:Nat->Option Be)(u2:XC id L=false)(h:Wd P ro E ops S (W P ro (.region id ops true) S Q) [] ops.toList S):W P ro (.region id ops true) S Q:=rR L E u2 h
theorem WH(_:No n){c:Code}(h:W P ro c S (uo P ro c Q n)):W P ro (.loop c) S Q:=az n h
theorem WK{c:Code}(_:No j)(h:W P ro c S (Fa P ro c Q j)):W P ro (.scope c) S Q:=UP j h
variable {g:Nat}{args:xD}{H:xS}{ids:Aw}
theorem nh{r r':AV}(hF:Ds ids (BJ P g args H r H'))(hg:Af ops en o=some true)(h:CG en o.op=some (g,AV.EF (rn ids hp.length) args))(hd:Az o.dst nt=true)(hm:E8 (rn ids hp.length) hp ids H)(hn:nodupB ids=true)(ho:BY H.length H=true)(ha:AV.oks H.length args=true)(he:Bf o.dst r' en=some e)(k:Wl P ro ops (i+1) rest ⟨e,H'',nt⟩ Q)(hr:r.ren (rn ids hp.length)=r':=by first|(simp only[N4,HZ,Nat.reduceAdd,Int.reduceAdd,Int.reduceSub,Int.reduceMul,Int.reduceToNat,nS];rfl)|rfl)(hH:Px ids hp (Gb (rn ids hp.length) H')=H'':=by first|(simp only[HZ,Nat.reduceAdd];rfl)|rfl):Wl P ro ops i (o::rest) ⟨en,hp,nt⟩ Q:=XD ids hF hg h hd hm hn ho ha he k hr hH
theorem nj{r r':AV}(hF:Ds ids (BJ P g args H r H'))(hl:FQ (looks ops o) en=some e0)(hg:Af ops e0 o=some true)(h:CG e0 o.op=some (g,AV.EF (rn ids hp.length) args))(hd:Az o.dst nt=true)(hm:E8 (rn ids hp.length) hp ids H)(hn:nodupB ids=true)(ho:BY H.length H=true)(ha:AV.oks H.length args=true)(he:Bf o.dst r' en=some e)(hk:Wd P ro E ops S0 A (⟨e0,hp,r',.eff⟩::acc) rest ⟨e,H'',nt⟩)(hr:r.ren (rn ids hp.length)=r':=by first|(simp only[N4,HZ,Nat.reduceAdd,Int.reduceAdd,Int.reduceSub,Int.reduceMul,Int.reduceToNat,nS];rfl)|rfl)(hH:Px ids hp (Gb (rn ids hp.length) H')=H'':=by first|(simp only[HZ,Nat.reduceAdd];rfl)|rfl):Wd P ro E ops S0 A acc (o::rest) ⟨en,hp,nt⟩:=YD ids hF hl hg h hd hm hn ho ha he hk hr hH
theorem uR(hF:Ds ids (MY P g args H ch H'))(hg:Af ops en o=some true)(h:CG en o.op=some (g,AV.EF (rn ids hp.length) args))(hm:E8 (rn ids hp.length) hp ids H)(hn:nodupB ids=true)(ho:BY H.length H=true)(ha:AV.oks H.length args=true)(k:Q (.panic ch) ⟨en,H'',nt⟩)(hH:Px ids hp (Gb (rn ids hp.length) H')=H'':=by first|(simp only[HZ,Nat.reduceAdd];rfl)|rfl):Wl P ro ops i (o::rest) ⟨en,hp,nt⟩ Q:=XX ids hF hg h hm hn ho ha k hH
theorem uS(hF:Ds ids (MY P g args H ch H'))(hl:FQ (looks ops o) en=some e0)(hg:Af ops e0 o=some true)(h:CG e0 o.op=some (g,AV.EF (rn ids hp.length) args))(hd:Az o.dst nt=true)(hm:E8 (rn ids hp.length) hp ids H)(hn:nodupB ids=true)(ho:BY H.length H=true)(ha:AV.oks H.length args=true)(he:Bf o.dst .u en=some e)(hk:Wd P ro E ops S0 A (⟨e0,hp,.u,.pan ch⟩::acc) rest ⟨e,H'',nt⟩)(hH:Px ids hp (Gb (rn ids hp.length) H')=H'':=by first|(simp only[HZ,Nat.reduceAdd];rfl)|rfl):Wd P ro E ops S0 A acc (o::rest) ⟨en,hp,nt⟩:=YX ids hF hl hg h hd hm hn ho ha he hk hH
theorem XyBR{xs:xD}{r0:Lp}{H1 H2:xS}{e1 e2:xF}(hT:b=true->YT P id xs hp fun r K=>r= .d (.b true)/\K=H1)(hF:b=false->YT P id xs hp fun r K=>r= .d (.b false)/\K=H2)(hg:Af ops en o=some true)(h:Gn en o.op=some (id,xs))(hd:Az o.dst nt=true)(hlp:hp[id]? =some (.lp r0))(he1:Bf o.dst (.d (.b true)) en=some e1)(he2:Bf o.dst (.d (.b false)) en=some e2)(hp':b=true->p)(hq':b=false->q)(r:Rs (Br p q B C))(k1:b=true->Rs B->Wl P ro ops (i+1) rest ⟨e1,H1,nt⟩ Q)(k2:b=false->Rs C->Wl P ro ops (i+1) rest ⟨e2,H2,nt⟩ Q):Wl P ro ops i (o::rest) ⟨en,hp,nt⟩ Q:=
 XyB b hT hF hg h hd hlp he1 he2 (fun h=>k1 h ⟨r.x.t (hp' h)⟩) (fun h=>k2 h ⟨r.x.f (hq' h)⟩)
def MM(n:Int):Ad->Bool
 |[]=>true
 |k::r=> !(n==k)&&MM n r
def Rv(kd:IntKind):xT->Option (Ad)
 |[]=>some []
 |(.i k a,_)::r=>match decide (kd=k),Rv kd r with
  |true,some l=>some (a::l)
  |_,_=>none
 |_::_=>none
theorem Ts{kd:IntKind}{n:Int}:∀{es:xT}{ks:Ad},Rv kd es=some ks->MM n ks=true->Pj (.i kd n) es=some none
 |[],ks,h,hk=>rfl
 |(.i k a,v)::r,ks,h,hk=>by
  simp only[Rv]at h;split at h
  .rename_i l h1 h2;cases h;simp only[MM,xI,zf]at hk;have e:=of_decide_eq_true h1;simp only[Pj,sameD,if_pos e,hk.1];exact Ts h2 hk.2
  .cases h
 |(.b _,_)::_,_,h,_|(.s _,_)::_,_,h,_|(.f _ _,_)::_,_,h,_|(.agg _,_)::_,_,h,_|(.tup _,_)::_,_,h,_|(.by _,_)::_,_,h,_|(.is _,_)::_,_,h,_|(.sl _ _,_)::_,_,h,_|(.np,_)::_,_,h,_|(.nf,_)::_,_,h,_|(.ni,_)::_,_,h,_|(.nm,_)::_,_,h,_|(.ifc _ _,_)::_,_,h,_=>by simp[Rv]at h
def bV(E:Nat->Option Be)(env:xF)(H:xS):Op->Option (Int×Ad×Bool×AV)
 | .lookup t m k ok=>match Db env m,Db env k with
  |some (.mp id),some (.d (.i kd n))=>match H[id]?,E t with
   |some (.m es),some y=>match y.k with
    | .mp kt et=>match E kt,E et,Rv kd es with
     |some yk,some _,some ks=>some (n,ks,Om yk.k,if ok then .tup [.u,.d (.b false)]else .u)
     |_,_,_=>none
    |_=>none
   |_,_=>none
  |_,_=>none
 |_=>none
variable {ks:Ad}
theorem bW{env:xF}{op:Op}{n:Int}(h:bV E env H op=some (n,ks,c,x))(hk:MM n ks=true):Jk E env H op=some (c,x):=by
 unfold bV at h;split at h
 .split at h
  .rename_i id kd n' hm hn;split at h
   .rename_i es y hes hy;split at h
    .rename_i kt et hyk;split at h
     .rename_i yk ye ks' h1 h2 h3;simp only[xJ,xZ]at h;obtain⟨rfl,rfl,rfl,rfl⟩:=h;simp only[Jk,hm,hn,Ul,hes,hy,hyk,h1,h2,Ts h3 hk]
     .cases h
    .cases h
   .cases h
  .cases h
 .cases h
theorem XlkL{n:Int}(hk:MM n ks=true)(hE:CP P E)(hg:Af ops en o=some true)(h:bV E en hp o.op=some (n,ks,c,x))(hd:Az o.dst nt=true)(he:Bf o.dst x' en=some e)(k:Wl P ro ops (i+1) rest ⟨e,hp,nt⟩ Q)(hc:c=true)(hx:x=x':=by rfl):Wl P ro ops i (o::rest) ⟨en,hp,nt⟩ Q:=Xq hE hg (bW h hk) hd he k hc hx
theorem YlkL{n:Int}(hk:MM n ks=true)(hl:FQ (looks ops o) en=some e0)(hg:Af ops e0 o=some true)(h:bV E e0 hp o.op=some (n,ks,c,x))(hd:Az o.dst nt=true)(he:Bf o.dst x' en=some e)(hk':Wd P ro E ops S0 A (⟨e0,hp,x',.quiet⟩::acc) rest ⟨e,hp,nt⟩)(hc:c=true)(hx:x=x':=by rfl):Wd P ro E ops S0 A acc (o::rest) ⟨en,hp,nt⟩:=Yq hl hg (bW h hk) hd he hk' hc hx
end
structure QE:Prop
theorem A4:QE:=⟨⟩
inductive Sb:Bool->Prop where
 |f:Sb false
 |t:Sb true
theorem sbA(b:Bool):Sb b:=by cases b<;>constructor
theorem scO(_:Sb true):No 3:=trivial
variable {a0:Prop}
theorem AM(x0:a0):a0/\QE:=⟨x0,A4⟩
variable {a1:Prop}
theorem Ax(x0:a0)(x1:a1):a0/\a1/\QE:=⟨x0,x1,A4⟩
variable {a2:Prop}
theorem Ci(x0:a0)(x1:a1)(x2:a2):a0/\a1/\a2/\QE:=⟨x0,x1,x2,A4⟩
variable {a3:Prop}
theorem KQ(x0:a0)(x1:a1)(x2:a2)(x3:a3):a0/\a1/\a2/\a3/\QE:=⟨x0,x1,x2,x3,A4⟩
variable {a4:Prop}
theorem MX(x0:a0)(x1:a1)(x2:a2)(x3:a3)(x4:a4):a0/\a1/\a2/\a3/\a4/\QE:=⟨x0,x1,x2,x3,x4,A4⟩
variable {a5:Prop}
theorem zq6(x0:a0)(x1:a1)(x2:a2)(x3:a3)(x4:a4)(x5:a5):a0/\a1/\a2/\a3/\a4/\a5/\QE:=⟨x0,x1,x2,x3,x4,x5,A4⟩
variable {a6:Prop}
theorem zq7(x0:a0)(x1:a1)(x2:a2)(x3:a3)(x4:a4)(x5:a5)(x6:a6):a0/\a1/\a2/\a3/\a4/\a5/\a6/\QE:=⟨x0,x1,x2,x3,x4,x5,x6,A4⟩
variable {a7:Prop}
theorem qP(x0:a0)(x1:a1)(x2:a2)(x3:a3)(x4:a4)(x5:a5)(x6:a6)(x7:a7):a0/\a1/\a2/\a3/\a4/\a5/\a6/\a7/\QE:=⟨x0,x1,x2,x3,x4,x5,x6,x7,A4⟩
variable {a8:Prop}
theorem zq9(x0:a0)(x1:a1)(x2:a2)(x3:a3)(x4:a4)(x5:a5)(x6:a6)(x7:a7)(x8:a8):a0/\a1/\a2/\a3/\a4/\a5/\a6/\a7/\a8/\QE:=⟨x0,x1,x2,x3,x4,x5,x6,x7,x8,A4⟩
theorem wU{a9 a10:Prop}(x0:a0)(x1:a1)(x2:a2)(x3:a3)(x4:a4)(x5:a5)(x6:a6)(x7:a7)(x8:a8)(x9:a9)(x10:a10):a0/\a1/\a2/\a3/\a4/\a5/\a6/\a7/\a8/\a9/\a10/\QE:=⟨x0,x1,x2,x3,x4,x5,x6,x7,x8,x9,x10,A4⟩
theorem wV{a9 a10 a11:Prop}(x0:a0)(x1:a1)(x2:a2)(x3:a3)(x4:a4)(x5:a5)(x6:a6)(x7:a7)(x8:a8)(x9:a9)(x10:a10)(x11:a11):a0/\a1/\a2/\a3/\a4/\a5/\a6/\a7/\a8/\a9/\a10/\a11/\QE:=⟨x0,x1,x2,x3,x4,x5,x6,x7,x8,x9,x10,x11,A4⟩
set_option maxRecDepth 100000 in
theorem wd{R g p q:Prop}(L K:Aw)(a:p)(b:q)(r:R)(M:wi:=[])(Z:Bool:=false)(h:Lv L->Lv K->wW M->No 0->No 1->Sb Z->p->q->Rs R->g:=by intro lv st pr ns nc sc nS zq r;(first|(have:QE:=zq)|obtain⟨c1,_⟩:_/\QE:=zq|obtain⟨c1,c2,_⟩:_/\_/\QE:=zq|obtain⟨c1,c2,c3,_⟩:_/\_/\_/\QE:=zq|obtain⟨c1,c2,c3,c4,_⟩:_/\_/\_/\_/\QE:=zq|obtain⟨c1,c2,c3,c4,c5,_⟩:_/\_/\_/\_/\_/\QE:=zq|obtain⟨c1,c2,c3,c4,c5,c6,_⟩:_/\_/\_/\_/\_/\_/\QE:=zq|obtain⟨c1,c2,c3,c4,c5,c6,c7,_⟩:_/\_/\_/\_/\_/\_/\_/\QE:=zq|obtain⟨c1,c2,c3,c4,c5,c6,c7,c8,_⟩:_/\_/\_/\_/\_/\_/\_/\_/\QE:=zq|obtain⟨c1,c2,c3,c4,c5,c6,c7,c8,c9,_⟩:_/\_/\_/\_/\_/\_/\_/\_/\_/\QE:=zq|obtain⟨c1,c2,c3,c4,c5,c6,c7,c8,c9,c10,_⟩:_/\_/\_/\_/\_/\_/\_/\_/\_/\_/\QE:=zq|obtain⟨c1,c2,c3,c4,c5,c6,c7,c8,c9,c10,c11,_⟩:_/\_/\_/\_/\_/\_/\_/\_/\_/\_/\_/\QE:=zq|obtain⟨c1,c2,c3,c4,c5,c6,c7,c8,c9,c10,c11,c12,_⟩:_/\_/\_/\_/\_/\_/\_/\_/\_/\_/\_/\_/\QE:=zq|obtain⟨c1,c2,c3,c4,c5,c6,c7,c8,c9,c10,c11,c12,c13,_⟩:_/\_/\_/\_/\_/\_/\_/\_/\_/\_/\_/\_/\_/\QE:=zq|obtain⟨c1,c2,c3,c4,c5,c6,c7,c8,c9,c10,c11,c12,c13,c14,_⟩:_/\_/\_/\_/\_/\_/\_/\_/\_/\_/\_/\_/\_/\_/\QE:=zq|obtain⟨c1,c2,c3,c4,c5,c6,c7,c8,c9,c10,c11,c12,c13,c14,c15,_⟩:_/\_/\_/\_/\_/\_/\_/\_/\_/\_/\_/\_/\_/\_/\_/\QE:=zq|obtain⟨c1,c2,c3,c4,c5,c6,c7,c8,c9,c10,c11,c12,c13,c14,c15,c16,_⟩:_/\_/\_/\_/\_/\_/\_/\_/\_/\_/\_/\_/\_/\_/\_/\_/\QE:=zq);(repeat'(first|((with_reducible refine kI ?_);first|((with_reducible refine gNil ?_);first|refine XnL lv rfl ?_|refine Yj ?_)|(refine vJ rfl ?_;refine XsN rfl rfl ?_)|(refine Fy rfl ?_;refine ic AF rfl rfl rfl rfl ?_)|(refine Yi 1 rfl ?_;first|refine wX AF rfl rfl rfl rfl rfl (zx _) (Js ix1) ?_|refine wX AF rfl rfl rfl rfl rfl (zx _) (Js ix2) ?_|refine wX AF rfl rfl rfl rfl rfl (zx _) (Js ix3) ?_|refine wX AF rfl rfl rfl rfl rfl (zx _) (Js ix4) ?_)|((first|(refine Yi 1 rfl ?_;first|refine rh wr rfl rfl rfl rfl rfl ?_ ?_|refine Xq AF rfl rfl rfl rfl ?_ ?_)|(refine Yi 2 rfl ?_;first|refine XlkL lk1 AF rfl rfl rfl rfl ?_ ?_|refine rh wr rfl rfl rfl rfl rfl ?_ ?_|refine Xq AF rfl rfl rfl rfl ?_ ?_)|(refine Yi 4 rfl ?_;first|refine ib ow AF rfl rfl rfl rfl rfl rfl ?_ ?_|refine vM k1 k2 AF rfl rfl rfl (by first|rfl|simp[KO]) rfl rfl rfl rfl ?_ ?_|refine Xa AF rfl rfl rfl rfl rfl ?_ ?_|refine Xq AF rfl rfl rfl rfl ?_ ?_|refine Xbs AF rfl rfl rfl rfl rfl rfl ?_ ?_)|(refine Yi 5 rfl ?_;first|refine Xw AF rfl rfl rfl rfl ?_ ?_|refine vN sb AF rfl rfl rfl rfl ?_ ?_)|(refine Yi 6 rfl ?_;first|refine ib ow AF rfl rfl rfl rfl rfl rfl ?_ ?_|refine Xq AF rfl rfl rfl rfl ?_ ?_|refine Xw AF rfl rfl rfl rfl ?_ ?_|refine Xa AF rfl rfl rfl rfl rfl ?_ ?_));rotate_left;focus((repeat'(first|with_reducible rfl|((with_reducible refine Pz ?_);first|kernel_rfl|rfl|(simp[GX,JI,nS];done))|with_reducible refine Ki ?_ ?_|with_reducible exact zn _|with_reducible exact E4 _|((with_reducible refine xM ?_);first|omega|(simp only[KZ,nS];omega))|decide|(simp[KZ,slc,DF,D.one,FE,AV.one,nS];done)|(simp[KZ,nS];omega)));done))|(refine Yi 3 rfl ?_;first|refine oF fz1 rfl rfl rfl (by first|rfl|simp[BK]) ?_|refine oF fz2 rfl rfl rfl (by first|rfl|simp[BK]) ?_|refine oF fz3 rfl rfl rfl (by first|rfl|simp[BK]) ?_|refine oF fz4 rfl rfl rfl (by first|rfl|simp[BK]) ?_|refine XF (c1 ..) rfl rfl rfl rfl ?_|refine XF (c2 ..) rfl rfl rfl rfl ?_|refine XF (c3 ..) rfl rfl rfl rfl ?_|refine XF (c4 ..) rfl rfl rfl rfl ?_|refine XF (c5 ..) rfl rfl rfl rfl ?_|refine XF (c6 ..) rfl rfl rfl rfl ?_|refine XF (c7 ..) rfl rfl rfl rfl ?_|refine XF (c8 ..) rfl rfl rfl rfl ?_|refine XF (c9 ..) rfl rfl rfl rfl ?_|refine XF (c10 ..) rfl rfl rfl rfl ?_|refine XF (c11 ..) rfl rfl rfl rfl ?_|refine XF (c12 ..) rfl rfl rfl rfl ?_|refine XF (c13 ..) rfl rfl rfl rfl ?_|refine XF (c14 ..) rfl rfl rfl rfl ?_|refine XF (c15 ..) rfl rfl rfl rfl ?_|refine XF (c16 ..) rfl rfl rfl rfl ?_|(refine XFz (z1 ..) rfl rfl rfl rfl ?_ ?_;(first|(simp[MO,EE,Cq,Bd,BK,B0];done)|(repeat'(first|rfl|trivial|refine⟨rfl,rfl,by simp[B0]⟩|refine⟨_,_,rfl,?_,?_⟩|refine⟨_,rfl,?_⟩))))|(refine XFz (z2 ..) rfl rfl rfl rfl ?_ ?_;(first|(simp[MO,EE,Cq,Bd,BK,B0];done)|(repeat'(first|rfl|trivial|refine⟨rfl,rfl,by simp[B0]⟩|refine⟨_,_,rfl,?_,?_⟩|refine⟨_,rfl,?_⟩))))|(refine XFz (z3 ..) rfl rfl rfl rfl ?_ ?_;(first|(simp[MO,EE,Cq,Bd,BK,B0];done)|(repeat'(first|rfl|trivial|refine⟨rfl,rfl,by simp[B0]⟩|refine⟨_,_,rfl,?_,?_⟩|refine⟨_,rfl,?_⟩))))|(refine nh (d1 ..) rfl rfl rfl ?_ rfl rfl rfl rfl ?_;(focus((repeat(first|exact trivial|refine⟨rfl,?_⟩));done)))|(refine nh (d2 ..) rfl rfl rfl ?_ rfl rfl rfl rfl ?_;(focus((repeat(first|exact trivial|refine⟨rfl,?_⟩));done)))|(refine nh (d3 ..) rfl rfl rfl ?_ rfl rfl rfl rfl ?_;(focus((repeat(first|exact trivial|refine⟨rfl,?_⟩));done)))|(refine nh (d4 ..) rfl rfl rfl ?_ rfl rfl rfl rfl ?_;(focus((repeat(first|exact trivial|refine⟨rfl,?_⟩));done)))|(refine nh (d5 ..) rfl rfl rfl ?_ rfl rfl rfl rfl ?_;(focus((repeat(first|exact trivial|refine⟨rfl,?_⟩));done)))|(refine nh (d6 ..) rfl rfl rfl ?_ rfl rfl rfl rfl ?_;(focus((repeat(first|exact trivial|refine⟨rfl,?_⟩));done)))|(refine nh (d7 ..) rfl rfl rfl ?_ rfl rfl rfl rfl ?_;(focus((repeat(first|exact trivial|refine⟨rfl,?_⟩));done)))|(refine nh (d8 ..) rfl rfl rfl ?_ rfl rfl rfl rfl ?_;(focus((repeat(first|exact trivial|refine⟨rfl,?_⟩));done)))|(refine nh (d9 ..) rfl rfl rfl ?_ rfl rfl rfl rfl ?_;(focus((repeat(first|exact trivial|refine⟨rfl,?_⟩));done)))|(refine nh (d10 ..) rfl rfl rfl ?_ rfl rfl rfl rfl ?_;(focus((repeat(first|exact trivial|refine⟨rfl,?_⟩));done)))|refine Xy q1 rfl rfl rfl rfl rfl ?_|refine Xy (q1 _) rfl rfl rfl rfl rfl ?_|refine Xy (q1 _ _) rfl rfl rfl rfl rfl ?_|(refine' XyBR (g1T _) (g1F _) rfl rfl rfl rfl rfl rfl ?_ ?_ r (fun hc s=> ?_) (fun hc s=> ?_);(all_goals(first|guard_target=Prop|(clear r;have r:=s;clear s;(try simp only[Pu]at hc);(try(exfalso;omega)))|(intro hc;(try simp only[Pu]at hc);first|done|exact hc))))|(refine uR (x1 ..) rfl rfl ?_ rfl rfl rfl ?_;(focus((repeat(first|exact trivial|refine⟨rfl,?_⟩));done)))|(refine uR (x2 ..) rfl rfl ?_ rfl rfl rfl ?_;(focus((repeat(first|exact trivial|refine⟨rfl,?_⟩));done)))|(refine uR (x3 ..) rfl rfl ?_ rfl rfl rfl ?_;(focus((repeat(first|exact trivial|refine⟨rfl,?_⟩));done)))|(refine uR (x4 ..) rfl rfl ?_ rfl rfl rfl ?_;(focus((repeat(first|exact trivial|refine⟨rfl,?_⟩));done)))|(refine uR (x5 ..) rfl rfl ?_ rfl rfl rfl ?_;(focus((repeat(first|exact trivial|refine⟨rfl,?_⟩));done)))|(refine uR (x6 ..) rfl rfl ?_ rfl rfl rfl ?_;(focus((repeat(first|exact trivial|refine⟨rfl,?_⟩));done))))|refine Xpan rfl rfl rfl ?_|refine XfuL fu1 rfl rfl rfl (by first|rfl|simp[BK]) ?_|(refine' ny ns rfl rfl ?_ ?_ r (fun hc s=> ?_) (fun hc s=> ?_);(all_goals(first|guard_target=Prop|(clear r;have r:=s;clear s;(fail_if_success (with_reducible first|exact tF hc|exact fT hc));(try simp only[Pu]at hc);(try(exfalso;omega)))|(intro hc;(try simp only[Pu]at hc);first|done|exact hc))))|(refine' sdR r (fun hs s=> ?_);rotate_left 2;clear r;have r:=s;clear s;first|refine ib ow AF rfl rfl rfl rfl rfl rfl ?_ hs|refine vM k1 k2 AF rfl rfl rfl (by first|rfl|simp[KO]) rfl rfl rfl rfl ?_ hs|refine Xa AF rfl rfl rfl rfl rfl ?_ hs|refine rh wr rfl rfl rfl rfl rfl ?_ hs|refine Xq AF rfl rfl rfl rfl ?_ hs|refine Xw AF rfl rfl rfl rfl ?_ hs|refine vN sb AF rfl rfl rfl rfl ?_ hs))|((with_reducible refine gWd ?_);first|((with_reducible refine vf ?_);first|(refine YnXL pr mixed AF rfl (by kernel_rfl) ?_ ?_;focus(simp only[E2];repeat'(first|exact zl|refine xU ?_ ?_|exact⟨_,rfl,rfl⟩|rfl)))|(refine YnLv lv pr mixed AF (by kernel_rfl) ?_ rfl ?_;focus(simp only[E2];repeat'(first|exact zl|refine xU ?_ ?_|exact⟨_,rfl,rfl⟩|rfl)))|(refine Yn2L lv pr AF (by kernel_rfl) ?_ rfl ?_;focus(simp only[E2];repeat'(first|exact zl|refine xU ?_ ?_|exact⟨_,rfl,rfl⟩|rfl))))|(refine Ydq rfl ?_ rfl rfl rfl ?_;focus(simp only[Yz,List.reverse_cons,List.reverse_nil,xY,List.map_append,zA,q0F,xX,L8,xw,yI,List.any_cons,List.any_nil,Kd.Q0,Bool.or_false,zJ,yJ,yC];decide +kernel))|(refine vB rfl ?_;refine Ys rfl rfl rfl rfl ?_)|(refine bB rfl ?_;refine Ymv AF rfl rfl (fun _=>rfl) rfl rfl ?_)|(refine Yg 1 rfl ?_;first|refine wY AF rfl rfl (fun _=>rfl) rfl rfl rfl (zx _) (Js ix1) ?_|refine wY AF rfl rfl (fun _=>rfl) rfl rfl rfl (zx _) (Js ix2) ?_|refine wY AF rfl rfl (fun _=>rfl) rfl rfl rfl (zx _) (Js ix3) ?_|refine wY AF rfl rfl (fun _=>rfl) rfl rfl rfl (zx _) (Js ix4) ?_)|((first|(refine Yg 1 rfl ?_;first|refine Yp AF rfl rfl (fun _=>rfl) rfl rfl ?_ ?_|refine Yq rfl rfl rfl rfl rfl ?_ ?_)|(refine Yg 2 rfl ?_;first|refine YlkL lk1 rfl rfl rfl rfl rfl ?_ ?_|refine Yp AF rfl rfl (fun _=>rfl) rfl rfl ?_ ?_|refine Yq rfl rfl rfl rfl rfl ?_ ?_)|(refine Yg 4 rfl ?_;first|refine ie ow AF rfl rfl rfl rfl rfl rfl rfl ?_ ?_|refine Ya AF rfl rfl rfl rfl rfl rfl ?_ ?_|refine Yp AF rfl rfl (fun _=>rfl) rfl rfl ?_ ?_|refine Yq rfl rfl rfl rfl rfl ?_ ?_)|(refine Yg 5 rfl ?_;first|refine Yw AF rfl rfl rfl rfl rfl ?_ ?_|refine ri sb AF rfl rfl rfl rfl rfl ?_ ?_)|(refine Yg 6 rfl ?_;first|refine ie ow AF rfl rfl rfl rfl rfl rfl rfl ?_ ?_|refine Yp AF rfl rfl (fun _=>rfl) rfl rfl ?_ ?_|refine Yq rfl rfl rfl rfl rfl ?_ ?_|refine Yw AF rfl rfl rfl rfl rfl ?_ ?_|refine ri sb AF rfl rfl rfl rfl rfl ?_ ?_|refine Ya AF rfl rfl rfl rfl rfl rfl ?_ ?_));rotate_left;focus((repeat'(first|with_reducible rfl|((with_reducible refine Pz ?_);first|kernel_rfl|rfl|(simp[GX,JI,nS];done))|with_reducible refine Ki ?_ ?_|with_reducible exact zn _|with_reducible exact E4 _|((with_reducible refine xM ?_);first|omega|(simp only[KZ,nS];omega))|decide|(simp[KZ,slc,DF,D.one,FE,AV.one,nS];done)|(simp[KZ,nS];omega)));done))|(refine Yg 3 rfl ?_;first|refine YF (c1 ..) rfl rfl rfl rfl rfl ?_|refine YF (c2 ..) rfl rfl rfl rfl rfl ?_|refine YF (c3 ..) rfl rfl rfl rfl rfl ?_|refine YF (c4 ..) rfl rfl rfl rfl rfl ?_|refine YF (c5 ..) rfl rfl rfl rfl rfl ?_|refine YF (c6 ..) rfl rfl rfl rfl rfl ?_|refine YF (c7 ..) rfl rfl rfl rfl rfl ?_|refine YF (c8 ..) rfl rfl rfl rfl rfl ?_|refine YF (c9 ..) rfl rfl rfl rfl rfl ?_|refine YF (c10 ..) rfl rfl rfl rfl rfl ?_|refine YF (c11 ..) rfl rfl rfl rfl rfl ?_|refine YF (c12 ..) rfl rfl rfl rfl rfl ?_|refine YF (c13 ..) rfl rfl rfl rfl rfl ?_|refine YF (c14 ..) rfl rfl rfl rfl rfl ?_|refine YF (c15 ..) rfl rfl rfl rfl rfl ?_|refine YF (c16 ..) rfl rfl rfl rfl rfl ?_|(refine YFz (z1 ..) rfl rfl rfl rfl rfl ?_ ?_;(first|(simp[MO,EE,Cq,Bd,BK,B0];done)|(repeat'(first|rfl|trivial|refine⟨rfl,rfl,by simp[B0]⟩|refine⟨_,_,rfl,?_,?_⟩|refine⟨_,rfl,?_⟩))))|(refine YFz (z2 ..) rfl rfl rfl rfl rfl ?_ ?_;(first|(simp[MO,EE,Cq,Bd,BK,B0];done)|(repeat'(first|rfl|trivial|refine⟨rfl,rfl,by simp[B0]⟩|refine⟨_,_,rfl,?_,?_⟩|refine⟨_,rfl,?_⟩))))|(refine YFz (z3 ..) rfl rfl rfl rfl rfl ?_ ?_;(first|(simp[MO,EE,Cq,Bd,BK,B0];done)|(repeat'(first|rfl|trivial|refine⟨rfl,rfl,by simp[B0]⟩|refine⟨_,_,rfl,?_,?_⟩|refine⟨_,rfl,?_⟩))))|(refine nj (d1 ..) rfl rfl rfl rfl ?_ rfl rfl rfl rfl ?_;(focus((repeat(first|exact trivial|refine⟨rfl,?_⟩));done)))|(refine nj (d2 ..) rfl rfl rfl rfl ?_ rfl rfl rfl rfl ?_;(focus((repeat(first|exact trivial|refine⟨rfl,?_⟩));done)))|(refine nj (d3 ..) rfl rfl rfl rfl ?_ rfl rfl rfl rfl ?_;(focus((repeat(first|exact trivial|refine⟨rfl,?_⟩));done)))|(refine nj (d4 ..) rfl rfl rfl rfl ?_ rfl rfl rfl rfl ?_;(focus((repeat(first|exact trivial|refine⟨rfl,?_⟩));done)))|(refine nj (d5 ..) rfl rfl rfl rfl ?_ rfl rfl rfl rfl ?_;(focus((repeat(first|exact trivial|refine⟨rfl,?_⟩));done)))|(refine nj (d6 ..) rfl rfl rfl rfl ?_ rfl rfl rfl rfl ?_;(focus((repeat(first|exact trivial|refine⟨rfl,?_⟩));done)))|(refine nj (d7 ..) rfl rfl rfl rfl ?_ rfl rfl rfl rfl ?_;(focus((repeat(first|exact trivial|refine⟨rfl,?_⟩));done)))|(refine nj (d8 ..) rfl rfl rfl rfl ?_ rfl rfl rfl rfl ?_;(focus((repeat(first|exact trivial|refine⟨rfl,?_⟩));done)))|(refine nj (d9 ..) rfl rfl rfl rfl ?_ rfl rfl rfl rfl ?_;(focus((repeat(first|exact trivial|refine⟨rfl,?_⟩));done)))|(refine nj (d10 ..) rfl rfl rfl rfl ?_ rfl rfl rfl rfl ?_;(focus((repeat(first|exact trivial|refine⟨rfl,?_⟩));done)))|(refine uS (x1 ..) rfl rfl rfl rfl ?_ rfl rfl rfl rfl ?_;(focus((repeat(first|exact trivial|refine⟨rfl,?_⟩));done)))|(refine uS (x2 ..) rfl rfl rfl rfl ?_ rfl rfl rfl rfl ?_;(focus((repeat(first|exact trivial|refine⟨rfl,?_⟩));done)))|(refine uS (x3 ..) rfl rfl rfl rfl ?_ rfl rfl rfl rfl ?_;(focus((repeat(first|exact trivial|refine⟨rfl,?_⟩));done)))|(refine uS (x4 ..) rfl rfl rfl rfl ?_ rfl rfl rfl rfl ?_;(focus((repeat(first|exact trivial|refine⟨rfl,?_⟩));done)))|(refine uS (x5 ..) rfl rfl rfl rfl ?_ rfl rfl rfl rfl ?_;(focus((repeat(first|exact trivial|refine⟨rfl,?_⟩));done)))|(refine uS (x6 ..) rfl rfl rfl rfl ?_ rfl rfl rfl rfl ?_;(focus((repeat(first|exact trivial|refine⟨rfl,?_⟩));done))))|(refine' nz ns rfl rfl ?_ ?_ r (fun hc s=> ?_) (fun hc s=> ?_);(all_goals(first|guard_target=Prop|(clear r;have r:=s;clear s;(fail_if_success (with_reducible first|exact tF hc|exact fT hc));(try simp only[Pu]at hc);(try(exfalso;omega)))|(intro hc;(try simp only[Pu]at hc);first|done|exact hc))))|(refine' sdR r (fun hs s=> ?_);rotate_left 2;clear r;have r:=s;clear s;first|refine ie ow AF rfl rfl rfl rfl rfl rfl rfl ?_ hs|refine Ya AF rfl rfl rfl rfl rfl rfl ?_ hs|refine Yp AF rfl rfl (fun _=>rfl) rfl rfl ?_ hs|refine Yq rfl rfl rfl rfl rfl ?_ hs|refine Yw AF rfl rfl rfl rfl rfl ?_ hs|refine ri sb AF rfl rfl rfl rfl rfl ?_ hs))|((with_reducible refine gW ?_);first|with_reducible refine J6 ?_|((with_reducible refine gReg ?_);refine TJ st rfl ?_)|((with_reducible refine gAny ?_);refine iQ st T.get rfl ?_)|((with_reducible refine vd ?_);first|refine E1 rfl ?_|refine E0 rfl ?_|(refine' ar nc rfl ?_ ?_ r (fun hc s=> ?_) (fun hc s=> ?_);(all_goals(first|guard_target=Prop|(clear r;have r:=s;clear s;(try simp only[Pu]at hc);(try(exfalso;omega)))|(intro hc;(try simp only[Pu]at hc);first|done|exact hc)))))|with_reducible refine GV ?_|with_reducible refine J5 ?_|with_reducible refine F0 ?_|with_reducible refine GU ?_|with_reducible refine UO ?_|with_reducible refine Q8 ?_|with_reducible refine WH un ?_|with_reducible refine WK (scO sc) ?_)|(with_reducible first|refine qT ?_|refine qTr ?_|refine qTe ?_|refine qTg ?_|refine qTp ?_|refine qBn ?_|refine qBr ?_|refine qBg ?_|refine qBp ?_|refine qSn ?_|refine qSr ?_|refine qSe ?_|exact lQ r|exact lI r|exact lY r)|refine qSg rfl ?_|(first|refine J6 ?_|refine TJ st rfl ?_|refine iQ st T.get rfl ?_|refine E1 rfl ?_|refine E0 rfl ?_|refine GV ?_|refine J5 ?_|refine F0 ?_|refine GU ?_|refine UO ?_|refine Q8 ?_|refine WH un ?_|refine WK (scO sc) ?_|(refine' ar nc rfl ?_ ?_ r (fun hc s=> ?_) (fun hc s=> ?_);(all_goals(first|guard_target=Prop|(clear r;have r:=s;clear s;(try simp only[Pu]at hc);(try(exfalso;omega)))|(intro hc;(try simp only[Pu]at hc);first|done|exact hc)))))|exact r.x));all_goals exact True):g:=h trivial trivial trivial trivial trivial (sbA Z) a b ⟨r⟩
end Go.Gar
namespace Go.Gar
def rmX:xF->Nat->Option (xF)
 |[],_=>some []
 |(u,y)::r,t=>match rmX r t with
  |some l=>match Nat.beq u t with
   |true=>some l
   |false=>some ((u,y)::l)
  |none=>none
def upX:xF->Nat->AV->Option (xF)
 |[],t,x=>some [(t,x)]
 |(u,y)::r,t,x=>match Nat.beq u t with
  |true=>match rmX r t with
   |some l=>some ((u,x)::l)
   |none=>none
  |false=>match upX r t x with
   |some l=>some ((u,y)::l)
   |none=>none
def uH:xF->xF->Option (xF)
 |e,[]=>some e
 |e,(t,x)::r=>match upX e t x with
  |some l=>uH l r
  |none=>none
variable {ro:wk}{Q:Exit->St->Prop}{en:xF}
theorem DD{P:Program}{hp:xS}{nt:Nat}{α:Type}{c:Code}(I:α->Prop)(vs:α->xF)(μ:α->Nat)(x0:α)(h0:I x0){e:α->xF}(_:∀x,uH en (vs x)=some (e x))(t:A6 ⟨en,hp,nt⟩ ⟨e x0,hp,nt⟩)(body:∀x,I x->W P ro c ⟨e x,hp,nt⟩ (ul I (fun x=>⟨e x,hp,nt⟩) (fun y=>μ y<μ x) hp.length Q)):W P ro (.loop c) ⟨en,hp,nt⟩ Q:=
 BS I (fun x=>⟨e x,hp,nt⟩) μ x0 h0 t (xH _) body
def UD:xS->Nat->AI->Option (xS)
 |[],_,_=>none
 |_::r,0,x=>some (x::r)
 |b::r,n+1,x=>match UD r n x with
  |some l=>some (b::l)
  |none=>none
def Sp:xS->List (Nat×AI)->Option (xS)
 |h,[]=>some h
 |h,(i,x)::r=>match UD h i x with
  |some l=>Sp l r
  |none=>none
theorem UE:∀{h:xS}{i:Nat}{x:AI}{l:xS},UD h i x=some l->l.length=h.length
 |[],_,_,_,e=>by simp[UD]at e
 |_::_,0,_,_,e=>by simp only[UD,xJ]at e;subst e;rfl
 |b::r,n+1,x,l,e=>by
  simp only[UD]at e;split at e
  .rename_i q hq;simp only[xJ]at e;subst e;simp[UE hq]
  .cases e
theorem Ss:∀{c:List (Nat×AI)}{h l:xS},Sp h c=some l->l.length=h.length
 |[],h,l,e=>by simp only[Sp,xJ]at e;subst e;rfl
 |(i,x)::r,h,l,e=>by
  simp only[Sp]at e;split at e
  .rename_i q hq;rw[Ss e,UE hq]
  .cases e
theorem Ct{P:Program}{hp:xS}{nt:Nat}{α:Type}{c:Code}(I:α->Prop)(vs:α->xF)(hs:α->List (Nat×AI))(μ:α->Nat)(x0:α)(h0:I x0){e:α->xF}{h:α->xS}(_:∀x,uH en (vs x)=some (e x))(hh:∀x,Sp hp (hs x)=some (h x))(t:A6 ⟨en,hp,nt⟩ ⟨e x0,h x0,nt⟩)(body:∀x,I x->W P ro c ⟨e x,h x,nt⟩ (ul I (fun x=>⟨e x,h x,nt⟩) (fun y=>μ y<μ x) (h x).length Q)):W P ro (.loop c) ⟨en,hp,nt⟩ Q:=
 BS I (fun x=>⟨e x,h x,nt⟩) μ x0 h0 t (by show hp.length<=(h x0).length;rw[Ss (hh x0)];exact xH _) body
def HM(n:Nat)(p:Nat->Bool):Bool:=(List.range n).all p
variable {n:Nat}{p:Nat->Bool}
theorem Kg:HM n p=true↔∀k,k<n->p k=true:=by simp[HM]
theorem I1{k:Nat}(hk:k<n)(h:p k=false):HM n p=false:=by
 cases e:HM n p with
 |false=>rfl
 |true=>rw[Kg.1 e k hk]at h;cases h
theorem Ff(h:HM n p=true)(k:p n=true):HM (n+1) p=true:=by
 rw[Kg]at h|-;intro j hj
 by_cases e:j=n
 .subst e;exact k
 .exact h j om
theorem A6.ck{S S':St}(hn:S'.n=S.n)(he:Mv S'.env S.env:=by repeat'(first|exact zl|refine xU (by(first|rfl|((with_reducible_and_instances refine congrArg (fun z=>some (AV.d (D.i _ z))) ?_);omega)|(refine congrArg (fun z=>some (AV.d (D.i _ z))) (?_:(_:Int)=_);omega)|(refine congrArg some ?_;simp;done))) ?_))
  (hH:Bj S'.H S.H:=by repeat'(first|exact zl|refine xU (Or.inr rfl) ?_|refine xU (Or.inl ⟨rfl,rfl⟩) ?_|refine xU (Or.inr sm) ?_))
  (ho:BY S'.H.length S'.H=true:=by first|rfl|(simp(decide:=true) [BY,AI.ok,AV.oks,AV.ok];done)|(simp(decide:=true) [BY,AI.ok,AV.oks,AV.ok,hk];done)) (heo:FM S'.H.length S'.env=true:=by rfl):A6 S S':=A6.cut hn he hH ho heo
theorem IT:(∀(H:xS)(xs:xD)(l:ww),Cq H (.tup xs) (.tup l)↔EE H xs l)/\(∀(H:xS)(xs:xD)(l:ww),Cq H (.ag xs) (.agg l)↔EE H xs l)/\
  (∀(H:xS)(x:AV)(xs:xD)(y:D)(l:ww),EE H (x::xs) (y::l)↔Cq H x y/\EE H xs l)/\(∀H:xS,EE H [] []↔True)/\(∀(H:xS)(x y:D),Cq H (.d x) y↔y=x)/\
  (∀(H:xS)(y:D),Cq H .e0 y↔Bd y=true/\BK y=0/\B0 y)/\(∀(H:xS)(i n sz:Nat)(y:D),Cq H (.sl i n sz) y↔H[i]? =some (.a y)/\n=BK y):=
 ⟨fun _ _ _=>HY,fun _ _ _=>OS,fun _ _ _ _ _=>DL,fun _=>Dz,fun _ _ _=>Cy,fun _ _=>OT,fun _ _ _ _ _=>Kb⟩
end Go.Gar
namespace Go.Gar
def eL(E:Nat->Option Be)(env:xF)(op:Op):Option (Bool×(Nat->AV)×AI):=
 match op with
 | .buildSlice t len ps=>match NF E (Db env) t len ps.toList with
  |some (z,cs)=>some (decide (len*z.size<=16777216),fun id=> .bs id 0 len z.size cs.length,.c cs)
  |none=>none
 |_=>none
variable {E:Nat->Option Be}
theorem bU{P:Program}(hE:CP P E){S:St}{o:Oper}{f:Nat->AV}{b:AI}{c:Bool}(h:eL E S.env o.op=some (c,f,b))(hc:c=true):EU P o S (f S.H.length) (S.H++[b]):=by
 subst hc;obtain⟨dst,op,ty,pos,after,guard⟩:=o;simp only at h;cases op<;>simp only[eL]at h<;>try(cases h;done)
 case buildSlice t len ps=>
  split at h
  .rename_i z cs hcs;simp only[xJ,xZ,xK]at h;obtain⟨hsz,rfl,rfl⟩:=h
   exact .Es (f:=fun a=>Instr.buildSlice t len (YY a.eval ps)) (fun a=>If rfl a.eval) fun ro N G a w r=>by
    have:=Ud hE r.rel (fun o x hx=>BF r.rel.st r.env hx) hcs hsz;rw[r.heap]at this;exact this
  .cases h
theorem NK{env:xF}{o:Oper}{x:Bool×(Nat->AV)×AI}(h:eL E env o.op=some x):∀c,o.op≠ .defer c:=by
 intro c hc;rw[hc]at h;simp[eL]at h
section
variable {P:Program}{ro:wk}{ops:wl}{i:Nat}{rest:wm}{en:xF}{hp:xS}{nt:Nat}{Q:Exit->St->Prop}{o:Oper}{E:Nat->Option Be}
theorem Xbs(hE:CP P E){f:Nat->AV}{b:AI}{c:Bool}{x':AV}{e:xF}{H':xS}(hg:Af ops en o=some true)(h:eL E en o.op=some (c,f,b))(hd:Az o.dst nt=true)(he:Bf o.dst x' en=some e)(hH:HU hp b=some H')(hx:f hp.length=x')
  (k:Wl P ro ops (i+1) rest ⟨e,H',nt⟩ Q) (hc:c=true):Wl P ro ops i (o::rest) ⟨en,hp,nt⟩ Q:=by
 subst hx;rw[BG he,IK hH]at k;exact NA (S:=⟨en,hp,nt⟩) hg (bU (S:=⟨en,hp,nt⟩) hE h hc) (NK h) hd k
end
end Go.Gar
