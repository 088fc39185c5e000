/- Part 6 of a proof. Conditions: those that its theorems state. -/
import Derived.Test.YthlmmkmeoblbhaaGreatQ05
set_option linter.unusedSimpArgs false
set_option linter.unusedVariables false
set_option maxHeartbeats 40000000
set_option maxRecDepth 4000
namespace Go.Gar
def Lv(_:BK):Prop:=True
def vy(_:y4):Prop:=True
def Ds(_:BK)(p:Prop):Prop:=p
def No(_:Nat):Prop:=True
def Dd(_:D):Prop:=True
structure Br (p q A B:Prop):Prop where
 t:p->A
 f:q->B
def wz:List Rc->Bool
 |[]=>false
 |x::r=>match x.k with
  | .pan _=>true
  |_=>wz r
structure Sd (c:Bool) (A:Prop):Prop where
 a:A
 c:c=true
structure Rs (R:Prop):Prop where
 x:R
variable {R:Prop}
theorem sdR{c:Bool}{G:Prop}(r:Rs (Sd c R))(k:c=true->Rs R->G):G:=k r.x.2 ⟨r.x.1⟩
variable {p:Prop}
theorem Ds.mk(ids:BK)(h:p):Ds ids p:=h
section
variable {P:Program}{ro:yW}{ops:ya}{i:Nat}{rest:yb}{S0:St}{en:yr}{hp:yz}{nt:Nat}{Q:Exit->St->Prop}{o:Oper}{E:Nat->Option Bd}{A:Prop}{acc:List Rc}
variable {S:St}
theorem gNil(k:Wl P ro ops i [] S Q):Wl P ro ops i [] S Q:=k
theorem wy(k:Wd P ro E ops S0 A acc [] S):Wd P ro E ops S0 A acc [] S:=k
def opk:Op->Nat
 | .indexAddr _ _ _=>1
 | .load _ _| .nilCheck _| .binOp _ _ _ _ _| .unOp _ _ _| .convert _ _ _| .slice _ _ _ _ _| .fieldAddr _ _ _| .field _ _ _| .index _ _ _| .build _ _| .makeFunc _ _ _| .extract _ _| .sliceToArrayPointer _ _| .makeInterface _ _| .lookup _ _ _ _| .typeAssert _ _ _ _=>2
 | .call c=>match c.callee with
  | .builtin _=>6
  |_=>3
 | .alloc _| .box _ _| .makeSlice _ _ _| .buildSlice _ _ _| .makeMap _ _=>4
 | .store _ _ _| .insert _ _ _ _| .mapUpdate _ _ _ _=>5
 |_=>6
theorem Zj(k:Nat)(_:opk o.op=k)(h:Wl P ro ops i (o::rest) S Q):Wl P ro ops i (o::rest) S Q:=h
theorem Zh(k:Nat)(_:opk o.op=k)(h:Wd P ro E ops S0 A acc (o::rest) S):Wd P ro E ops S0 A acc (o::rest) S:=h
theorem wd(_:o.guard.isSome=true)(h:Wl P ro ops i (o::rest) S Q):Wl P ro ops i (o::rest) S Q:=h
theorem wU(_:o.guard.isSome=true)(h:Wd P ro E ops S0 A acc (o::rest) S):Wd P ro E ops S0 A acc (o::rest) S:=h
def vo(ops:ya)(nt:Nat):yb->yr->Nat->yb×yr×Nat
 |[],e,i=>([],e,i)
 |o::r,e,i=>match o.guard with
  |none=>(o::r,e,i)
  |some _=>match AX ops e o with
   |some false=>match Au o.dst nt with
    |true=>match o.dst with
     |some d=>vo ops nt r ((d,.d (.tup []))::e) (i+1)
     |none=>vo ops nt r e (i+1)
    |false=>(o::r,e,i)
   |_=>(o::r,e,i)
theorem bk:∀(l:yb)(e:yr)(i:Nat){l':yb}{e':yr}{i':Nat},vo ops nt l e i=(l',e',i')->Wl P ro ops i' l' ⟨e',hp,nt⟩ Q->Wl P ro ops i l ⟨e,hp,nt⟩ Q
 |[],e,i,l',e',i',h,k=>by simp only[vo,zL]at h;obtain⟨rfl,rfl,rfl⟩:=h;exact k
 |o::r,e,i,l',e',i',h,k=>by
  simp only[vo]at h;split at h
  .simp only[zL]at h;obtain⟨rfl,rfl,rfl⟩:=h;exact k
  .split at h
   .rename_i hg;split at h
    .rename_i hd;split at h
     .rename_i d ho;exact Xs hg hd (by rw[ho];rfl) (bk r _ _ h k)
     .rename_i ho;exact Xs hg hd (by rw[ho];rfl) (bk r _ _ h k)
    .simp only[zL]at h;obtain⟨rfl,rfl,rfl⟩:=h;exact k
   .simp only[zL]at h;obtain⟨rfl,rfl,rfl⟩:=h;exact k
variable {e0 e:yr}
theorem Ydq(_:wz acc=true)(h:Zz ops acc=true)(hl:FN (looks ops o) en=some e0)(hd:Au o.dst nt=true)(he:BU o.dst .u en=some e)(hk:Wd P ro E ops S0 A (⟨e0,hp,.u,.dead⟩::acc) rest ⟨e,hp,nt⟩):Wd P ro E ops S0 A acc (o::rest) ⟨en,hp,nt⟩:=Yd h hl hd he hk
theorem XsN{l':yb}{e':yr}{i':Nat}(hg:AX ops en o=some false)(h:vo ops nt (o::rest) en i=(l',e',i'))(k:Wl P ro ops i' l' ⟨e',hp,nt⟩ Q):Wl P ro ops i (o::rest) ⟨en,hp,nt⟩ Q:=bk _ _ _ h k
theorem gW{c:Code}(k:W P ro c S Q):W P ro c S Q:=k
variable {id:Nat}
theorem gReg(k:W P ro (.region id ops false) S Q):W P ro (.region id ops false) S Q:=k
theorem gAny(k:W P ro (.region id ops true) S Q):W P ro (.region id ops true) S Q:=k
theorem wx{c:Operand}{x y:Code}(k:W P ro (.cond c x y) S Q):W P ro (.cond c x y) S Q:=k
variable {K:St->Prop}
theorem qT(k:K S):Ml K Q .normal S:=k
theorem qTr(k:Q .ret S):Ml K Q .ret S:=k
variable {j:Nat}
theorem qTe(k:Q (.exit j) S):Ml K Q (.exit j) S:=k
theorem qTg(k:Q (.goto j) S):Ml K Q (.goto j) S:=k
variable {ch:ym}
theorem qTp(k:Q (.panic ch) S):Ml K Q (.panic ch) S:=k
theorem qBn(k:Q .normal S):P8 j Q .normal S:=k
theorem qBr(k:Q .ret S):P8 j Q .ret S:=k
theorem qBg{l:Nat}(k:Q (.goto l) S):P8 j Q (.goto l) S:=k
theorem qBp(k:Q (.panic ch) S):P8 j Q (.panic ch) S:=k
theorem qSn{c:Code}(k:Q .normal S):Hd P ro c Q j .normal S:=by rw[K1 (by intro l h;cases h)];exact k
theorem qSr{c:Code}(k:Q .ret S):Hd P ro c Q j .ret S:=by rw[K1 (by intro l h;cases h)];exact k
theorem qSe{c:Code}{i:Nat}(k:Q (.exit i) S):Hd P ro c Q j (.exit i) S:=by rw[K1 (by intro l h;cases h)];exact k
theorem qSg{c rest:Code}{l:Nat}(h:findLabel c l=some rest)(k:W P ro rest S (Hd P ro c Q j)):Hd P ro c Q (j+1) (.goto l) S:=by
 simp only[Hd,h];exact k
theorem lQ{e:Exit}(r:Rs (P9 K e S)):P9 K e S:=r.x
theorem lI{α:Type}{I:α->Prop}{F:α->St}{lt:α->Prop}{k:Nat}(r:Rs (w8 I F lt k Q .normal S)):w8 I F lt k Q .normal S:=r.x
variable {n:Nat}
theorem lY{lp:Lp}{R:AV->yz->Prop}{e:Exit}(r:Rs (xq id n lp R e S)):xq id n lp R e S:=r.x
variable {p q B C:Prop}
theorem cU{c:Operand}{x y:Code}{t:Bool}(_:No 1)(hc:Eo S.env c=some (.d (.b t)))(ip:t=true->p)(iq:t=false->q)(r:Rs (Br p q B C))(ht:t=true->Rs B->W P ro x S Q)(hf:t=false->Rs C->W P ro y S Q):W P ro (.cond c x y) S Q:=
 IJ hc (fun h=>ht h ⟨r.x.t (ip h)⟩) (fun h=>hf h ⟨r.x.f (iq h)⟩)
variable {b:Bool}
theorem pS{d:Nat}(_:No 0)(hg:fw ops o=some d)(hb:get en d=some (.d (.b b)))(ip:b=true->p)(iq:b=false->q)(r:Rs (Br p q B C))(ht:b=true->Rs B->Wl P ro ops i (o::rest) ⟨(d,.d (.b true))::en,hp,nt⟩ Q)(hf:b=false->Rs C->Wl P ro ops i (o::rest) ⟨(d,.d (.b false))::en,hp,nt⟩ Q):Wl P ro ops i (o::rest) ⟨en,hp,nt⟩ Q:=
 Rl hg hb (fun h=>ht h ⟨r.x.t (ip h)⟩) (fun h=>hf h ⟨r.x.f (iq h)⟩)
theorem pT{d:Nat}(_:No 0)(hg:fw ops o=some d)(hb:get en d=some (.d (.b b)))(ip:b=true->p)(iq:b=false->q)(r:Rs (Br p q B C))(ht:b=true->Rs B->Wd P ro E ops S0 A acc (o::rest) ⟨(d,.d (.b true))::en,hp,nt⟩)(hf:b=false->Rs C->Wd P ro E ops S0 A acc (o::rest) ⟨(d,.d (.b false))::en,hp,nt⟩):Wd P ro E ops S0 A acc (o::rest) ⟨en,hp,nt⟩:=
 Rm hg hb (fun h=>ht h ⟨r.x.t (ip h)⟩) (fun h=>hf h ⟨r.x.f (iq h)⟩)
variable {live:BK}
theorem XnL(_:Lv live)(h:FN live en=some e)(k:Q .normal ⟨e,hp,nt⟩):Wl P ro ops i [] ⟨en,hp,nt⟩ Q:=Xn live h k
variable {L:BK}{c:Bool}{x':AV}{H':yz}
theorem jx(_:Lv L)(hE:CV P E){q:D}(u2:QB o.dst L=true)(hg:AX ops en o=some true)(h:SJ E en hp o.op=some (c,q))(hd:Au o.dst nt=true)(he:BU o.dst x' en=some e)(hH:Hu hp (.a q)=some H')(k:Wl P ro ops (i+1) rest ⟨e,H',nt⟩ Q)(hc:c=true)(hx: .sl hp.length (B3 q) (Bt q)=x':=by first|(simp only[Nf,Ks,Nat.reduceAdd,Int.reduceAdd,Int.reduceSub,Int.reduceMul,Int.reduceToNat,nS];rfl)|rfl):Wl P ro ops i (o::rest) ⟨en,hp,nt⟩ Q:=pq L hE u2 hg h hd he hH k hc hx
variable {x:AV}
theorem u7(_:Lv L)(u1:QB o.dst L=true)(hg:AX ops en o=some true)(h:SP en o.op=some (c,x))(hd:Au o.dst nt=true)(he:BU o.dst x' en=some e)(k:Wl P ro ops (i+1) rest ⟨e,hp,nt⟩ Q)(hc:c=true)(hx:x=x':=by rfl):Wl P ro ops i (o::rest) ⟨en,hp,nt⟩ Q:=XwL L u1 hg h hd he k hc hx
theorem jy(_:Lv L)(hE:CV P E){q:D}(u2:QB o.dst L=true)(hl:FN (looks ops o) en=some e0)(hg:AX ops e0 o=some true)(h:SJ E e0 hp o.op=some (c,q))(hd:Au o.dst nt=true)(he:BU o.dst x' en=some e)(hH:Hu hp (.a q)=some H')(hk:Wd P ro E ops S0 A (⟨e0,hp,x',.eff⟩::acc) rest ⟨e,H',nt⟩)(hc:c=true)(hx: .sl hp.length (B3 q) (Bt q)=x':=by first|(simp only[Nf,Ks,Nat.reduceAdd,Int.reduceAdd,Int.reduceSub,Int.reduceMul,Int.reduceToNat,nS];rfl)|rfl):Wd P ro E ops S0 A acc (o::rest) ⟨en,hp,nt⟩:=wj L hE u2 hl hg h hd he hH hk hc hx
variable {l:y4}
theorem YnLv(_:Lv live)(_:vy l)(hm:P.follows .mixedOrders=true)(hE:CV P E)(hd:L9 ops (acc.reverse.map Rc.k) l=true)(hx:EE E ops acc.reverse hp l)(he:FN live en=some e)(hQ:Q .normal ⟨e,hp,nt⟩):Wd P ro E ops S0 (W P ro (.region id ops true) S0 Q) acc [] ⟨en,hp,nt⟩:=Yn live l hm hE hd hx he hQ
theorem YnXL(_:vy l){i0:Nat}(hm:P.follows .mixedOrders=true)(hE:CV P E)(hp':HX (acc.reverse.map Rc.k)=some (i0,ch))(hd:It ops (acc.reverse.map Rc.k) l=true)(hx:EE E ops acc.reverse hp l)(hQ:Q (.panic ch) ⟨[],hp,nt⟩):Wd P ro E ops S0 (W P ro (.region id ops true) S0 Q) acc [] ⟨en,hp,nt⟩:=YnX l hm hE hp' hd hx hQ
theorem Yn2L(_:Lv live)(_:vy l)(hE:CV P E)(hd:L9 ops (acc.reverse.map Rc.k) l=true)(hx:EE E ops acc.reverse hp l)(he:FN live en=some e)(hQ:Q .normal ⟨e,hp,nt⟩):Wd P ro E ops S0 (PC P ro ops S0 (Qw Q)) acc [] ⟨en,hp,nt⟩:=Yn2 live l hE hd hx he hQ
variable {t:Nat}
theorem pt(_:No t){x:D}{sz:Nat}(u1:kO t o.op=true)(ht:get en t=some (.sl id n sz))(hid:hp[id]? =some (.a x))(hn:n=B3 x)(k:Wl P ro ops i (o::rest) ⟨(t,.d x)::en,Eg id x 0 hp,nt⟩ Q):Wl P ro ops i (o::rest) ⟨en,hp,nt⟩ Q:=Xfz t u1 ht hid hn k
theorem XfuL(_:No t){x:D}{sz:Nat}(u1:By t (mR o.op)=true)(ht:get en t=some (.sl id n sz))(hid:hp[id]? =some (.a x))(hn:n=B3 x)(k:Wl P ro ops i (o::rest) ⟨(t,.d x)::en,Eg id x 0 hp,nt⟩ Q):Wl P ro ops i (o::rest) ⟨en,hp,nt⟩ Q:=Xfu t u1 ht hid hn k
theorem wg(_:No t){q:D}(_:Dd q)(hE:CV P E){f:Nat->AV}{b:AF}(u3:QB o.dst [t]=true)(hg:AX ops en o=some true)(h:pI E en hp o.op=some (c,f,b))(hb:b= .a q)(hd:Au o.dst nt=true)(he:BU o.dst x' en=some e)(hH:Hu hp (.a q)=some H')(hx:f hp.length=x')(k:Wl P ro ops (i+1) rest ⟨e,H',nt⟩ Q)(hc:c=true):Wl P ro ops i (o::rest) ⟨en,hp,nt⟩ Q:=XaB t q hE u3 hg h hb hd he hH hx k hc
variable {H'':yz}
theorem wi(_:No 2)(hE:CV P E)(hg:AX ops en o=some true)(h:aL E en hp o.op=some (c,H'))(hd:Au o.dst nt=true)(he:BU o.dst .u en=some e)(k:Wl P ro ops (i+1) rest ⟨e,H'',nt⟩ Q)(hc:c=true)(hH:H'=H'':=by first|(simp only[nS];rfl)|rfl):Wl P ro ops i (o::rest) ⟨en,hp,nt⟩ Q:=Xsb hE hg h hd he k hc hH
theorem u9(_:No 2)(hE:CV P E)(hl:FN (looks ops o) en=some e0)(hg:AX ops e0 o=some true)(h:aL E e0 hp o.op=some (c,H'))(hd:Au o.dst nt=true)(he:BU o.dst .u en=some e)(k:Wd P ro E ops S0 A (⟨e0,hp,.u,.eff⟩::acc) rest ⟨e,H'',nt⟩)(hc:c=true)(hH:H'=H'':=by first|(simp only[nS];rfl)|rfl):Wd P ro E ops S0 A acc (o::rest) ⟨en,hp,nt⟩:=Ysb hE hl hg h hd he k hc hH
theorem UP(_:Lv L)(u1:By id L=false)(h:Wl P ro ops 0 ops.toList S Q):W P ro (.region id ops false) S Q:=JP L u1 h
theorem jk(_:Lv L)(E:Nat->Option Bd)(u2:By id L=false)(h:Wd P ro E ops S (W P ro (.region id ops true) S Q) [] ops.toList S):W P ro (.region id ops true) S Q:=Ri L E u2 h
theorem XM(_:No n){c:Code}(h:W P ro c S (xp P ro c Q n)):W P ro (.loop c) S Q:=pb n h
theorem XO{c:Code}(_:No j)(h:W P ro c S (Hd P ro c Q j)):W P ro (.scope c) S Q:=pd j h
variable {g:Nat}{args:yq}{H:yz}{ids:BK}
theorem pG{r r':AV}(hF:Ds ids (Bw P g args H r H'))(hg:AX ops en o=some true)(h:Cp en o.op=some (g,AV.Dv (rn ids hp.length) args))(hd:Au o.dst nt=true)(hm:Dg (rn ids hp.length) hp ids H)(hn:nodupB ids=true)(ho:Ai H.length H=true)(ha:AV.oks H.length args=true)(he:BU o.dst r' en=some e)(k:Wl P ro ops (i+1) rest ⟨e,H'',nt⟩ Q)(hr:r.ren (rn ids hp.length)=r':=by first|(simp only[Nf,Ks,Nat.reduceAdd,Int.reduceAdd,Int.reduceSub,Int.reduceMul,Int.reduceToNat,nS];rfl)|rfl)(hH:Jy ids hp (E4 (rn ids hp.length) H')=H'':=by first|(simp only[Ks,Nat.reduceAdd];rfl)|rfl):Wl P ro ops i (o::rest) ⟨en,hp,nt⟩ Q:=XD ids hF hg h hd hm hn ho ha he k hr hH
theorem pH{r r':AV}(hF:Ds ids (Bw P g args H r H'))(hl:FN (looks ops o) en=some e0)(hg:AX ops e0 o=some true)(h:Cp e0 o.op=some (g,AV.Dv (rn ids hp.length) args))(hd:Au o.dst nt=true)(hm:Dg (rn ids hp.length) hp ids H)(hn:nodupB ids=true)(ho:Ai H.length H=true)(ha:AV.oks H.length args=true)(he:BU o.dst r' en=some e)(hk:Wd P ro E ops S0 A (⟨e0,hp,r',.eff⟩::acc) rest ⟨e,H'',nt⟩)(hr:r.ren (rn ids hp.length)=r':=by first|(simp only[Nf,Ks,Nat.reduceAdd,Int.reduceAdd,Int.reduceSub,Int.reduceMul,Int.reduceToNat,nS];rfl)|rfl)(hH:Jy ids hp (E4 (rn ids hp.length) H')=H'':=by first|(simp only[Ks,Nat.reduceAdd];rfl)|rfl):Wd P ro E ops S0 A acc (o::rest) ⟨en,hp,nt⟩:=YD ids hF hl hg h hd hm hn ho ha he hk hr hH
theorem vW(hF:Ds ids (Mz P g args H ch H'))(hg:AX ops en o=some true)(h:Cp en o.op=some (g,AV.Dv (rn ids hp.length) args))(hm:Dg (rn ids hp.length) hp ids H)(hn:nodupB ids=true)(ho:Ai H.length H=true)(ha:AV.oks H.length args=true)(k:Q (.panic ch) ⟨en,H'',nt⟩)(hH:Jy ids hp (E4 (rn ids hp.length) H')=H'':=by first|(simp only[Ks,Nat.reduceAdd];rfl)|rfl):Wl P ro ops i (o::rest) ⟨en,hp,nt⟩ Q:=XX ids hF hg h hm hn ho ha k hH
theorem vY(hF:Ds ids (Mz P g args H ch H'))(hl:FN (looks ops o) en=some e0)(hg:AX ops e0 o=some true)(h:Cp e0 o.op=some (g,AV.Dv (rn ids hp.length) args))(hd:Au o.dst nt=true)(hm:Dg (rn ids hp.length) hp ids H)(hn:nodupB ids=true)(ho:Ai H.length H=true)(ha:AV.oks H.length args=true)(he:BU o.dst .u en=some e)(hk:Wd P ro E ops S0 A (⟨e0,hp,.u,.pan ch⟩::acc) rest ⟨e,H'',nt⟩)(hH:Jy ids hp (E4 (rn ids hp.length) H')=H'':=by first|(simp only[Ks,Nat.reduceAdd];rfl)|rfl):Wd P ro E ops S0 A acc (o::rest) ⟨en,hp,nt⟩:=YX ids hF hl hg h hd hm hn ho ha he hk hH
theorem XfdL{r:D}(_:Dd (.tup [.i .i64 t,r]))(u1:By t (mR o.op)=true)(ht:get en t=some x)(hx:RQ [x] [r])(hne:(match x with| .d _=>false|_=>true)=true)(k:Wl P ro ops i (o::rest) ⟨(t,.d r)::en,hp,nt⟩ Q):Wl P ro ops i (o::rest) ⟨en,hp,nt⟩ Q:=Xfd t r u1 ht hx hne k
theorem XyBR{xs:yq}{r0:Lp}{H1 H2:yz}{e1 e2:yr}(hT:b=true->YT P id xs hp fun r K=>r= .d (.b true)/\K=H1)(hF:b=false->YT P id xs hp fun r K=>r= .d (.b false)/\K=H2)(hg:AX ops en o=some true)(h:Nw en o.op=some (id,xs))(hd:Au o.dst nt=true)(hlp:hp[id]? =some (.lp r0))(he1:BU o.dst (.d (.b true)) en=some e1)(he2:BU o.dst (.d (.b false)) en=some e2)(hp':b=true->p)(hq':b=false->q)(r:Rs (Br p q B C))(k1:b=true->Rs B->Wl P ro ops (i+1) rest ⟨e1,H1,nt⟩ Q)(k2:b=false->Rs C->Wl P ro ops (i+1) rest ⟨e2,H2,nt⟩ Q):Wl P ro ops i (o::rest) ⟨en,hp,nt⟩ Q:=
 XyB b hT hF hg h hd hlp he1 he2 (fun h=>k1 h ⟨r.x.t (hp' h)⟩) (fun h=>k2 h ⟨r.x.f (hq' h)⟩)
def gS(n:Int):Ao->Bool
 |[]=>true
 |k::r=> !(n==k)&&gS n r
def Sy(kd:IntKind):z6->Option (Ao)
 |[]=>some []
 |(.i k a,_)::r=>match decide (kd=k),Sy kd r with
  |true,some l=>some (a::l)
  |_,_=>none
 |_::_=>none
theorem Uv{kd:IntKind}{n:Int}:∀{es:z6}{ks:Ao},Sy kd es=some ks->gS n ks=true->QO (.i kd n) es=some none
 |[],ks,h,hk=>rfl
 |(.i k a,v)::r,ks,h,hk=>by
  simp only[Sy]at h;split at h
  .rename_i l h1 h2;cases h;simp only[gS,yU,q0H]at hk;have e:=q1H h1;simp only[QO,sameD,zN e,hk.1];exact Uv h2 hk.2
  .cases h
 |(.b _,_)::_,_,h,_|(.s _,_)::_,_,h,_|(.f _ _,_)::_,_,h,_|(.agg _,_)::_,_,h,_|(.tup _,_)::_,_,h,_|(.by _,_)::_,_,h,_|(.is _,_)::_,_,h,_|(.sl _ _,_)::_,_,h,_|(.np,_)::_,_,h,_|(.nf,_)::_,_,h,_|(.ni,_)::_,_,h,_|(.nm,_)::_,_,h,_|(.ifc _ _,_)::_,_,h,_|(.raw _,_)::_,_,h,_=>by simp[Sy]at h
def dO(E:Nat->Option Bd)(env:yr)(H:yz):Op->Option (Int×Ao×Bool×AV)
 | .lookup t m k ok=>match Eo env m,Eo env k with
  |some (.mp id),some (.d (.i kd n))=>match H[id]?,E t with
   |some (.m es),some y=>match y.k with
    | .mp kt et=>match E kt,E et,Sy kd es with
     |some yk,some _,some ks=>some (n,ks,PY yk.k,if ok then .tup [.u,.d (.b false)]else .u)
     |_,_,_=>none
    |_=>none
   |_,_=>none
  |_,_=>none
 |_=>none
variable {ks:Ao}
theorem dP{env:yr}{op:Op}{n:Int}(h:dO E env H op=some (n,ks,c,x))(hk:gS n ks=true):PQ E env H op=some (c,x):=by
 unfold dO at h;split at h
 .split at h
  .rename_i id kd n' hm hn;split at h
   .rename_i es y hes hy;split at h
    .rename_i kt et hyk;split at h
     .rename_i yk ye ks' h1 h2 h3;simp only[yh,zL]at h;obtain⟨rfl,rfl,rfl,rfl⟩:=h;simp only[PQ,hm,hn,W3,hes,hy,hyk,h1,h2,Uv h3 hk]
     .cases h
    .cases h
   .cases h
  .cases h
 .cases h
theorem XlkL{n:Int}(hk:gS n ks=true)(hE:CV P E)(hg:AX ops en o=some true)(h:dO E en hp o.op=some (n,ks,c,x))(hd:Au o.dst nt=true)(he:BU o.dst x' en=some e)(k:Wl P ro ops (i+1) rest ⟨e,hp,nt⟩ Q)(hc:c=true)(hx:x=x':=by rfl):Wl P ro ops i (o::rest) ⟨en,hp,nt⟩ Q:=Xq hE hg (dP h hk) hd he k hc hx
theorem YlkL{n:Int}(hk:gS n ks=true)(hl:FN (looks ops o) en=some e0)(hg:AX ops e0 o=some true)(h:dO E e0 hp o.op=some (n,ks,c,x))(hd:Au o.dst nt=true)(he:BU o.dst x' en=some e)(hk':Wd P ro E ops S0 A (⟨e0,hp,x',.quiet⟩::acc) rest ⟨e,hp,nt⟩)(hc:c=true)(hx:x=x':=by rfl):Wd P ro E ops S0 A acc (o::rest) ⟨en,hp,nt⟩:=Yq hl hg (dP h hk) hd he hk' hc hx
end
structure QE:Prop
theorem Qh:QE:=⟨⟩
inductive Sb:Bool->Prop where
 |f:Sb false
 |t:Sb true
theorem tP(b:Bool):Sb b:=by cases b<;>constructor
theorem scO(_:Sb true):No 3:=trivial
variable {a0:Prop}
theorem AQ(x0:a0):a0/\QE:=⟨x0,Qh⟩
variable {a1:Prop}
theorem B1(x0:a0)(x1:a1):a0/\a1/\QE:=⟨x0,x1,Qh⟩
variable {a2:Prop}
theorem DO(x0:a0)(x1:a1)(x2:a2):a0/\a1/\a2/\QE:=⟨x0,x1,x2,Qh⟩
variable {a3:Prop}
theorem Hc(x0:a0)(x1:a1)(x2:a2)(x3:a3):a0/\a1/\a2/\a3/\QE:=⟨x0,x1,x2,x3,Qh⟩
variable {a4:Prop}
theorem Ll(x0:a0)(x1:a1)(x2:a2)(x3:a3)(x4:a4):a0/\a1/\a2/\a3/\a4/\QE:=⟨x0,x1,x2,x3,x4,Qh⟩
variable {a5:Prop}
theorem jS(x0:a0)(x1:a1)(x2:a2)(x3:a3)(x4:a4)(x5:a5):a0/\a1/\a2/\a3/\a4/\a5/\QE:=⟨x0,x1,x2,x3,x4,x5,Qh⟩
variable {a6:Prop}
theorem jT(x0:a0)(x1:a1)(x2:a2)(x3:a3)(x4:a4)(x5:a5)(x6:a6):a0/\a1/\a2/\a3/\a4/\a5/\a6/\QE:=⟨x0,x1,x2,x3,x4,x5,x6,Qh⟩
theorem zq10{a7 a8 a9:Prop}(x0:a0)(x1:a1)(x2:a2)(x3:a3)(x4:a4)(x5:a5)(x6:a6)(x7:a7)(x8:a8)(x9:a9):a0/\a1/\a2/\a3/\a4/\a5/\a6/\a7/\a8/\a9/\QE:=⟨x0,x1,x2,x3,x4,x5,x6,x7,x8,x9,Qh⟩
theorem E8(i0:BK)(x0:a0):Ds i0 a0/\QE:=⟨x0,Qh⟩
theorem QZ(i0:BK)(x0:a0)(i1:BK)(x1:a1):Ds i0 a0/\Ds i1 a1/\QE:=⟨x0,x1,Qh⟩
theorem vT(i0:BK)(x0:a0)(i1:BK)(x1:a1)(i2:BK)(x2:a2):Ds i0 a0/\Ds i1 a1/\Ds i2 a2/\QE:=⟨x0,x1,x2,Qh⟩
theorem zd4(i0:BK)(x0:a0)(i1:BK)(x1:a1)(i2:BK)(x2:a2)(i3:BK)(x3:a3):Ds i0 a0/\Ds i1 a1/\Ds i2 a2/\Ds i3 a3/\QE:=⟨x0,x1,x2,x3,Qh⟩
theorem zd9{a7 a8:Prop}(i0:BK)(x0:a0)(i1:BK)(x1:a1)(i2:BK)(x2:a2)(i3:BK)(x3:a3)(i4:BK)(x4:a4)(i5:BK)(x5:a5)(i6:BK)(x6:a6)(i7:BK)(x7:a7)(i8:BK)(x8:a8):Ds i0 a0/\Ds i1 a1/\Ds i2 a2/\Ds i3 a3/\Ds i4 a4/\Ds i5 a5/\Ds i6 a6/\Ds i7 a7/\Ds i8 a8/\QE:=⟨x0,x1,x2,x3,x4,x5,x6,x7,x8,Qh⟩
def Wk(R g:Prop)(L K:BK)(p q s:Prop)(M:y4)(Z:Bool):Prop:=Lv L->Lv K->vy M->No 0->No 1->Sb Z->p->q->s->Rs R->g
variable {g q s:Prop}
set_option maxRecDepth 100000 in
theorem wb{L K:BK}{M:y4}{Z:Bool}(h:Lv L->Lv K->vy M->No 0->No 1->Sb Z->p->q->s->Rs R->g:=by intro lv st pr ns nc sc nS zq zd r;(try obtain⟨c1,zq⟩:_/\_:=zq);(try obtain⟨c2,zq⟩:_/\_:=zq);(try obtain⟨c3,zq⟩:_/\_:=zq);(try obtain⟨c4,zq⟩:_/\_:=zq);(try obtain⟨c5,zq⟩:_/\_:=zq);(try obtain⟨c6,zq⟩:_/\_:=zq);(try obtain⟨c7,zq⟩:_/\_:=zq);(try obtain⟨c8,zq⟩:_/\_:=zq);(try obtain⟨c9,zq⟩:_/\_:=zq);(try obtain⟨c10,zq⟩:_/\_:=zq);(try obtain⟨c11,zq⟩:_/\_:=zq);(try obtain⟨c12,zq⟩:_/\_:=zq);(try obtain⟨c13,zq⟩:_/\_:=zq);(try obtain⟨c14,zq⟩:_/\_:=zq);(try obtain⟨c15,zq⟩:_/\_:=zq);(try obtain⟨c16,zq⟩:_/\_:=zq);(try obtain⟨d1,zd⟩:_/\_:=zd);(try obtain⟨d2,zd⟩:_/\_:=zd);(try obtain⟨d3,zd⟩:_/\_:=zd);(try obtain⟨d4,zd⟩:_/\_:=zd);(try obtain⟨d5,zd⟩:_/\_:=zd);(try obtain⟨d6,zd⟩:_/\_:=zd);(try obtain⟨d7,zd⟩:_/\_:=zd);(try obtain⟨d8,zd⟩:_/\_:=zd);(try obtain⟨d9,zd⟩:_/\_:=zd);(try obtain⟨d10,zd⟩:_/\_:=zd);(repeat'(first|((with_reducible refine qS ?_);first|((with_reducible refine gNil ?_);first|refine XnL lv rfl ?_|refine ju ?_)|(refine wd rfl ?_;refine XsN rfl rfl ?_)|(refine XfdL fd1 rfl rfl (by first|(simp[RQ,Ea,D5,B8,B3,Aq];done)|(repeat'(first|rfl|trivial|refine⟨rfl,rfl,by simp[Aq]⟩|refine⟨_,_,rfl,?_,?_⟩|refine⟨_,rfl,?_⟩))) rfl ?_)|(refine Hx rfl ?_;refine pu AK rfl rfl rfl rfl ?_)|(refine Zj 1 rfl ?_;first|refine vX AK rfl rfl rfl rfl rfl (q0s _) (Hj ix1) ?_|refine vX AK rfl rfl rfl rfl rfl (q0s _) (Hj ix2) ?_|refine vX AK rfl rfl rfl rfl rfl (q0s _) (Hj ix3) ?_|refine vX AK rfl rfl rfl rfl rfl (q0s _) (Hj ix4) ?_)|((first|(refine Zj 1 rfl ?_;first|refine u7 wr rfl rfl rfl rfl rfl ?_ ?_|refine Xq AK rfl rfl rfl rfl ?_ ?_)|(refine Zj 2 rfl ?_;first|refine XlkL lk1 AK rfl rfl rfl rfl ?_ ?_|refine u7 wr rfl rfl rfl rfl rfl ?_ ?_|refine Xq AK rfl rfl rfl rfl ?_ ?_)|(refine Zj 4 rfl ?_;first|refine jx ow AK rfl rfl rfl rfl rfl rfl ?_ ?_|refine wg k1 k2 AK rfl rfl rfl (by first|rfl|simp[My]) rfl rfl rfl rfl ?_ ?_|refine Xa AK rfl rfl rfl rfl rfl ?_ ?_|refine Xq AK rfl rfl rfl rfl ?_ ?_|refine Xbs AK rfl rfl rfl rfl rfl rfl ?_ ?_)|(refine Zj 5 rfl ?_;first|refine Xw AK rfl rfl rfl rfl ?_ ?_|refine wi sb AK rfl rfl rfl rfl ?_ ?_|refine Xsc AK rfl rfl rfl rfl ?_ ?_)|(refine Zj 6 rfl ?_;first|refine jx ow AK rfl rfl rfl rfl rfl rfl ?_ ?_|refine Xq AK rfl rfl rfl rfl ?_ ?_|refine Xw AK rfl rfl rfl rfl ?_ ?_|refine Xa AK rfl rfl rfl rfl rfl ?_ ?_));rotate_left;focus((repeat'(first|with_reducible rfl|((with_reducible refine UC ?_);first|kernel_rfl|rfl|(simp[Hi,Ku,nS];done))|with_reducible refine PD ?_ ?_|with_reducible exact q1L _|with_reducible exact FR _|((with_reducible refine yX ?_);first|omega|(simp only[Mm,nS];omega))|decide|(simp[Mm,slc,Do,D.one,GF,AV.one,nS];done)|(simp[Mm,nS];omega)));done))|(refine Zj 3 rfl ?_;first|refine pt fz1 rfl rfl rfl (by first|rfl|simp[B3]) ?_|refine pt fz2 rfl rfl rfl (by first|rfl|simp[B3]) ?_|refine pt fz3 rfl rfl rfl (by first|rfl|simp[B3]) ?_|refine pt fz4 rfl rfl rfl (by first|rfl|simp[B3]) ?_|refine XT t1 rfl rfl rfl rfl ?_|refine XF (c1 ..) rfl rfl rfl rfl ?_|refine XF (c2 ..) rfl rfl rfl rfl ?_|refine XF (c3 ..) rfl rfl rfl rfl ?_|refine XF (c4 ..) rfl rfl rfl rfl ?_|refine XF (c5 ..) rfl rfl rfl rfl ?_|refine XF (c6 ..) rfl rfl rfl rfl ?_|refine XF (c7 ..) rfl rfl rfl rfl ?_|refine XF (c8 ..) rfl rfl rfl rfl ?_|refine XF (c9 ..) rfl rfl rfl rfl ?_|refine XF (c10 ..) rfl rfl rfl rfl ?_|refine XF (c11 ..) rfl rfl rfl rfl ?_|refine XF (c12 ..) rfl rfl rfl rfl ?_|refine XF (c13 ..) rfl rfl rfl rfl ?_|refine XF (c14 ..) rfl rfl rfl rfl ?_|refine XF (c15 ..) rfl rfl rfl rfl ?_|refine XF (c16 ..) rfl rfl rfl rfl ?_|(refine XFz (z1 ..) rfl rfl rfl rfl ?_ ?_;(first|(simp[RQ,Ea,D5,B8,B3,Aq];done)|(repeat'(first|rfl|trivial|refine⟨rfl,rfl,by simp[Aq]⟩|refine⟨_,_,rfl,?_,?_⟩|refine⟨_,rfl,?_⟩))))|(refine XFz (z2 ..) rfl rfl rfl rfl ?_ ?_;(first|(simp[RQ,Ea,D5,B8,B3,Aq];done)|(repeat'(first|rfl|trivial|refine⟨rfl,rfl,by simp[Aq]⟩|refine⟨_,_,rfl,?_,?_⟩|refine⟨_,rfl,?_⟩))))|(refine XFz (z3 ..) rfl rfl rfl rfl ?_ ?_;(first|(simp[RQ,Ea,D5,B8,B3,Aq];done)|(repeat'(first|rfl|trivial|refine⟨rfl,rfl,by simp[Aq]⟩|refine⟨_,_,rfl,?_,?_⟩|refine⟨_,rfl,?_⟩))))|(refine pG (d1 ..) rfl rfl rfl ?_ rfl rfl rfl rfl ?_;(focus((repeat(first|exact trivial|refine⟨rfl,?_⟩));done)))|(refine pG (d2 ..) rfl rfl rfl ?_ rfl rfl rfl rfl ?_;(focus((repeat(first|exact trivial|refine⟨rfl,?_⟩));done)))|(refine pG (d3 ..) rfl rfl rfl ?_ rfl rfl rfl rfl ?_;(focus((repeat(first|exact trivial|refine⟨rfl,?_⟩));done)))|(refine pG (d4 ..) rfl rfl rfl ?_ rfl rfl rfl rfl ?_;(focus((repeat(first|exact trivial|refine⟨rfl,?_⟩));done)))|(refine pG (d5 ..) rfl rfl rfl ?_ rfl rfl rfl rfl ?_;(focus((repeat(first|exact trivial|refine⟨rfl,?_⟩));done)))|(refine pG (d6 ..) rfl rfl rfl ?_ rfl rfl rfl rfl ?_;(focus((repeat(first|exact trivial|refine⟨rfl,?_⟩));done)))|(refine pG (d7 ..) rfl rfl rfl ?_ rfl rfl rfl rfl ?_;(focus((repeat(first|exact trivial|refine⟨rfl,?_⟩));done)))|(refine pG (d8 ..) rfl rfl rfl ?_ rfl rfl rfl rfl ?_;(focus((repeat(first|exact trivial|refine⟨rfl,?_⟩));done)))|(refine pG (d9 ..) rfl rfl rfl ?_ rfl rfl rfl rfl ?_;(focus((repeat(first|exact trivial|refine⟨rfl,?_⟩));done)))|(refine pG (d10 ..) rfl rfl rfl ?_ rfl rfl rfl rfl ?_;(focus((repeat(first|exact trivial|refine⟨rfl,?_⟩));done)))|refine Xy q1 rfl rfl rfl rfl rfl ?_|refine Xy (q1 _) rfl rfl rfl rfl rfl ?_|refine Xy (q1 _ _) rfl rfl rfl rfl rfl ?_|(refine' XyBR (g1T _) (g1F _) rfl rfl rfl rfl rfl rfl ?_ ?_ r (fun hc s=> ?_) (fun hc s=> ?_);(all_goals(first|guard_target=Prop|(clear r;have r:=s;clear s;(try simp only[Q3]at hc);(try(exfalso;omega)))|(intro hc;(try simp only[Q3]at hc);first|done|exact hc))))|(refine vW (x1 ..) rfl rfl ?_ rfl rfl rfl ?_;(focus((repeat(first|exact trivial|refine⟨rfl,?_⟩));done)))|(refine vW (x2 ..) rfl rfl ?_ rfl rfl rfl ?_;(focus((repeat(first|exact trivial|refine⟨rfl,?_⟩));done)))|(refine vW (x3 ..) rfl rfl ?_ rfl rfl rfl ?_;(focus((repeat(first|exact trivial|refine⟨rfl,?_⟩));done)))|(refine vW (x4 ..) rfl rfl ?_ rfl rfl rfl ?_;(focus((repeat(first|exact trivial|refine⟨rfl,?_⟩));done)))|(refine vW (x5 ..) rfl rfl ?_ rfl rfl rfl ?_;(focus((repeat(first|exact trivial|refine⟨rfl,?_⟩));done)))|(refine vW (x6 ..) rfl rfl ?_ rfl rfl rfl ?_;(focus((repeat(first|exact trivial|refine⟨rfl,?_⟩));done))))|refine Xpan rfl rfl rfl ?_|refine XfuL fu1 rfl rfl rfl (by first|rfl|simp[B3]) ?_|(refine' pS ns rfl rfl ?_ ?_ r (fun hc s=> ?_) (fun hc s=> ?_);(all_goals(first|guard_target=Prop|(clear r;have r:=s;clear s;(fail_if_success (with_reducible first|exact tF hc|exact fT hc));(try simp only[Q3]at hc);(try(exfalso;omega)))|(intro hc;(try simp only[Q3]at hc);first|done|exact hc))))|(refine' sdR r (fun hs s=> ?_);rotate_left 2;clear r;have r:=s;clear s;first|refine jx ow AK rfl rfl rfl rfl rfl rfl ?_ hs|refine wg k1 k2 AK rfl rfl rfl (by first|rfl|simp[My]) rfl rfl rfl rfl ?_ hs|refine Xa AK rfl rfl rfl rfl rfl ?_ hs|refine u7 wr rfl rfl rfl rfl rfl ?_ hs|refine Xq AK rfl rfl rfl rfl ?_ hs|refine Xw AK rfl rfl rfl rfl ?_ hs|refine wi sb AK rfl rfl rfl rfl ?_ hs|refine Xsc AK rfl rfl rfl rfl ?_ hs))|((with_reducible refine vg ?_);first|((with_reducible refine wy ?_);first|(refine YnXL pr mixed AK rfl (by kernel_rfl) ?_ ?_;focus(simp only[EE];repeat'(first|exact zi|refine yg ?_ ?_|exact⟨_,rfl,rfl⟩|rfl)))|(refine YnLv lv pr mixed AK (by kernel_rfl) ?_ rfl ?_;focus(simp only[EE];repeat'(first|exact zi|refine yg ?_ ?_|exact⟨_,rfl,rfl⟩|rfl)))|(refine Yn2L lv pr AK (by kernel_rfl) ?_ rfl ?_;focus(simp only[EE];repeat'(first|exact zi|refine yg ?_ ?_|exact⟨_,rfl,rfl⟩|rfl))))|(refine Ydq rfl ?_ rfl rfl rfl ?_;focus(simp only[Zz,List.reverse_cons,List.reverse_nil,zK,zS,zV,zh,zA,HX,yu,zI,List.any_cons,List.any_nil,Kd.QK,Bool.or_false,q0N,q0F,zo];decide +kernel))|(refine wU rfl ?_;refine Ys rfl rfl rfl rfl ?_)|(refine Lm rfl ?_;refine vZ AK rfl rfl (fun _=>rfl) rfl rfl ?_)|(refine Zh 1 rfl ?_;first|refine wk AK rfl rfl (fun _=>rfl) rfl rfl rfl (q0s _) (Hj ix1) ?_|refine wk AK rfl rfl (fun _=>rfl) rfl rfl rfl (q0s _) (Hj ix2) ?_|refine wk AK rfl rfl (fun _=>rfl) rfl rfl rfl (q0s _) (Hj ix3) ?_|refine wk AK rfl rfl (fun _=>rfl) rfl rfl rfl (q0s _) (Hj ix4) ?_)|((first|(refine Zh 1 rfl ?_;first|refine Yp AK rfl rfl (fun _=>rfl) rfl rfl ?_ ?_|refine Yq rfl rfl rfl rfl rfl ?_ ?_)|(refine Zh 2 rfl ?_;first|refine YlkL lk1 rfl rfl rfl rfl rfl ?_ ?_|refine Yp AK rfl rfl (fun _=>rfl) rfl rfl ?_ ?_|refine Yq rfl rfl rfl rfl rfl ?_ ?_)|(refine Zh 4 rfl ?_;first|refine jy ow AK rfl rfl rfl rfl rfl rfl rfl ?_ ?_|refine Ya AK rfl rfl rfl rfl rfl rfl ?_ ?_|refine Yp AK rfl rfl (fun _=>rfl) rfl rfl ?_ ?_|refine Yq rfl rfl rfl rfl rfl ?_ ?_)|(refine Zh 5 rfl ?_;first|refine Yw AK rfl rfl rfl rfl rfl ?_ ?_|refine u9 sb AK rfl rfl rfl rfl rfl ?_ ?_|refine Ysc AK rfl rfl rfl rfl rfl ?_ ?_)|(refine Zh 6 rfl ?_;first|refine jy ow AK rfl rfl rfl rfl rfl rfl rfl ?_ ?_|refine Yp AK rfl rfl (fun _=>rfl) rfl rfl ?_ ?_|refine Yq rfl rfl rfl rfl rfl ?_ ?_|refine Yw AK rfl rfl rfl rfl rfl ?_ ?_|refine u9 sb AK rfl rfl rfl rfl rfl ?_ ?_|refine Ysc AK rfl rfl rfl rfl rfl ?_ ?_|refine Ya AK rfl rfl rfl rfl rfl rfl ?_ ?_));rotate_left;focus((repeat'(first|with_reducible rfl|((with_reducible refine UC ?_);first|kernel_rfl|rfl|(simp[Hi,Ku,nS];done))|with_reducible refine PD ?_ ?_|with_reducible exact q1L _|with_reducible exact FR _|((with_reducible refine yX ?_);first|omega|(simp only[Mm,nS];omega))|decide|(simp[Mm,slc,Do,D.one,GF,AV.one,nS];done)|(simp[Mm,nS];omega)));done))|(refine Zh 3 rfl ?_;first|refine YF (c1 ..) rfl rfl rfl rfl rfl ?_|refine YF (c2 ..) rfl rfl rfl rfl rfl ?_|refine YF (c3 ..) rfl rfl rfl rfl rfl ?_|refine YF (c4 ..) rfl rfl rfl rfl rfl ?_|refine YF (c5 ..) rfl rfl rfl rfl rfl ?_|refine YF (c6 ..) rfl rfl rfl rfl rfl ?_|refine YF (c7 ..) rfl rfl rfl rfl rfl ?_|refine YF (c8 ..) rfl rfl rfl rfl rfl ?_|refine YF (c9 ..) rfl rfl rfl rfl rfl ?_|refine YF (c10 ..) rfl rfl rfl rfl rfl ?_|refine YF (c11 ..) rfl rfl rfl rfl rfl ?_|refine YF (c12 ..) rfl rfl rfl rfl rfl ?_|refine YF (c13 ..) rfl rfl rfl rfl rfl ?_|refine YF (c14 ..) rfl rfl rfl rfl rfl ?_|refine YF (c15 ..) rfl rfl rfl rfl rfl ?_|refine YF (c16 ..) rfl rfl rfl rfl rfl ?_|(refine YFz (z1 ..) rfl rfl rfl rfl rfl ?_ ?_;(first|(simp[RQ,Ea,D5,B8,B3,Aq];done)|(repeat'(first|rfl|trivial|refine⟨rfl,rfl,by simp[Aq]⟩|refine⟨_,_,rfl,?_,?_⟩|refine⟨_,rfl,?_⟩))))|(refine YFz (z2 ..) rfl rfl rfl rfl rfl ?_ ?_;(first|(simp[RQ,Ea,D5,B8,B3,Aq];done)|(repeat'(first|rfl|trivial|refine⟨rfl,rfl,by simp[Aq]⟩|refine⟨_,_,rfl,?_,?_⟩|refine⟨_,rfl,?_⟩))))|(refine YFz (z3 ..) rfl rfl rfl rfl rfl ?_ ?_;(first|(simp[RQ,Ea,D5,B8,B3,Aq];done)|(repeat'(first|rfl|trivial|refine⟨rfl,rfl,by simp[Aq]⟩|refine⟨_,_,rfl,?_,?_⟩|refine⟨_,rfl,?_⟩))))|(refine pH (d1 ..) rfl rfl rfl rfl ?_ rfl rfl rfl rfl ?_;(focus((repeat(first|exact trivial|refine⟨rfl,?_⟩));done)))|(refine pH (d2 ..) rfl rfl rfl rfl ?_ rfl rfl rfl rfl ?_;(focus((repeat(first|exact trivial|refine⟨rfl,?_⟩));done)))|(refine pH (d3 ..) rfl rfl rfl rfl ?_ rfl rfl rfl rfl ?_;(focus((repeat(first|exact trivial|refine⟨rfl,?_⟩));done)))|(refine pH (d4 ..) rfl rfl rfl rfl ?_ rfl rfl rfl rfl ?_;(focus((repeat(first|exact trivial|refine⟨rfl,?_⟩));done)))|(refine pH (d5 ..) rfl rfl rfl rfl ?_ rfl rfl rfl rfl ?_;(focus((repeat(first|exact trivial|refine⟨rfl,?_⟩));done)))|(refine pH (d6 ..) rfl rfl rfl rfl ?_ rfl rfl rfl rfl ?_;(focus((repeat(first|exact trivial|refine⟨rfl,?_⟩));done)))|(refine pH (d7 ..) rfl rfl rfl rfl ?_ rfl rfl rfl rfl ?_;(focus((repeat(first|exact trivial|refine⟨rfl,?_⟩));done)))|(refine pH (d8 ..) rfl rfl rfl rfl ?_ rfl rfl rfl rfl ?_;(focus((repeat(first|exact trivial|refine⟨rfl,?_⟩));done)))|(refine pH (d9 ..) rfl rfl rfl rfl ?_ rfl rfl rfl rfl ?_;(focus((repeat(first|exact trivial|refine⟨rfl,?_⟩));done)))|(refine pH (d10 ..) rfl rfl rfl rfl ?_ rfl rfl rfl rfl ?_;(focus((repeat(first|exact trivial|refine⟨rfl,?_⟩));done)))|(refine vY (x1 ..) rfl rfl rfl rfl ?_ rfl rfl rfl rfl ?_;(focus((repeat(first|exact trivial|refine⟨rfl,?_⟩));done)))|(refine vY (x2 ..) rfl rfl rfl rfl ?_ rfl rfl rfl rfl ?_;(focus((repeat(first|exact trivial|refine⟨rfl,?_⟩));done)))|(refine vY (x3 ..) rfl rfl rfl rfl ?_ rfl rfl rfl rfl ?_;(focus((repeat(first|exact trivial|refine⟨rfl,?_⟩));done)))|(refine vY (x4 ..) rfl rfl rfl rfl ?_ rfl rfl rfl rfl ?_;(focus((repeat(first|exact trivial|refine⟨rfl,?_⟩));done)))|(refine vY (x5 ..) rfl rfl rfl rfl ?_ rfl rfl rfl rfl ?_;(focus((repeat(first|exact trivial|refine⟨rfl,?_⟩));done)))|(refine vY (x6 ..) rfl rfl rfl rfl ?_ rfl rfl rfl rfl ?_;(focus((repeat(first|exact trivial|refine⟨rfl,?_⟩));done))))|(refine' pT ns rfl rfl ?_ ?_ r (fun hc s=> ?_) (fun hc s=> ?_);(all_goals(first|guard_target=Prop|(clear r;have r:=s;clear s;(fail_if_success (with_reducible first|exact tF hc|exact fT hc));(try simp only[Q3]at hc);(try(exfalso;omega)))|(intro hc;(try simp only[Q3]at hc);first|done|exact hc))))|(refine' sdR r (fun hs s=> ?_);rotate_left 2;clear r;have r:=s;clear s;first|refine jy ow AK rfl rfl rfl rfl rfl rfl rfl ?_ hs|refine Ya AK rfl rfl rfl rfl rfl rfl ?_ hs|refine Yp AK rfl rfl (fun _=>rfl) rfl rfl ?_ hs|refine Yq rfl rfl rfl rfl rfl ?_ hs|refine Yw AK rfl rfl rfl rfl rfl ?_ hs|refine u9 sb AK rfl rfl rfl rfl rfl ?_ hs|refine Ysc AK rfl rfl rfl rfl rfl ?_ hs))|((with_reducible refine gW ?_);first|with_reducible refine Mo ?_|((with_reducible refine gReg ?_);refine UP st rfl ?_)|((with_reducible refine gAny ?_);refine jk st T.get rfl ?_)|((with_reducible refine wx ?_);first|refine FQ rfl ?_|refine FP rfl ?_|(refine' cU nc rfl ?_ ?_ r (fun hc s=> ?_) (fun hc s=> ?_);(all_goals(first|guard_target=Prop|(clear r;have r:=s;clear s;(try simp only[Q3]at hc);(try(exfalso;omega)))|(intro hc;(try simp only[Q3]at hc);first|done|exact hc)))))|with_reducible refine JJ ?_|with_reducible refine Mn ?_|with_reducible refine H7 ?_|with_reducible refine JI ?_|with_reducible refine jm ?_|with_reducible refine ct ?_|with_reducible refine XM un ?_|with_reducible refine XO (scO sc) ?_)|(with_reducible first|refine qT ?_|refine qTr ?_|refine qTe ?_|refine qTg ?_|refine qTp ?_|refine qBn ?_|refine qBr ?_|refine qBg ?_|refine qBp ?_|refine qSn ?_|refine qSr ?_|refine qSe ?_|exact lQ r|exact lI r|exact lY r)|refine qSg rfl ?_|(first|refine Mo ?_|refine UP st rfl ?_|refine jk st T.get rfl ?_|refine FQ rfl ?_|refine FP rfl ?_|refine JJ ?_|refine Mn ?_|refine H7 ?_|refine JI ?_|refine jm ?_|refine ct ?_|refine XM un ?_|refine XO (scO sc) ?_|(refine' cU nc rfl ?_ ?_ r (fun hc s=> ?_) (fun hc s=> ?_);(all_goals(first|guard_target=Prop|(clear r;have r:=s;clear s;(try simp only[Q3]at hc);(try(exfalso;omega)))|(intro hc;(try simp only[Q3]at hc);first|done|exact hc)))))|exact r.x));all_goals exact True):Wk R g L K p q s M Z:=h
theorem A9(L:BK)(r:R)(M:y4:=[])(K:BK:=[])(Z:Bool:=true)(h:Wk R g L K QE QE QE M Z:=by exact wb):g:=h trivial trivial trivial trivial trivial (tP Z) Qh Qh Qh ⟨r⟩
theorem AP(L:BK)(r:R)(b:q)(M:y4:=[])(K:BK:=[])(Z:Bool:=true)(h:Wk R g L K QE q QE M Z:=by exact wb):g:=h trivial trivial trivial trivial trivial (tP Z) Qh b Qh ⟨r⟩
theorem Ae(L:BK)(r:R)(a:p)(M:y4:=[])(K:BK:=[])(Z:Bool:=true)(h:Wk R g L K p QE QE M Z:=by exact wb):g:=h trivial trivial trivial trivial trivial (tP Z) a Qh Qh ⟨r⟩
theorem AD(L:BK)(r:R)(a:p)(b:q)(M:y4:=[])(K:BK:=[])(Z:Bool:=true)(h:Wk R g L K p q QE M Z:=by exact wb):g:=h trivial trivial trivial trivial trivial (tP Z) a b Qh ⟨r⟩
theorem Cd(L:BK)(r:R)(d:s)(M:y4:=[])(K:BK:=[])(Z:Bool:=true)(h:Wk R g L K QE QE s M Z:=by exact wb):g:=h trivial trivial trivial trivial trivial (tP Z) Qh Qh d ⟨r⟩
theorem Fc(L:BK)(r:R)(b:q)(d:s)(M:y4:=[])(K:BK:=[])(Z:Bool:=true)(h:Wk R g L K QE q s M Z:=by exact wb):g:=h trivial trivial trivial trivial trivial (tP Z) Qh b d ⟨r⟩
theorem GW(L:BK)(r:R)(a:p)(d:s)(M:y4:=[])(K:BK:=[])(Z:Bool:=true)(h:Wk R g L K p QE s M Z:=by exact wb):g:=h trivial trivial trivial trivial trivial (tP Z) a Qh d ⟨r⟩
theorem EL(L:BK)(r:R)(a:p)(b:q)(d:s)(M:y4:=[])(K:BK:=[])(Z:Bool:=true)(h:Wk R g L K p q s M Z:=by exact wb):g:=h trivial trivial trivial trivial trivial (tP Z) a b d ⟨r⟩
end Go.Gar
namespace Go.Gar
def rmX:yr->Nat->Option (yr)
 |[],_=>some []
 |(u,y)::r,t=>match rmX r t with
  |some l=>match Nat.beq u t with
   |true=>some l
   |false=>some ((u,y)::l)
  |none=>none
def upX:yr->Nat->AV->Option (yr)
 |[],t,x=>some [(t,x)]
 |(u,y)::r,t,x=>match Nat.beq u t with
  |true=>match rmX r t with
   |some l=>some ((u,x)::l)
   |none=>none
  |false=>match upX r t x with
   |some l=>some ((u,y)::l)
   |none=>none
def vQ:yr->yr->Option (yr)
 |e,[]=>some e
 |e,(t,x)::r=>match upX e t x with
  |some l=>vQ l r
  |none=>none
variable {ro:yW}{Q:Exit->St->Prop}{en:yr}
theorem BA{P:Program}{hp:yz}{nt:Nat}{α:Type}{c:Code}(I:α->Prop)(vs:α->yr)(μ:α->Nat)(x0:α)(h0:I x0){e:α->yr}(_:∀x,vQ en (vs x)=some (e x))(t:A5 ⟨en,hp,nt⟩ ⟨e x0,hp,nt⟩)(body:∀x,I x->W P ro c ⟨e x,hp,nt⟩ (w8 I (fun x=>⟨e x,hp,nt⟩) (fun y=>μ y<μ x) hp.length Q)):W P ro (.loop c) ⟨en,hp,nt⟩ Q:=
 BY I (fun x=>⟨e x,hp,nt⟩) μ x0 h0 t (yV _) body
def VU:yz->Nat->AF->Option (yz)
 |[],_,_=>none
 |_::r,0,x=>some (x::r)
 |b::r,n+1,x=>match VU r n x with
  |some l=>some (b::l)
  |none=>none
def Tq:yz->List (Nat×AF)->Option (yz)
 |h,[]=>some h
 |h,(i,x)::r=>match VU h i x with
  |some l=>Tq l r
  |none=>none
theorem VV:∀{h:yz}{i:Nat}{x:AF}{l:yz},VU h i x=some l->l.length=h.length
 |[],_,_,_,e=>by simp[VU]at e
 |_::_,0,_,_,e=>by simp only[VU,yh]at e;subst e;rfl
 |b::r,n+1,x,l,e=>by
  simp only[VU]at e;split at e
  .rename_i q hq;simp only[yh]at e;subst e;simp[VV hq]
  .cases e
theorem Ts:∀{c:List (Nat×AF)}{h l:yz},Tq h c=some l->l.length=h.length
 |[],h,l,e=>by simp only[Tq,yh]at e;subst e;rfl
 |(i,x)::r,h,l,e=>by
  simp only[Tq]at e;split at e
  .rename_i q hq;rw[Ts e,VV hq]
  .cases e
theorem CO{P:Program}{hp:yz}{nt:Nat}{α:Type}{c:Code}(I:α->Prop)(vs:α->yr)(hs:α->List (Nat×AF))(μ:α->Nat)(x0:α)(h0:I x0){e:α->yr}{h:α->yz}(_:∀x,vQ en (vs x)=some (e x))(hh:∀x,Tq hp (hs x)=some (h x))(t:A5 ⟨en,hp,nt⟩ ⟨e x0,h x0,nt⟩)(body:∀x,I x->W P ro c ⟨e x,h x,nt⟩ (w8 I (fun x=>⟨e x,h x,nt⟩) (fun y=>μ y<μ x) (h x).length Q)):W P ro (.loop c) ⟨en,hp,nt⟩ Q:=
 BY I (fun x=>⟨e x,h x,nt⟩) μ x0 h0 t (by show hp.length<=(h x0).length;rw[Ts (hh x0)];exact yV _) body
def DR(n:Nat)(p:Nat->Bool):Bool:=(List.range n).all p
variable {n:Nat}{p:Nat->Bool}
theorem Ex:DR n p=true↔∀k,k<n->p k=true:=by simp[DR]
theorem EY{k:Nat}(hk:k<n)(h:p k=false):DR n p=false:=by
 cases e:DR n p with
 |false=>rfl
 |true=>rw[Ex.1 e k hk]at h;cases h
theorem Cm(h:DR n p=true)(k:p n=true):DR (n+1) p=true:=by
 rw[Ex]at h|-;intro j hj
 by_cases e:j=n
 .subst e;exact k
 .exact h j om
theorem A5.ck{S S':St}(hn:S'.n=S.n)(he:Lc S'.env S.env:=by repeat'(first|exact zi|refine yg (by(first|rfl|((with_reducible_and_instances refine congrArg (fun z=>some (AV.d (D.i _ z))) ?_);omega)|(refine congrArg (fun z=>some (AV.d (D.i _ z))) (?_:(_:Int)=_);omega)|(refine congrArg some ?_;simp;done))) ?_))
  (hH:C0 S'.H S.H:=by repeat'(first|exact zi|refine yg (q0D rfl) ?_|refine yg (q0w ⟨rfl,rfl⟩) ?_|refine yg (q0D sm) ?_))
  (ho:Ai S'.H.length S'.H=true:=by first|rfl|(simp(decide:=true) [Ai,AF.ok,AV.oks,AV.ok];done)|(simp(decide:=true) [Ai,AF.ok,AV.oks,AV.ok,hk];done)) (heo:F2 S'.H.length S'.env=true:=by rfl):A5 S S':=A5.cut hn he hH ho heo
theorem E5:(∀(H:yz)(xs:yq)(l:yo),D5 H (.tup xs) (.tup l)↔Ea H xs l)/\(∀(H:yz)(xs:yq)(l:yo),D5 H (.ag xs) (.agg l)↔Ea H xs l)/\
  (∀(H:yz)(x:AV)(xs:yq)(y:D)(l:yo),Ea H (x::xs) (y::l)↔D5 H x y/\Ea H xs l)/\(∀H:yz,Ea H [] []↔True)/\(∀(H:yz)(x y:D),D5 H (.d x) y↔y=x)/\
  (∀(H:yz)(y:D),D5 H .e0 y↔B8 y=true/\B3 y=0/\Aq y)/\(∀(H:yz)(i n sz:Nat)(y:D),D5 H (.sl i n sz) y↔H[i]? =some (.a y)/\n=B3 y):=
 ⟨fun _ _ _=>Jz,fun _ _ _=>N4,fun _ _ _ _ _=>EA,fun _=>Ev,fun _ _ _=>C4,fun _ _=>RZ,fun _ _ _ _ _=>JH⟩
end Go.Gar
namespace Go.Gar
def kl(E:Nat->Option Bd)(env:yr)(op:Op):Option (Bool×(Nat->AV)×AF):=
 match op with
 | .buildSlice t len ps=>match Nq E (Eo env) t len ps.toList with
  |some (z,cs)=>some (decide (len*z.size<=16777216),fun id=> .bs id 0 len z.size cs.length,.c cs)
  |none=>none
 |_=>none
variable {E:Nat->Option Bd}
theorem qL{P:Program}(hE:CV P E){S:St}{o:Oper}{f:Nat->AV}{b:AF}{c:Bool}(h:kl E S.env o.op=some (c,f,b))(hc:c=true):Es P o S (f S.H.length) (S.H++[b]):=by
 subst hc;obtain⟨dst,op,ty,pos,after,guard⟩:=o;simp only at h;cases op<;>simp only[kl]at h<;>try(cases h;done)
 case buildSlice t len ps=>
  split at h
  .rename_i z cs hcs;simp only[yh,zL,yc]at h;obtain⟨hsz,rfl,rfl⟩:=h
   exact .F6 (f:=fun a=>Instr.buildSlice t len (Zb a.eval ps)) (fun a=>Iv rfl a.eval) fun ro N G a w r=>by
    have:=Vt hE r.rel (fun o x hx=>B2 r.rel.st r.env hx) hcs hsz;rw[r.heap]at this;exact this
  .cases h
theorem Vx{env:yr}{o:Oper}{x:Bool×(Nat->AV)×AF}(h:kl E env o.op=some x):∀c,o.op≠ .defer c:=by
 intro c hc;rw[hc]at h;simp[kl]at h
section
variable {P:Program}{ro:yW}{ops:ya}{i:Nat}{rest:yb}{en:yr}{hp:yz}{nt:Nat}{Q:Exit->St->Prop}{o:Oper}{E:Nat->Option Bd}
theorem Xbs(hE:CV P E){f:Nat->AV}{b:AF}{c:Bool}{x':AV}{e:yr}{H':yz}(hg:AX ops en o=some true)(h:kl E en o.op=some (c,f,b))(hd:Au o.dst nt=true)(he:BU o.dst x' en=some e)(hH:Hu hp b=some H')(hx:f hp.length=x')
  (k:Wl P ro ops (i+1) rest ⟨e,H',nt⟩ Q) (hc:c=true):Wl P ro ops i (o::rest) ⟨en,hp,nt⟩ Q:=by
 subst hx;rw[Az he,Ig hH]at k;exact Q8 (S:=⟨en,hp,nt⟩) hg (qL (S:=⟨en,hp,nt⟩) hE h hc) (Vx h) hd k
end
end Go.Gar
