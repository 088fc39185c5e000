/- Part 5 of a proof. Conditions: those that its theorems state. -/
import Derived.Test.YtkljbfejbakooaaGreatDoorS04
set_option linter.unusedSimpArgs false
set_option linter.unusedVariables false
set_option linter.unnecessarySimpa false
set_option maxHeartbeats 40000000
set_option maxRecDepth 4000
namespace Go.Gar
def Lv(_:List Nat):Prop:=True
def nw(_:List (Nat×Nat)):Prop:=True
def Ds(_:List Nat)(p:Prop):Prop:=p
def No(_:Nat):Prop:=True
def Dd(_:D):Prop:=True
structure Br (c:Bool) (A B:Prop):Prop where
 t:c=true->A
 f:c=false->B
structure Sd (c:Bool) (A:Prop):Prop where
 a:A
 c:c=true
structure Rs (R:Prop):Prop where
 x:R
variable {R:Prop}
theorem pX{c:Bool}{G:Prop}(r:Rs (Sd c R))(k:c=true->Rs R->G):G:=k r.x.2 ⟨r.x.1⟩
variable {p:Prop}
theorem Ds.mk(ids:List Nat)(h:p):Ds ids p:=h
section
variable {P:Program}{ro:Option Nat}{ops:Array Oper}{i:Nat}{rest:List Oper}{S0:St}{en:List (Nat×AV)}{hp:List A3}{nt:Nat}{Q:Exit->St->Prop}{o:Oper}{E:Nat->Option Ao}{A:Prop}{acc:List Rc}
variable {S:St}
theorem gNil(k:Wl P ro ops i [] S Q):Wl P ro ops i [] S Q:=k
theorem jt(k:Wd P ro E ops S0 A acc [] S):Wd P ro E ops S0 A acc [] S:=k
def opk:Op->Nat
 | .indexAddr _ _ _=>1
 | .load _ _| .nilCheck _| .binOp _ _ _ _ _| .unOp _ _ _| .convert _ _ _| .slice _ _ _ _ _| .fieldAddr _ _ _| .field _ _ _| .index _ _ _| .build _ _| .makeFunc _ _ _| .extract _ _| .sliceToArrayPointer _ _| .makeInterface _ _| .lookup _ _ _ _| .typeAssert _ _ _ _=>2
 | .call c=>match c.callee with
  | .builtin _=>6
  |_=>3
 | .alloc _| .box _ _| .makeSlice _ _ _| .buildSlice _ _ _| .makeMap _ _=>4
 | .store _ _ _| .insert _ _ _ _| .mapUpdate _ _ _ _=>5
 |_=>6
theorem L0(k:Nat)(_:opk o.op=k)(h:Wl P ro ops i (o::rest) S Q):Wl P ro ops i (o::rest) S Q:=h
theorem Kz(k:Nat)(_:opk o.op=k)(h:Wd P ro E ops S0 A acc (o::rest) S):Wd P ro E ops S0 A acc (o::rest) S:=h
theorem jf(_:o.guard.isSome=true)(h:Wl P ro ops i (o::rest) S Q):Wl P ro ops i (o::rest) S Q:=h
theorem je(_:o.guard.isSome=true)(h:Wd P ro E ops S0 A acc (o::rest) S):Wd P ro E ops S0 A acc (o::rest) S:=h
def nl(ops:Array Oper)(nt:Nat):List Oper->List (Nat×AV)->Nat->List Oper×List (Nat×AV)×Nat
 |[],e,i=>([],e,i)
 |o::r,e,i=>match o.guard with
  |none=>(o::r,e,i)
  |some _=>match A8 ops e o with
   |some false=>match AE o.dst nt with
    |true=>match o.dst with
     |some d=>nl ops nt r ((d,.d (.tup []))::e) (i+1)
     |none=>nl ops nt r e (i+1)
    |false=>(o::r,e,i)
   |_=>(o::r,e,i)
theorem W8:∀(l:List Oper)(e:List (Nat×AV))(i:Nat){l':List Oper}{e':List (Nat×AV)}{i':Nat},nl ops nt l e i=(l',e',i')->Wl P ro ops i' l' ⟨e',hp,nt⟩ Q->Wl P ro ops i l ⟨e,hp,nt⟩ Q
 |[],e,i,l',e',i',h,k=>by simp only[nl,qR]at h;obtain⟨rfl,rfl,rfl⟩:=h;exact k
 |o::r,e,i,l',e',i',h,k=>by
  simp only[nl]at h;split at h
  .simp only[qR]at h;obtain⟨rfl,rfl,rfl⟩:=h;exact k
  .split at h
   .rename_i hg;split at h
    .rename_i hd;split at h
     .rename_i d ho;exact Xs hg hd (by rw[ho];rfl) (W8 r _ _ h k)
     .rename_i ho;exact Xs hg hd (by rw[ho];rfl) (W8 r _ _ h k)
    .simp only[qR]at h;obtain⟨rfl,rfl,rfl⟩:=h;exact k
   .simp only[qR]at h;obtain⟨rfl,rfl,rfl⟩:=h;exact k
theorem XsN{l':List Oper}{e':List (Nat×AV)}{i':Nat}(hg:A8 ops en o=some false)(h:nl ops nt (o::rest) en i=(l',e',i'))(k:Wl P ro ops i' l' ⟨e',hp,nt⟩ Q):Wl P ro ops i (o::rest) ⟨en,hp,nt⟩ Q:=W8 _ _ _ h k
theorem gW{c:Code}(k:W P ro c S Q):W P ro c S Q:=k
variable {id:Nat}
theorem oi(k:W P ro (.region id ops false) S Q):W P ro (.region id ops false) S Q:=k
theorem oh(k:W P ro (.region id ops true) S Q):W P ro (.region id ops true) S Q:=k
theorem js{c:Operand}{x y:Code}(k:W P ro (.cond c x y) S Q):W P ro (.cond c x y) S Q:=k
variable {K:St->Prop}
theorem qT(k:K S):Pk K Q .normal S:=k
theorem qTr(k:Q .ret S):Pk K Q .ret S:=k
variable {j:Nat}
theorem qTe(k:Q (.exit j) S):Pk K Q (.exit j) S:=k
theorem qTg(k:Q (.goto j) S):Pk K Q (.goto j) S:=k
variable {ch:List PanicEntry}
theorem qTp(k:Q (.panic ch) S):Pk K Q (.panic ch) S:=k
theorem qBn(k:Q .normal S):Ii j Q .normal S:=k
theorem qBr(k:Q .ret S):Ii j Q .ret S:=k
theorem qBg{l:Nat}(k:Q (.goto l) S):Ii j Q (.goto l) S:=k
theorem qBp(k:Q (.panic ch) S):Ii j Q (.panic ch) S:=k
theorem qSn{c:Code}(k:Q .normal S):EA P ro c Q j .normal S:=by rw[Fp (by intro l h;cases h)];exact k
theorem qSr{c:Code}(k:Q .ret S):EA P ro c Q j .ret S:=by rw[Fp (by intro l h;cases h)];exact k
theorem qSe{c:Code}{i:Nat}(k:Q (.exit i) S):EA P ro c Q j (.exit i) S:=by rw[Fp (by intro l h;cases h)];exact k
theorem qSg{c rest:Code}{l:Nat}(h:findLabel c l=some rest)(k:W P ro rest S (EA P ro c Q j)):EA P ro c Q (j+1) (.goto l) S:=by
 simp only[EA,h];exact k
theorem lQ{e:Exit}(r:Rs (KM K e S)):KM K e S:=r.x
theorem lI{α:Type}{I:α->Prop}{F:α->St}{lt:α->Prop}{k:Nat}(r:Rs (ny I F lt k Q .normal S)):ny I F lt k Q .normal S:=r.x
variable {n:Nat}
theorem lY{lp:Lp}{R:AV->List A3->Prop}{e:Exit}(r:Rs (o3 id n lp R e S)):o3 id n lp R e S:=r.x
variable {B C:Prop}
theorem NW{c:Operand}{x y:Code}{t:Bool}(_:No 1)(hc:CH S.env c=some (.d (.b t)))(r:Rs (Br t B C))(ht:t=true->Rs B->W P ro x S Q)(hf:t=false->Rs C->W P ro y S Q):W P ro (.cond c x y) S Q:=
 GL hc (fun h=>ht h ⟨r.x.t h⟩) (fun h=>hf h ⟨r.x.f h⟩)
variable {b:Bool}
theorem WU{d:Nat}(_:No 0)(hg:Z1 ops o=some d)(hb:get en d=some (.d (.b b)))(r:Rs (Br b B C))(ht:b=true->Rs B->Wl P ro ops i (o::rest) ⟨(d,.d (.b true))::en,hp,nt⟩ Q)(hf:b=false->Rs C->Wl P ro ops i (o::rest) ⟨(d,.d (.b false))::en,hp,nt⟩ Q):Wl P ro ops i (o::rest) ⟨en,hp,nt⟩ Q:=
 bF hg hb (fun h=>ht h ⟨r.x.t h⟩) (fun h=>hf h ⟨r.x.f h⟩)
theorem WV{d:Nat}(_:No 0)(hg:Z1 ops o=some d)(hb:get en d=some (.d (.b b)))(r:Rs (Br b B C))(ht:b=true->Rs B->Wd P ro E ops S0 A acc (o::rest) ⟨(d,.d (.b true))::en,hp,nt⟩)(hf:b=false->Rs C->Wd P ro E ops S0 A acc (o::rest) ⟨(d,.d (.b false))::en,hp,nt⟩):Wd P ro E ops S0 A acc (o::rest) ⟨en,hp,nt⟩:=
 bG hg hb (fun h=>ht h ⟨r.x.t h⟩) (fun h=>hf h ⟨r.x.f h⟩)
variable {live:List Nat}{e:List (Nat×AV)}
theorem XnL(_:Lv live)(h:EC live en=some e)(k:Q .normal ⟨e,hp,nt⟩):Wl P ro ops i [] ⟨en,hp,nt⟩ Q:=Xn live h k
variable {L:List Nat}{c:Bool}{x':AV}{H':List A3}
theorem Po(_:Lv L)(hE:BN P E){q:D}(u2:My o.dst L=true)(hg:A8 ops en o=some true)(h:MJ E en hp o.op=some (c,q))(hd:AE o.dst nt=true)(he:Aq o.dst x' en=some e)(hH:Fg hp (.a q)=some H')(k:Wl P ro ops (i+1) rest ⟨e,H',nt⟩ Q)(hc:c=true)(hx: .sl hp.length (AP q) (B9 q)=x':=by first|(simp only[Kp,Fo,Nat.reduceAdd,Int.reduceAdd,Int.reduceSub,Int.reduceMul,Int.reduceToNat,nS];rfl)|rfl):Wl P ro ops i (o::rest) ⟨en,hp,nt⟩ Q:=gI L hE u2 hg h hd he hH k hc hx
variable {x:AV}
theorem YI(_:Lv L)(u1:My o.dst L=true)(hg:A8 ops en o=some true)(h:MM en o.op=some (c,x))(hd:AE o.dst nt=true)(he:Aq o.dst x' en=some e)(k:Wl P ro ops (i+1) rest ⟨e,hp,nt⟩ Q)(hc:c=true)(hx:x=x':=by rfl):Wl P ro ops i (o::rest) ⟨en,hp,nt⟩ Q:=XwL L u1 hg h hd he k hc hx
variable {e0:List (Nat×AV)}
theorem Pq(_:Lv L)(hE:BN P E){q:D}(u2:My o.dst L=true)(hl:EC (looks ops o) en=some e0)(hg:A8 ops e0 o=some true)(h:MJ E e0 hp o.op=some (c,q))(hd:AE o.dst nt=true)(he:Aq o.dst x' en=some e)(hH:Fg hp (.a q)=some H')(hk:Wd P ro E ops S0 A (⟨e0,hp,x',.eff⟩::acc) rest ⟨e,H',nt⟩)(hc:c=true)(hx: .sl hp.length (AP q) (B9 q)=x':=by first|(simp only[Kp,Fo,Nat.reduceAdd,Int.reduceAdd,Int.reduceSub,Int.reduceMul,Int.reduceToNat,nS];rfl)|rfl):Wd P ro E ops S0 A acc (o::rest) ⟨en,hp,nt⟩:=YaoL L hE u2 hl hg h hd he hH hk hc hx
variable {l:List (Nat×Nat)}
theorem oU(_:Lv live)(_:nw l)(hm:P.follows .mixedOrders=true)(hE:BN P E)(hd:HA ops (acc.reverse.map Rc.k) l=true)(hx:CI E ops acc.reverse hp l)(he:EC live en=some e)(hQ:Q .normal ⟨e,hp,nt⟩):Wd P ro E ops S0 (W P ro (.region id ops true) S0 Q) acc [] ⟨en,hp,nt⟩:=Yn live l hm hE hd hx he hQ
theorem YnXL(_:nw l){i0:Nat}(hm:P.follows .mixedOrders=true)(hE:BN P E)(hp':J8 (acc.reverse.map Rc.k)=some (i0,ch))(hd:Gm ops (acc.reverse.map Rc.k) l=true)(hx:CI E ops acc.reverse hp l)(hQ:Q (.panic ch) ⟨[],hp,nt⟩):Wd P ro E ops S0 (W P ro (.region id ops true) S0 Q) acc [] ⟨en,hp,nt⟩:=YnX l hm hE hp' hd hx hQ
theorem oT(_:Lv live)(_:nw l)(hE:BN P E)(hd:HA ops (acc.reverse.map Rc.k) l=true)(hx:CI E ops acc.reverse hp l)(he:EC live en=some e)(hQ:Q .normal ⟨e,hp,nt⟩):Wd P ro E ops S0 (Hq P ro ops S0 (Qw Q)) acc [] ⟨en,hp,nt⟩:=Yn2 live l hE hd hx he hQ
variable {t:Nat}
theorem T3(_:No t){x:D}{sz:Nat}(u1:bY t o.op=true)(ht:get en t=some (.sl id n sz))(hid:hp[id]? =some (.a x))(hn:n=AP x)(k:Wl P ro ops i (o::rest) ⟨(t,.d x)::en,Cx id x 0 hp,nt⟩ Q):Wl P ro ops i (o::rest) ⟨en,hp,nt⟩ Q:=Xfz t u1 ht hid hn k
theorem oP(_:No t){x:D}{sz:Nat}(u1:VM t (mD o.op)=true)(ht:get en t=some (.sl id n sz))(hid:hp[id]? =some (.a x))(hn:n=AP x)(k:Wl P ro ops i (o::rest) ⟨(t,.d x)::en,Cx id x 0 hp,nt⟩ Q):Wl P ro ops i (o::rest) ⟨en,hp,nt⟩ Q:=Xfu t u1 ht hid hn k
theorem gG(_:No t){q:D}(_:Dd q)(hE:BN P E){f:Nat->AV}{b:A3}(u3:My o.dst [t]=true)(hg:A8 ops en o=some true)(h:aU E en hp o.op=some (c,f,b))(hb:b= .a q)(hd:AE o.dst nt=true)(he:Aq o.dst x' en=some e)(hH:Fg hp (.a q)=some H')(hx:f hp.length=x')(k:Wl P ro ops (i+1) rest ⟨e,H',nt⟩ Q)(hc:c=true):Wl P ro ops i (o::rest) ⟨en,hp,nt⟩ Q:=XaB t q hE u3 hg h hb hd he hH hx k hc
variable {H'':List A3}
theorem gJ(_:No 2)(hE:BN P E)(hg:A8 ops en o=some true)(h:TU E en hp o.op=some (c,H'))(hd:AE o.dst nt=true)(he:Aq o.dst .u en=some e)(k:Wl P ro ops (i+1) rest ⟨e,H'',nt⟩ Q)(hc:c=true)(hH:H'=H'':=by first|(simp only[nS];rfl)|rfl):Wl P ro ops i (o::rest) ⟨en,hp,nt⟩ Q:=Xsb hE hg h hd he k hc hH
theorem YJ(_:No 2)(hE:BN P E)(hl:EC (looks ops o) en=some e0)(hg:A8 ops e0 o=some true)(h:TU E e0 hp o.op=some (c,H'))(hd:AE o.dst nt=true)(he:Aq o.dst .u en=some e)(k:Wd P ro E ops S0 A (⟨e0,hp,.u,.eff⟩::acc) rest ⟨e,H'',nt⟩)(hc:c=true)(hH:H'=H'':=by first|(simp only[nS];rfl)|rfl):Wd P ro E ops S0 A acc (o::rest) ⟨en,hp,nt⟩:=Ysb hE hl hg h hd he k hc hH
theorem JO(_:Lv L)(u1:VM id L=false)(h:Wl P ro ops 0 ops.toList S Q):W P ro (.region id ops false) S Q:=YH L u1 h
theorem Ql(_:Lv L)(E:Nat->Option Ao)(u2:VM id L=false)(h:Wd P ro E ops S (W P ro (.region id ops true) S Q) [] ops.toList S):W P ro (.region id ops true) S Q:=ka L E u2 h
theorem Kx(_:No n){c:Code}(h:W P ro c S (o0 P ro c Q n)):W P ro (.loop c) S Q:=Wa n h
theorem Ky{c:Code}(_:No j)(h:W P ro c S (EA P ro c Q j)):W P ro (.scope c) S Q:=Qm j h
variable {g:Nat}{args:List AV}{H:List A3}{ids:List Nat}
theorem Pn{r r':AV}(hF:Ds ids (AY P g args H r H'))(hg:A8 ops en o=some true)(h:BE en o.op=some (g,AV.Cm (rn ids hp.length) args))(hd:AE o.dst nt=true)(hm:Ch (rn ids hp.length) hp ids H)(hn:nodupB ids=true)(ho:Ae H.length H=true)(ha:AV.oks H.length args=true)(he:Aq o.dst r' en=some e)(k:Wl P ro ops (i+1) rest ⟨e,H'',nt⟩ Q)(hr:r.ren (rn ids hp.length)=r':=by first|(simp only[Kp,Fo,Nat.reduceAdd,Int.reduceAdd,Int.reduceSub,Int.reduceMul,Int.reduceToNat,nS];rfl)|rfl)(hH:NH ids hp (Eu (rn ids hp.length) H')=H'':=by first|(simp only[Fo,Nat.reduceAdd];rfl)|rfl):Wl P ro ops i (o::rest) ⟨en,hp,nt⟩ Q:=XD ids hF hg h hd hm hn ho ha he k hr hH
theorem Pp{r r':AV}(hF:Ds ids (AY P g args H r H'))(hl:EC (looks ops o) en=some e0)(hg:A8 ops e0 o=some true)(h:BE e0 o.op=some (g,AV.Cm (rn ids hp.length) args))(hd:AE o.dst nt=true)(hm:Ch (rn ids hp.length) hp ids H)(hn:nodupB ids=true)(ho:Ae H.length H=true)(ha:AV.oks H.length args=true)(he:Aq o.dst r' en=some e)(hk:Wd P ro E ops S0 A (⟨e0,hp,r',.eff⟩::acc) rest ⟨e,H'',nt⟩)(hr:r.ren (rn ids hp.length)=r':=by first|(simp only[Kp,Fo,Nat.reduceAdd,Int.reduceAdd,Int.reduceSub,Int.reduceMul,Int.reduceToNat,nS];rfl)|rfl)(hH:NH ids hp (Eu (rn ids hp.length) H')=H'':=by first|(simp only[Fo,Nat.reduceAdd];rfl)|rfl):Wd P ro E ops S0 A acc (o::rest) ⟨en,hp,nt⟩:=YD ids hF hl hg h hd hm hn ho ha he hk hr hH
theorem nT(hF:Ds ids (KJ P g args H ch H'))(hg:A8 ops en o=some true)(h:BE en o.op=some (g,AV.Cm (rn ids hp.length) args))(hm:Ch (rn ids hp.length) hp ids H)(hn:nodupB ids=true)(ho:Ae H.length H=true)(ha:AV.oks H.length args=true)(k:Q (.panic ch) ⟨en,H'',nt⟩)(hH:NH ids hp (Eu (rn ids hp.length) H')=H'':=by first|(simp only[Fo,Nat.reduceAdd];rfl)|rfl):Wl P ro ops i (o::rest) ⟨en,hp,nt⟩ Q:=XX ids hF hg h hm hn ho ha k hH
theorem nV(hF:Ds ids (KJ P g args H ch H'))(hl:EC (looks ops o) en=some e0)(hg:A8 ops e0 o=some true)(h:BE e0 o.op=some (g,AV.Cm (rn ids hp.length) args))(hd:AE o.dst nt=true)(hm:Ch (rn ids hp.length) hp ids H)(hn:nodupB ids=true)(ho:Ae H.length H=true)(ha:AV.oks H.length args=true)(he:Aq o.dst .u en=some e)(hk:Wd P ro E ops S0 A (⟨e0,hp,.u,.pan ch⟩::acc) rest ⟨e,H'',nt⟩)(hH:NH ids hp (Eu (rn ids hp.length) H')=H'':=by first|(simp only[Fo,Nat.reduceAdd];rfl)|rfl):Wd P ro E ops S0 A acc (o::rest) ⟨en,hp,nt⟩:=YX ids hF hl hg h hd hm hn ho ha he hk hH
theorem oR{xs:List AV}{r0:Lp}{H1 H2:List A3}{e1 e2:List (Nat×AV)}(hT:b=true->YT P id xs hp fun r K=>r= .d (.b true)/\K=H1)(hF:b=false->YT P id xs hp fun r K=>r= .d (.b false)/\K=H2)(hg:A8 ops en o=some true)(h:F6 en o.op=some (id,xs))(hd:AE o.dst nt=true)(hlp:hp[id]? =some (.lp r0))(he1:Aq o.dst (.d (.b true)) en=some e1)(he2:Aq o.dst (.d (.b false)) en=some e2)(r:Rs (Br b B C))(k1:b=true->Rs B->Wl P ro ops (i+1) rest ⟨e1,H1,nt⟩ Q)(k2:b=false->Rs C->Wl P ro ops (i+1) rest ⟨e2,H2,nt⟩ Q):Wl P ro ops i (o::rest) ⟨en,hp,nt⟩ Q:=
 XyB b hT hF hg h hd hlp he1 he2 (fun h=>k1 h ⟨r.x.t h⟩) (fun h=>k2 h ⟨r.x.f h⟩)
def NO(n:Int):List Int->Bool
 |[]=>true
 |k::r=> !(n==k)&&NO n r
def Ol(kd:IntKind):List (D×AV)->Option (List Int)
 |[]=>some []
 |(.i k a,_)::r=>match decide (kd=k),Ol kd r with
  |true,some l=>some (a::l)
  |_,_=>none
 |_::_=>none
theorem QG{kd:IntKind}{n:Int}:∀{es:List (D×AV)}{ks:List Int},Ol kd es=some ks->NO n ks=true->N7 (.i kd n) es=some none
 |[],ks,h,hk=>rfl
 |(.i k a,v)::r,ks,h,hk=>by
  simp only[Ol]at h;split at h
  .rename_i l h1 h2;cases h;simp only[NO,qH,uG]at hk;have e:=of_decide_eq_true h1;simp only[N7,sameD,if_pos e,hk.1];exact QG h2 hk.2
  .cases h
 |(.b _,_)::_,_,h,_|(.s _,_)::_,_,h,_|(.f _ _,_)::_,_,h,_|(.agg _,_)::_,_,h,_|(.tup _,_)::_,_,h,_|(.by _,_)::_,_,h,_|(.is _,_)::_,_,h,_|(.sl _ _,_)::_,_,h,_|(.np,_)::_,_,h,_|(.nf,_)::_,_,h,_|(.ni,_)::_,_,h,_|(.nm,_)::_,_,h,_|(.ifc _ _,_)::_,_,h,_=>by simp[Ol]at h
def Wz(E:Nat->Option Ao)(env:List (Nat×AV))(H:List A3):Op->Option (Int×List Int×Bool×AV)
 | .lookup t m k ok=>match CH env m,CH env k with
  |some (.mp id),some (.d (.i kd n))=>match H[id]?,E t with
   |some (.m es),some y=>match y.k with
    | .mp kt et=>match E kt,E et,Ol kd es with
     |some yk,some _,some ks=>some (n,ks,MS yk.k,if ok then .tup [.u,.d (.b false)]else .u)
     |_,_,_=>none
    |_=>none
   |_,_=>none
  |_,_=>none
 |_=>none
variable {ks:List Int}
theorem X0{env:List (Nat×AV)}{op:Op}{n:Int}(h:Wz E env H op=some (n,ks,c,x))(hk:NO n ks=true):Hu E env H op=some (c,x):=by
 unfold Wz at h;split at h
 .split at h
  .rename_i id kd n' hm hn;split at h
   .rename_i es y hes hy;split at h
    .rename_i kt et hyk;split at h
     .rename_i yk ye ks' h1 h2 h3;simp only[qI,qR]at h;obtain⟨rfl,rfl,rfl,rfl⟩:=h;simp only[Hu,hm,hn,RB,hes,hy,hyk,h1,h2,QG h3 hk]
     .cases h
    .cases h
   .cases h
  .cases h
 .cases h
theorem oQ{n:Int}(hk:NO n ks=true)(hE:BN P E)(hg:A8 ops en o=some true)(h:Wz E en hp o.op=some (n,ks,c,x))(hd:AE o.dst nt=true)(he:Aq o.dst x' en=some e)(k:Wl P ro ops (i+1) rest ⟨e,hp,nt⟩ Q)(hc:c=true)(hx:x=x':=by rfl):Wl P ro ops i (o::rest) ⟨en,hp,nt⟩ Q:=Xq hE hg (X0 h hk) hd he k hc hx
theorem oS{n:Int}(hk:NO n ks=true)(hl:EC (looks ops o) en=some e0)(hg:A8 ops e0 o=some true)(h:Wz E e0 hp o.op=some (n,ks,c,x))(hd:AE o.dst nt=true)(he:Aq o.dst x' en=some e)(hk':Wd P ro E ops S0 A (⟨e0,hp,x',.quiet⟩::acc) rest ⟨e,hp,nt⟩)(hc:c=true)(hx:x=x':=by rfl):Wd P ro E ops S0 A acc (o::rest) ⟨en,hp,nt⟩:=Yq hl hg (X0 h hk) hd he hk' hc hx
end
structure QE:Prop
theorem A0:QE:=⟨⟩
inductive Sb:Bool->Prop where
 |f:Sb false
 |t:Sb true
theorem sbA(b:Bool):Sb b:=by cases b<;>constructor
theorem pW(_:Sb true):No 3:=trivial
variable {a0:Prop}
theorem A6(x0:a0):a0/\QE:=⟨x0,A0⟩
variable {a1:Prop}
theorem AX(x0:a0)(x1:a1):a0/\a1/\QE:=⟨x0,x1,A0⟩
variable {a2:Prop}
theorem C3(x0:a0)(x1:a1)(x2:a2):a0/\a1/\a2/\QE:=⟨x0,x1,x2,A0⟩
variable {a3:Prop}
theorem Kl(x0:a0)(x1:a1)(x2:a2)(x3:a3):a0/\a1/\a2/\a3/\QE:=⟨x0,x1,x2,x3,A0⟩
variable {a4:Prop}
theorem NU(x0:a0)(x1:a1)(x2:a2)(x3:a3)(x4:a4):a0/\a1/\a2/\a3/\a4/\QE:=⟨x0,x1,x2,x3,x4,A0⟩
variable {a5:Prop}
theorem zq6(x0:a0)(x1:a1)(x2:a2)(x3:a3)(x4:a4)(x5:a5):a0/\a1/\a2/\a3/\a4/\a5/\QE:=⟨x0,x1,x2,x3,x4,x5,A0⟩
variable {a6:Prop}
theorem zq7(x0:a0)(x1:a1)(x2:a2)(x3:a3)(x4:a4)(x5:a5)(x6:a6):a0/\a1/\a2/\a3/\a4/\a5/\a6/\QE:=⟨x0,x1,x2,x3,x4,x5,x6,A0⟩
theorem zq8{a7:Prop}(x0:a0)(x1:a1)(x2:a2)(x3:a3)(x4:a4)(x5:a5)(x6:a6)(x7:a7):a0/\a1/\a2/\a3/\a4/\a5/\a6/\a7/\QE:=⟨x0,x1,x2,x3,x4,x5,x6,x7,A0⟩
theorem zq9{a7 a8:Prop}(x0:a0)(x1:a1)(x2:a2)(x3:a3)(x4:a4)(x5:a5)(x6:a6)(x7:a7)(x8:a8):a0/\a1/\a2/\a3/\a4/\a5/\a6/\a7/\a8/\QE:=⟨x0,x1,x2,x3,x4,x5,x6,x7,x8,A0⟩
set_option maxRecDepth 100000 in
theorem wd{g q:Prop}(L K:List Nat)(a:p)(b:q)(r:R)(M:List (Nat×Nat):=[])(Z:Bool:=false)(h:Lv L->Lv K->nw M->No 0->No 1->Sb Z->p->q->Rs R->g:=by intro lv st pr ns nc sc nS zq r;(first|(have:QE:=zq)|obtain⟨c1,_⟩:_/\QE:=zq|obtain⟨c1,c2,_⟩:_/\_/\QE:=zq|obtain⟨c1,c2,c3,_⟩:_/\_/\_/\QE:=zq|obtain⟨c1,c2,c3,c4,_⟩:_/\_/\_/\_/\QE:=zq|obtain⟨c1,c2,c3,c4,c5,_⟩:_/\_/\_/\_/\_/\QE:=zq|obtain⟨c1,c2,c3,c4,c5,c6,_⟩:_/\_/\_/\_/\_/\_/\QE:=zq|obtain⟨c1,c2,c3,c4,c5,c6,c7,_⟩:_/\_/\_/\_/\_/\_/\_/\QE:=zq|obtain⟨c1,c2,c3,c4,c5,c6,c7,c8,_⟩:_/\_/\_/\_/\_/\_/\_/\_/\QE:=zq|obtain⟨c1,c2,c3,c4,c5,c6,c7,c8,c9,_⟩:_/\_/\_/\_/\_/\_/\_/\_/\_/\QE:=zq|obtain⟨c1,c2,c3,c4,c5,c6,c7,c8,c9,c10,_⟩:_/\_/\_/\_/\_/\_/\_/\_/\_/\_/\QE:=zq|obtain⟨c1,c2,c3,c4,c5,c6,c7,c8,c9,c10,c11,_⟩:_/\_/\_/\_/\_/\_/\_/\_/\_/\_/\_/\QE:=zq|obtain⟨c1,c2,c3,c4,c5,c6,c7,c8,c9,c10,c11,c12,_⟩:_/\_/\_/\_/\_/\_/\_/\_/\_/\_/\_/\_/\QE:=zq|obtain⟨c1,c2,c3,c4,c5,c6,c7,c8,c9,c10,c11,c12,c13,_⟩:_/\_/\_/\_/\_/\_/\_/\_/\_/\_/\_/\_/\_/\QE:=zq|obtain⟨c1,c2,c3,c4,c5,c6,c7,c8,c9,c10,c11,c12,c13,c14,_⟩:_/\_/\_/\_/\_/\_/\_/\_/\_/\_/\_/\_/\_/\_/\QE:=zq|obtain⟨c1,c2,c3,c4,c5,c6,c7,c8,c9,c10,c11,c12,c13,c14,c15,_⟩:_/\_/\_/\_/\_/\_/\_/\_/\_/\_/\_/\_/\_/\_/\_/\QE:=zq|obtain⟨c1,c2,c3,c4,c5,c6,c7,c8,c9,c10,c11,c12,c13,c14,c15,c16,_⟩:_/\_/\_/\_/\_/\_/\_/\_/\_/\_/\_/\_/\_/\_/\_/\_/\QE:=zq);(repeat'(first|((with_reducible refine fa ?_);first|((with_reducible refine gNil ?_);first|refine XnL lv rfl ?_|refine Qq ?_)|(refine jf rfl ?_;refine XsN rfl rfl ?_)|(refine F3 rfl ?_;refine fY A4 rfl rfl rfl rfl ?_)|(refine L0 1 rfl ?_;first|refine jg A4 rfl rfl rfl rfl rfl (sJ _) (DT ix1) ?_|refine jg A4 rfl rfl rfl rfl rfl (sJ _) (DT ix2) ?_|refine jg A4 rfl rfl rfl rfl rfl (sJ _) (DT ix3) ?_|refine jg A4 rfl rfl rfl rfl rfl (sJ _) (DT ix4) ?_)|((first|(refine L0 1 rfl ?_;first|refine YI wr rfl rfl rfl rfl rfl ?_ ?_|refine Xq A4 rfl rfl rfl rfl ?_ ?_)|(refine L0 2 rfl ?_;first|refine oQ lk1 A4 rfl rfl rfl rfl ?_ ?_|refine YI wr rfl rfl rfl rfl rfl ?_ ?_|refine Xq A4 rfl rfl rfl rfl ?_ ?_)|(refine L0 4 rfl ?_;first|refine Po ow A4 rfl rfl rfl rfl rfl rfl ?_ ?_|refine gG k1 k2 A4 rfl rfl rfl (by first|rfl|simp[H0]) rfl rfl rfl rfl ?_ ?_|refine Xa A4 rfl rfl rfl rfl rfl ?_ ?_|refine Xq A4 rfl rfl rfl rfl ?_ ?_|refine Xbs A4 rfl rfl rfl rfl rfl rfl ?_ ?_)|(refine L0 5 rfl ?_;first|refine Xw A4 rfl rfl rfl rfl ?_ ?_|refine gJ sb A4 rfl rfl rfl rfl ?_ ?_)|(refine L0 6 rfl ?_;first|refine Po ow A4 rfl rfl rfl rfl rfl rfl ?_ ?_|refine Xq A4 rfl rfl rfl rfl ?_ ?_|refine Xw A4 rfl rfl rfl rfl ?_ ?_|refine Xa A4 rfl rfl rfl rfl rfl ?_ ?_));rotate_left;focus((repeat'(first|with_reducible rfl|((with_reducible refine NJ ?_);first|kernel_rfl|rfl|(simp[Er,HV,nS];done))|with_reducible refine Ip ?_ ?_|with_reducible exact tq _|with_reducible exact Cd _|((with_reducible refine qM ?_);first|omega|(simp only[If,nS];omega))|decide|(simp[If,slc,Bw,D.one,Dt,AV.one,nS];done)|(simp[If,nS];omega)));done))|(refine L0 3 rfl ?_;first|refine T3 fz1 rfl rfl rfl (by first|rfl|simp[AP]) ?_|refine T3 fz2 rfl rfl rfl (by first|rfl|simp[AP]) ?_|refine T3 fz3 rfl rfl rfl (by first|rfl|simp[AP]) ?_|refine T3 fz4 rfl rfl rfl (by first|rfl|simp[AP]) ?_|refine XF (c1 ..) rfl rfl rfl rfl ?_|refine XF (c2 ..) rfl rfl rfl rfl ?_|refine XF (c3 ..) rfl rfl rfl rfl ?_|refine XF (c4 ..) rfl rfl rfl rfl ?_|refine XF (c5 ..) rfl rfl rfl rfl ?_|refine XF (c6 ..) rfl rfl rfl rfl ?_|refine XF (c7 ..) rfl rfl rfl rfl ?_|refine XF (c8 ..) rfl rfl rfl rfl ?_|refine XF (c9 ..) rfl rfl rfl rfl ?_|refine XF (c10 ..) rfl rfl rfl rfl ?_|refine XF (c11 ..) rfl rfl rfl rfl ?_|refine XF (c12 ..) rfl rfl rfl rfl ?_|refine XF (c13 ..) rfl rfl rfl rfl ?_|refine XF (c14 ..) rfl rfl rfl rfl ?_|refine XF (c15 ..) rfl rfl rfl rfl ?_|refine XF (c16 ..) rfl rfl rfl rfl ?_|(refine nR (z1 ..) rfl rfl rfl rfl ?_ ?_;(first|(simp[Ig,CN,Bb,Aj,AP,AF];done)|(repeat'(first|rfl|trivial|refine⟨rfl,rfl,by simp[AF]⟩|refine⟨_,_,rfl,?_,?_⟩|refine⟨_,rfl,?_⟩))))|(refine nR (z2 ..) rfl rfl rfl rfl ?_ ?_;(first|(simp[Ig,CN,Bb,Aj,AP,AF];done)|(repeat'(first|rfl|trivial|refine⟨rfl,rfl,by simp[AF]⟩|refine⟨_,_,rfl,?_,?_⟩|refine⟨_,rfl,?_⟩))))|(refine nR (z3 ..) rfl rfl rfl rfl ?_ ?_;(first|(simp[Ig,CN,Bb,Aj,AP,AF];done)|(repeat'(first|rfl|trivial|refine⟨rfl,rfl,by simp[AF]⟩|refine⟨_,_,rfl,?_,?_⟩|refine⟨_,rfl,?_⟩))))|(refine Pn (d1 ..) rfl rfl rfl ?_ rfl rfl rfl rfl ?_;(focus((repeat(first|exact trivial|refine⟨rfl,?_⟩));done)))|(refine Pn (d2 ..) rfl rfl rfl ?_ rfl rfl rfl rfl ?_;(focus((repeat(first|exact trivial|refine⟨rfl,?_⟩));done)))|(refine Pn (d3 ..) rfl rfl rfl ?_ rfl rfl rfl rfl ?_;(focus((repeat(first|exact trivial|refine⟨rfl,?_⟩));done)))|(refine Pn (d4 ..) rfl rfl rfl ?_ rfl rfl rfl rfl ?_;(focus((repeat(first|exact trivial|refine⟨rfl,?_⟩));done)))|(refine Pn (d5 ..) rfl rfl rfl ?_ rfl rfl rfl rfl ?_;(focus((repeat(first|exact trivial|refine⟨rfl,?_⟩));done)))|(refine Pn (d6 ..) rfl rfl rfl ?_ rfl rfl rfl rfl ?_;(focus((repeat(first|exact trivial|refine⟨rfl,?_⟩));done)))|(refine Pn (d7 ..) rfl rfl rfl ?_ rfl rfl rfl rfl ?_;(focus((repeat(first|exact trivial|refine⟨rfl,?_⟩));done)))|(refine Pn (d8 ..) rfl rfl rfl ?_ rfl rfl rfl rfl ?_;(focus((repeat(first|exact trivial|refine⟨rfl,?_⟩));done)))|(refine Pn (d9 ..) rfl rfl rfl ?_ rfl rfl rfl rfl ?_;(focus((repeat(first|exact trivial|refine⟨rfl,?_⟩));done)))|(refine Pn (d10 ..) rfl rfl rfl ?_ rfl rfl rfl rfl ?_;(focus((repeat(first|exact trivial|refine⟨rfl,?_⟩));done)))|refine Xy q1 rfl rfl rfl rfl rfl ?_|refine Xy (q1 _) rfl rfl rfl rfl rfl ?_|refine Xy (q1 _ _) rfl rfl rfl rfl rfl ?_|(refine' oR (g1T _) (g1F _) rfl rfl rfl rfl rfl rfl r (fun hc s=> ?_) (fun hc s=> ?_);(all_goals(first|guard_target=Prop|(clear r;have r:=s;clear s;(try simp only[AB]at hc);(try(exfalso;omega)))))))|refine oP fu1 rfl rfl rfl (by first|rfl|simp[AP]) ?_|(refine' WU ns rfl rfl r (fun hc s=> ?_) (fun hc s=> ?_);(all_goals(first|guard_target=Prop|(clear r;have r:=s;clear s;(fail_if_success (with_reducible first|exact tF hc|exact fT hc));(try simp only[AB]at hc);(try(exfalso;omega))))))|(refine' pX r (fun hs s=> ?_);rotate_left 2;clear r;have r:=s;clear s;first|refine Po ow A4 rfl rfl rfl rfl rfl rfl ?_ hs|refine gG k1 k2 A4 rfl rfl rfl (by first|rfl|simp[H0]) rfl rfl rfl rfl ?_ hs|refine Xa A4 rfl rfl rfl rfl rfl ?_ hs|refine YI wr rfl rfl rfl rfl rfl ?_ hs|refine Xq A4 rfl rfl rfl rfl ?_ hs|refine Xw A4 rfl rfl rfl rfl ?_ hs|refine gJ sb A4 rfl rfl rfl rfl ?_ hs))|((with_reducible refine gWd ?_);first|((with_reducible refine jt ?_);first|(refine oU lv pr mixed A4 (by kernel_rfl) ?_ rfl ?_;focus(simp only[CI];repeat'(first|exact tZ|refine qQ ?_ ?_|exact⟨_,rfl,rfl⟩|rfl)))|(refine oT lv pr A4 (by kernel_rfl) ?_ rfl ?_;focus(simp only[CI];repeat'(first|exact tZ|refine qQ ?_ ?_|exact⟨_,rfl,rfl⟩|rfl))))|(refine je rfl ?_;refine Ys rfl rfl rfl rfl ?_)|(refine Qo rfl ?_;refine Ymv A4 rfl rfl (fun _=>rfl) rfl rfl ?_)|(refine Kz 1 rfl ?_;first|refine ji A4 rfl rfl (fun _=>rfl) rfl rfl rfl (sJ _) (DT ix1) ?_|refine ji A4 rfl rfl (fun _=>rfl) rfl rfl rfl (sJ _) (DT ix2) ?_|refine ji A4 rfl rfl (fun _=>rfl) rfl rfl rfl (sJ _) (DT ix3) ?_|refine ji A4 rfl rfl (fun _=>rfl) rfl rfl rfl (sJ _) (DT ix4) ?_)|((first|(refine Kz 1 rfl ?_;first|refine Yp A4 rfl rfl (fun _=>rfl) rfl rfl ?_ ?_|refine Yq rfl rfl rfl rfl rfl ?_ ?_)|(refine Kz 2 rfl ?_;first|refine oS lk1 rfl rfl rfl rfl rfl ?_ ?_|refine Yp A4 rfl rfl (fun _=>rfl) rfl rfl ?_ ?_|refine Yq rfl rfl rfl rfl rfl ?_ ?_)|(refine Kz 4 rfl ?_;first|refine Pq ow A4 rfl rfl rfl rfl rfl rfl rfl ?_ ?_|refine Ya A4 rfl rfl rfl rfl rfl rfl ?_ ?_|refine Yp A4 rfl rfl (fun _=>rfl) rfl rfl ?_ ?_|refine Yq rfl rfl rfl rfl rfl ?_ ?_)|(refine Kz 5 rfl ?_;first|refine Yw A4 rfl rfl rfl rfl rfl ?_ ?_|refine YJ sb A4 rfl rfl rfl rfl rfl ?_ ?_)|(refine Kz 6 rfl ?_;first|refine Pq ow A4 rfl rfl rfl rfl rfl rfl rfl ?_ ?_|refine Yp A4 rfl rfl (fun _=>rfl) rfl rfl ?_ ?_|refine Yq rfl rfl rfl rfl rfl ?_ ?_|refine Yw A4 rfl rfl rfl rfl rfl ?_ ?_|refine YJ sb A4 rfl rfl rfl rfl rfl ?_ ?_|refine Ya A4 rfl rfl rfl rfl rfl rfl ?_ ?_));rotate_left;focus((repeat'(first|with_reducible rfl|((with_reducible refine NJ ?_);first|kernel_rfl|rfl|(simp[Er,HV,nS];done))|with_reducible refine Ip ?_ ?_|with_reducible exact tq _|with_reducible exact Cd _|((with_reducible refine qM ?_);first|omega|(simp only[If,nS];omega))|decide|(simp[If,slc,Bw,D.one,Dt,AV.one,nS];done)|(simp[If,nS];omega)));done))|(refine Kz 3 rfl ?_;first|refine YF (c1 ..) rfl rfl rfl rfl rfl ?_|refine YF (c2 ..) rfl rfl rfl rfl rfl ?_|refine YF (c3 ..) rfl rfl rfl rfl rfl ?_|refine YF (c4 ..) rfl rfl rfl rfl rfl ?_|refine YF (c5 ..) rfl rfl rfl rfl rfl ?_|refine YF (c6 ..) rfl rfl rfl rfl rfl ?_|refine YF (c7 ..) rfl rfl rfl rfl rfl ?_|refine YF (c8 ..) rfl rfl rfl rfl rfl ?_|refine YF (c9 ..) rfl rfl rfl rfl rfl ?_|refine YF (c10 ..) rfl rfl rfl rfl rfl ?_|refine YF (c11 ..) rfl rfl rfl rfl rfl ?_|refine YF (c12 ..) rfl rfl rfl rfl rfl ?_|refine YF (c13 ..) rfl rfl rfl rfl rfl ?_|refine YF (c14 ..) rfl rfl rfl rfl rfl ?_|refine YF (c15 ..) rfl rfl rfl rfl rfl ?_|refine YF (c16 ..) rfl rfl rfl rfl rfl ?_|(refine nU (z1 ..) rfl rfl rfl rfl rfl ?_ ?_;(first|(simp[Ig,CN,Bb,Aj,AP,AF];done)|(repeat'(first|rfl|trivial|refine⟨rfl,rfl,by simp[AF]⟩|refine⟨_,_,rfl,?_,?_⟩|refine⟨_,rfl,?_⟩))))|(refine nU (z2 ..) rfl rfl rfl rfl rfl ?_ ?_;(first|(simp[Ig,CN,Bb,Aj,AP,AF];done)|(repeat'(first|rfl|trivial|refine⟨rfl,rfl,by simp[AF]⟩|refine⟨_,_,rfl,?_,?_⟩|refine⟨_,rfl,?_⟩))))|(refine nU (z3 ..) rfl rfl rfl rfl rfl ?_ ?_;(first|(simp[Ig,CN,Bb,Aj,AP,AF];done)|(repeat'(first|rfl|trivial|refine⟨rfl,rfl,by simp[AF]⟩|refine⟨_,_,rfl,?_,?_⟩|refine⟨_,rfl,?_⟩))))|(refine Pp (d1 ..) rfl rfl rfl rfl ?_ rfl rfl rfl rfl ?_;(focus((repeat(first|exact trivial|refine⟨rfl,?_⟩));done)))|(refine Pp (d2 ..) rfl rfl rfl rfl ?_ rfl rfl rfl rfl ?_;(focus((repeat(first|exact trivial|refine⟨rfl,?_⟩));done)))|(refine Pp (d3 ..) rfl rfl rfl rfl ?_ rfl rfl rfl rfl ?_;(focus((repeat(first|exact trivial|refine⟨rfl,?_⟩));done)))|(refine Pp (d4 ..) rfl rfl rfl rfl ?_ rfl rfl rfl rfl ?_;(focus((repeat(first|exact trivial|refine⟨rfl,?_⟩));done)))|(refine Pp (d5 ..) rfl rfl rfl rfl ?_ rfl rfl rfl rfl ?_;(focus((repeat(first|exact trivial|refine⟨rfl,?_⟩));done)))|(refine Pp (d6 ..) rfl rfl rfl rfl ?_ rfl rfl rfl rfl ?_;(focus((repeat(first|exact trivial|refine⟨rfl,?_⟩));done)))|(refine Pp (d7 ..) rfl rfl rfl rfl ?_ rfl rfl rfl rfl ?_;(focus((repeat(first|exact trivial|refine⟨rfl,?_⟩));done)))|(refine Pp (d8 ..) rfl rfl rfl rfl ?_ rfl rfl rfl rfl ?_;(focus((repeat(first|exact trivial|refine⟨rfl,?_⟩));done)))|(refine Pp (d9 ..) rfl rfl rfl rfl ?_ rfl rfl rfl rfl ?_;(focus((repeat(first|exact trivial|refine⟨rfl,?_⟩));done)))|(refine Pp (d10 ..) rfl rfl rfl rfl ?_ rfl rfl rfl rfl ?_;(focus((repeat(first|exact trivial|refine⟨rfl,?_⟩));done))))|(refine' WV ns rfl rfl r (fun hc s=> ?_) (fun hc s=> ?_);(all_goals(first|guard_target=Prop|(clear r;have r:=s;clear s;(fail_if_success (with_reducible first|exact tF hc|exact fT hc));(try simp only[AB]at hc);(try(exfalso;omega))))))|(refine' pX r (fun hs s=> ?_);rotate_left 2;clear r;have r:=s;clear s;first|refine Pq ow A4 rfl rfl rfl rfl rfl rfl rfl ?_ hs|refine Ya A4 rfl rfl rfl rfl rfl rfl ?_ hs|refine Yp A4 rfl rfl (fun _=>rfl) rfl rfl ?_ hs|refine Yq rfl rfl rfl rfl rfl ?_ hs|refine Yw A4 rfl rfl rfl rfl rfl ?_ hs|refine YJ sb A4 rfl rfl rfl rfl rfl ?_ hs))|((with_reducible refine gW ?_);first|with_reducible refine HO ?_|((with_reducible refine oi ?_);refine JO st rfl ?_)|((with_reducible refine oh ?_);refine Ql st T.get rfl ?_)|((with_reducible refine js ?_);first|refine Cc rfl ?_|refine Cb rfl ?_|(refine' NW nc rfl r (fun hc s=> ?_) (fun hc s=> ?_);(all_goals(first|guard_target=Prop|(clear r;have r:=s;clear s;(try simp only[AB]at hc);(try(exfalso;omega)))))))|with_reducible refine Eo ?_|with_reducible refine HN ?_|with_reducible refine De ?_|with_reducible refine En ?_|with_reducible refine ME ?_|with_reducible refine JN ?_|with_reducible refine Kx un ?_|with_reducible refine Ky (pW sc) ?_)|(with_reducible first|refine qT ?_|refine qTr ?_|refine qTe ?_|refine qTg ?_|refine qTp ?_|refine qBn ?_|refine qBr ?_|refine qBg ?_|refine qBp ?_|refine qSn ?_|refine qSr ?_|refine qSe ?_|exact lQ r|exact lI r|exact lY r)|refine qSg rfl ?_|(first|refine HO ?_|refine JO st rfl ?_|refine Ql st T.get rfl ?_|refine Cc rfl ?_|refine Cb rfl ?_|refine Eo ?_|refine HN ?_|refine De ?_|refine En ?_|refine ME ?_|refine JN ?_|refine Kx un ?_|refine Ky (pW sc) ?_|(refine' NW nc rfl r (fun hc s=> ?_) (fun hc s=> ?_);(all_goals(first|guard_target=Prop|(clear r;have r:=s;clear s;(try simp only[AB]at hc);(try(exfalso;omega)))))))|exact r.x));all_goals exact True):g:=h trivial trivial trivial trivial trivial (sbA Z) a b ⟨r⟩
set_option maxRecDepth 100000 in
theorem wx{g q:Prop}(L K:List Nat)(a:p)(b:q)(r:R)(M:List (Nat×Nat):=[])(Z:Bool:=false)(h:Lv L->Lv K->nw M->No 0->No 1->Sb Z->p->q->Rs R->g:=by intro lv st pr ns nc sc nS zq r;(first|(have:QE:=zq)|obtain⟨c1,_⟩:_/\QE:=zq|obtain⟨c1,c2,_⟩:_/\_/\QE:=zq|obtain⟨c1,c2,c3,_⟩:_/\_/\_/\QE:=zq|obtain⟨c1,c2,c3,c4,_⟩:_/\_/\_/\_/\QE:=zq|obtain⟨c1,c2,c3,c4,c5,_⟩:_/\_/\_/\_/\_/\QE:=zq|obtain⟨c1,c2,c3,c4,c5,c6,_⟩:_/\_/\_/\_/\_/\_/\QE:=zq|obtain⟨c1,c2,c3,c4,c5,c6,c7,_⟩:_/\_/\_/\_/\_/\_/\_/\QE:=zq|obtain⟨c1,c2,c3,c4,c5,c6,c7,c8,_⟩:_/\_/\_/\_/\_/\_/\_/\_/\QE:=zq|obtain⟨c1,c2,c3,c4,c5,c6,c7,c8,c9,_⟩:_/\_/\_/\_/\_/\_/\_/\_/\_/\QE:=zq|obtain⟨c1,c2,c3,c4,c5,c6,c7,c8,c9,c10,_⟩:_/\_/\_/\_/\_/\_/\_/\_/\_/\_/\QE:=zq|obtain⟨c1,c2,c3,c4,c5,c6,c7,c8,c9,c10,c11,_⟩:_/\_/\_/\_/\_/\_/\_/\_/\_/\_/\_/\QE:=zq|obtain⟨c1,c2,c3,c4,c5,c6,c7,c8,c9,c10,c11,c12,_⟩:_/\_/\_/\_/\_/\_/\_/\_/\_/\_/\_/\_/\QE:=zq|obtain⟨c1,c2,c3,c4,c5,c6,c7,c8,c9,c10,c11,c12,c13,_⟩:_/\_/\_/\_/\_/\_/\_/\_/\_/\_/\_/\_/\_/\QE:=zq|obtain⟨c1,c2,c3,c4,c5,c6,c7,c8,c9,c10,c11,c12,c13,c14,_⟩:_/\_/\_/\_/\_/\_/\_/\_/\_/\_/\_/\_/\_/\_/\QE:=zq|obtain⟨c1,c2,c3,c4,c5,c6,c7,c8,c9,c10,c11,c12,c13,c14,c15,_⟩:_/\_/\_/\_/\_/\_/\_/\_/\_/\_/\_/\_/\_/\_/\_/\QE:=zq|obtain⟨c1,c2,c3,c4,c5,c6,c7,c8,c9,c10,c11,c12,c13,c14,c15,c16,_⟩:_/\_/\_/\_/\_/\_/\_/\_/\_/\_/\_/\_/\_/\_/\_/\_/\QE:=zq);(repeat'(first|((with_reducible refine fa ?_);first|((with_reducible refine gNil ?_);first|refine XnL lv rfl ?_|refine Qq ?_)|(refine jf rfl ?_;refine XsN rfl rfl ?_)|(refine F3 rfl ?_;refine fY A4 rfl rfl rfl rfl ?_)|(refine L0 1 rfl ?_;first|refine jg A4 rfl rfl rfl rfl rfl (sJ _) (DT ix1) ?_|refine jg A4 rfl rfl rfl rfl rfl (sJ _) (DT ix2) ?_|refine jg A4 rfl rfl rfl rfl rfl (sJ _) (DT ix3) ?_|refine jg A4 rfl rfl rfl rfl rfl (sJ _) (DT ix4) ?_)|((first|(refine L0 1 rfl ?_;first|refine YI wr rfl rfl rfl rfl rfl ?_ ?_|refine Xq A4 rfl rfl rfl rfl ?_ ?_)|(refine L0 2 rfl ?_;first|refine oQ lk1 A4 rfl rfl rfl rfl ?_ ?_|refine YI wr rfl rfl rfl rfl rfl ?_ ?_|refine Xq A4 rfl rfl rfl rfl ?_ ?_)|(refine L0 4 rfl ?_;first|refine Po ow A4 rfl rfl rfl rfl rfl rfl ?_ ?_|refine gG k1 k2 A4 rfl rfl rfl (by first|rfl|simp[H0]) rfl rfl rfl rfl ?_ ?_|refine Xa A4 rfl rfl rfl rfl rfl ?_ ?_|refine Xq A4 rfl rfl rfl rfl ?_ ?_|refine Xbs A4 rfl rfl rfl rfl rfl rfl ?_ ?_)|(refine L0 5 rfl ?_;first|refine Xw A4 rfl rfl rfl rfl ?_ ?_|refine gJ sb A4 rfl rfl rfl rfl ?_ ?_)|(refine L0 6 rfl ?_;first|refine Po ow A4 rfl rfl rfl rfl rfl rfl ?_ ?_|refine Xq A4 rfl rfl rfl rfl ?_ ?_|refine Xw A4 rfl rfl rfl rfl ?_ ?_|refine Xa A4 rfl rfl rfl rfl rfl ?_ ?_));rotate_left;focus((repeat'(first|with_reducible rfl|((with_reducible refine NJ ?_);first|kernel_rfl|rfl|(simp[Er,HV,nS];done))|with_reducible refine Ip ?_ ?_|with_reducible exact tq _|with_reducible exact Cd _|((with_reducible refine qM ?_);first|omega|(simp only[If,nS];omega))|decide|(simp[If,slc,Bw,D.one,Dt,AV.one,nS];done)|(simp[If,nS];omega)));done))|(refine L0 3 rfl ?_;first|refine T3 fz1 rfl rfl rfl (by first|rfl|simp[AP]) ?_|refine T3 fz2 rfl rfl rfl (by first|rfl|simp[AP]) ?_|refine T3 fz3 rfl rfl rfl (by first|rfl|simp[AP]) ?_|refine T3 fz4 rfl rfl rfl (by first|rfl|simp[AP]) ?_|refine XF (c1 ..) rfl rfl rfl rfl ?_|refine XF (c2 ..) rfl rfl rfl rfl ?_|refine XF (c3 ..) rfl rfl rfl rfl ?_|refine XF (c4 ..) rfl rfl rfl rfl ?_|refine XF (c5 ..) rfl rfl rfl rfl ?_|refine XF (c6 ..) rfl rfl rfl rfl ?_|refine XF (c7 ..) rfl rfl rfl rfl ?_|refine XF (c8 ..) rfl rfl rfl rfl ?_|refine XF (c9 ..) rfl rfl rfl rfl ?_|refine XF (c10 ..) rfl rfl rfl rfl ?_|refine XF (c11 ..) rfl rfl rfl rfl ?_|refine XF (c12 ..) rfl rfl rfl rfl ?_|refine XF (c13 ..) rfl rfl rfl rfl ?_|refine XF (c14 ..) rfl rfl rfl rfl ?_|refine XF (c15 ..) rfl rfl rfl rfl ?_|refine XF (c16 ..) rfl rfl rfl rfl ?_|(refine nR (z1 ..) rfl rfl rfl rfl ?_ ?_;(first|(simp[Ig,CN,Bb,Aj,AP,AF];done)|(repeat'(first|rfl|trivial|refine⟨rfl,rfl,by simp[AF]⟩|refine⟨_,_,rfl,?_,?_⟩|refine⟨_,rfl,?_⟩))))|(refine nR (z2 ..) rfl rfl rfl rfl ?_ ?_;(first|(simp[Ig,CN,Bb,Aj,AP,AF];done)|(repeat'(first|rfl|trivial|refine⟨rfl,rfl,by simp[AF]⟩|refine⟨_,_,rfl,?_,?_⟩|refine⟨_,rfl,?_⟩))))|(refine nR (z3 ..) rfl rfl rfl rfl ?_ ?_;(first|(simp[Ig,CN,Bb,Aj,AP,AF];done)|(repeat'(first|rfl|trivial|refine⟨rfl,rfl,by simp[AF]⟩|refine⟨_,_,rfl,?_,?_⟩|refine⟨_,rfl,?_⟩))))|(refine Pn (d1 ..) rfl rfl rfl ?_ rfl rfl rfl rfl ?_;(focus((repeat(first|exact trivial|refine⟨rfl,?_⟩));done)))|(refine Pn (d2 ..) rfl rfl rfl ?_ rfl rfl rfl rfl ?_;(focus((repeat(first|exact trivial|refine⟨rfl,?_⟩));done)))|(refine Pn (d3 ..) rfl rfl rfl ?_ rfl rfl rfl rfl ?_;(focus((repeat(first|exact trivial|refine⟨rfl,?_⟩));done)))|(refine Pn (d4 ..) rfl rfl rfl ?_ rfl rfl rfl rfl ?_;(focus((repeat(first|exact trivial|refine⟨rfl,?_⟩));done)))|(refine Pn (d5 ..) rfl rfl rfl ?_ rfl rfl rfl rfl ?_;(focus((repeat(first|exact trivial|refine⟨rfl,?_⟩));done)))|(refine Pn (d6 ..) rfl rfl rfl ?_ rfl rfl rfl rfl ?_;(focus((repeat(first|exact trivial|refine⟨rfl,?_⟩));done)))|(refine Pn (d7 ..) rfl rfl rfl ?_ rfl rfl rfl rfl ?_;(focus((repeat(first|exact trivial|refine⟨rfl,?_⟩));done)))|(refine Pn (d8 ..) rfl rfl rfl ?_ rfl rfl rfl rfl ?_;(focus((repeat(first|exact trivial|refine⟨rfl,?_⟩));done)))|(refine Pn (d9 ..) rfl rfl rfl ?_ rfl rfl rfl rfl ?_;(focus((repeat(first|exact trivial|refine⟨rfl,?_⟩));done)))|(refine Pn (d10 ..) rfl rfl rfl ?_ rfl rfl rfl rfl ?_;(focus((repeat(first|exact trivial|refine⟨rfl,?_⟩));done)))|refine Xy q1 rfl rfl rfl rfl rfl ?_|refine Xy (q1 _) rfl rfl rfl rfl rfl ?_|refine Xy (q1 _ _) rfl rfl rfl rfl rfl ?_|(refine' oR (g1T _) (g1F _) rfl rfl rfl rfl rfl rfl r (fun hc s=> ?_) (fun hc s=> ?_);(all_goals(first|guard_target=Prop|(clear r;have r:=s;clear s;(try simp only[AB]at hc);(try(exfalso;omega))))))|(refine nT (x1 ..) rfl rfl ?_ rfl rfl rfl ?_;(focus((repeat(first|exact trivial|refine⟨rfl,?_⟩));done)))|(refine nT (x2 ..) rfl rfl ?_ rfl rfl rfl ?_;(focus((repeat(first|exact trivial|refine⟨rfl,?_⟩));done)))|(refine nT (x3 ..) rfl rfl ?_ rfl rfl rfl ?_;(focus((repeat(first|exact trivial|refine⟨rfl,?_⟩));done)))|(refine nT (x4 ..) rfl rfl ?_ rfl rfl rfl ?_;(focus((repeat(first|exact trivial|refine⟨rfl,?_⟩));done)))|(refine nT (x5 ..) rfl rfl ?_ rfl rfl rfl ?_;(focus((repeat(first|exact trivial|refine⟨rfl,?_⟩));done)))|(refine nT (x6 ..) rfl rfl ?_ rfl rfl rfl ?_;(focus((repeat(first|exact trivial|refine⟨rfl,?_⟩));done))))|refine Xpan rfl rfl rfl ?_|refine oP fu1 rfl rfl rfl (by first|rfl|simp[AP]) ?_|(refine' WU ns rfl rfl r (fun hc s=> ?_) (fun hc s=> ?_);(all_goals(first|guard_target=Prop|(clear r;have r:=s;clear s;(fail_if_success (with_reducible first|exact tF hc|exact fT hc));(try simp only[AB]at hc);(try(exfalso;omega))))))|(refine' pX r (fun hs s=> ?_);rotate_left 2;clear r;have r:=s;clear s;first|refine Po ow A4 rfl rfl rfl rfl rfl rfl ?_ hs|refine gG k1 k2 A4 rfl rfl rfl (by first|rfl|simp[H0]) rfl rfl rfl rfl ?_ hs|refine Xa A4 rfl rfl rfl rfl rfl ?_ hs|refine YI wr rfl rfl rfl rfl rfl ?_ hs|refine Xq A4 rfl rfl rfl rfl ?_ hs|refine Xw A4 rfl rfl rfl rfl ?_ hs|refine gJ sb A4 rfl rfl rfl rfl ?_ hs))|((with_reducible refine gWd ?_);first|((with_reducible refine jt ?_);first|(refine YnXL pr mixed A4 rfl (by kernel_rfl) ?_ ?_;focus(simp only[CI];repeat'(first|exact tZ|refine qQ ?_ ?_|exact⟨_,rfl,rfl⟩|rfl)))|(refine oU lv pr mixed A4 (by kernel_rfl) ?_ rfl ?_;focus(simp only[CI];repeat'(first|exact tZ|refine qQ ?_ ?_|exact⟨_,rfl,rfl⟩|rfl)))|(refine oT lv pr A4 (by kernel_rfl) ?_ rfl ?_;focus(simp only[CI];repeat'(first|exact tZ|refine qQ ?_ ?_|exact⟨_,rfl,rfl⟩|rfl))))|(refine Yd ?_ rfl rfl rfl ?_;focus(simp only[ba,List.reverse_cons,List.reverse_nil,qX,List.map_append,sO,vF,qV,J8,qY,qy,List.any_cons,List.any_nil,Kd.NM,Bool.or_false,su,rD,ql];decide +kernel))|(refine je rfl ?_;refine Ys rfl rfl rfl rfl ?_)|(refine Qo rfl ?_;refine Ymv A4 rfl rfl (fun _=>rfl) rfl rfl ?_)|(refine Kz 1 rfl ?_;first|refine ji A4 rfl rfl (fun _=>rfl) rfl rfl rfl (sJ _) (DT ix1) ?_|refine ji A4 rfl rfl (fun _=>rfl) rfl rfl rfl (sJ _) (DT ix2) ?_|refine ji A4 rfl rfl (fun _=>rfl) rfl rfl rfl (sJ _) (DT ix3) ?_|refine ji A4 rfl rfl (fun _=>rfl) rfl rfl rfl (sJ _) (DT ix4) ?_)|((first|(refine Kz 1 rfl ?_;first|refine Yp A4 rfl rfl (fun _=>rfl) rfl rfl ?_ ?_|refine Yq rfl rfl rfl rfl rfl ?_ ?_)|(refine Kz 2 rfl ?_;first|refine oS lk1 rfl rfl rfl rfl rfl ?_ ?_|refine Yp A4 rfl rfl (fun _=>rfl) rfl rfl ?_ ?_|refine Yq rfl rfl rfl rfl rfl ?_ ?_)|(refine Kz 4 rfl ?_;first|refine Pq ow A4 rfl rfl rfl rfl rfl rfl rfl ?_ ?_|refine Ya A4 rfl rfl rfl rfl rfl rfl ?_ ?_|refine Yp A4 rfl rfl (fun _=>rfl) rfl rfl ?_ ?_|refine Yq rfl rfl rfl rfl rfl ?_ ?_)|(refine Kz 5 rfl ?_;first|refine Yw A4 rfl rfl rfl rfl rfl ?_ ?_|refine YJ sb A4 rfl rfl rfl rfl rfl ?_ ?_)|(refine Kz 6 rfl ?_;first|refine Pq ow A4 rfl rfl rfl rfl rfl rfl rfl ?_ ?_|refine Yp A4 rfl rfl (fun _=>rfl) rfl rfl ?_ ?_|refine Yq rfl rfl rfl rfl rfl ?_ ?_|refine Yw A4 rfl rfl rfl rfl rfl ?_ ?_|refine YJ sb A4 rfl rfl rfl rfl rfl ?_ ?_|refine Ya A4 rfl rfl rfl rfl rfl rfl ?_ ?_));rotate_left;focus((repeat'(first|with_reducible rfl|((with_reducible refine NJ ?_);first|kernel_rfl|rfl|(simp[Er,HV,nS];done))|with_reducible refine Ip ?_ ?_|with_reducible exact tq _|with_reducible exact Cd _|((with_reducible refine qM ?_);first|omega|(simp only[If,nS];omega))|decide|(simp[If,slc,Bw,D.one,Dt,AV.one,nS];done)|(simp[If,nS];omega)));done))|(refine Kz 3 rfl ?_;first|refine YF (c1 ..) rfl rfl rfl rfl rfl ?_|refine YF (c2 ..) rfl rfl rfl rfl rfl ?_|refine YF (c3 ..) rfl rfl rfl rfl rfl ?_|refine YF (c4 ..) rfl rfl rfl rfl rfl ?_|refine YF (c5 ..) rfl rfl rfl rfl rfl ?_|refine YF (c6 ..) rfl rfl rfl rfl rfl ?_|refine YF (c7 ..) rfl rfl rfl rfl rfl ?_|refine YF (c8 ..) rfl rfl rfl rfl rfl ?_|refine YF (c9 ..) rfl rfl rfl rfl rfl ?_|refine YF (c10 ..) rfl rfl rfl rfl rfl ?_|refine YF (c11 ..) rfl rfl rfl rfl rfl ?_|refine YF (c12 ..) rfl rfl rfl rfl rfl ?_|refine YF (c13 ..) rfl rfl rfl rfl rfl ?_|refine YF (c14 ..) rfl rfl rfl rfl rfl ?_|refine YF (c15 ..) rfl rfl rfl rfl rfl ?_|refine YF (c16 ..) rfl rfl rfl rfl rfl ?_|(refine nU (z1 ..) rfl rfl rfl rfl rfl ?_ ?_;(first|(simp[Ig,CN,Bb,Aj,AP,AF];done)|(repeat'(first|rfl|trivial|refine⟨rfl,rfl,by simp[AF]⟩|refine⟨_,_,rfl,?_,?_⟩|refine⟨_,rfl,?_⟩))))|(refine nU (z2 ..) rfl rfl rfl rfl rfl ?_ ?_;(first|(simp[Ig,CN,Bb,Aj,AP,AF];done)|(repeat'(first|rfl|trivial|refine⟨rfl,rfl,by simp[AF]⟩|refine⟨_,_,rfl,?_,?_⟩|refine⟨_,rfl,?_⟩))))|(refine nU (z3 ..) rfl rfl rfl rfl rfl ?_ ?_;(first|(simp[Ig,CN,Bb,Aj,AP,AF];done)|(repeat'(first|rfl|trivial|refine⟨rfl,rfl,by simp[AF]⟩|refine⟨_,_,rfl,?_,?_⟩|refine⟨_,rfl,?_⟩))))|(refine Pp (d1 ..) rfl rfl rfl rfl ?_ rfl rfl rfl rfl ?_;(focus((repeat(first|exact trivial|refine⟨rfl,?_⟩));done)))|(refine Pp (d2 ..) rfl rfl rfl rfl ?_ rfl rfl rfl rfl ?_;(focus((repeat(first|exact trivial|refine⟨rfl,?_⟩));done)))|(refine Pp (d3 ..) rfl rfl rfl rfl ?_ rfl rfl rfl rfl ?_;(focus((repeat(first|exact trivial|refine⟨rfl,?_⟩));done)))|(refine Pp (d4 ..) rfl rfl rfl rfl ?_ rfl rfl rfl rfl ?_;(focus((repeat(first|exact trivial|refine⟨rfl,?_⟩));done)))|(refine Pp (d5 ..) rfl rfl rfl rfl ?_ rfl rfl rfl rfl ?_;(focus((repeat(first|exact trivial|refine⟨rfl,?_⟩));done)))|(refine Pp (d6 ..) rfl rfl rfl rfl ?_ rfl rfl rfl rfl ?_;(focus((repeat(first|exact trivial|refine⟨rfl,?_⟩));done)))|(refine Pp (d7 ..) rfl rfl rfl rfl ?_ rfl rfl rfl rfl ?_;(focus((repeat(first|exact trivial|refine⟨rfl,?_⟩));done)))|(refine Pp (d8 ..) rfl rfl rfl rfl ?_ rfl rfl rfl rfl ?_;(focus((repeat(first|exact trivial|refine⟨rfl,?_⟩));done)))|(refine Pp (d9 ..) rfl rfl rfl rfl ?_ rfl rfl rfl rfl ?_;(focus((repeat(first|exact trivial|refine⟨rfl,?_⟩));done)))|(refine Pp (d10 ..) rfl rfl rfl rfl ?_ rfl rfl rfl rfl ?_;(focus((repeat(first|exact trivial|refine⟨rfl,?_⟩));done)))|(refine nV (x1 ..) rfl rfl rfl rfl ?_ rfl rfl rfl rfl ?_;(focus((repeat(first|exact trivial|refine⟨rfl,?_⟩));done)))|(refine nV (x2 ..) rfl rfl rfl rfl ?_ rfl rfl rfl rfl ?_;(focus((repeat(first|exact trivial|refine⟨rfl,?_⟩));done)))|(refine nV (x3 ..) rfl rfl rfl rfl ?_ rfl rfl rfl rfl ?_;(focus((repeat(first|exact trivial|refine⟨rfl,?_⟩));done)))|(refine nV (x4 ..) rfl rfl rfl rfl ?_ rfl rfl rfl rfl ?_;(focus((repeat(first|exact trivial|refine⟨rfl,?_⟩));done)))|(refine nV (x5 ..) rfl rfl rfl rfl ?_ rfl rfl rfl rfl ?_;(focus((repeat(first|exact trivial|refine⟨rfl,?_⟩));done)))|(refine nV (x6 ..) rfl rfl rfl rfl ?_ rfl rfl rfl rfl ?_;(focus((repeat(first|exact trivial|refine⟨rfl,?_⟩));done))))|(refine' WV ns rfl rfl r (fun hc s=> ?_) (fun hc s=> ?_);(all_goals(first|guard_target=Prop|(clear r;have r:=s;clear s;(fail_if_success (with_reducible first|exact tF hc|exact fT hc));(try simp only[AB]at hc);(try(exfalso;omega))))))|(refine' pX r (fun hs s=> ?_);rotate_left 2;clear r;have r:=s;clear s;first|refine Pq ow A4 rfl rfl rfl rfl rfl rfl rfl ?_ hs|refine Ya A4 rfl rfl rfl rfl rfl rfl ?_ hs|refine Yp A4 rfl rfl (fun _=>rfl) rfl rfl ?_ hs|refine Yq rfl rfl rfl rfl rfl ?_ hs|refine Yw A4 rfl rfl rfl rfl rfl ?_ hs|refine YJ sb A4 rfl rfl rfl rfl rfl ?_ hs))|((with_reducible refine gW ?_);first|with_reducible refine HO ?_|((with_reducible refine oi ?_);refine JO st rfl ?_)|((with_reducible refine oh ?_);refine Ql st T.get rfl ?_)|((with_reducible refine js ?_);first|refine Cc rfl ?_|refine Cb rfl ?_|(refine' NW nc rfl r (fun hc s=> ?_) (fun hc s=> ?_);(all_goals(first|guard_target=Prop|(clear r;have r:=s;clear s;(try simp only[AB]at hc);(try(exfalso;omega)))))))|with_reducible refine Eo ?_|with_reducible refine HN ?_|with_reducible refine De ?_|with_reducible refine En ?_|with_reducible refine ME ?_|with_reducible refine JN ?_|with_reducible refine Kx un ?_|with_reducible refine Ky (pW sc) ?_)|(with_reducible first|refine qT ?_|refine qTr ?_|refine qTe ?_|refine qTg ?_|refine qTp ?_|refine qBn ?_|refine qBr ?_|refine qBg ?_|refine qBp ?_|refine qSn ?_|refine qSr ?_|refine qSe ?_|exact lQ r|exact lI r|exact lY r)|refine qSg rfl ?_|(first|refine HO ?_|refine JO st rfl ?_|refine Ql st T.get rfl ?_|refine Cc rfl ?_|refine Cb rfl ?_|refine Eo ?_|refine HN ?_|refine De ?_|refine En ?_|refine ME ?_|refine JN ?_|refine Kx un ?_|refine Ky (pW sc) ?_|(refine' NW nc rfl r (fun hc s=> ?_) (fun hc s=> ?_);(all_goals(first|guard_target=Prop|(clear r;have r:=s;clear s;(try simp only[AB]at hc);(try(exfalso;omega)))))))|exact r.x));all_goals exact True):g:=h trivial trivial trivial trivial trivial (sbA Z) a b ⟨r⟩
end Go.Gar
namespace Go.Gar
def rmX:List (Nat×AV)->Nat->Option (List (Nat×AV))
 |[],_=>some []
 |(u,y)::r,t=>match rmX r t with
  |some l=>match Nat.beq u t with
   |true=>some l
   |false=>some ((u,y)::l)
  |none=>none
def upX:List (Nat×AV)->Nat->AV->Option (List (Nat×AV))
 |[],t,x=>some [(t,x)]
 |(u,y)::r,t,x=>match Nat.beq u t with
  |true=>match rmX r t with
   |some l=>some ((u,x)::l)
   |none=>none
  |false=>match upX r t x with
   |some l=>some ((u,y)::l)
   |none=>none
def nG:List (Nat×AV)->List (Nat×AV)->Option (List (Nat×AV))
 |e,[]=>some e
 |e,(t,x)::r=>match upX e t x with
  |some l=>nG l r
  |none=>none
variable {ro:Option Nat}{Q:Exit->St->Prop}{en:List (Nat×AV)}
theorem CF{P:Program}{hp:List A3}{nt:Nat}{α:Type}{c:Code}(I:α->Prop)(vs:α->List (Nat×AV))(μ:α->Nat)(x0:α)(h0:I x0){e:α->List (Nat×AV)}(_:∀x,nG en (vs x)=some (e x))(t:A1 ⟨en,hp,nt⟩ ⟨e x0,hp,nt⟩)(body:∀x,I x->W P ro c ⟨e x,hp,nt⟩ (ny I (fun x=>⟨e x,hp,nt⟩) (fun y=>μ y<μ x) hp.length Q)):W P ro (.loop c) ⟨en,hp,nt⟩ Q:=
 An I (fun x=>⟨e x,hp,nt⟩) μ x0 h0 t (qG _) body
def QZ:List A3->Nat->A3->Option (List A3)
 |[],_,_=>none
 |_::r,0,x=>some (x::r)
 |b::r,n+1,x=>match QZ r n x with
  |some l=>some (b::l)
  |none=>none
def PN:List A3->List (Nat×A3)->Option (List A3)
 |h,[]=>some h
 |h,(i,x)::r=>match QZ h i x with
  |some l=>PN l r
  |none=>none
theorem Qa:∀{h:List A3}{i:Nat}{x:A3}{l:List A3},QZ h i x=some l->l.length=h.length
 |[],_,_,_,e=>by simp[QZ]at e
 |_::_,0,_,_,e=>by simp only[QZ,qI]at e;subst e;rfl
 |b::r,n+1,x,l,e=>by
  simp only[QZ]at e;split at e
  .rename_i q hq;simp only[qI]at e;subst e;simp[Qa hq]
  .cases e
theorem PO:∀{c:List (Nat×A3)}{h l:List A3},PN h c=some l->l.length=h.length
 |[],h,l,e=>by simp only[PN,qI]at e;subst e;rfl
 |(i,x)::r,h,l,e=>by
  simp only[PN]at e;split at e
  .rename_i q hq;rw[PO e,Qa hq]
  .cases e
theorem Cu{P:Program}{hp:List A3}{nt:Nat}{α:Type}{c:Code}(I:α->Prop)(vs:α->List (Nat×AV))(hs:α->List (Nat×A3))(μ:α->Nat)(x0:α)(h0:I x0){e:α->List (Nat×AV)}{h:α->List A3}(_:∀x,nG en (vs x)=some (e x))(hh:∀x,PN hp (hs x)=some (h x))(t:A1 ⟨en,hp,nt⟩ ⟨e x0,h x0,nt⟩)(body:∀x,I x->W P ro c ⟨e x,h x,nt⟩ (ny I (fun x=>⟨e x,h x,nt⟩) (fun y=>μ y<μ x) (h x).length Q)):W P ro (.loop c) ⟨en,hp,nt⟩ Q:=
 An I (fun x=>⟨e x,h x,nt⟩) μ x0 h0 t (by show hp.length<=(h x0).length;rw[PO (hh x0)];exact qG _) body
def FU(n:Nat)(p:Nat->Bool):Bool:=(List.range n).all p
variable {n:Nat}{p:Nat->Bool}
theorem Im:FU n p=true↔∀k,k<n->p k=true:=by simp[FU]
theorem GM{k:Nat}(hk:k<n)(h:p k=false):FU n p=false:=by
 cases e:FU n p with
 |false=>rfl
 |true=>rw[Im.1 e k hk]at h;cases h
theorem ED(h:FU n p=true)(k:p n=true):FU (n+1) p=true:=by
 rw[Im]at h|-;intro j hj
 by_cases e:j=n
 .subst e;exact k
 .exact h j om
theorem A1.ck{S S':St}(hn:S'.n=S.n)(he:Ki S'.env S.env:=by repeat'(first|exact tZ|refine qQ (by(first|rfl|((with_reducible_and_instances refine congrArg (fun z=>some (AV.d (D.i _ z))) ?_);omega)|(refine congrArg (fun z=>some (AV.d (D.i _ z))) (?_:(_:Int)=_);omega)|(refine congrArg some ?_;simp;done))) ?_))
  (hH:Au S'.H S.H:=by repeat'(first|exact tZ|refine qQ (Or.inr rfl) ?_|refine qQ (Or.inl ⟨rfl,rfl⟩) ?_|refine qQ (Or.inr sm) ?_))
  (ho:Ae S'.H.length S'.H=true:=by first|rfl|(simp(decide:=true) [Ae,A3.ok,AV.oks,AV.ok];done)|(simp(decide:=true) [Ae,A3.ok,AV.oks,AV.ok,hk];done)) (heo:E0 S'.H.length S'.env=true:=by rfl):A1 S S':=A1.cut hn he hH ho heo
theorem H8:(∀(H:List A3)(xs:List AV)(l:List D),Bb H (.tup xs) (.tup l)↔CN H xs l)/\(∀(H:List A3)(xs:List AV)(l:List D),Bb H (.ag xs) (.agg l)↔CN H xs l)/\
  (∀(H:List A3)(x:AV)(xs:List AV)(y:D)(l:List D),CN H (x::xs) (y::l)↔Bb H x y/\CN H xs l)/\(∀H:List A3,CN H [] []↔True)/\(∀(H:List A3)(x y:D),Bb H (.d x) y↔y=x)/\
  (∀(H:List A3)(y:D),Bb H .e0 y↔Aj y=true/\AP y=0/\AF y)/\(∀(H:List A3)(i n sz:Nat)(y:D),Bb H (.sl i n sz) y↔H[i]? =some (.a y)/\n=AP y):=
 ⟨fun _ _ _=>Fj,fun _ _ _=>MC,fun _ _ _ _ _=>C5,fun _=>Ca,fun _ _ _=>Bn,fun _ _=>MD,fun _ _ _ _ _=>KL⟩
end Go.Gar
namespace Go.Gar
def Yr(E:Nat->Option Ao)(env:List (Nat×AV))(op:Op):Option (Bool×(Nat->AV)×A3):=
 match op with
 | .buildSlice t len ps=>match L6 E (CH env) t len ps.toList with
  |some (z,cs)=>some (decide (len*z.size<=16777216),fun id=> .bs id 0 len z.size cs.length,.c cs)
  |none=>none
 |_=>none
variable {E:Nat->Option Ao}
theorem Wy{P:Program}(hE:BN P E){S:St}{o:Oper}{f:Nat->AV}{b:A3}{c:Bool}(h:Yr E S.env o.op=some (c,f,b))(hc:c=true):D2 P o S (f S.H.length) (S.H++[b]):=by
 subst hc;obtain⟨dst,op,ty,pos,after,guard⟩:=o;simp only at h;cases op<;>simp only[Yr]at h<;>try(cases h;done)
 case buildSlice t len ps=>
  split at h
  .rename_i z cs hcs;simp only[qI,qR,qJ]at h;obtain⟨hsz,rfl,rfl⟩:=h
   exact .DW (f:=fun a=>Instr.buildSlice t len (Up a.eval ps)) (fun a=>Gt rfl a.eval) fun ro N G a w r=>by
    have:=R2 hE r.rel (fun o x hx=>AL r.rel.st r.env hx) hcs hsz;rw[r.heap]at this;exact this
  .cases h
theorem LC{env:List (Nat×AV)}{o:Oper}{x:Bool×(Nat->AV)×A3}(h:Yr E env o.op=some x):∀c,o.op≠ .defer c:=by
 intro c hc;rw[hc]at h;simp[Yr]at h
section
variable {P:Program}{ro:Option Nat}{ops:Array Oper}{i:Nat}{rest:List Oper}{en:List (Nat×AV)}{hp:List A3}{nt:Nat}{Q:Exit->St->Prop}{o:Oper}{E:Nat->Option Ao}
theorem Xbs(hE:BN P E){f:Nat->AV}{b:A3}{c:Bool}{x':AV}{e:List (Nat×AV)}{H':List A3}(hg:A8 ops en o=some true)(h:Yr E en o.op=some (c,f,b))(hd:AE o.dst nt=true)(he:Aq o.dst x' en=some e)(hH:Fg hp b=some H')(hx:f hp.length=x')
  (k:Wl P ro ops (i+1) rest ⟨e,H',nt⟩ Q) (hc:c=true):Wl P ro ops i (o::rest) ⟨en,hp,nt⟩ Q:=by
 subst hx;rw[AM he,Gb hH]at k;exact L1 (S:=⟨en,hp,nt⟩) hg (Wy (S:=⟨en,hp,nt⟩) hE h hc) (LC h) hd k
end
end Go.Gar
namespace Go.Gar
def nX:List AV->Option (List D)
 |[]=>some []
 | .d x::r=>match nX r with
  |some l=>some (x::l)
  |none=>none
 |_::_=>none
theorem bi:∀{l:List AV}{xs:List D},nX l=some xs->l=xs.map .d
 |[],xs,h=>by simp[nX]at h;subst h;rfl
 | .d x::r,xs,h=>by
  simp only[nX]at h;split at h
  .rename_i l hl;cases h;rw[bi hl];rfl
  .cases h
 | .u::_,_,h| .ptr _ _ _::_,_,h| .sl _ _ _::_,_,h| .bs _ _ _ _ _::_,_,h| .ep _ _ _ _ _::_,_,h| .e0::_,_,h| .ag _::_,_,h| .tup _::_,_,h| .fn _ _ _::_,_,h| .yl _::_,_,h| .dp _::_,_,h| .mp _::_,_,h=>by simp[nX]at h
def setRows(off:Nat)(xs:List D):Nat->List (List D)->List (List D)
 |_,[]=>[]
 |0,r::l=>(r.take off++xs++r.drop (off+xs.length))::l
 |i+1,r::l=>r::setRows off xs i l
theorem NC(off:Nat)(xs:List D):∀(i:Nat)(l:List (List D)),(setRows off xs i l).length=l.length
 |_,[]=>by cases ‹Nat›<;>rfl
 |0,_::_=>rfl
 |i+1,r::l=>by simp[setRows,NC off xs i l]
theorem PM{off sz:Nat}{xs:List D}(hs:off+xs.length<=sz):∀{i:Nat}{l:List (List D)},(∀e∈l,e.length=sz)->∀e∈setRows off xs i l,e.length=sz
 |i,[],_,e,he=>by cases i<;>cases he
 |0,r::l,h,e,he=>by
  have hr:=h r (sQ ..);rcases sG.1 he with rfl|he
  .simp;omega
  .exact h e (sZ _ he)
 |i+1,r::l,h,e,he=>by
  rcases sG.1 he with rfl|he
  .exact h _ (sQ ..)
  .exact PM hs (fun e he=>h e (sZ _ he)) e he
theorem Ll{off sz:Nat}{xs:List D}(hs:off+xs.length<=sz):∀{i:Nat}{l:List (List D)},(∀e∈l,e.length=sz)->i<l.length->
  (setRows off xs i l).flatten=l.flatten.take (i*sz+off)++xs++l.flatten.drop (i*sz+off+xs.length)
 |i,[],_,hi=>by simp at hi
 |0,r::l,h,hi=>by
  have hr:=h r (sQ ..);simp only[setRows,uD,Nat.zero_mul,sN];rw[List.take_append_of_le_length om,List.drop_append_of_le_length om];simp only[qm]
 |i+1,r::l,h,hi=>by
  have hr:=h r (sQ ..);have ih:=Ll hs (i:=i) (fun e he=>h e (sZ _ he)) (by simp at hi;omega);simp only[setRows,uD];have e1:(i+1)*sz+off=r.length+(i*sz+off):=by rw[hr,Nat.succ_mul];omega
  rw[ih,e1,List.take_length_add_append,Nat.add_assoc r.length,List.drop_length_add_append];simp only[qm]
theorem TZ{sz:Nat}:∀{l:List (List D)},(∀e∈l,e.length=sz)->l.flatten.length=l.length*sz
 |[],_=>by simp
 |r::l,h=>by
  have:=TZ (fun e he=>h e (sZ r he));rw[uD,qj,this,h r (sQ ..),qY,Nat.succ_mul];omega
def cH(E:Nat->Option Ao)(env:List (Nat×AV))(H:List A3)(op:Op):Option (Bool×List A3):=
 match op with
 | .store t a x=>match E t,CH env a,CH env x with
  |some y,some (.ep id i off n sz),some v=>match MG v with
   |some vl=>match nX vl with
    |some xs=>match H[id]? with
     |some (.a (.sl sz' rows))=>match setH id (.a (.sl sz' (setRows off xs i rows))) H with
      |some H'=>some (Nat.beq n rows.length&&Nat.blt i n&&Nat.beq y.size xs.length&&Nat.ble (off+xs.length) sz&&Nat.beq sz sz'&&Bw xs,H')
      |none=>none
     |_=>none
    |none=>none
   |none=>none
  |_,_,_=>none
 |_=>none
theorem Uu{G:Gh}:∀{xs:List D}{vs:List Value},Al G (xs.map .d) vs->∀(k:Nat)(x:D),xs[k]? =some x->∃v,vs[k]? =some v/\RD G.m x v
 |[],_,_,k,x,h=>by simp at h
 |d::r,vs,hv,k,x,h=>by
  simp only[sO,Al]at hv;obtain⟨v,r',rfl,h1,h2⟩:=hv
  cases k with
  |zero=>simp at h;subst h;exact⟨v,rfl,by simpa only[RV]using h1⟩
  |succ k=>exact Uu h2 k x (by simpa using h)
theorem Io:∀{xs:List D},Bw xs=true->∀(k:Nat)(x:D),xs[k]? =some x->x.one=true
 |[],_,k,x,h=>by simp at h
 |d::r,ho,k,x,h=>by
  simp only[Bw,qH]at ho
  cases k with
  |zero=>simp at h;subst h;exact ho.1
  |succ k=>exact Io ho.2 k x (by simpa using h)
variable {E:Nat->Option Ao}
theorem X2{P:Program}(hE:BN P E){S:St}{o:Oper}{c:Bool}{H':List A3}(h:cH E S.env S.H o.op=some (c,H'))(hc:c=true):D2 P o S .u H':=by
 subst hc;unfold cH at h;split at h
 .rename_i t a x ho;split at h
  .rename_i y id i off n sz xv hy' ha hx;split at h
   .rename_i vl hvl;split at h
    .rename_i xs hxs;have:=bi hxs;subst this;split at h
     .rename_i sz' rows hl;split at h
      .rename_i q hq;simp only[qI,qR,qH]at h;obtain⟨⟨⟨⟨⟨⟨hn,hi⟩,hsz⟩,hfit⟩,hsz'⟩,hone⟩,rfl⟩:=h;have hn:=qL hn;have hsz:=qL hsz;have hsz':=qL hsz';have hfit:=rY hfit;rw[tX]at hi;subst hn;subst hsz';obtain⟨hid,rfl⟩:=Jm hq;have hy:=hE t y hy';intro ro N G act w r;have hl':G.H[id]? =some (.a (.sl sz rows)):=by rw[r.heap];exact hl
       have hva:=AL r.rel.st r.env ha;have hvx:=AL r.rel.st r.env hx;have hvs:=JQ hvl hvx;have hvn:(act.eval x).cells.toList.length=xs.length:=by have:=Al.KU hvs;simpa using this
       simp only[RV]at hva;obtain⟨_,blk,hb,hp⟩:=hva;rw[hl']at hb;cases hb;obtain⟨_,_,hp⟩:=hp;obtain⟨b,M,hρ,hva⟩:=hp rfl;obtain⟨_,hrows,hB⟩:=r.rel.blk id _ hl';simp only[AF]at hrows;rcases hB with⟨h0,hno⟩|⟨b',M',vs,T,hρ',hw,hM,hcell⟩
       .rw[hρ]at hno;cases hno
       rw[hρ]at hρ';cases hρ';have hfl:=TZ hrows;have hi2:i*sz+sz<=rows.length*sz:=by rw[<-Nat.succ_mul];exact Nat.mul_le_mul_right sz hi
       have hvl2:rows.flatten.length<=vs.size:=by
        rcases uK rows.flatten.length with h0|h0
        .omega
        .obtain⟨v,hv,_⟩:=hcell (rows.flatten.length-1) _ (qK (by simp only[slc];omega));have:=(qZ.1 hv).1;omega
       have hst:=run_storeCells_at P b (i*sz+off) T (act.eval x).cells.toList 0 vs w hw (by rw[hvn];simp;omega) (fun v hv=>by
        obtain⟨k,hk⟩:=List.getElem?_of_mem hv;have hkl:=(qN.1 hk).1;obtain⟨v',hv',hrd⟩:=Uu hvs k _ (qK (by omega:k<xs.length));rw[hk]at hv';cases hv'
        exact Us (Io hone k _ (qK om)) hrd)
       simp only[uz]at hst
       obtain⟨r1,r2⟩:=SA r.rel (cur:=(vs.toList.take (i*sz+off)++(act.eval x).cells.toList++vs.toList.drop (i*sz+off+(act.eval x).cells.toList.length)).toArray) hl' rfl (q:=.a (.sl sz (setRows off xs i rows))) rfl hρ (by simp[AI,Gh.put,AP,B9,NC]) (by
        refine⟨rfl,PM hfit hrows,.inr ⟨b,M,_,T,hρ,setRow_heap w b vs _ T _ hw,by rw[hvn];simp at hvn|-;omega,fun j z hz=> ?_⟩⟩;replace hz:(setRows off xs i rows).flatten[j]? =some z:=hz;rw[Ll hfit hrows hi]at hz
        obtain⟨v,hv,hrv⟩:=IH (R:=fun d v=>v.oneCell'=true/\RD G.m d v) (cs:=rows.flatten) (xs:=xs) (vs:=vs.toList) (us:=(act.eval x).cells.toList) (off:=i*sz+off) (by rw[hfl];omega) (by simpa using hvl2) hvn
         (fun k x hx=>by obtain⟨v,h1,h2⟩:=hcell k x hx;exact⟨v,by simpa using h1,h2⟩)
         (fun k x hx=>by
          obtain⟨v,h1,h2⟩:=Uu hvs k x hx
          exact⟨v,h1,Us (Io hone k x hx) h2,h2⟩) j z hz
        exact⟨v,by simpa using hv,hrv⟩)
       have key:(Instr.storeAt t (act.eval a) (act.eval x)).run P w= .ok () (w.setRow b (vs.toList.take (i*sz+off)++(act.eval x).cells.toList++vs.toList.drop (i*sz+off+(act.eval x).cells.toList.length)).toArray):=by
        rw[hva];simp only[Instr.storeAt,Instr.sureAddr,qc,qh,qU,storeVar,B3 hy];rw[if_neg (by simp at hvn;omega)];exact hst
       refine⟨.skip,_,_,?_,.inl ⟨rfl,rfl⟩,?_,r1,r2⟩
       .unfold execOp;simp only[ho,qc,key,qU,qh]
       .show G.H.set id _=S.H.set id _;rw[r.heap]
      .cases h
     .cases h
    .cases h
   .cases h
  .cases h
 .cases h
theorem LD{env:List (Nat×AV)}{H:List A3}{op:Op}{r:Bool×List A3}(h:cH E env H op=some r):∀c,op≠ .defer c:=fun c e=>by subst e;cases h
section
variable {P:Program}{ro:Option Nat}{E:Nat->Option Ao}{ops:Array Oper}{i:Nat}{rest:List Oper}{Q:Exit->St->Prop}{o:Oper}{en:List (Nat×AV)}{hp:List A3}{nt:Nat}{S0:St}{A:Prop}{acc:List Rc}
theorem Xsc(hE:BN P E){c:Bool}{H' H'':List A3}{e:List (Nat×AV)}(hg:A8 ops en o=some true)(h:cH E en hp o.op=some (c,H'))(hd:AE o.dst nt=true)(he:Aq o.dst .u en=some e)
  (k:Wl P ro ops (i+1) rest ⟨e,H'',nt⟩ Q) (hc:c=true) (hH:H'=H'':=by first|(simp only[nS];rfl)|rfl):Wl P ro ops i (o::rest) ⟨en,hp,nt⟩ Q:=by
 subst hH;rw[AM he]at k;exact L1 hg (X2 (S:=⟨en,hp,nt⟩) hE h hc) (LD h) hd k
end
end Go.Gar
namespace Go.Gar
open Go.ChangeShapes Go.WideShapes Go.ChangeAt Go.RowKit
end Go.Gar
namespace Go.Gar
theorem nu:(∀(α β:Type)(f:α->β)(a b:List α),(a++b).map f=a.map f++b.map f)/\(∀(α β:Type)(f:α->β)(x:α)(a:List α),(x::a).map f=f x::a.map f)/\(∀(α β:Type)(f:α->β),([]:List α).map f=[])/\
  (∀(α:Type)(a b:List α),(a++b).length=a.length+b.length)/\(∀(α:Type)(x:α)(a:List α),(x::a).length=a.length+1)/\(∀(α:Type),([]:List α).length=0)/\(∀(α β:Type)(f:α->β)(a:List α),(a.map f).length=a.length):=
 ⟨fun _ _ _ _ _=>List.map_append,fun _ _ _ _ _=>rfl,fun _ _ _=>rfl,fun _ _ _=>qj,fun _ _ _=>rfl,fun _=>rfl,fun _ _ _ _=>rZ _⟩
variable {S:St}
theorem A1.cn{S':St}(hn:S'.n=S.n)(he:Ki S'.env S.env:=by repeat'(first|exact tZ|refine qQ (by(first|rfl|((with_reducible_and_instances refine congrArg (fun z=>some (AV.d (D.i _ z))) ?_);omega)|(refine congrArg (fun z=>some (AV.d (D.i _ z))) (?_:(_:Int)=_);omega)|(refine congrArg some ?_;simp only[nu,nC];done)|(refine congrArg some ?_;simp[nC];done))) ?_))(hH:Au S'.H S.H:=by repeat'(first|exact tZ|refine qQ (Or.inr rfl) ?_|refine qQ (Or.inl ⟨rfl,rfl⟩) ?_|refine qQ (Or.inr (by simp only[nu,nC])) ?_|refine qQ (Or.inr (by simp only[nu,nC];rfl)) ?_|refine qQ (Or.inr (by simp[nC])) ?_))(ho:Ae S'.H.length S'.H=true:=by first|rfl|(simp(decide:=true) [Ae,A3.ok,AV.oks,AV.ok];done)|(simp(decide:=true) [Ae,A3.ok,AV.oks,AV.ok,hk];done))(heo:E0 S'.H.length S'.env=true:=by rfl):A1 S S':=A1.cut hn he hH ho heo
variable {n:Nat}
theorem jX{id:Nat}{r:Lp}{H1:List A3}{v:AV}(hv:v= .d (.b true))(t:A1 S ⟨[],H1.set id (.lp r.busy),S.n⟩)(hn:n<=(H1.set id (.lp r.busy)).length:=by first|exact qG _|exact rY rfl)(h1:(H1.set id (.lp r.busy))[id]? =some (.lp r.busy):=by rfl)(h2:(H1.set id (.lp r.busy)).set id (.lp r)=H1:=by rfl):
  o3 id n r (fun x K=>x=v/\K=H1) .normal S:=⟨_,t,hn,h1,hv.symm,h2⟩
variable {P:Program}{E:Nat->Option Ao}{H':List A3}{r:AV}
theorem aX{f:FuncId}{fn:Func}{c:Code}(hE:BN P E)(hf:P.funcs[f]? =some fn)(hb:fn.body=some c)(hname:(fn.name== "runtime.NumGoroutine")=false){args:List AV}{H:List A3}(hn:args.length<=fn.ntmps)(h:W P none c ⟨Cn 0 args,H,fn.ntmps⟩ (KM fun S0=>∃S',A1 S0 S'/\H.length<=S'.H.length/\∃cc x,CG E S'.env S'.H fn.results.toList=some (cc,x)/\cc=true/\x=r/\Au H' S'.H))(ho:Ae H'.length H'=true:=by rfl)(hr:r.ok H'.length=true:=by rfl)(hl:Nat.ble H.length H'.length=true:=by rfl):AY P f args H r H':=by
 have hT:IY P f args H fun x K=>x=r/\Au H' K:=O3 hE hf hb hname hn h;refine⟨hT.1,fun G w vs h1 h2 h3=>(hT.2 G w vs h1 h2 h3).mono ?_⟩
 rintro e w' ⟨v,x,G',rfl,⟨rfl,hs'⟩,hv,hr',hfr⟩;exact⟨v,x,G'.cut H',rfl,⟨rfl,rfl⟩,hv.cut hs' hr,hr'.cut hs' ho,hfr.ghost (WX.cut hs') (by rw[h1];exact rY hl)⟩
variable {rs:List ResultVar}
theorem OM(hs:Au H' S.H:=by repeat'(first|exact tZ|refine qQ (Or.inr rfl) ?_|refine qQ (Or.inl ⟨rfl,rfl⟩) ?_|refine qQ (Or.inr sm) ?_))(hl:n<=S.H.length:=by first|exact rY rfl|exact qG _)(he:CG E S.env S.H rs=some (true,r):=by rfl):
  ∃S',A1 S S'/\n<=S'.H.length/\∃cc x,CG E S'.env S'.H rs=some (cc,x)/\cc=true/\x=r/\Au H' S'.H:=⟨S,A1.refl S,hl,_,_,he,rfl,rfl,hs⟩
theorem oX(hs:Au H' S.H:=by repeat'(first|exact tZ|refine qQ (Or.inr rfl) ?_|refine qQ (Or.inl ⟨rfl,rfl⟩) ?_|refine qQ (Or.inr (by simp only[nu,nC])) ?_|refine qQ (Or.inr (by simp only[nu,nC];rfl)) ?_|refine qQ (Or.inr (by simp[nC])) ?_))(hl:n<=S.H.length:=by first|exact rY rfl|exact qG _)(he:CG E S.env S.H rs=some (true,r):=by rfl):
  ∃S',A1 S S'/\n<=S'.H.length/\∃cc x,CG E S'.env S'.H rs=some (cc,x)/\cc=true/\x=r/\Au H' S'.H:=⟨S,A1.refl S,hl,_,_,he,rfl,rfl,hs⟩
variable {ro:Option Nat}{Q:Exit->St->Prop}
theorem av{ops:Array Oper}{id:Nat}(i k a b:Nat){S1:St}(hm:P.follows .mixedOrders=true)(hik:(Nat.blt i k&&Nat.blt k ops.toList.length&&JS ops)=true)(ho:Ae S.H.length S.H=true)(h1:Wd P ro E (Mp i k ops) S (Hq P ro (Mp i k ops) S (Qw (Qb a b S1))) [] (Mp i k ops).toList S)(h2:Wd P ro E (Mq i k ops) S (Hq P ro (Mq i k ops) S (Qw (Qb a b S1))) [] (Mq i k ops).toList S)(hab:(Nat.ble S.H.length a&&Nat.ble S.H.length b&&Nat.blt a S1.H.length&&Nat.blt b S1.H.length)=true)(hQ:Q .normal S1):W P ro (.region id ops true) S Q:=
 O9 E i k a b S1 hm hik ho hab h1 h2 hQ
section
variable {P:Program}{E:Nat->Option Ao}{f:FuncId}{fn:Func}{c:Code}
theorem zF(hE:BN P E)(hf:P.funcs[f]? =some fn){ds:List D}{r:D}(h:W P none c ⟨Cn 0 (ds.map .d),[],fn.ntmps⟩ (KM fun S'=>∃cc x,CG E S'.env S'.H fn.results.toList=some (cc,x)/\cc=true/\Bb S'.H x r))
  (hb:fn.body=some c:=by rfl) (hname:(fn.name== "runtime.NumGoroutine")=false:=by rfl) (hn:ds.length<=fn.ntmps:=by exact rY rfl):Fn P f ds r:=fg hE hf hb hname hn h
variable {args:List AV}{H:List A3}{R:AV->List A3->Prop}
theorem zT(hE:BN P E)(hf:P.funcs[f]? =some fn)(h:W P none c ⟨Cn 0 args,H,fn.ntmps⟩ (KM fun S0=>∃S',A1 S0 S'/\H.length<=S'.H.length/\∃cc x,CG E S'.env S'.H fn.results.toList=some (cc,x)/\cc=true/\R x S'.H))(hb:fn.body=some c:=by rfl)(hname:(fn.name== "runtime.NumGoroutine")=false:=by rfl)(hn:args.length<=fn.ntmps:=by exact rY rfl):IY P f args H R:=O3 hE hf hb hname hn h
variable {H':List A3}
theorem zD(hE:BN P E)(hf:P.funcs[f]? =some fn){r:AV}(h:W P none c ⟨Cn 0 args,H,fn.ntmps⟩ (KM fun S0=>∃S',A1 S0 S'/\H.length<=S'.H.length/\∃cc x,CG E S'.env S'.H fn.results.toList=some (cc,x)/\cc=true/\x=r/\S'.H=H'))(hb:fn.body=some c:=by rfl)(hname:(fn.name== "runtime.NumGoroutine")=false:=by rfl)(hn:args.length<=fn.ntmps:=by exact rY rfl):AY P f args H r H':=aY hE hf hb hname hn h
theorem zC(hE:BN P E)(hf:P.funcs[f]? =some fn){r:AV}(h:W P none c ⟨Cn 0 args,H,fn.ntmps⟩ (KM fun S0=>∃S',A1 S0 S'/\H.length<=S'.H.length/\∃cc x,CG E S'.env S'.H fn.results.toList=some (cc,x)/\cc=true/\x=r/\Au H' S'.H))(hb:fn.body=some c:=by rfl)(hname:(fn.name== "runtime.NumGoroutine")=false:=by rfl)(hn:args.length<=fn.ntmps:=by exact rY rfl)(ho:Ae H'.length H'=true:=by rfl)(hr:r.ok H'.length=true:=by rfl)(hl:Nat.ble H.length H'.length=true:=by rfl):AY P f args H r H':=aX hE hf hb hname hn h ho hr hl
theorem zX(hE:BN P E)(hf:P.funcs[f]? =some fn){ch:List PanicEntry}(h:W P none c ⟨Cn 0 args,H,fn.ntmps⟩ (kR ch fun S0=>∃S',A1 S0 S'/\H.length<=S'.H.length/\S'.H=H'))(hb:fn.body=some c:=by rfl)(hname:(fn.name== "runtime.NumGoroutine")=false:=by rfl)(hn:args.length<=fn.ntmps:=by exact rY rfl):KJ P f args H ch H':=ab hE hf hb hname hn h
theorem zR{id n:Nat}{r:Lp}{body:Code}{en:List (Nat×AV)}{hp hp':List A3}{nt:Nat}(k:W P (some id) body ⟨en,hp',nt⟩ (o3 id n r R))(h1:hp[id]? =some (.lp r):=by rfl)(h2:hp.set id (.lp r.busy)=hp':=by first|(simp only[Kp,Fo,Nat.reduceAdd,Int.reduceAdd,Int.reduceSub,Int.reduceMul,Int.reduceToNat];done)|(simp only[Kp,Fo,Nat.reduceAdd,Int.reduceAdd,Int.reduceSub,Int.reduceMul,Int.reduceToNat];rfl)|rfl):QAs P id n r body R .normal ⟨en,hp,nt⟩:=by
 subst h2;exact⟨h1,k⟩
variable {rs:List ResultVar}
theorem Ag{S:St}{r:D}{cc:Bool}{x:AV}{p:Prop}(n:p)(he:CG E S.env S.H rs=some (cc,x):=by rfl)(hc:cc=true:=by rfl)(hf:p->Bb S.H x r:=by intro nE;simp[H8,AP,Aj,AF,nE]):∃cc x,CG E S.env S.H rs=some (cc,x)/\cc=true/\Bb S.H x r:=⟨cc,x,he,hc,hf n⟩
theorem zE{S:St}{r:D}{cc:Bool}{x:AV}(he:CG E S.env S.H rs=some (cc,x):=by rfl)(hc:cc=true:=by rfl)(hf:Bb S.H x r:=by simp[H8,AP,Aj,AF]):∃cc x,CG E S.env S.H rs=some (cc,x)/\cc=true/\Bb S.H x r:=⟨cc,x,he,hc,hf⟩
end
theorem zG{g:Operand}{ps:Array Tmp}{asg body:Code}{f:FuncId}{first cap xs:List AV}{L:Nat}{F:Lp->List A3}{en:List (Nat×AV)}{hp:List A3}{nt:Nat}(K:Lp->AV->List A3->Prop)(seq:∀r,r.is nt en ps asg body->IY P f xs (F r) (K r))(k:∀r,r.is nt en ps asg body->∀x H',K r x H'->
   (H'[L]? =some (.lp r)/\Q .normal ⟨en,H'.set L (.lp r.out),nt⟩)\/
   ∃c,H'[L]? =some (.lp (r.left c))/\W P ro c ⟨en,H'.set L (.lp (r.left c).out),nt⟩ Q) (hg:CH en g=some (.fn (.func f) first cap):=by exact rfl) (hL:hp.length=L:=by first|(simp only[Kp,Fo,Nat.reduceAdd,Int.reduceAdd,Int.reduceSub,Int.reduceMul,Int.reduceToNat];done)|(simp only[Kp,Fo,Nat.reduceAdd,Int.reduceAdd,Int.reduceSub,Int.reduceMul,Int.reduceToNat];rfl)|rfl) (hxs:first++[.yl L]++cap=xs:=by first|(simp only[Kp,Fo,Nat.reduceAdd,Int.reduceAdd,Int.reduceSub,Int.reduceMul,Int.reduceToNat];done)|(simp only[Kp,Fo,Nat.reduceAdd,Int.reduceAdd,Int.reduceSub,Int.reduceMul,Int.reduceToNat];rfl)|rfl) (hF:∀r,hp++[.lp r]=F r:=by intro r;first|(simp only[Kp,Fo,Nat.reduceAdd,Int.reduceAdd,Int.reduceSub,Int.reduceMul,Int.reduceToNat];done)|(simp only[Kp,Fo,Nat.reduceAdd,Int.reduceAdd,Int.reduceSub,Int.reduceMul,Int.reduceToNat];rfl)|rfl):W P ro (.rangeFunc g ps asg body) ⟨en,hp,nt⟩ Q:=
 az K hg hL hxs hF seq k
theorem CT0:(∀(α:Type)(a b c:List α),(a++b)++c=a++(b++c))/\(∀(α:Type)(a:List α),a++[]=a)/\(∀(α:Type)(a:List α),[]++a=a)/\(∀(α:Type)(x:α)(a b:List α),(x::a)++b=x::(a++b))/\(∀(α:Type)(a:List α),a.take 0=[])/\(∀(α:Type)(p:α->Bool),([]:List α).any p=false)/\
  (∀(α:Type)(p:α->Bool),([]:List α).filter p=[])/\(∀(α β:Type)(f:β->α->β)(x:β),([]:List α).foldl f x=x)/\(∀(α:Type)(a b:α),(if True then a else b)=a)/\(∀(α:Type)(a b:α),(if False then a else b)=b)/\(∀b:Bool,(true||b)=true)/\(∀b:Bool,(false||b)=b):=by
 simp
theorem A1.co{S':St}(hn:S'.n=S.n)(he:Ki S'.env S.env:=by repeat'(first|exact tZ|refine qQ (by(first|rfl|((with_reducible_and_instances refine congrArg (fun z=>some (AV.d (D.i _ z))) ?_);omega)|(refine congrArg (fun z=>some (AV.d (D.i _ z))) (?_:(_:Int)=_);omega)|(refine congrArg some ?_;simp only[CT0,nC,Int.reduceEq,qw,ql,Nat.add_sub_cancel,Nat.succ_ne_zero];done)|(refine congrArg some ?_;simp[nC];done))) ?_))(hH:Au S'.H S.H:=by repeat'(first|exact tZ|refine qQ (Or.inr rfl) ?_|refine qQ (Or.inl ⟨rfl,rfl⟩) ?_|refine qQ (Or.inr (by simp only[CT0,nC,Int.reduceEq,qw,ql,Nat.add_sub_cancel,Nat.succ_ne_zero])) ?_|refine qQ (Or.inr (by simp only[CT0,nC,Int.reduceEq,qw,ql,Nat.add_sub_cancel,Nat.succ_ne_zero];rfl)) ?_|refine qQ (Or.inr (by simp[nC])) ?_))(ho:Ae S'.H.length S'.H=true:=by first|rfl|(simp(decide:=true) [Ae,A3.ok,AV.oks,AV.ok];done)|(simp(decide:=true) [Ae,A3.ok,AV.oks,AV.ok,hk];done))(heo:E0 S'.H.length S'.env=true:=by rfl):A1 S S':=A1.cut hn he hH ho heo
end Go.Gar
