/- Part 6 of a proof. Conditions: those that its theorems state. -/
import Derived.Test.YtamjpnmjpponpaaGreatDoorC05
set_option linter.unusedSimpArgs false
set_option linter.unusedVariables false
set_option maxHeartbeats 40000000
set_option maxRecDepth 4000
namespace Go.Gar
def Lv(_:BF):Prop:=True
def we(_:yW):Prop:=True
def Ds(_:BF)(p:Prop):Prop:=p
def No(_:Nat):Prop:=True
def Dd(_:D):Prop:=True
structure Br (p q A B:Prop):Prop where
 t:p->A
 f:q->B
def xY:List Rc->Bool
 |[]=>false
 |x::r=>match x.k with
  | .pan _=>true
  |_=>xY r
structure Sd (c:Bool) (A:Prop):Prop where
 a:A
 c:c=true
structure Rs (R:Prop):Prop where
 x:R
variable {R:Prop}
theorem sdR{c:Bool}{G:Prop}(r:Rs (Sd c R))(k:c=true->Rs R->G):G:=k r.x.2 ⟨r.x.1⟩
variable {p:Prop}
theorem Ds.mk(ids:BF)(h:p):Ds ids p:=h
section
variable {P:Program}{ro:yb}{ops:yd}{i:Nat}{rest:yf}{S0:St}{en:yv}{hp:z6}{nt:Nat}{Q:Exit->St->Prop}{o:Oper}{E:Nat->Option Bv}{A:Prop}{acc:List Rc}
variable {S:St}
theorem gNil(k:Wl P ro ops i [] S Q):Wl P ro ops i [] S Q:=k
theorem xX(k:Wd P ro E ops S0 A acc [] S):Wd P ro E ops S0 A acc [] S:=k
def opk:Op->Nat
 | .indexAddr _ _ _=>1
 | .load _ _| .nilCheck _| .binOp _ _ _ _ _| .unOp _ _ _| .convert _ _ _| .slice _ _ _ _ _| .fieldAddr _ _ _| .field _ _ _| .index _ _ _| .build _ _| .makeFunc _ _ _| .extract _ _| .sliceToArrayPointer _ _| .makeInterface _ _| .lookup _ _ _ _| .typeAssert _ _ _ _=>2
 | .call c=>match c.callee with
  | .builtin _=>6
  |_=>3
 | .alloc _| .box _ _| .makeSlice _ _ _| .buildSlice _ _ _| .makeMap _ _=>4
 | .store _ _ _| .insert _ _ _ _| .mapUpdate _ _ _ _=>5
 |_=>6
theorem Z9(k:Nat)(_:opk o.op=k)(h:Wl P ro ops i (o::rest) S Q):Wl P ro ops i (o::rest) S Q:=h
theorem Z7(k:Nat)(_:opk o.op=k)(h:Wd P ro E ops S0 A acc (o::rest) S):Wd P ro E ops S0 A acc (o::rest) S:=h
theorem xJ(_:o.guard.isSome=true)(h:Wl P ro ops i (o::rest) S Q):Wl P ro ops i (o::rest) S Q:=h
theorem xD(_:o.guard.isSome=true)(h:Wd P ro E ops S0 A acc (o::rest) S):Wd P ro E ops S0 A acc (o::rest) S:=h
def wY(ops:yd)(nt:Nat):yf->yv->Nat->yf×yv×Nat
 |[],e,i=>([],e,i)
 |o::r,e,i=>match o.guard with
  |none=>(o::r,e,i)
  |some _=>match Af ops e o with
   |some false=>match B1 o.dst nt with
    |true=>match o.dst with
     |some d=>wY ops nt r ((d,.d (.tup []))::e) (i+1)
     |none=>wY ops nt r e (i+1)
    |false=>(o::r,e,i)
   |_=>(o::r,e,i)
theorem bG:∀(l:yf)(e:yv)(i:Nat){l':yf}{e':yv}{i':Nat},wY ops nt l e i=(l',e',i')->Wl P ro ops i' l' ⟨e',hp,nt⟩ Q->Wl P ro ops i l ⟨e,hp,nt⟩ Q
 |[],e,i,l',e',i',h,k=>by simp only[wY,zu]at h;obtain⟨rfl,rfl,rfl⟩:=h;exact k
 |o::r,e,i,l',e',i',h,k=>by
  simp only[wY]at h;split at h
  .simp only[zu]at h;obtain⟨rfl,rfl,rfl⟩:=h;exact k
  .split at h
   .rename_i hg;split at h
    .rename_i hd;split at h
     .rename_i d ho;exact Xs hg hd (by rw[ho];rfl) (bG r _ _ h k)
     .rename_i ho;exact Xs hg hd (by rw[ho];rfl) (bG r _ _ h k)
    .simp only[zu]at h;obtain⟨rfl,rfl,rfl⟩:=h;exact k
   .simp only[zu]at h;obtain⟨rfl,rfl,rfl⟩:=h;exact k
variable {e0 e:yv}
theorem Ydq(_:xY acc=true)(h:ZS ops acc=true)(hl:F5 (looks ops o) en=some e0)(hd:B1 o.dst nt=true)(he:Be o.dst .u en=some e)(hk:Wd P ro E ops S0 A (⟨e0,hp,.u,.dead⟩::acc) rest ⟨e,hp,nt⟩):Wd P ro E ops S0 A acc (o::rest) ⟨en,hp,nt⟩:=Yd h hl hd he hk
theorem XsN{l':yf}{e':yv}{i':Nat}(hg:Af ops en o=some false)(h:wY ops nt (o::rest) en i=(l',e',i'))(k:Wl P ro ops i' l' ⟨e',hp,nt⟩ Q):Wl P ro ops i (o::rest) ⟨en,hp,nt⟩ Q:=bG _ _ _ h k
theorem gW{c:Code}(k:W P ro c S Q):W P ro c S Q:=k
variable {id:Nat}
theorem gReg(k:W P ro (.region id ops false) S Q):W P ro (.region id ops false) S Q:=k
theorem gAny(k:W P ro (.region id ops true) S Q):W P ro (.region id ops true) S Q:=k
theorem xW{c:Operand}{x y:Code}(k:W P ro (.cond c x y) S Q):W P ro (.cond c x y) S Q:=k
variable {K:St->Prop}
theorem qT(k:K S):Tm K Q .normal S:=k
theorem qTr(k:Q .ret S):Tm K Q .ret S:=k
variable {j:Nat}
theorem qTe(k:Q (.exit j) S):Tm K Q (.exit j) S:=k
theorem qTg(k:Q (.goto j) S):Tm K Q (.goto j) S:=k
variable {ch:yn}
theorem qTp(k:Q (.panic ch) S):Tm K Q (.panic ch) S:=k
theorem qBn(k:Q .normal S):Ol j Q .normal S:=k
theorem qBr(k:Q .ret S):Ol j Q .ret S:=k
theorem qBg{l:Nat}(k:Q (.goto l) S):Ol j Q (.goto l) S:=k
theorem qBp(k:Q (.panic ch) S):Ol j Q (.panic ch) S:=k
theorem qSn{c:Code}(k:Q .normal S):H8 P ro c Q j .normal S:=by rw[Jj (by intro l h;cases h)];exact k
theorem qSr{c:Code}(k:Q .ret S):H8 P ro c Q j .ret S:=by rw[Jj (by intro l h;cases h)];exact k
theorem qSe{c:Code}{i:Nat}(k:Q (.exit i) S):H8 P ro c Q j (.exit i) S:=by rw[Jj (by intro l h;cases h)];exact k
theorem qSg{c rest:Code}{l:Nat}(h:findLabel c l=some rest)(k:W P ro rest S (H8 P ro c Q j)):H8 P ro c Q (j+1) (.goto l) S:=by
 simp only[H8,h];exact k
theorem lQ{e:Exit}(r:Rs (Om K e S)):Om K e S:=r.x
theorem lI{α:Type}{I:α->Prop}{F:α->St}{lt:α->Prop}{k:Nat}(r:Rs (wi I F lt k Q .normal S)):wi I F lt k Q .normal S:=r.x
variable {n:Nat}
theorem lY{lp:Lp}{R:AV->z6->Prop}{e:Exit}(r:Rs (tj id n lp R e S)):tj id n lp R e S:=r.x
variable {p q B C:Prop}
theorem bV{c:Operand}{x y:Code}{t:Bool}(_:No 1)(hc:EY S.env c=some (.d (.b t)))(ip:t=true->p)(iq:t=false->q)(r:Rs (Br p q B C))(ht:t=true->Rs B->W P ro x S Q)(hf:t=false->Rs C->W P ro y S Q):W P ro (.cond c x y) S Q:=
 FJ hc (fun h=>ht h ⟨r.x.t (ip h)⟩) (fun h=>hf h ⟨r.x.f (iq h)⟩)
variable {b:Bool}
theorem pa{d:Nat}(_:No 0)(hg:g8 ops o=some d)(hb:get en d=some (.d (.b b)))(ip:b=true->p)(iq:b=false->q)(r:Rs (Br p q B C))(ht:b=true->Rs B->Wl P ro ops i (o::rest) ⟨(d,.d (.b true))::en,hp,nt⟩ Q)(hf:b=false->Rs C->Wl P ro ops i (o::rest) ⟨(d,.d (.b false))::en,hp,nt⟩ Q):Wl P ro ops i (o::rest) ⟨en,hp,nt⟩ Q:=
 RJ hg hb (fun h=>ht h ⟨r.x.t (ip h)⟩) (fun h=>hf h ⟨r.x.f (iq h)⟩)
theorem pc{d:Nat}(_:No 0)(hg:g8 ops o=some d)(hb:get en d=some (.d (.b b)))(ip:b=true->p)(iq:b=false->q)(r:Rs (Br p q B C))(ht:b=true->Rs B->Wd P ro E ops S0 A acc (o::rest) ⟨(d,.d (.b true))::en,hp,nt⟩)(hf:b=false->Rs C->Wd P ro E ops S0 A acc (o::rest) ⟨(d,.d (.b false))::en,hp,nt⟩):Wd P ro E ops S0 A acc (o::rest) ⟨en,hp,nt⟩:=
 RL hg hb (fun h=>ht h ⟨r.x.t (ip h)⟩) (fun h=>hf h ⟨r.x.f (iq h)⟩)
variable {live:BF}
theorem XnL(_:Lv live)(h:F5 live en=some e)(k:Q .normal ⟨e,hp,nt⟩):Wl P ro ops i [] ⟨en,hp,nt⟩ Q:=Xn live h k
variable {L:BF}{c:Bool}{x':AV}{H':z6}
theorem jm(_:Lv L)(hE:Ce P E){q:D}(u2:Pq o.dst L=true)(hg:Af ops en o=some true)(h:Rm E en hp o.op=some (c,q))(hd:B1 o.dst nt=true)(he:Be o.dst x' en=some e)(hH:HI hp (.a q)=some H')(k:Wl P ro ops (i+1) rest ⟨e,H',nt⟩ Q)(hc:c=true)(hx: .sl hp.length (BP q) (CC q)=x':=by first|(simp only[N6,KL,Nat.reduceAdd,Int.reduceAdd,Int.reduceSub,Int.reduceMul,Int.reduceToNat,nS];rfl)|rfl):Wl P ro ops i (o::rest) ⟨en,hp,nt⟩ Q:=pz L hE u2 hg h hd he hH k hc hx
variable {x:AV}
theorem uE(_:Lv L)(u1:Pq o.dst L=true)(hg:Af ops en o=some true)(h:Rt en o.op=some (c,x))(hd:B1 o.dst nt=true)(he:Be o.dst x' en=some e)(k:Wl P ro ops (i+1) rest ⟨e,hp,nt⟩ Q)(hc:c=true)(hx:x=x':=by rfl):Wl P ro ops i (o::rest) ⟨en,hp,nt⟩ Q:=XwL L u1 hg h hd he k hc hx
theorem jn(_:Lv L)(hE:Ce P E){q:D}(u2:Pq o.dst L=true)(hl:F5 (looks ops o) en=some e0)(hg:Af ops e0 o=some true)(h:Rm E e0 hp o.op=some (c,q))(hd:B1 o.dst nt=true)(he:Be o.dst x' en=some e)(hH:HI hp (.a q)=some H')(hk:Wd P ro E ops S0 A (⟨e0,hp,x',.eff⟩::acc) rest ⟨e,H',nt⟩)(hc:c=true)(hx: .sl hp.length (BP q) (CC q)=x':=by first|(simp only[N6,KL,Nat.reduceAdd,Int.reduceAdd,Int.reduceSub,Int.reduceMul,Int.reduceToNat,nS];rfl)|rfl):Wd P ro E ops S0 A acc (o::rest) ⟨en,hp,nt⟩:=YaoL L hE u2 hl hg h hd he hH hk hc hx
variable {l:yW}
theorem YnLv(_:Lv live)(_:we l)(hm:P.follows .mixedOrders=true)(hE:Ce P E)(hd:Kp ops (acc.reverse.map Rc.k) l=true)(hx:Dk E ops acc.reverse hp l)(he:F5 live en=some e)(hQ:Q .normal ⟨e,hp,nt⟩):Wd P ro E ops S0 (W P ro (.region id ops true) S0 Q) acc [] ⟨en,hp,nt⟩:=Yn live l hm hE hd hx he hQ
theorem YnXL(_:we l){i0:Nat}(hm:P.follows .mixedOrders=true)(hE:Ce P E)(hp':Gx (acc.reverse.map Rc.k)=some (i0,ch))(hd:IW ops (acc.reverse.map Rc.k) l=true)(hx:Dk E ops acc.reverse hp l)(hQ:Q (.panic ch) ⟨[],hp,nt⟩):Wd P ro E ops S0 (W P ro (.region id ops true) S0 Q) acc [] ⟨en,hp,nt⟩:=YnX l hm hE hp' hd hx hQ
theorem Yn2L(_:Lv live)(_:we l)(hE:Ce P E)(hd:Kp ops (acc.reverse.map Rc.k) l=true)(hx:Dk E ops acc.reverse hp l)(he:F5 live en=some e)(hQ:Q .normal ⟨e,hp,nt⟩):Wd P ro E ops S0 (RH P ro ops S0 (Qw Q)) acc [] ⟨en,hp,nt⟩:=Yn2 live l hE hd hx he hQ
variable {t:Nat}
theorem q6(_:No t){x:D}{sz:Nat}(u1:kY t o.op=true)(ht:get en t=some (.sl id n sz))(hid:hp[id]? =some (.a x))(hn:n=BP x)(k:Wl P ro ops i (o::rest) ⟨(t,.d x)::en,F8 id x 0 hp,nt⟩ Q):Wl P ro ops i (o::rest) ⟨en,hp,nt⟩ Q:=Xfz t u1 ht hid hn k
theorem XfuL(_:No t){x:D}{sz:Nat}(u1:Es t (mz o.op)=true)(ht:get en t=some (.sl id n sz))(hid:hp[id]? =some (.a x))(hn:n=BP x)(k:Wl P ro ops i (o::rest) ⟨(t,.d x)::en,F8 id x 0 hp,nt⟩ Q):Wl P ro ops i (o::rest) ⟨en,hp,nt⟩ Q:=Xfu t u1 ht hid hn k
theorem xL(_:No t){q:D}(_:Dd q)(hE:Ce P E){f:Nat->AV}{b:AM}(u3:Pq o.dst [t]=true)(hg:Af ops en o=some true)(h:pQ E en hp o.op=some (c,f,b))(hb:b= .a q)(hd:B1 o.dst nt=true)(he:Be o.dst x' en=some e)(hH:HI hp (.a q)=some H')(hx:f hp.length=x')(k:Wl P ro ops (i+1) rest ⟨e,H',nt⟩ Q)(hc:c=true):Wl P ro ops i (o::rest) ⟨en,hp,nt⟩ Q:=XaB t q hE u3 hg h hb hd he hH hx k hc
variable {H'':z6}
theorem xM(_:No 2)(hE:Ce P E)(hg:Af ops en o=some true)(h:Zg E en hp o.op=some (c,H'))(hd:B1 o.dst nt=true)(he:Be o.dst .u en=some e)(k:Wl P ro ops (i+1) rest ⟨e,H'',nt⟩ Q)(hc:c=true)(hH:H'=H'':=by first|(simp only[nS];rfl)|rfl):Wl P ro ops i (o::rest) ⟨en,hp,nt⟩ Q:=Xsb hE hg h hd he k hc hH
theorem uF(_:No 2)(hE:Ce P E)(hl:F5 (looks ops o) en=some e0)(hg:Af ops e0 o=some true)(h:Zg E e0 hp o.op=some (c,H'))(hd:B1 o.dst nt=true)(he:Be o.dst .u en=some e)(k:Wd P ro E ops S0 A (⟨e0,hp,.u,.eff⟩::acc) rest ⟨e,H'',nt⟩)(hc:c=true)(hH:H'=H'':=by first|(simp only[nS];rfl)|rfl):Wd P ro E ops S0 A acc (o::rest) ⟨en,hp,nt⟩:=Ysb hE hl hg h hd he k hc hH
theorem To(_:Lv L)(u1:Es id L=false)(h:Wl P ro ops 0 ops.toList S Q):W P ro (.region id ops false) S Q:=J6 L u1 h
theorem jb(_:Lv L)(E:Nat->Option Bv)(u2:Es id L=false)(h:Wd P ro E ops S (W P ro (.region id ops true) S Q) [] ops.toList S):W P ro (.region id ops true) S Q:=RF L E u2 h
theorem WZ(_:No n){c:Code}(h:W P ro c S (yE P ro c Q n)):W P ro (.loop c) S Q:=pn n h
theorem Wb{c:Code}(_:No j)(h:W P ro c S (H8 P ro c Q j)):W P ro (.scope c) S Q:=QR j h
variable {g:Nat}{args:yr}{H:z6}{ids:BF}
theorem pN{r r':AV}(hF:Ds ids (Aw P g args H r H'))(hg:Af ops en o=some true)(h:Cu en o.op=some (g,AV.E2 (rn ids hp.length) args))(hd:B1 o.dst nt=true)(hm:DY (rn ids hp.length) hp ids H)(hn:nodupB ids=true)(ho:Bj H.length H=true)(ha:AV.oks H.length args=true)(he:Be o.dst r' en=some e)(k:Wl P ro ops (i+1) rest ⟨e,H'',nt⟩ Q)(hr:r.ren (rn ids hp.length)=r':=by first|(simp only[N6,KL,Nat.reduceAdd,Int.reduceAdd,Int.reduceSub,Int.reduceMul,Int.reduceToNat,nS];rfl)|rfl)(hH:KO ids hp (E1 (rn ids hp.length) H')=H'':=by first|(simp only[KL,Nat.reduceAdd];rfl)|rfl):Wl P ro ops i (o::rest) ⟨en,hp,nt⟩ Q:=XD ids hF hg h hd hm hn ho ha he k hr hH
theorem pO{r r':AV}(hF:Ds ids (Aw P g args H r H'))(hl:F5 (looks ops o) en=some e0)(hg:Af ops e0 o=some true)(h:Cu e0 o.op=some (g,AV.E2 (rn ids hp.length) args))(hd:B1 o.dst nt=true)(hm:DY (rn ids hp.length) hp ids H)(hn:nodupB ids=true)(ho:Bj H.length H=true)(ha:AV.oks H.length args=true)(he:Be o.dst r' en=some e)(hk:Wd P ro E ops S0 A (⟨e0,hp,r',.eff⟩::acc) rest ⟨e,H'',nt⟩)(hr:r.ren (rn ids hp.length)=r':=by first|(simp only[N6,KL,Nat.reduceAdd,Int.reduceAdd,Int.reduceSub,Int.reduceMul,Int.reduceToNat,nS];rfl)|rfl)(hH:KO ids hp (E1 (rn ids hp.length) H')=H'':=by first|(simp only[KL,Nat.reduceAdd];rfl)|rfl):Wd P ro E ops S0 A acc (o::rest) ⟨en,hp,nt⟩:=YD ids hF hl hg h hd hm hn ho ha he hk hr hH
theorem wM(hF:Ds ids (MZ P g args H ch H'))(hg:Af ops en o=some true)(h:Cu en o.op=some (g,AV.E2 (rn ids hp.length) args))(hm:DY (rn ids hp.length) hp ids H)(hn:nodupB ids=true)(ho:Bj H.length H=true)(ha:AV.oks H.length args=true)(k:Q (.panic ch) ⟨en,H'',nt⟩)(hH:KO ids hp (E1 (rn ids hp.length) H')=H'':=by first|(simp only[KL,Nat.reduceAdd];rfl)|rfl):Wl P ro ops i (o::rest) ⟨en,hp,nt⟩ Q:=XX ids hF hg h hm hn ho ha k hH
theorem wQ(hF:Ds ids (MZ P g args H ch H'))(hl:F5 (looks ops o) en=some e0)(hg:Af ops e0 o=some true)(h:Cu e0 o.op=some (g,AV.E2 (rn ids hp.length) args))(hd:B1 o.dst nt=true)(hm:DY (rn ids hp.length) hp ids H)(hn:nodupB ids=true)(ho:Bj H.length H=true)(ha:AV.oks H.length args=true)(he:Be o.dst .u en=some e)(hk:Wd P ro E ops S0 A (⟨e0,hp,.u,.pan ch⟩::acc) rest ⟨e,H'',nt⟩)(hH:KO ids hp (E1 (rn ids hp.length) H')=H'':=by first|(simp only[KL,Nat.reduceAdd];rfl)|rfl):Wd P ro E ops S0 A acc (o::rest) ⟨en,hp,nt⟩:=YX ids hF hl hg h hd hm hn ho ha he hk hH
theorem XfdL{r:D}(_:Dd (.tup [.i .i64 t,r]))(u1:Es t (mz o.op)=true)(ht:get en t=some x)(hx:Oe [x] [r])(hne:(match x with| .d _=>false|_=>true)=true)(k:Wl P ro ops i (o::rest) ⟨(t,.d r)::en,hp,nt⟩ Q):Wl P ro ops i (o::rest) ⟨en,hp,nt⟩ Q:=Xfd t r u1 ht hx hne k
theorem XyBR{xs:yr}{r0:Lp}{H1 H2:z6}{e1 e2:yv}(hT:b=true->YT P id xs hp fun r K=>r= .d (.b true)/\K=H1)(hF:b=false->YT P id xs hp fun r K=>r= .d (.b false)/\K=H2)(hg:Af ops en o=some true)(h:NU en o.op=some (id,xs))(hd:B1 o.dst nt=true)(hlp:hp[id]? =some (.lp r0))(he1:Be o.dst (.d (.b true)) en=some e1)(he2:Be o.dst (.d (.b false)) en=some e2)(hp':b=true->p)(hq':b=false->q)(r:Rs (Br p q B C))(k1:b=true->Rs B->Wl P ro ops (i+1) rest ⟨e1,H1,nt⟩ Q)(k2:b=false->Rs C->Wl P ro ops (i+1) rest ⟨e2,H2,nt⟩ Q):Wl P ro ops i (o::rest) ⟨en,hp,nt⟩ Q:=
 XyB b hT hF hg h hd hlp he1 he2 (fun h=>k1 h ⟨r.x.t (hp' h)⟩) (fun h=>k2 h ⟨r.x.f (hq' h)⟩)
def Ke(n:Int):Ai->Bool
 |[]=>true
 |k::r=> !(n==k)&&Ke n r
def SV(kd:IntKind):z7->Option (Ai)
 |[]=>some []
 |(.i k a,_)::r=>match decide (kd=k),SV kd r with
  |true,some l=>some (a::l)
  |_,_=>none
 |_::_=>none
theorem UG{kd:IntKind}{n:Int}:∀{es:z7}{ks:Ai},SV kd es=some ks->Ke n ks=true->Q1 (.i kd n) es=some none
 |[],ks,h,hk=>rfl
 |(.i k a,v)::r,ks,h,hk=>by
  simp only[SV]at h;split at h
  .rename_i l h1 h2;cases h;simp only[Ke,zO,q0h]at hk;have e:=of_decide_eq_true h1;simp only[Q1,sameD,zn e,hk.1];exact UG h2 hk.2
  .cases h
 |(.b _,_)::_,_,h,_|(.s _,_)::_,_,h,_|(.f _ _,_)::_,_,h,_|(.agg _,_)::_,_,h,_|(.tup _,_)::_,_,h,_|(.by _,_)::_,_,h,_|(.is _,_)::_,_,h,_|(.sl _ _,_)::_,_,h,_|(.np,_)::_,_,h,_|(.nf,_)::_,_,h,_|(.ni,_)::_,_,h,_|(.nm,_)::_,_,h,_|(.ifc _ _,_)::_,_,h,_|(.raw _,_)::_,_,h,_=>by simp[SV]at h
def cI(E:Nat->Option Bv)(env:yv)(H:z6):Op->Option (Int×Ai×Bool×AV)
 | .lookup t m k ok=>match EY env m,EY env k with
  |some (.mp id),some (.d (.i kd n))=>match H[id]?,E t with
   |some (.m es),some y=>match y.k with
    | .mp kt et=>match E kt,E et,SV kd es with
     |some yk,some _,some ks=>some (n,ks,P9 yk.k,if ok then .tup [.u,.d (.b false)]else .u)
     |_,_,_=>none
    |_=>none
   |_,_=>none
  |_,_=>none
 |_=>none
variable {ks:Ai}
theorem cN{env:yv}{op:Op}{n:Int}(h:cI E env H op=some (n,ks,c,x))(hk:Ke n ks=true):P0 E env H op=some (c,x):=by
 unfold cI at h;split at h
 .split at h
  .rename_i id kd n' hm hn;split at h
   .rename_i es y hes hy;split at h
    .rename_i kt et hyk;split at h
     .rename_i yk ye ks' h1 h2 h3;simp only[zf,zu]at h;obtain⟨rfl,rfl,rfl,rfl⟩:=h;simp only[P0,hm,hn,V6,hes,hy,hyk,h1,h2,UG h3 hk]
     .cases h
    .cases h
   .cases h
  .cases h
 .cases h
theorem XlkL{n:Int}(hk:Ke n ks=true)(hE:Ce P E)(hg:Af ops en o=some true)(h:cI E en hp o.op=some (n,ks,c,x))(hd:B1 o.dst nt=true)(he:Be o.dst x' en=some e)(k:Wl P ro ops (i+1) rest ⟨e,hp,nt⟩ Q)(hc:c=true)(hx:x=x':=by rfl):Wl P ro ops i (o::rest) ⟨en,hp,nt⟩ Q:=Xq hE hg (cN h hk) hd he k hc hx
theorem YlkL{n:Int}(hk:Ke n ks=true)(hl:F5 (looks ops o) en=some e0)(hg:Af ops e0 o=some true)(h:cI E e0 hp o.op=some (n,ks,c,x))(hd:B1 o.dst nt=true)(he:Be o.dst x' en=some e)(hk':Wd P ro E ops S0 A (⟨e0,hp,x',.quiet⟩::acc) rest ⟨e,hp,nt⟩)(hc:c=true)(hx:x=x':=by rfl):Wd P ro E ops S0 A acc (o::rest) ⟨en,hp,nt⟩:=Yq hl hg (cN h hk) hd he hk' hc hx
end
structure QE:Prop
theorem Oi:QE:=⟨⟩
inductive Sb:Bool->Prop where
 |f:Sb false
 |t:Sb true
theorem tP(b:Bool):Sb b:=by cases b<;>constructor
theorem scO(_:Sb true):No 3:=trivial
variable {a0:Prop}
theorem AK(x0:a0):a0/\QE:=⟨x0,Oi⟩
variable {a1:Prop}
theorem Au(x0:a0)(x1:a1):a0/\a1/\QE:=⟨x0,x1,Oi⟩
variable {a2:Prop}
theorem CP(x0:a0)(x1:a1)(x2:a2):a0/\a1/\a2/\QE:=⟨x0,x1,x2,Oi⟩
variable {a3:Prop}
theorem ME(x0:a0)(x1:a1)(x2:a2)(x3:a3):a0/\a1/\a2/\a3/\QE:=⟨x0,x1,x2,x3,Oi⟩
variable {a4:Prop}
theorem TT(x0:a0)(x1:a1)(x2:a2)(x3:a3)(x4:a4):a0/\a1/\a2/\a3/\a4/\QE:=⟨x0,x1,x2,x3,x4,Oi⟩
variable {a5:Prop}
theorem zq6(x0:a0)(x1:a1)(x2:a2)(x3:a3)(x4:a4)(x5:a5):a0/\a1/\a2/\a3/\a4/\a5/\QE:=⟨x0,x1,x2,x3,x4,x5,Oi⟩
variable {a6:Prop}
theorem zq7(x0:a0)(x1:a1)(x2:a2)(x3:a3)(x4:a4)(x5:a5)(x6:a6):a0/\a1/\a2/\a3/\a4/\a5/\a6/\QE:=⟨x0,x1,x2,x3,x4,x5,x6,Oi⟩
variable {a7:Prop}
theorem zq8(x0:a0)(x1:a1)(x2:a2)(x3:a3)(x4:a4)(x5:a5)(x6:a6)(x7:a7):a0/\a1/\a2/\a3/\a4/\a5/\a6/\a7/\QE:=⟨x0,x1,x2,x3,x4,x5,x6,x7,Oi⟩
theorem zq9{a8:Prop}(x0:a0)(x1:a1)(x2:a2)(x3:a3)(x4:a4)(x5:a5)(x6:a6)(x7:a7)(x8:a8):a0/\a1/\a2/\a3/\a4/\a5/\a6/\a7/\a8/\QE:=⟨x0,x1,x2,x3,x4,x5,x6,x7,x8,Oi⟩
theorem BJ(i0:BF)(x0:a0):Ds i0 a0/\QE:=⟨x0,Oi⟩
theorem H0(i0:BF)(x0:a0)(i1:BF)(x1:a1):Ds i0 a0/\Ds i1 a1/\QE:=⟨x0,x1,Oi⟩
theorem WA(i0:BF)(x0:a0)(i1:BF)(x1:a1)(i2:BF)(x2:a2):Ds i0 a0/\Ds i1 a1/\Ds i2 a2/\QE:=⟨x0,x1,x2,Oi⟩
theorem zd4(i0:BF)(x0:a0)(i1:BF)(x1:a1)(i2:BF)(x2:a2)(i3:BF)(x3:a3):Ds i0 a0/\Ds i1 a1/\Ds i2 a2/\Ds i3 a3/\QE:=⟨x0,x1,x2,x3,Oi⟩
theorem zd5(i0:BF)(x0:a0)(i1:BF)(x1:a1)(i2:BF)(x2:a2)(i3:BF)(x3:a3)(i4:BF)(x4:a4):Ds i0 a0/\Ds i1 a1/\Ds i2 a2/\Ds i3 a3/\Ds i4 a4/\QE:=⟨x0,x1,x2,x3,x4,Oi⟩
theorem zd7(i0:BF)(x0:a0)(i1:BF)(x1:a1)(i2:BF)(x2:a2)(i3:BF)(x3:a3)(i4:BF)(x4:a4)(i5:BF)(x5:a5)(i6:BF)(x6:a6):Ds i0 a0/\Ds i1 a1/\Ds i2 a2/\Ds i3 a3/\Ds i4 a4/\Ds i5 a5/\Ds i6 a6/\QE:=⟨x0,x1,x2,x3,x4,x5,x6,Oi⟩
theorem zd9{a8:Prop}(i0:BF)(x0:a0)(i1:BF)(x1:a1)(i2:BF)(x2:a2)(i3:BF)(x3:a3)(i4:BF)(x4:a4)(i5:BF)(x5:a5)(i6:BF)(x6:a6)(i7:BF)(x7:a7)(i8:BF)(x8:a8):Ds i0 a0/\Ds i1 a1/\Ds i2 a2/\Ds i3 a3/\Ds i4 a4/\Ds i5 a5/\Ds i6 a6/\Ds i7 a7/\Ds i8 a8/\QE:=⟨x0,x1,x2,x3,x4,x5,x6,x7,x8,Oi⟩
def Wk(R g:Prop)(L K:BF)(p q s:Prop)(M:yW)(Z:Bool):Prop:=Lv L->Lv K->we M->No 0->No 1->Sb Z->p->q->s->Rs R->g
variable {g q s:Prop}
set_option maxRecDepth 100000 in
theorem wb{L K:BF}{M:yW}{Z:Bool}(h:Lv L->Lv K->we M->No 0->No 1->Sb Z->p->q->s->Rs R->g:=by intro lv st pr ns nc sc nS zq zd r;(try obtain⟨c1,zq⟩:_/\_:=zq);(try obtain⟨c2,zq⟩:_/\_:=zq);(try obtain⟨c3,zq⟩:_/\_:=zq);(try obtain⟨c4,zq⟩:_/\_:=zq);(try obtain⟨c5,zq⟩:_/\_:=zq);(try obtain⟨c6,zq⟩:_/\_:=zq);(try obtain⟨c7,zq⟩:_/\_:=zq);(try obtain⟨c8,zq⟩:_/\_:=zq);(try obtain⟨c9,zq⟩:_/\_:=zq);(try obtain⟨c10,zq⟩:_/\_:=zq);(try obtain⟨c11,zq⟩:_/\_:=zq);(try obtain⟨c12,zq⟩:_/\_:=zq);(try obtain⟨c13,zq⟩:_/\_:=zq);(try obtain⟨c14,zq⟩:_/\_:=zq);(try obtain⟨c15,zq⟩:_/\_:=zq);(try obtain⟨c16,zq⟩:_/\_:=zq);(try obtain⟨d1,zd⟩:_/\_:=zd);(try obtain⟨d2,zd⟩:_/\_:=zd);(try obtain⟨d3,zd⟩:_/\_:=zd);(try obtain⟨d4,zd⟩:_/\_:=zd);(try obtain⟨d5,zd⟩:_/\_:=zd);(try obtain⟨d6,zd⟩:_/\_:=zd);(try obtain⟨d7,zd⟩:_/\_:=zd);(try obtain⟨d8,zd⟩:_/\_:=zd);(try obtain⟨d9,zd⟩:_/\_:=zd);(try obtain⟨d10,zd⟩:_/\_:=zd);(repeat'(first|((with_reducible refine g0 ?_);first|((with_reducible refine gNil ?_);first|refine XnL lv rfl ?_|refine jj ?_)|(refine xJ rfl ?_;refine XsN rfl rfl ?_)|(refine XfdL fd1 rfl rfl (by first|(simp[Oe,Ec,Cw,Bl,BP,BM];done)|(repeat'(first|rfl|trivial|refine⟨rfl,rfl,by simp[BM]⟩|refine⟨_,_,rfl,?_,?_⟩|refine⟨_,rfl,?_⟩))) rfl ?_)|(refine Er rfl ?_;refine el AE rfl rfl rfl rfl ?_)|(refine Z9 1 rfl ?_;first|refine q7 AE rfl rfl rfl rfl rfl (q0V _) (EF ix1) ?_|refine q7 AE rfl rfl rfl rfl rfl (q0V _) (EF ix2) ?_|refine q7 AE rfl rfl rfl rfl rfl (q0V _) (EF ix3) ?_|refine q7 AE rfl rfl rfl rfl rfl (q0V _) (EF ix4) ?_)|((first|(refine Z9 1 rfl ?_;first|refine uE wr rfl rfl rfl rfl rfl ?_ ?_|refine Xq AE rfl rfl rfl rfl ?_ ?_)|(refine Z9 2 rfl ?_;first|refine XlkL lk1 AE rfl rfl rfl rfl ?_ ?_|refine uE wr rfl rfl rfl rfl rfl ?_ ?_|refine Xq AE rfl rfl rfl rfl ?_ ?_)|(refine Z9 4 rfl ?_;first|refine jm ow AE rfl rfl rfl rfl rfl rfl ?_ ?_|refine xL k1 k2 AE rfl rfl rfl (by first|rfl|simp[KZ]) rfl rfl rfl rfl ?_ ?_|refine Xa AE rfl rfl rfl rfl rfl ?_ ?_|refine Xq AE rfl rfl rfl rfl ?_ ?_|refine Xbs AE rfl rfl rfl rfl rfl rfl ?_ ?_)|(refine Z9 5 rfl ?_;first|refine Xw AE rfl rfl rfl rfl ?_ ?_|refine xM sb AE rfl rfl rfl rfl ?_ ?_|refine Xsc AE rfl rfl rfl rfl ?_ ?_)|(refine Z9 6 rfl ?_;first|refine jm ow AE rfl rfl rfl rfl rfl rfl ?_ ?_|refine Xq AE rfl rfl rfl rfl ?_ ?_|refine Xw AE rfl rfl rfl rfl ?_ ?_|refine Xa AE rfl rfl rfl rfl rfl ?_ ?_));rotate_left;focus((repeat'(first|with_reducible rfl|((with_reducible refine Na ?_);first|kernel_rfl|rfl|(simp[Fp,IL,nS];done))|with_reducible refine Mb ?_ ?_|with_reducible exact q1K _|with_reducible exact DL _|((with_reducible refine zU ?_);first|omega|(simp only[IK,nS];omega))|decide|(simp[IK,slc,Cs,D.one,ER,AV.one,nS];done)|(simp[IK,nS];omega)));done))|(refine Z9 3 rfl ?_;first|refine q6 fz1 rfl rfl rfl (by first|rfl|simp[BP]) ?_|refine q6 fz2 rfl rfl rfl (by first|rfl|simp[BP]) ?_|refine q6 fz3 rfl rfl rfl (by first|rfl|simp[BP]) ?_|refine q6 fz4 rfl rfl rfl (by first|rfl|simp[BP]) ?_|refine XT t1 rfl rfl rfl rfl ?_|refine XF (c1 ..) rfl rfl rfl rfl ?_|refine XF (c2 ..) rfl rfl rfl rfl ?_|refine XF (c3 ..) rfl rfl rfl rfl ?_|refine XF (c4 ..) rfl rfl rfl rfl ?_|refine XF (c5 ..) rfl rfl rfl rfl ?_|refine XF (c6 ..) rfl rfl rfl rfl ?_|refine XF (c7 ..) rfl rfl rfl rfl ?_|refine XF (c8 ..) rfl rfl rfl rfl ?_|refine XF (c9 ..) rfl rfl rfl rfl ?_|refine XF (c10 ..) rfl rfl rfl rfl ?_|refine XF (c11 ..) rfl rfl rfl rfl ?_|refine XF (c12 ..) rfl rfl rfl rfl ?_|refine XF (c13 ..) rfl rfl rfl rfl ?_|refine XF (c14 ..) rfl rfl rfl rfl ?_|refine XF (c15 ..) rfl rfl rfl rfl ?_|refine XF (c16 ..) rfl rfl rfl rfl ?_|(refine XFz (z1 ..) rfl rfl rfl rfl ?_ ?_;(first|(simp[Oe,Ec,Cw,Bl,BP,BM];done)|(repeat'(first|rfl|trivial|refine⟨rfl,rfl,by simp[BM]⟩|refine⟨_,_,rfl,?_,?_⟩|refine⟨_,rfl,?_⟩))))|(refine XFz (z2 ..) rfl rfl rfl rfl ?_ ?_;(first|(simp[Oe,Ec,Cw,Bl,BP,BM];done)|(repeat'(first|rfl|trivial|refine⟨rfl,rfl,by simp[BM]⟩|refine⟨_,_,rfl,?_,?_⟩|refine⟨_,rfl,?_⟩))))|(refine XFz (z3 ..) rfl rfl rfl rfl ?_ ?_;(first|(simp[Oe,Ec,Cw,Bl,BP,BM];done)|(repeat'(first|rfl|trivial|refine⟨rfl,rfl,by simp[BM]⟩|refine⟨_,_,rfl,?_,?_⟩|refine⟨_,rfl,?_⟩))))|(refine pN (d1 ..) rfl rfl rfl ?_ rfl rfl rfl rfl ?_;(focus((repeat(first|exact trivial|refine⟨rfl,?_⟩));done)))|(refine pN (d2 ..) rfl rfl rfl ?_ rfl rfl rfl rfl ?_;(focus((repeat(first|exact trivial|refine⟨rfl,?_⟩));done)))|(refine pN (d3 ..) rfl rfl rfl ?_ rfl rfl rfl rfl ?_;(focus((repeat(first|exact trivial|refine⟨rfl,?_⟩));done)))|(refine pN (d4 ..) rfl rfl rfl ?_ rfl rfl rfl rfl ?_;(focus((repeat(first|exact trivial|refine⟨rfl,?_⟩));done)))|(refine pN (d5 ..) rfl rfl rfl ?_ rfl rfl rfl rfl ?_;(focus((repeat(first|exact trivial|refine⟨rfl,?_⟩));done)))|(refine pN (d6 ..) rfl rfl rfl ?_ rfl rfl rfl rfl ?_;(focus((repeat(first|exact trivial|refine⟨rfl,?_⟩));done)))|(refine pN (d7 ..) rfl rfl rfl ?_ rfl rfl rfl rfl ?_;(focus((repeat(first|exact trivial|refine⟨rfl,?_⟩));done)))|(refine pN (d8 ..) rfl rfl rfl ?_ rfl rfl rfl rfl ?_;(focus((repeat(first|exact trivial|refine⟨rfl,?_⟩));done)))|(refine pN (d9 ..) rfl rfl rfl ?_ rfl rfl rfl rfl ?_;(focus((repeat(first|exact trivial|refine⟨rfl,?_⟩));done)))|(refine pN (d10 ..) rfl rfl rfl ?_ rfl rfl rfl rfl ?_;(focus((repeat(first|exact trivial|refine⟨rfl,?_⟩));done)))|refine Xy q1 rfl rfl rfl rfl rfl ?_|refine Xy (q1 _) rfl rfl rfl rfl rfl ?_|refine Xy (q1 _ _) rfl rfl rfl rfl rfl ?_|(refine' XyBR (g1T _) (g1F _) rfl rfl rfl rfl rfl rfl ?_ ?_ r (fun hc s=> ?_) (fun hc s=> ?_);(all_goals(first|guard_target=Prop|(clear r;have r:=s;clear s;(try simp only[Ma]at hc);(try(exfalso;omega)))|(intro hc;(try simp only[Ma]at hc);first|done|exact hc))))|(refine wM (x1 ..) rfl rfl ?_ rfl rfl rfl ?_;(focus((repeat(first|exact trivial|refine⟨rfl,?_⟩));done)))|(refine wM (x2 ..) rfl rfl ?_ rfl rfl rfl ?_;(focus((repeat(first|exact trivial|refine⟨rfl,?_⟩));done)))|(refine wM (x3 ..) rfl rfl ?_ rfl rfl rfl ?_;(focus((repeat(first|exact trivial|refine⟨rfl,?_⟩));done)))|(refine wM (x4 ..) rfl rfl ?_ rfl rfl rfl ?_;(focus((repeat(first|exact trivial|refine⟨rfl,?_⟩));done)))|(refine wM (x5 ..) rfl rfl ?_ rfl rfl rfl ?_;(focus((repeat(first|exact trivial|refine⟨rfl,?_⟩));done)))|(refine wM (x6 ..) rfl rfl ?_ rfl rfl rfl ?_;(focus((repeat(first|exact trivial|refine⟨rfl,?_⟩));done))))|refine Xpan rfl rfl rfl ?_|refine XfuL fu1 rfl rfl rfl (by first|rfl|simp[BP]) ?_|(refine' pa ns rfl rfl ?_ ?_ r (fun hc s=> ?_) (fun hc s=> ?_);(all_goals(first|guard_target=Prop|(clear r;have r:=s;clear s;(fail_if_success (with_reducible first|exact tF hc|exact fT hc));(try simp only[Ma]at hc);(try(exfalso;omega)))|(intro hc;(try simp only[Ma]at hc);first|done|exact hc))))|(refine' sdR r (fun hs s=> ?_);rotate_left 2;clear r;have r:=s;clear s;first|refine jm ow AE rfl rfl rfl rfl rfl rfl ?_ hs|refine xL k1 k2 AE rfl rfl rfl (by first|rfl|simp[KZ]) rfl rfl rfl rfl ?_ hs|refine Xa AE rfl rfl rfl rfl rfl ?_ hs|refine uE wr rfl rfl rfl rfl rfl ?_ hs|refine Xq AE rfl rfl rfl rfl ?_ hs|refine Xw AE rfl rfl rfl rfl ?_ hs|refine xM sb AE rfl rfl rfl rfl ?_ hs|refine Xsc AE rfl rfl rfl rfl ?_ hs))|((with_reducible refine t8 ?_);first|((with_reducible refine xX ?_);first|(refine YnXL pr mixed AE rfl (by kernel_rfl) ?_ ?_;focus(simp only[Dk];repeat'(first|exact q0r|refine zh ?_ ?_|exact⟨_,rfl,rfl⟩|rfl)))|(refine YnLv lv pr mixed AE (by kernel_rfl) ?_ rfl ?_;focus(simp only[Dk];repeat'(first|exact q0r|refine zh ?_ ?_|exact⟨_,rfl,rfl⟩|rfl)))|(refine Yn2L lv pr AE (by kernel_rfl) ?_ rfl ?_;focus(simp only[Dk];repeat'(first|exact q0r|refine zh ?_ ?_|exact⟨_,rfl,rfl⟩|rfl))))|(refine Ydq rfl ?_ rfl rfl rfl ?_;focus(simp only[ZS,List.reverse_cons,List.reverse_nil,zZ,q0f,List.map_cons,List.map_nil,zY,Gx,q02,q0B,List.any_cons,List.any_nil,Kd.Py,Bool.or_false,q0k,q0E,q0U];decide +kernel))|(refine xD rfl ?_;refine Ys rfl rfl rfl rfl ?_)|(refine IS rfl ?_;refine so AE rfl rfl (fun _=>rfl) rfl rfl ?_)|(refine Z7 1 rfl ?_;first|refine qB AE rfl rfl (fun _=>rfl) rfl rfl rfl (q0V _) (EF ix1) ?_|refine qB AE rfl rfl (fun _=>rfl) rfl rfl rfl (q0V _) (EF ix2) ?_|refine qB AE rfl rfl (fun _=>rfl) rfl rfl rfl (q0V _) (EF ix3) ?_|refine qB AE rfl rfl (fun _=>rfl) rfl rfl rfl (q0V _) (EF ix4) ?_)|((first|(refine Z7 1 rfl ?_;first|refine Yp AE rfl rfl (fun _=>rfl) rfl rfl ?_ ?_|refine Yq rfl rfl rfl rfl rfl ?_ ?_)|(refine Z7 2 rfl ?_;first|refine YlkL lk1 rfl rfl rfl rfl rfl ?_ ?_|refine Yp AE rfl rfl (fun _=>rfl) rfl rfl ?_ ?_|refine Yq rfl rfl rfl rfl rfl ?_ ?_)|(refine Z7 4 rfl ?_;first|refine jn ow AE rfl rfl rfl rfl rfl rfl rfl ?_ ?_|refine Ya AE rfl rfl rfl rfl rfl rfl ?_ ?_|refine Yp AE rfl rfl (fun _=>rfl) rfl rfl ?_ ?_|refine Yq rfl rfl rfl rfl rfl ?_ ?_)|(refine Z7 5 rfl ?_;first|refine Yw AE rfl rfl rfl rfl rfl ?_ ?_|refine uF sb AE rfl rfl rfl rfl rfl ?_ ?_|refine Ysc AE rfl rfl rfl rfl rfl ?_ ?_)|(refine Z7 6 rfl ?_;first|refine jn ow AE rfl rfl rfl rfl rfl rfl rfl ?_ ?_|refine Yp AE rfl rfl (fun _=>rfl) rfl rfl ?_ ?_|refine Yq rfl rfl rfl rfl rfl ?_ ?_|refine Yw AE rfl rfl rfl rfl rfl ?_ ?_|refine uF sb AE rfl rfl rfl rfl rfl ?_ ?_|refine Ysc AE rfl rfl rfl rfl rfl ?_ ?_|refine Ya AE rfl rfl rfl rfl rfl rfl ?_ ?_));rotate_left;focus((repeat'(first|with_reducible rfl|((with_reducible refine Na ?_);first|kernel_rfl|rfl|(simp[Fp,IL,nS];done))|with_reducible refine Mb ?_ ?_|with_reducible exact q1K _|with_reducible exact DL _|((with_reducible refine zU ?_);first|omega|(simp only[IK,nS];omega))|decide|(simp[IK,slc,Cs,D.one,ER,AV.one,nS];done)|(simp[IK,nS];omega)));done))|(refine Z7 3 rfl ?_;first|refine YF (c1 ..) rfl rfl rfl rfl rfl ?_|refine YF (c2 ..) rfl rfl rfl rfl rfl ?_|refine YF (c3 ..) rfl rfl rfl rfl rfl ?_|refine YF (c4 ..) rfl rfl rfl rfl rfl ?_|refine YF (c5 ..) rfl rfl rfl rfl rfl ?_|refine YF (c6 ..) rfl rfl rfl rfl rfl ?_|refine YF (c7 ..) rfl rfl rfl rfl rfl ?_|refine YF (c8 ..) rfl rfl rfl rfl rfl ?_|refine YF (c9 ..) rfl rfl rfl rfl rfl ?_|refine YF (c10 ..) rfl rfl rfl rfl rfl ?_|refine YF (c11 ..) rfl rfl rfl rfl rfl ?_|refine YF (c12 ..) rfl rfl rfl rfl rfl ?_|refine YF (c13 ..) rfl rfl rfl rfl rfl ?_|refine YF (c14 ..) rfl rfl rfl rfl rfl ?_|refine YF (c15 ..) rfl rfl rfl rfl rfl ?_|refine YF (c16 ..) rfl rfl rfl rfl rfl ?_|(refine YFz (z1 ..) rfl rfl rfl rfl rfl ?_ ?_;(first|(simp[Oe,Ec,Cw,Bl,BP,BM];done)|(repeat'(first|rfl|trivial|refine⟨rfl,rfl,by simp[BM]⟩|refine⟨_,_,rfl,?_,?_⟩|refine⟨_,rfl,?_⟩))))|(refine YFz (z2 ..) rfl rfl rfl rfl rfl ?_ ?_;(first|(simp[Oe,Ec,Cw,Bl,BP,BM];done)|(repeat'(first|rfl|trivial|refine⟨rfl,rfl,by simp[BM]⟩|refine⟨_,_,rfl,?_,?_⟩|refine⟨_,rfl,?_⟩))))|(refine YFz (z3 ..) rfl rfl rfl rfl rfl ?_ ?_;(first|(simp[Oe,Ec,Cw,Bl,BP,BM];done)|(repeat'(first|rfl|trivial|refine⟨rfl,rfl,by simp[BM]⟩|refine⟨_,_,rfl,?_,?_⟩|refine⟨_,rfl,?_⟩))))|(refine pO (d1 ..) rfl rfl rfl rfl ?_ rfl rfl rfl rfl ?_;(focus((repeat(first|exact trivial|refine⟨rfl,?_⟩));done)))|(refine pO (d2 ..) rfl rfl rfl rfl ?_ rfl rfl rfl rfl ?_;(focus((repeat(first|exact trivial|refine⟨rfl,?_⟩));done)))|(refine pO (d3 ..) rfl rfl rfl rfl ?_ rfl rfl rfl rfl ?_;(focus((repeat(first|exact trivial|refine⟨rfl,?_⟩));done)))|(refine pO (d4 ..) rfl rfl rfl rfl ?_ rfl rfl rfl rfl ?_;(focus((repeat(first|exact trivial|refine⟨rfl,?_⟩));done)))|(refine pO (d5 ..) rfl rfl rfl rfl ?_ rfl rfl rfl rfl ?_;(focus((repeat(first|exact trivial|refine⟨rfl,?_⟩));done)))|(refine pO (d6 ..) rfl rfl rfl rfl ?_ rfl rfl rfl rfl ?_;(focus((repeat(first|exact trivial|refine⟨rfl,?_⟩));done)))|(refine pO (d7 ..) rfl rfl rfl rfl ?_ rfl rfl rfl rfl ?_;(focus((repeat(first|exact trivial|refine⟨rfl,?_⟩));done)))|(refine pO (d8 ..) rfl rfl rfl rfl ?_ rfl rfl rfl rfl ?_;(focus((repeat(first|exact trivial|refine⟨rfl,?_⟩));done)))|(refine pO (d9 ..) rfl rfl rfl rfl ?_ rfl rfl rfl rfl ?_;(focus((repeat(first|exact trivial|refine⟨rfl,?_⟩));done)))|(refine pO (d10 ..) rfl rfl rfl rfl ?_ rfl rfl rfl rfl ?_;(focus((repeat(first|exact trivial|refine⟨rfl,?_⟩));done)))|(refine wQ (x1 ..) rfl rfl rfl rfl ?_ rfl rfl rfl rfl ?_;(focus((repeat(first|exact trivial|refine⟨rfl,?_⟩));done)))|(refine wQ (x2 ..) rfl rfl rfl rfl ?_ rfl rfl rfl rfl ?_;(focus((repeat(first|exact trivial|refine⟨rfl,?_⟩));done)))|(refine wQ (x3 ..) rfl rfl rfl rfl ?_ rfl rfl rfl rfl ?_;(focus((repeat(first|exact trivial|refine⟨rfl,?_⟩));done)))|(refine wQ (x4 ..) rfl rfl rfl rfl ?_ rfl rfl rfl rfl ?_;(focus((repeat(first|exact trivial|refine⟨rfl,?_⟩));done)))|(refine wQ (x5 ..) rfl rfl rfl rfl ?_ rfl rfl rfl rfl ?_;(focus((repeat(first|exact trivial|refine⟨rfl,?_⟩));done)))|(refine wQ (x6 ..) rfl rfl rfl rfl ?_ rfl rfl rfl rfl ?_;(focus((repeat(first|exact trivial|refine⟨rfl,?_⟩));done))))|(refine' pc ns rfl rfl ?_ ?_ r (fun hc s=> ?_) (fun hc s=> ?_);(all_goals(first|guard_target=Prop|(clear r;have r:=s;clear s;(fail_if_success (with_reducible first|exact tF hc|exact fT hc));(try simp only[Ma]at hc);(try(exfalso;omega)))|(intro hc;(try simp only[Ma]at hc);first|done|exact hc))))|(refine' sdR r (fun hs s=> ?_);rotate_left 2;clear r;have r:=s;clear s;first|refine jn ow AE rfl rfl rfl rfl rfl rfl rfl ?_ hs|refine Ya AE rfl rfl rfl rfl rfl rfl ?_ hs|refine Yp AE rfl rfl (fun _=>rfl) rfl rfl ?_ hs|refine Yq rfl rfl rfl rfl rfl ?_ hs|refine Yw AE rfl rfl rfl rfl rfl ?_ hs|refine uF sb AE rfl rfl rfl rfl rfl ?_ hs|refine Ysc AE rfl rfl rfl rfl rfl ?_ hs))|((with_reducible refine gW ?_);first|with_reducible refine IR ?_|((with_reducible refine gReg ?_);refine To st rfl ?_)|((with_reducible refine gAny ?_);refine jb st T.get rfl ?_)|((with_reducible refine xW ?_);first|refine Df rfl ?_|refine De rfl ?_|(refine' bV nc rfl ?_ ?_ r (fun hc s=> ?_) (fun hc s=> ?_);(all_goals(first|guard_target=Prop|(clear r;have r:=s;clear s;(try simp only[Ma]at hc);(try(exfalso;omega)))|(intro hc;(try simp only[Ma]at hc);first|done|exact hc)))))|with_reducible refine Fi ?_|with_reducible refine IQ ?_|with_reducible refine EU ?_|with_reducible refine Fg ?_|with_reducible refine RG ?_|with_reducible refine NE ?_|with_reducible refine WZ un ?_|with_reducible refine Wb (scO sc) ?_)|(with_reducible first|refine qT ?_|refine qTr ?_|refine qTe ?_|refine qTg ?_|refine qTp ?_|refine qBn ?_|refine qBr ?_|refine qBg ?_|refine qBp ?_|refine qSn ?_|refine qSr ?_|refine qSe ?_|exact lQ r|exact lI r|exact lY r)|refine qSg rfl ?_|(first|refine IR ?_|refine To st rfl ?_|refine jb st T.get rfl ?_|refine Df rfl ?_|refine De rfl ?_|refine Fi ?_|refine IQ ?_|refine EU ?_|refine Fg ?_|refine RG ?_|refine NE ?_|refine WZ un ?_|refine Wb (scO sc) ?_|(refine' bV nc rfl ?_ ?_ r (fun hc s=> ?_) (fun hc s=> ?_);(all_goals(first|guard_target=Prop|(clear r;have r:=s;clear s;(try simp only[Ma]at hc);(try(exfalso;omega)))|(intro hc;(try simp only[Ma]at hc);first|done|exact hc)))))|exact r.x));all_goals exact True):Wk R g L K p q s M Z:=h
theorem A9(L:BF)(r:R)(M:yW:=[])(K:BF:=[])(Z:Bool:=true)(h:Wk R g L K QE QE QE M Z:=by exact wb):g:=h trivial trivial trivial trivial trivial (tP Z) Oi Oi Oi ⟨r⟩
theorem AO(L:BF)(r:R)(b:q)(M:yW:=[])(K:BF:=[])(Z:Bool:=true)(h:Wk R g L K QE q QE M Z:=by exact wb):g:=h trivial trivial trivial trivial trivial (tP Z) Oi b Oi ⟨r⟩
theorem Aj(L:BF)(r:R)(a:p)(M:yW:=[])(K:BF:=[])(Z:Bool:=true)(h:Wk R g L K p QE QE M Z:=by exact wb):g:=h trivial trivial trivial trivial trivial (tP Z) a Oi Oi ⟨r⟩
theorem AJ(L:BF)(r:R)(a:p)(b:q)(M:yW:=[])(K:BF:=[])(Z:Bool:=true)(h:Wk R g L K p q QE M Z:=by exact wb):g:=h trivial trivial trivial trivial trivial (tP Z) a b Oi ⟨r⟩
theorem Ax(L:BF)(r:R)(d:s)(M:yW:=[])(K:BF:=[])(Z:Bool:=true)(h:Wk R g L K QE QE s M Z:=by exact wb):g:=h trivial trivial trivial trivial trivial (tP Z) Oi Oi d ⟨r⟩
theorem B6(L:BF)(r:R)(b:q)(d:s)(M:yW:=[])(K:BF:=[])(Z:Bool:=true)(h:Wk R g L K QE q s M Z:=by exact wb):g:=h trivial trivial trivial trivial trivial (tP Z) Oi b d ⟨r⟩
theorem Cd(L:BF)(r:R)(a:p)(d:s)(M:yW:=[])(K:BF:=[])(Z:Bool:=true)(h:Wk R g L K p QE s M Z:=by exact wb):g:=h trivial trivial trivial trivial trivial (tP Z) a Oi d ⟨r⟩
theorem By(L:BF)(r:R)(a:p)(b:q)(d:s)(M:yW:=[])(K:BF:=[])(Z:Bool:=true)(h:Wk R g L K p q s M Z:=by exact wb):g:=h trivial trivial trivial trivial trivial (tP Z) a b d ⟨r⟩
end Go.Gar
namespace Go.Gar
def rmX:yv->Nat->Option (yv)
 |[],_=>some []
 |(u,y)::r,t=>match rmX r t with
  |some l=>match Nat.beq u t with
   |true=>some l
   |false=>some ((u,y)::l)
  |none=>none
def upX:yv->Nat->AV->Option (yv)
 |[],t,x=>some [(t,x)]
 |(u,y)::r,t,x=>match Nat.beq u t with
  |true=>match rmX r t with
   |some l=>some ((u,x)::l)
   |none=>none
  |false=>match upX r t x with
   |some l=>some ((u,y)::l)
   |none=>none
def vj:yv->yv->Option (yv)
 |e,[]=>some e
 |e,(t,x)::r=>match upX e t x with
  |some l=>vj l r
  |none=>none
variable {ro:yb}{Q:Exit->St->Prop}{en:yv}
theorem C4{P:Program}{hp:z6}{nt:Nat}{α:Type}{c:Code}(I:α->Prop)(vs:α->yv)(μ:α->Nat)(x0:α)(h0:I x0){e:α->yv}(_:∀x,vj en (vs x)=some (e x))(t:A8 ⟨en,hp,nt⟩ ⟨e x0,hp,nt⟩)(body:∀x,I x->W P ro c ⟨e x,hp,nt⟩ (wi I (fun x=>⟨e x,hp,nt⟩) (fun y=>μ y<μ x) hp.length Q)):W P ro (.loop c) ⟨en,hp,nt⟩ Q:=
 BX I (fun x=>⟨e x,hp,nt⟩) μ x0 h0 t (zN _) body
def Ua:z6->Nat->AM->Option (z6)
 |[],_,_=>none
 |_::r,0,x=>some (x::r)
 |b::r,n+1,x=>match Ua r n x with
  |some l=>some (b::l)
  |none=>none
def TG:z6->List (Nat×AM)->Option (z6)
 |h,[]=>some h
 |h,(i,x)::r=>match Ua h i x with
  |some l=>TG l r
  |none=>none
theorem Ub:∀{h:z6}{i:Nat}{x:AM}{l:z6},Ua h i x=some l->l.length=h.length
 |[],_,_,_,e=>by simp[Ua]at e
 |_::_,0,_,_,e=>by simp only[Ua,zf]at e;subst e;rfl
 |b::r,n+1,x,l,e=>by
  simp only[Ua]at e;split at e
  .rename_i q hq;simp only[zf]at e;subst e;simp[Ub hq]
  .cases e
theorem TH:∀{c:List (Nat×AM)}{h l:z6},TG h c=some l->l.length=h.length
 |[],h,l,e=>by simp only[TG,zf]at e;subst e;rfl
 |(i,x)::r,h,l,e=>by
  simp only[TG]at e;split at e
  .rename_i q hq;rw[TH e,Ub hq]
  .cases e
theorem CM{P:Program}{hp:z6}{nt:Nat}{α:Type}{c:Code}(I:α->Prop)(vs:α->yv)(hs:α->List (Nat×AM))(μ:α->Nat)(x0:α)(h0:I x0){e:α->yv}{h:α->z6}(_:∀x,vj en (vs x)=some (e x))(hh:∀x,TG hp (hs x)=some (h x))(t:A8 ⟨en,hp,nt⟩ ⟨e x0,h x0,nt⟩)(body:∀x,I x->W P ro c ⟨e x,h x,nt⟩ (wi I (fun x=>⟨e x,h x,nt⟩) (fun y=>μ y<μ x) (h x).length Q)):W P ro (.loop c) ⟨en,hp,nt⟩ Q:=
 BX I (fun x=>⟨e x,h x,nt⟩) μ x0 h0 t (by show hp.length<=(h x0).length;rw[TH (hh x0)];exact zN _) body
def FK(n:Nat)(p:Nat->Bool):Bool:=(List.range n).all p
variable {n:Nat}{p:Nat->Bool}
theorem Hp:FK n p=true↔∀k,k<n->p k=true:=by simp[FK]
theorem FL{k:Nat}(hk:k<n)(h:p k=false):FK n p=false:=by
 cases e:FK n p with
 |false=>rfl
 |true=>rw[Hp.1 e k hk]at h;cases h
theorem DZ(h:FK n p=true)(k:p n=true):FK (n+1) p=true:=by
 rw[Hp]at h|-;intro j hj
 by_cases e:j=n
 .subst e;exact k
 .exact h j om
theorem A8.ck{S S':St}(hn:S'.n=S.n)(he:My S'.env S.env:=by repeat'(first|exact q0r|refine zh (by(first|rfl|((with_reducible_and_instances refine congrArg (fun z=>some (AV.d (D.i _ z))) ?_);omega)|(refine congrArg (fun z=>some (AV.d (D.i _ z))) (?_:(_:Int)=_);omega)|(refine congrArg some ?_;simp;done))) ?_))
  (hH:C9 S'.H S.H:=by repeat'(first|exact q0r|refine zh (Or.inr rfl) ?_|refine zh (Or.inl ⟨rfl,rfl⟩) ?_|refine zh (Or.inr sm) ?_))
  (ho:Bj S'.H.length S'.H=true:=by first|rfl|(simp(decide:=true) [Bj,AM.ok,AV.oks,AV.ok];done)|(simp(decide:=true) [Bj,AM.ok,AV.oks,AV.ok,hk];done)) (heo:Ey S'.H.length S'.env=true:=by rfl):A8 S S':=A8.cut hn he hH ho heo
theorem LL:(∀(H:z6)(xs:yr)(l:yp),Cw H (.tup xs) (.tup l)↔Ec H xs l)/\(∀(H:z6)(xs:yr)(l:yp),Cw H (.ag xs) (.agg l)↔Ec H xs l)/\
  (∀(H:z6)(x:AV)(xs:yr)(y:D)(l:yp),Ec H (x::xs) (y::l)↔Cw H x y/\Ec H xs l)/\(∀H:z6,Ec H [] []↔True)/\(∀(H:z6)(x y:D),Cw H (.d x) y↔y=x)/\
  (∀(H:z6)(y:D),Cw H .e0 y↔Bl y=true/\BP y=0/\BM y)/\(∀(H:z6)(i n sz:Nat)(y:D),Cw H (.sl i n sz) y↔H[i]? =some (.a y)/\n=BP y):=
 ⟨fun _ _ _=>HM,fun _ _ _=>Kf,fun _ _ _ _ _=>CG,fun _=>Ca,fun _ _ _=>C7,fun _ _=>Iv,fun _ _ _ _ _=>Dv⟩
end Go.Gar
namespace Go.Gar
def lH(E:Nat->Option Bv)(env:yv)(op:Op):Option (Bool×(Nat->AV)×AM):=
 match op with
 | .buildSlice t len ps=>match NM E (EY env) t len ps.toList with
  |some (z,cs)=>some (decide (len*z.size<=16777216),fun id=> .bs id 0 len z.size cs.length,.c cs)
  |none=>none
 |_=>none
variable {E:Nat->Option Bv}
theorem qd{P:Program}(hE:Ce P E){S:St}{o:Oper}{f:Nat->AV}{b:AM}{c:Bool}(h:lH E S.env o.op=some (c,f,b))(hc:c=true):Ez P o S (f S.H.length) (S.H++[b]):=by
 subst hc;obtain⟨dst,op,ty,pos,after,guard⟩:=o;simp only at h;cases op<;>simp only[lH]at h<;>try(cases h;done)
 case buildSlice t len ps=>
  split at h
  .rename_i z cs hcs;simp only[zf,zu,zW]at h;obtain⟨hsz,rfl,rfl⟩:=h
   exact .Ej (f:=fun a=>Instr.buildSlice t len (Z0 a.eval ps)) (fun a=>IY rfl a.eval) fun ro N G a w r=>by
    have:=Uu hE r.rel (fun o x hx=>BE r.rel.st r.env hx) hcs hsz;rw[r.heap]at this;exact this
  .cases h
theorem V0{env:yv}{o:Oper}{x:Bool×(Nat->AV)×AM}(h:lH E env o.op=some x):∀c,o.op≠ .defer c:=by
 intro c hc;rw[hc]at h;simp[lH]at h
section
variable {P:Program}{ro:yb}{ops:yd}{i:Nat}{rest:yf}{en:yv}{hp:z6}{nt:Nat}{Q:Exit->St->Prop}{o:Oper}{E:Nat->Option Bv}
theorem Xbs(hE:Ce P E){f:Nat->AV}{b:AM}{c:Bool}{x':AV}{e:yv}{H':z6}(hg:Af ops en o=some true)(h:lH E en o.op=some (c,f,b))(hd:B1 o.dst nt=true)(he:Be o.dst x' en=some e)(hH:HI hp b=some H')(hx:f hp.length=x')
  (k:Wl P ro ops (i+1) rest ⟨e,H',nt⟩ Q) (hc:c=true):Wl P ro ops i (o::rest) ⟨en,hp,nt⟩ Q:=by
 subst hx;rw[BC he,IB hH]at k;exact Po (S:=⟨en,hp,nt⟩) hg (qd (S:=⟨en,hp,nt⟩) hE h hc) (V0 h) hd k
end
end Go.Gar
