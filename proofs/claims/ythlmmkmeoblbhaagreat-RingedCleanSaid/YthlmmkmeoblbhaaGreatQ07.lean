/- Part 7 of a proof. Conditions: those that its theorems state. -/
import Derived.Test.YthlmmkmeoblbhaaGreatQ06
import Derived.Laws.IdiomCopy
set_option linter.unusedSimpArgs false
set_option linter.unusedVariables false
set_option linter.unnecessarySimpa false
set_option maxHeartbeats 40000000
set_option maxRecDepth 4000
namespace Go.Gar
def vd:yq->Option (yo)
 |[]=>some []
 | .d x::r=>match vd r with
  |some l=>some (x::l)
  |none=>none
 |_::_=>none
theorem kZ:∀{l:yq}{xs:yo},vd l=some xs->l=xs.map .d
 |[],xs,h=>by simp[vd]at h;subst h;rfl
 | .d x::r,xs,h=>by
  simp only[vd]at h;split at h
  .rename_i l hl;cases h;rw[kZ hl];rfl
  .cases h
 | .u::_,_,h| .ptr _ _ _::_,_,h| .sl _ _ _::_,_,h| .bs _ _ _ _ _::_,_,h| .ep _ _ _ _ _::_,_,h| .e0::_,_,h| .ag _::_,_,h| .tup _::_,_,h| .fn _ _ _::_,_,h| .yl _::_,_,h| .dp _::_,_,h| .mp _::_,_,h=>by simp[vd]at h
def setRows(off:Nat)(xs:yo):Nat->List (yo)->List (yo)
 |_,[]=>[]
 |0,r::l=>(r.take off++xs++r.drop (off+xs.length))::l
 |i+1,r::l=>r::setRows off xs i l
theorem QV(off:Nat)(xs:yo):∀(i:Nat)(l:List (yo)),(setRows off xs i l).length=l.length
 |_,[]=>by cases ‹Nat›<;>rfl
 |0,_::_=>rfl
 |i+1,r::l=>by simp[setRows,QV off xs i l]
theorem Tp{off sz:Nat}{xs:yo}(hs:off+xs.length<=sz):∀{i:Nat}{l:List (yo)},(∀e∈l,e.length=sz)->∀e∈setRows off xs i l,e.length=sz
 |i,[],_,e,he=>by cases i<;>cases he
 |0,r::l,h,e,he=>by
  have hr:=h r (q02 ..);rcases q0C.1 he with rfl|he
  .simp;omega
  .exact h e (q05 _ he)
 |i+1,r::l,h,e,he=>by
  rcases q0C.1 he with rfl|he
  .exact h _ (q02 ..)
  .exact Tp hs (fun e he=>h e (q05 _ he)) e he
theorem Oh{off sz:Nat}{xs:yo}(hs:off+xs.length<=sz):∀{i:Nat}{l:List (yo)},(∀e∈l,e.length=sz)->i<l.length->
  (setRows off xs i l).flatten=l.flatten.take (i*sz+off)++xs++l.flatten.drop (i*sz+off+xs.length)
 |i,[],_,hi=>by simp at hi
 |0,r::l,h,hi=>by
  have hr:=h r (q02 ..);simp only[setRows,q0U,Nat.zero_mul,q0M];rw[List.take_append_of_le_length om,List.drop_append_of_le_length om];simp only[zu]
 |i+1,r::l,h,hi=>by
  have hr:=h r (q02 ..);have ih:=Oh hs (i:=i) (fun e he=>h e (q05 _ he)) (by simp at hi;omega);simp only[setRows,q0U];have e1:(i+1)*sz+off=r.length+(i*sz+off):=by rw[hr,Nat.succ_mul];omega
  rw[ih,e1,List.take_length_add_append,Nat.add_assoc r.length,List.drop_length_add_append];simp only[zu]
theorem Y2{sz:Nat}:∀{l:List (yo)},(∀e∈l,e.length=sz)->l.flatten.length=l.length*sz
 |[],_=>by simp
 |r::l,h=>by
  have:=Y2 (fun e he=>h e (q05 r he));rw[q0U,yw,this,h r (q02 ..),yu,Nat.succ_mul];omega
def lB(E:Nat->Option Bd)(env:yr)(H:yz)(op:Op):Option (Bool×yz):=
 match op with
 | .store t a x=>match E t,Eo env a,Eo env x with
  |some y,some (.ep id i off n sz),some v=>match PK v with
   |some vl=>match vd vl with
    |some xs=>match H[id]? with
     |some (.a (.sl sz' rows))=>match setH id (.a (.sl sz' (setRows off xs i rows))) H with
      |some H'=>some (Nat.beq n rows.length&&Nat.blt i n&&Nat.beq y.size xs.length&&Nat.ble (off+xs.length) sz&&Nat.beq sz sz'&&Do xs,H')
      |none=>none
     |_=>none
    |none=>none
   |none=>none
  |_,_,_=>none
 |_=>none
theorem Zf{G:Gh}:∀{xs:yo}{vs:y6},BP G (xs.map .d) vs->∀(k:Nat)(x:D),xs[k]? =some x->∃v,vs[k]? =some v/\RD G.m x v
 |[],_,_,k,x,h=>by simp at h
 |d::r,vs,hv,k,x,h=>by
  simp only[zV,BP]at hv;obtain⟨v,r',rfl,h1,h2⟩:=hv
  cases k with
  |zero=>simp at h;subst h;exact⟨v,rfl,by simpa only[RV]using h1⟩
  |succ k=>exact Zf h2 k x (by simpa using h)
theorem L4:∀{xs:yo},Do xs=true->∀(k:Nat)(x:D),xs[k]? =some x->x.one=true
 |[],_,k,x,h=>by simp at h
 |d::r,ho,k,x,h=>by
  simp only[Do,yU]at ho
  cases k with
  |zero=>simp at h;subst h;exact ho.1
  |succ k=>exact L4 ho.2 k x (by simpa using h)
variable {E:Nat->Option Bd}
theorem dR{P:Program}(hE:CV P E){S:St}{o:Oper}{c:Bool}{H':yz}(h:lB E S.env S.H o.op=some (c,H'))(hc:c=true):Es P o S .u H':=by
 subst hc;unfold lB at h;split at h
 .rename_i t a x ho;split at h
  .rename_i y id i off n sz xv hy' ha hx;split at h
   .rename_i vl hvl;split at h
    .rename_i xs hxs;have:=kZ hxs;subst this;split at h
     .rename_i sz' rows hl;split at h
      .rename_i q hq;simp only[yh,zL,yU]at h;obtain⟨⟨⟨⟨⟨⟨hn,hi⟩,hsz⟩,hfit⟩,hsz'⟩,hone⟩,rfl⟩:=h;have hn:=zH hn;have hsz:=zH hsz;have hsz':=zH hsz';have hfit:=q0X hfit;rw[q0k]at hi;subst hn;subst hsz';obtain⟨hid,rfl⟩:=J7 hq;have hy:=hE t y hy';intro ro N G act w r;have hl':G.H[id]? =some (.a (.sl sz rows)):=by rw[r.heap];exact hl
       have hva:=B2 r.rel.st r.env ha;have hvx:=B2 r.rel.st r.env hx;have hvs:=I7 hvl hvx;have hvn:(act.eval x).cells.toList.length=xs.length:=by have:=BP.NG hvs;simpa using this
       simp only[RV]at hva;obtain⟨_,blk,hb,hp⟩:=hva;rw[hl']at hb;cases hb;obtain⟨_,_,hp⟩:=hp;obtain⟨b,M,hρ,hva⟩:=hp rfl;obtain⟨_,hrows,hB⟩:=r.rel.blk id _ hl';simp only[Aq]at hrows;rcases hB with⟨h0,hno⟩|⟨b',M',vs,T,hρ',hw,hM,hcell⟩
       .rw[hρ]at hno;cases hno
       rw[hρ]at hρ';cases hρ';have hfl:=Y2 hrows;have hi2:i*sz+sz<=rows.length*sz:=by rw[<-Nat.succ_mul];exact q1b sz hi
       have hvl2:rows.flatten.length<=vs.size:=by
        rcases q0x rows.flatten.length with h0|h0
        .omega
        .obtain⟨v,hv,_⟩:=hcell (rows.flatten.length-1) _ (yj (by simp only[slc];omega));have:=(zZ.1 hv).1;omega
       have hst:=run_storeCells_at P b (i*sz+off) T (act.eval x).cells.toList 0 vs w hw (by rw[hvn];simp;omega) (fun v hv=>by
        obtain⟨k,hk⟩:=List.getElem?_of_mem hv;have hkl:=(yZ.1 hk).1;obtain⟨v',hv',hrd⟩:=Zf hvs k _ (yj (by omega:k<xs.length));rw[hk]at hv';cases hv'
        exact Ze (L4 hone k _ (yj om)) hrd)
       simp only[q1B]at hst
       obtain⟨r1,r2⟩:=NU r.rel (cur:=(vs.toList.take (i*sz+off)++(act.eval x).cells.toList++vs.toList.drop (i*sz+off+(act.eval x).cells.toList.length)).toArray) hl' rfl (q:=.a (.sl sz (setRows off xs i rows))) rfl hρ (by simp[Ap,Gh.put,B3,Bt,QV]) (by
        refine⟨rfl,Tp hfit hrows,.inr ⟨b,M,_,T,hρ,setRow_heap w b vs _ T _ hw,by rw[hvn];simp at hvn|-;omega,fun j z hz=> ?_⟩⟩;replace hz:(setRows off xs i rows).flatten[j]? =some z:=hz;rw[Oh hfit hrows hi]at hz
        obtain⟨v,hv,hrv⟩:=KQ (R:=fun d v=>v.oneCell'=true/\RD G.m d v) (cs:=rows.flatten) (xs:=xs) (vs:=vs.toList) (us:=(act.eval x).cells.toList) (off:=i*sz+off) (by rw[hfl];omega) (by simpa using hvl2) hvn
         (fun k x hx=>by obtain⟨v,h1,h2⟩:=hcell k x hx;exact⟨v,by simpa using h1,h2⟩)
         (fun k x hx=>by
          obtain⟨v,h1,h2⟩:=Zf hvs k x hx
          exact⟨v,h1,Ze (L4 hone k x hx) h2,h2⟩) j z hz
        exact⟨v,by simpa using hv,hrv⟩)
       have key:(Instr.storeAt t (act.eval a) (act.eval x)).run P w= .ok () (w.setRow b (vs.toList.take (i*sz+off)++(act.eval x).cells.toList++vs.toList.drop (i*sz+off+(act.eval x).cells.toList.length)).toArray):=by
        rw[hva];simp only[Instr.storeAt,Instr.sureAddr,zf,zk,zQ,storeVar,BV hy];rw[zO (by simp at hvn;omega)];exact hst
       refine⟨.skip,_,_,?_,.inl ⟨rfl,rfl⟩,?_,r1,r2⟩
       .unfold execOp;simp only[ho,zf,key,zQ,zk]
       .show G.H.set id _=S.H.set id _;rw[r.heap]
      .cases h
     .cases h
    .cases h
   .cases h
  .cases h
 .cases h
theorem Nv{env:yr}{H:yz}{op:Op}{r:Bool×yz}(h:lB E env H op=some r):∀c,op≠ .defer c:=fun c e=>by subst e;cases h
section
variable {P:Program}{ro:yW}{E:Nat->Option Bd}{ops:ya}{i:Nat}{rest:yb}{Q:Exit->St->Prop}{o:Oper}{en:yr}{hp:yz}{nt:Nat}{S0:St}{A:Prop}{acc:List Rc}
theorem Xsc(hE:CV P E){c:Bool}{H' H'':yz}{e:yr}(hg:AX ops en o=some true)(h:lB E en hp o.op=some (c,H'))(hd:Au o.dst nt=true)(he:BU o.dst .u en=some e)
  (k:Wl P ro ops (i+1) rest ⟨e,H'',nt⟩ Q) (hc:c=true) (hH:H'=H'':=by first|(simp only[nS];rfl)|rfl):Wl P ro ops i (o::rest) ⟨en,hp,nt⟩ Q:=by
 subst hH;rw[Az he]at k;exact Q8 hg (dR (S:=⟨en,hp,nt⟩) hE h hc) (Nv h) hd k
end
end Go.Gar
namespace Go.Gar
open Go.ChangeShapes Go.WideShapes Go.ChangeAt Go.RowKit
end Go.Gar
namespace Go.Gar
theorem vU:(∀(α β:Type)(f:α->β)(a b:List α),(a++b).map f=a.map f++b.map f)/\(∀(α β:Type)(f:α->β)(x:α)(a:List α),(x::a).map f=f x::a.map f)/\(∀(α β:Type)(f:α->β),([]:List α).map f=[])/\
  (∀(α:Type)(a b:List α),(a++b).length=a.length+b.length)/\(∀(α:Type)(x:α)(a:List α),(x::a).length=a.length+1)/\(∀(α:Type),([]:List α).length=0)/\(∀(α β:Type)(f:α->β)(a:List α),(a.map f).length=a.length):=
 ⟨fun _ _ _ _ _=>zS,fun _ _ _ _ _=>rfl,fun _ _ _=>rfl,fun _ _ _=>yw,fun _ _ _=>rfl,fun _=>rfl,fun _ _ _ _=>zY _⟩
variable {S S':St}
theorem A5.cn(hn:S'.n=S.n)(he:Lc S'.env S.env:=by repeat'(first|exact zi|refine yg (by(first|rfl|((with_reducible_and_instances refine congrArg (fun z=>some (AV.d (D.i _ z))) ?_);omega)|(refine congrArg (fun z=>some (AV.d (D.i _ z))) (?_:(_:Int)=_);omega)|(refine congrArg some ?_;simp only[vU,nC];done)|(refine congrArg some ?_;simp[nC];done))) ?_))(hH:C0 S'.H S.H:=by repeat'(first|exact zi|refine yg (q0D rfl) ?_|refine yg (q0w ⟨rfl,rfl⟩) ?_|refine yg (q0D (by simp only[vU,nC])) ?_|refine yg (q0D (by simp only[vU,nC];rfl)) ?_|refine yg (q0D (by simp[nC])) ?_))(ho:Ai S'.H.length S'.H=true:=by first|rfl|(simp(decide:=true) [Ai,AF.ok,AV.oks,AV.ok];done)|(simp(decide:=true) [Ai,AF.ok,AV.oks,AV.ok,hk];done))(heo:F2 S'.H.length S'.env=true:=by rfl):A5 S S':=A5.cut hn he hH ho heo
def QN:List ResultVar->yr->yr
 |[],_=>[]
 | .tmp t::l,e=>match get e t with
  |some x=>(t,x)::QN l e
  |none=>QN l e
 | .cell a _::l,e=>match get e a with
  |some x=>(a,x)::QN l e
  |none=>QN l e
variable {E:Nat->Option Bd}{n:Nat}{rs:List ResultVar}{r:AV}{H':yz}
theorem vS(t:A5 S ⟨QN rs S.env,H',S.n⟩)(hl:n<=H'.length:=by first|exact q0X rfl|exact yV _)(he:E2 E (QN rs S.env) H' rs=some (true,r):=by rfl):
  ∃S',A5 S S'/\n<=S'.H.length/\∃cc x,E2 E S'.env S'.H rs=some (cc,x)/\cc=true/\x=r/\S'.H=H':=⟨_,t,hl,_,_,he,rfl,rfl,rfl⟩
variable {P:Program}
theorem jZ{f:FuncId}{fn:Func}{c:Code}(hE:CV P E)(hf:P.funcs[f]? =some fn)(hb:fn.body=some c)(hname:(fn.name== "runtime.NumGoroutine")=false){args:yq}{H:yz}(hn:args.length<=fn.ntmps)(h:W P none c ⟨Fp 0 args,H,fn.ntmps⟩ (P9 fun S0=>∃S',A5 S0 S'/\H.length<=S'.H.length/\∃cc x,E2 E S'.env S'.H fn.results.toList=some (cc,x)/\cc=true/\x=r/\C0 H' S'.H))(ho:Ai H'.length H'=true:=by rfl)(hr:r.ok H'.length=true:=by rfl)(hl:Nat.ble H.length H'.length=true:=by rfl):Bw P f args H r H':=by
 have hT:JO P f args H fun x K=>x=r/\C0 H' K:=RY hE hf hb hname hn h;refine⟨hT.1,fun G w vs h1 h2 h3=>(hT.2 G w vs h1 h2 h3).mono ?_⟩
 rintro e w' ⟨v,x,G',rfl,⟨rfl,hs'⟩,hv,hr',hfr⟩;exact⟨v,x,G'.cut H',rfl,⟨rfl,rfl⟩,hv.cut hs' hr,hr'.cut hs' ho,hfr.ghost (XL.cut hs') (by rw[h1];exact q0X hl)⟩
theorem EZ(hs:C0 H' S.H:=by repeat'(first|exact zi|refine yg (q0D rfl) ?_|refine yg (q0w ⟨rfl,rfl⟩) ?_|refine yg (q0D sm) ?_))(hl:n<=S.H.length:=by first|exact q0X rfl|exact yV _)(he:E2 E S.env S.H rs=some (true,r):=by rfl):
  ∃S',A5 S S'/\n<=S'.H.length/\∃cc x,E2 E S'.env S'.H rs=some (cc,x)/\cc=true/\x=r/\C0 H' S'.H:=⟨S,A5.refl S,hl,_,_,he,rfl,rfl,hs⟩
variable {ro:yW}{Q:Exit->St->Prop}
theorem tg{ops:ya}{id:Nat}(i k a b:Nat){S1:St}(hm:P.follows .mixedOrders=true)(hik:(Nat.blt i k&&Nat.blt k ops.toList.length&&Ls ops)=true)(ho:Ai S.H.length S.H=true)(h1:Wd P ro E (Qf i k ops) S (PC P ro (Qf i k ops) S (Qw (Qb a b S1))) [] (Qf i k ops).toList S)(h2:Wd P ro E (Qg i k ops) S (PC P ro (Qg i k ops) S (Qw (Qb a b S1))) [] (Qg i k ops).toList S)(hab:(Nat.ble S.H.length a&&Nat.ble S.H.length b&&Nat.blt a S1.H.length&&Nat.blt b S1.H.length)=true)(hQ:Q .normal S1):W P ro (.region id ops true) S Q:=
 tf E i k a b S1 hm hik ho hab h1 h2 hQ
section
variable {P:Program}{E:Nat->Option Bd}{f:FuncId}{fn:Func}{c:Code}
theorem zF(hE:CV P E)(hf:P.funcs[f]? =some fn){ds:yo}{r:D}(h:W P none c ⟨Fp 0 (ds.map .d),[],fn.ntmps⟩ (P9 fun S'=>∃cc x,E2 E S'.env S'.H fn.results.toList=some (cc,x)/\cc=true/\D5 S'.H x r))
  (hb:fn.body=some c:=by rfl) (hname:(fn.name== "runtime.NumGoroutine")=false:=by rfl) (hn:ds.length<=fn.ntmps:=by exact q0X rfl):Fn P f ds r:=pO hE hf hb hname hn h
variable {args:yq}{H:yz}{R:AV->yz->Prop}
theorem zT(hE:CV P E)(hf:P.funcs[f]? =some fn)(h:W P none c ⟨Fp 0 args,H,fn.ntmps⟩ (P9 fun S0=>∃S',A5 S0 S'/\H.length<=S'.H.length/\∃cc x,E2 E S'.env S'.H fn.results.toList=some (cc,x)/\cc=true/\R x S'.H))(hb:fn.body=some c:=by rfl)(hname:(fn.name== "runtime.NumGoroutine")=false:=by rfl)(hn:args.length<=fn.ntmps:=by exact q0X rfl):JO P f args H R:=RY hE hf hb hname hn h
variable {H':yz}
theorem zD(hE:CV P E)(hf:P.funcs[f]? =some fn){r:AV}(h:W P none c ⟨Fp 0 args,H,fn.ntmps⟩ (P9 fun S0=>∃S',A5 S0 S'/\H.length<=S'.H.length/\∃cc x,E2 E S'.env S'.H fn.results.toList=some (cc,x)/\cc=true/\x=r/\S'.H=H'))(hb:fn.body=some c:=by rfl)(hname:(fn.name== "runtime.NumGoroutine")=false:=by rfl)(hn:args.length<=fn.ntmps:=by exact q0X rfl):Bw P f args H r H':=ja hE hf hb hname hn h
theorem zC(hE:CV P E)(hf:P.funcs[f]? =some fn){r:AV}(h:W P none c ⟨Fp 0 args,H,fn.ntmps⟩ (P9 fun S0=>∃S',A5 S0 S'/\H.length<=S'.H.length/\∃cc x,E2 E S'.env S'.H fn.results.toList=some (cc,x)/\cc=true/\x=r/\C0 H' S'.H))(hb:fn.body=some c:=by rfl)(hname:(fn.name== "runtime.NumGoroutine")=false:=by rfl)(hn:args.length<=fn.ntmps:=by exact q0X rfl)(ho:Ai H'.length H'=true:=by rfl)(hr:r.ok H'.length=true:=by rfl)(hl:Nat.ble H.length H'.length=true:=by rfl):Bw P f args H r H':=jZ hE hf hb hname hn h ho hr hl
theorem zX(hE:CV P E)(hf:P.funcs[f]? =some fn){ch:ym}(h:W P none c ⟨Fp 0 args,H,fn.ntmps⟩ (tV ch fun S0=>∃S',A5 S0 S'/\H.length<=S'.H.length/\S'.H=H'))(hb:fn.body=some c:=by rfl)(hname:(fn.name== "runtime.NumGoroutine")=false:=by rfl)(hn:args.length<=fn.ntmps:=by exact q0X rfl):Mz P f args H ch H':=jc hE hf hb hname hn h
theorem zR{id n:Nat}{r:Lp}{body:Code}{en:yr}{hp hp':yz}{nt:Nat}(k:W P (some id) body ⟨en,hp',nt⟩ (xq id n r R))(h1:hp[id]? =some (.lp r):=by rfl)(h2:hp.set id (.lp r.busy)=hp':=by first|(simp only[Nf,Ks,Nat.reduceAdd,Int.reduceAdd,Int.reduceSub,Int.reduceMul,Int.reduceToNat];done)|(simp only[Nf,Ks,Nat.reduceAdd,Int.reduceAdd,Int.reduceSub,Int.reduceMul,Int.reduceToNat];rfl)|rfl):QAs P id n r body R .normal ⟨en,hp,nt⟩:=by
 subst h2;exact⟨h1,k⟩
variable {rs:List ResultVar}
theorem BO{S:St}{r:D}{cc:Bool}{x:AV}{p:Prop}(n:p)(he:E2 E S.env S.H rs=some (cc,x):=by rfl)(hc:cc=true:=by rfl)(hf:p->D5 S.H x r:=by intro nE;simp[E5,B3,B8,Aq,nE]):∃cc x,E2 E S.env S.H rs=some (cc,x)/\cc=true/\D5 S.H x r:=⟨cc,x,he,hc,hf n⟩
theorem zE{S:St}{r:D}{cc:Bool}{x:AV}(he:E2 E S.env S.H rs=some (cc,x):=by rfl)(hc:cc=true:=by rfl)(hf:D5 S.H x r:=by simp[E5,B3,B8,Aq]):∃cc x,E2 E S.env S.H rs=some (cc,x)/\cc=true/\D5 S.H x r:=⟨cc,x,he,hc,hf⟩
end
theorem A5.cm(hn:S'.n=S.n)(he:Lc S'.env S.env:=by repeat'(first|exact zi|refine yg (by(first|rfl|((with_reducible_and_instances refine congrArg (fun z=>some (AV.d (D.i _ z))) ?_);omega)|(refine congrArg some ?_;simp only[vU];done)|(refine congrArg some ?_;simp;done))) ?_))(hH:C0 S'.H S.H:=by repeat'(first|exact zi|refine yg (q0D rfl) ?_|refine yg (q0w ⟨rfl,rfl⟩) ?_|refine yg (q0D (by simp only[vU])) ?_|refine yg (q0D (by simp only[vU];rfl)) ?_|refine yg (q0D sm) ?_))(ho:Ai S'.H.length S'.H=true:=by first|rfl|(simp(decide:=true) [Ai,AF.ok,AV.oks,AV.ok];done)|(simp(decide:=true) [Ai,AF.ok,AV.oks,AV.ok,hk];done))(heo:F2 S'.H.length S'.env=true:=by rfl):A5 S S':=A5.cut hn he hH ho heo
theorem zG{g:Operand}{ps:Array Tmp}{asg body:Code}{f:FuncId}{first cap xs:yq}{L:Nat}{F:Lp->yz}{en:yr}{hp:yz}{nt:Nat}(K:Lp->AV->yz->Prop)(seq:∀r,r.is nt en ps asg body->JO P f xs (F r) (K r))(k:∀r,r.is nt en ps asg body->∀x H',K r x H'->
   (H'[L]? =some (.lp r)/\Q .normal ⟨en,H'.set L (.lp r.out),nt⟩)\/
   ∃c,H'[L]? =some (.lp (r.left c))/\W P ro c ⟨en,H'.set L (.lp (r.left c).out),nt⟩ Q) (hg:Eo en g=some (.fn (.func f) first cap):=by exact rfl) (hL:hp.length=L:=by first|(simp only[Nf,Ks,Nat.reduceAdd,Int.reduceAdd,Int.reduceSub,Int.reduceMul,Int.reduceToNat];done)|(simp only[Nf,Ks,Nat.reduceAdd,Int.reduceAdd,Int.reduceSub,Int.reduceMul,Int.reduceToNat];rfl)|rfl) (hxs:first++[.yl L]++cap=xs:=by first|(simp only[Nf,Ks,Nat.reduceAdd,Int.reduceAdd,Int.reduceSub,Int.reduceMul,Int.reduceToNat];done)|(simp only[Nf,Ks,Nat.reduceAdd,Int.reduceAdd,Int.reduceSub,Int.reduceMul,Int.reduceToNat];rfl)|rfl) (hF:∀r,hp++[.lp r]=F r:=by intro r;first|(simp only[Nf,Ks,Nat.reduceAdd,Int.reduceAdd,Int.reduceSub,Int.reduceMul,Int.reduceToNat];done)|(simp only[Nf,Ks,Nat.reduceAdd,Int.reduceAdd,Int.reduceSub,Int.reduceMul,Int.reduceToNat];rfl)|rfl):W P ro (.rangeFunc g ps asg body) ⟨en,hp,nt⟩ Q:=
 jp K hg hL hxs hF seq k
theorem CT0:(∀(α:Type)(a b c:List α),(a++b)++c=a++(b++c))/\(∀(α:Type)(a:List α),a++[]=a)/\(∀(α:Type)(a:List α),[]++a=a)/\(∀(α:Type)(x:α)(a b:List α),(x::a)++b=x::(a++b))/\(∀(α:Type)(a:List α),a.take 0=[])/\(∀(α:Type)(p:α->Bool),([]:List α).any p=false)/\
  (∀(α:Type)(p:α->Bool),([]:List α).filter p=[])/\(∀(α β:Type)(f:β->α->β)(x:β),([]:List α).foldl f x=x)/\(∀(α:Type)(a b:α),(if True then a else b)=a)/\(∀(α:Type)(a b:α),(if False then a else b)=b)/\(∀b:Bool,(true||b)=true)/\(∀b:Bool,(false||b)=b):=by
 simp
theorem A5.co(hn:S'.n=S.n)(he:Lc S'.env S.env:=by repeat'(first|exact zi|refine yg (by(first|rfl|((with_reducible_and_instances refine congrArg (fun z=>some (AV.d (D.i _ z))) ?_);omega)|(refine congrArg (fun z=>some (AV.d (D.i _ z))) (?_:(_:Int)=_);omega)|(refine congrArg some ?_;simp only[CT0,nC,Int.reduceEq,zx,zo,Nat.add_sub_cancel,Nat.succ_ne_zero];done)|(refine congrArg some ?_;simp[nC];done))) ?_))(hH:C0 S'.H S.H:=by repeat'(first|exact zi|refine yg (q0D rfl) ?_|refine yg (q0w ⟨rfl,rfl⟩) ?_|refine yg (q0D (by simp only[CT0,nC,Int.reduceEq,zx,zo,Nat.add_sub_cancel,Nat.succ_ne_zero])) ?_|refine yg (q0D (by simp only[CT0,nC,Int.reduceEq,zx,zo,Nat.add_sub_cancel,Nat.succ_ne_zero];rfl)) ?_|refine yg (q0D (by simp[nC])) ?_))(ho:Ai S'.H.length S'.H=true:=by first|rfl|(simp(decide:=true) [Ai,AF.ok,AV.oks,AV.ok];done)|(simp(decide:=true) [Ai,AF.ok,AV.oks,AV.ok,hk];done))(heo:F2 S'.H.length S'.env=true:=by rfl):A5 S S':=A5.cut hn he hH ho heo
theorem zB{p q A B:Prop}(t:p->A)(f:q->B):Br p q A B:=⟨t,f⟩
theorem wE{x:AV}{c:Bool}(t:A5 S ⟨QN rs S.env,H',S.n⟩:=by exact A5.ck rfl)(hl:n<=H'.length:=by first|exact q0X rfl|exact yV _|exact yx _|exact Nat.le_add_right _ _)(he:E2 E (QN rs S.env) H' rs=some (c,x):=by rfl)(hc:c=true:=by rfl)(hx:x=r:=by first|rfl|(refine congrArg (fun z=>AV.d (D.i _ z)) ?_;omega)|(simp;done)):∃S',A5 S S'/\n<=S'.H.length/\∃cc x,E2 E S'.env S'.H rs=some (cc,x)/\cc=true/\x=r/\S'.H=H':=⟨_,t,hl,_,_,he,hc,hx,rfl⟩
end Go.Gar
namespace Go.Gar
def cZ(S:St)(C:St->Prop):Prop:=∀ro N G a w,Rel ro N S G a w->∃S' G',C S'/\Rel ro N S' G' a w/\XL G G'
def Gh.HW(G:Gh)(id b N:Nat)(l:AT):Gh:={ρ:=fun j=>if j=G.H.length then some (b,N)else G.ρ j,H:=G.H.set id .gone++[.HW b N l],m:=G.m}
variable {G:Gh}{b N:Nat}{l:AT}
theorem KI{id:Nat}{j:Nat}{q:AF}(h:(G.HW id b N l).H[j]? =some q):(j=G.H.length/\q= .HW b N l)\/(j<G.H.length/\j=id/\q= .gone)\/(j<G.H.length/\j≠id/\G.H[j]? =some q):=by
 have h:(G.H.set id .gone++[.HW b N l])[j]? =some q:=h;rcases q0A j G.H.length with hj|hj
 .rw[zW (by simpa using hj),q18]at h
  by_cases e:id=j
  .subst e;rw[zN rfl,zN hj]at h;cases h;exact .inr (.inl ⟨hj,rfl,rfl⟩)
  .rw[zO e]at h;exact .inr (.inr ⟨hj,Ne.symm e,h⟩)
 .rw[zl (by simpa using hj)]at h;simp only[q0y]at h
  have:j-G.H.length=0:=by
   have:=(yZ.1 h).1;simp at this;omega
  rw[this]at h;simp at h;exact .inl ⟨om,h.symm⟩
theorem rY{w:World}(hr:B9 G w){id:Nat}(hid:G.H[id]? =some (.a (.by l)))(hρ:G.ρ id=some (b,N))(hl:l.length<=N):B9 (G.HW id b N l) w/\Iq G (G.HW id b N l)/\XL G (G.HW id b N l):=by
 have hlt:id<G.H.length:=(yZ.1 hid).1;have hρ':∀{j},j<G.H.length->(G.HW id b N l).ρ j=G.ρ j:=fun{j} hj=>zO om
 have hρn:(G.HW id b N l).ρ G.H.length=some (b,N):=zN rfl
 have hg:Iq G (G.HW id b N l):=by
  refine⟨fun j p hp=> ?_,Mem.le_refl _⟩;have hj:j<G.H.length:=(yZ.1 hp).1
  by_cases e:j=id
  .subst e;rw[hid]at hp;cases hp;exact⟨.gone,by show(G.H.set j .gone++_)[j]? =_;rw[zW (by simpa using hj),q08 hj],trivial⟩
  .refine⟨p,by show(G.H.set id .gone++_)[j]? =_;rw[zW (by simpa using hj),q06 (Ne.symm e)];exact hp,?_⟩;have:=hρ' hj;cases p<;>simp_all[Ap]
 obtain⟨_,_,hB⟩:=hr.blk id _ hid
 have hS:∀(j:Nat)(rs:List (Option (Nat×Nat×AT))),(G.HW id b N l).H[j]? =some (.many rs)->G.H[j]? =some (.many rs):=fun j rs hp=>by
  rcases KI hp with⟨_,e⟩|⟨_,_,e⟩|⟨_,_,h⟩
  .cases e
  .cases e
  .exact h
 have hP:∀c,EX (G.HW id b N l) c->EX G c:=by
  rintro c ⟨j,M,p,hp,lp,hc⟩;rcases KI hp with⟨rfl,rfl⟩|⟨_,_,rfl⟩|⟨hj,_,h⟩
  .rw[hρn]at hc;cases hc;exact⟨id,N,_,hid,rfl,hρ⟩
  .simp[AF.live]at lp
  .rw[hρ' hj]at hc;exact⟨j,M,p,h,lp,hc⟩
 have own:=JM hS hP;refine⟨⟨fun j p hp=> ?_,fun i j p q c M M' hp hq lp lq r1 r2=> ?_,hr.mem,fun c hc=>hr.sep c (own c hc),hr.st,hr.mny.of (fun b hb=>Bq hr (.inr hb)) hS (fun c hc=> .inl (hP c hc))⟩,hg,⟨fun j p p' hp hp'=> ?_,Mem.le_refl _,own,fun _ _ _ h=> .inl h⟩⟩
 .rcases KI hp with⟨rfl,rfl⟩|⟨_,_,rfl⟩|⟨hj,_,h⟩
  .rcases hB with⟨_,hn⟩|⟨b',N',vs,T,h1,h2,h3,h4⟩
   .rw[hρ]at hn;cases hn
   .rw[hρ]at h1;cases h1;refine⟨vs,T,hρn,h2,h3,hl,fun k x hx=> ?_⟩;obtain⟨v,hv,_,hd⟩:=h4 k (.i .u8 (x.toNat:Int)) (by simp only[slc,q03,hx,Option.map_some]);simp only[RD]at hd;rw[hv,hd]
  .trivial
  .exact(hr.blk j p h).QH hg (fun _ _ _ _=>rfl) (hρ' hj)
 .rcases KI hp with⟨rfl,rfl⟩|⟨_,_,rfl⟩|⟨hi,ni,h⟩
  .rcases KI hq with⟨rfl,rfl⟩|⟨_,_,rfl⟩|⟨hj,nj,h'⟩
   .rfl
   .simp[AF.live]at lq
   .rw[hρn]at r1;cases r1;rw[hρ' hj]at r2;exact absurd (hr.inj j id q _ b M' N h' hid lq rfl r2 hρ) nj
  .simp[AF.live]at lp
  .rcases KI hq with⟨rfl,rfl⟩|⟨_,_,rfl⟩|⟨hj,nj,h'⟩
   .rw[hρn]at r2;cases r2;rw[hρ' hi]at r1;exact absurd (hr.inj i id p _ b M N h hid lp rfl r1 hρ) ni
   .simp[AF.live]at lq
   .rw[hρ' hi]at r1;rw[hρ' hj]at r2;exact hr.inj i j p q c M M' h h' lp lq r1 r2
 .rcases KI hp' with⟨rfl,rfl⟩|⟨_,rfl,rfl⟩|⟨hj,_,h⟩
  .have:=(yZ.1 hp).1;omega
  .rw[hid]at hp;cases hp;trivial
  .rw[h]at hp;cases hp;have:=hρ' hj;cases p<;>simp_all[Ap]
variable {S:St}
theorem Rel.VY{ro:yW}{N:NB}{G':Gh}{a:Act}{w:World}(r:Rel ro N S G a w){env:yr}(hr:B9 G' w)(t:XL G G')(he:IH G' env a.tmps)(hro:∀id q,G.H[id]? =some (.lp q)->G'.H[id]? =some (.lp q)/\G'.ρ id=G.ρ id):Rel ro N ⟨env,G'.H,S.n⟩ G' a w:=
 ⟨rfl,hr,r.size,he,r.marks.VY t,fun id hid=>by
  obtain⟨q,l,M,q1,q2⟩:=r.round id hid;rw[<-r.heap]at q1;obtain⟨h1,h2⟩:=hro id q q1
  exact⟨q,l,M,h1,h2.trans q2⟩⟩
theorem cZ.uX(t id:Nat){d1 d2:D}(ht:get S.env t=some (.ag [.d d1,.sl id l.length 1,.d d2]))(hid:S.H[id]? =some (.a (.by l)))(h0:0<l.length):
  cZ S fun S'=>∃b N,(l.length<=N/\N<=maxLen)/\S'=⟨(t,.d (.agg [d1,.raw (.slice (some ⟨b,0,none⟩) l.length N),d2]))::S.env,S.H.set id .gone++[.HW b N l],S.n⟩:=by
 intro ro M G a w r;have hid':G.H[id]? =some (.a (.by l)):=by rw[r.heap];exact hid
 obtain⟨v,hv,hrv⟩:=r.env t _ ht;simp only[RV,BP]at hrv;obtain⟨us,rfl,u1,_,rfl,h1,u2,_,rfl,⟨h1c,blk,hb,hp⟩,u3,_,rfl,h3,rfl⟩:=hrv;rw[hid']at hb;cases hb;obtain⟨_,_,hp⟩:=hp;rcases hp rfl with⟨e,_⟩|⟨b,N,cap,hρ,rfl,hc1,hc2,rfl⟩
 .omega
 rw[Nat.mul_one]at hρ;obtain⟨k1,k2,k3⟩:=rY r.rel hid' hρ hc1;refine⟨_,G.HW id b cap l,⟨b,cap,⟨hc1,hc2⟩,rfl⟩,?_,k3⟩;have:=r.VY (env:=(t,.d (.agg [d1,.raw (.slice (some ⟨b,0,none⟩) l.length cap),d2]))::S.env) k1 k3 (fun s y hy=> ?_) (fun j q hj=> ?_)
 .have e:(G.HW id b cap l).H=S.H.set id .gone++[.HW b cap l]:=by show G.H.set id .gone++_=_;rw[r.heap]
  rw[e]at this;exact this
 .simp only[get]at hy;split at hy
  .rename_i hts;have:=zH hts;subst this;cases hy;refine⟨_,hv,?_⟩;simp only[RV,RD,Eb];exact⟨_,rfl,_,_,rfl,h1.mono k2.mem,_,_,rfl,⟨rfl,rfl⟩,_,_,rfl,h3.mono k2.mem,rfl⟩
  .obtain⟨z,hz,hrz⟩:=r.env s y hy;exact⟨z,hz,hrz.mono k2⟩
 .have hlt:j<G.H.length:=(yZ.1 hj).1;have hne:id≠j:=fun e=>by subst e;rw[hid']at hj;cases hj
  exact⟨by show(G.H.set id .gone++_)[j]? =_;rw[zW (by simpa using hlt),q06 hne];exact hj,zO om⟩
def Gh.pro(G:Gh)(w:World)(ido idg b:Nat)(x:D):Gh:={ρ:=G.ρ,H:=(G.H.set ido .gone).set idg (.a x),m:=fun c k=>if c=b then w.cell? ⟨b,k,none⟩else G.m c k}
theorem A5.uX(ido idg p:Nat){sz:Nat}{es es':List (yo)}(ho:S.H[ido]? =some (.HW b N l))(hg:S.H[idg]? =some (.a (.sl sz es)))(hc:es.flatten[p]? =some (.raw (.slice (some ⟨b,0,none⟩) l.length N)))(hf:es'.flatten=es.flatten.set p (.by l))(hn:es'.length=es.length)(hz:∀e∈es',e.length=sz):
  A5 S ⟨S.env,(S.H.set ido .gone).set idg (.a (.sl sz es')),S.n⟩:=by
 intro ro M G a w r _;have ho':G.H[ido]? =some (.HW b N l):=by rw[r.heap];exact ho
 have hg':G.H[idg]? =some (.a (.sl sz es)):=by rw[r.heap];exact hg
 have hne:ido≠idg:=fun e=>by subst e;rw[ho']at hg';cases hg'
 have l1:ido<G.H.length:=(yZ.1 ho').1;have l2:idg<G.H.length:=(yZ.1 hg').1;obtain⟨vs,T,hρ,hw,hN,hle,hcell⟩:=r.rel.blk ido _ ho';have hownb:Own G b:=.inl ⟨ido,N,_,ho',rfl,hρ⟩
 have get:∀{j:Nat}{q:AF},((G.H.set ido .gone).set idg (.a (.sl sz es')))[j]? =some q->(j=ido/\q= .gone)\/(j=idg/\q= .a (.sl sz es'))\/(j≠ido/\j≠idg/\G.H[j]? =some q):=by
  intro j q h
  by_cases e:j=idg
  .subst e;rw[q08 (by simpa using l2)]at h;cases h;exact .inr (.inl ⟨rfl,rfl⟩)
  .rw[q06 (Ne.symm e)]at h
   by_cases e':j=ido
   .subst e';rw[q08 l1]at h;cases h;exact .inl ⟨rfl,rfl⟩
   .rw[q06 (Ne.symm e')]at h;exact .inr (.inr ⟨e',e,h⟩)
 let K:=G.pro w ido idg b (.sl sz es')
 have hm:G.m.le K.m:=fun c k v hv=>by
  have:c≠b:=fun e=>by subst e;rw[r.rel.sep c hownb k]at hv;cases hv
  show(if c=b then _ else G.m c k)=_;rw[zO this];exact hv
 have hmem:∀c k v,K.m c k=some v->(c=b/\w.cell? ⟨b,k,none⟩=some v)\/(c≠b/\G.m c k=some v):=fun c k v hv=>by
  change (if c=b then w.cell? ⟨b,k,none⟩else G.m c k)=some v at hv;split at hv
  .rename_i e;exact .inl ⟨e,hv⟩
  .rename_i e;exact .inr ⟨e,hv⟩
 have hst:∀{j:Nat}{x:AF},G.H[j]? =some x->∃y,K.H[j]? =some y/\Ap G K j x y:=by
  intro j x hx;have hj:j<G.H.length:=(yZ.1 hx).1;have hex:∃y,K.H[j]? =some y:=⟨_,yj (by show j<((G.H.set ido .gone).set idg _).length;simpa using hj)⟩;obtain⟨y,hy⟩:=hex;refine⟨y,hy,?_⟩;rcases get hy with⟨rfl,rfl⟩|⟨rfl,rfl⟩|⟨_,_,h⟩
  .rw[ho']at hx;cases hx;trivial
  .rw[hg']at hx;cases hx;exact⟨rfl,by simp[B3,hn],fun _=>rfl⟩
  .rw[h]at hx;cases hx;cases x<;>simp[Ap,K,Gh.pro]
 have hgle:Iq G K:=⟨fun j x hx=>hst hx,hm⟩
 have hS:∀(j:Nat)(rs:List (Option (Nat×Nat×AT))),K.H[j]? =some (.many rs)->G.H[j]? =some (.many rs):=fun j rs hq=>by
  rcases get hq with⟨_,e⟩|⟨_,e⟩|⟨_,_,h⟩
  .cases e
  .cases e
  .exact h
 have hP:∀c,EX K c->EX G c/\c≠b:=by
  rintro c ⟨j,M',q,hq,lq,hc'⟩;have hc':G.ρ j=some (c,M'):=hc';rcases get hq with⟨rfl,rfl⟩|⟨rfl,rfl⟩|⟨n1,n2,h⟩
  .simp[AF.live]at lq
  .exact⟨⟨j,M',_,hg',rfl,hc'⟩,fun e=>by subst e;exact hne (r.rel.inj ido j _ _ c N M' ho' hg' rfl rfl hρ hc')⟩
  .exact⟨⟨j,M',q,h,lq,hc'⟩,fun e=>by subst e;exact n1 (r.rel.inj j ido _ _ c M' N h ho' lq rfl hc' hρ)⟩
 have own:∀c,Own K c->Own G c/\c≠b:=by
  rintro c (h|⟨j,rs,hq,hc'⟩)
  .exact⟨.inl (hP c h).1,(hP c h).2⟩
  .exact⟨.inr ⟨j,rs,hS j rs hq,hc'⟩,fun e=>by subst e;exact((r.rel.mny j rs (hS j rs hq)).2 c hc').1 ⟨ido,N,_,ho',rfl,hρ⟩⟩
 have hB:=r.rel.blk idg _ hg';obtain⟨_,g2,hB⟩:=hB;refine⟨K,⟨?_,⟨fun j q hq=> ?_,fun i j p q c M1 M2 hp hq lp lq r1 r2=> ?_,fun c k v hv=> ?_,fun c hc' k=> ?_,fun c k v hv=>hm c k v (r.rel.st c k v hv),r.rel.mny.of (fun b hb=>Bq r.rel (.inr hb)) hS (fun c hc=> .inl (hP c hc).1)⟩,r.size,r.env.mono hgle,r.marks.VY ?_,fun j hj=> ?_⟩,?_⟩
 .show(G.H.set ido .gone).set idg _=_;rw[r.heap]
 .rcases get hq with⟨rfl,rfl⟩|⟨rfl,rfl⟩|⟨_,_,h⟩
  .trivial
  .refine⟨rfl,hz,?_⟩;rcases hB with⟨h0,_⟩|⟨b',N',vs',T',k1,k2,k3,k4⟩
   .have:es=[]:=by simpa[B3]using h0
    subst this;simp at hc
   .refine .inr ⟨b',N',vs',T',k1,k2,k3,fun k d hd=> ?_⟩;change es'.flatten[k]? =some d at hd;rw[hf,q18]at hd
    by_cases e:p=k
    .subst e;have hlt:p<es.flatten.length:=(yZ.1 hc).1;rw[zN rfl,zN hlt]at hd;cases hd;obtain⟨v,hv,hv1,hv2⟩:=k4 p _ hc;simp only[RD]at hv2;refine⟨v,hv,hv1,?_⟩;rw[hv2.1];simp only[RD,cT,ZX,zY];refine⟨_,N,rfl,hle,.inr ⟨b,0,rfl,fun k x hx=> ?_⟩⟩;simp only[q03,q0B]at hx;obtain⟨z,hz',rfl⟩:=hx;show(if b=b then w.cell? ⟨b,0+k,none⟩else _)=_;rw[zN rfl,q0M,DT hw];exact hcell k z hz'
    .rw[zO e]at hd;obtain⟨v,hv,hv1,hv2⟩:=k4 k d hd;exact⟨v,hv,hv1,hv2.mono hm⟩
  .exact(r.rel.blk j q h).QH hgle (fun _ _ _ _=>rfl) rfl
 .have back:∀{i:Nat}{p:AF},K.H[i]? =some p->p.live=true->i≠ido/\∃p',G.H[i]? =some p'/\p'.live=true:=by
   intro i p hp lp;rcases get hp with⟨rfl,rfl⟩|⟨rfl,rfl⟩|⟨h1,_,h⟩
   .simp[AF.live]at lp
   .exact⟨Ne.symm hne,_,hg',rfl⟩
   .exact⟨h1,p,h,lp⟩
  obtain⟨_,p',hp',lp'⟩:=back hp lp;obtain⟨_,q',hq',lq'⟩:=back hq lq;exact r.rel.inj i j p' q' c M1 M2 hp' hq' lp' lq' r1 r2
 .rcases hmem c k v hv with⟨rfl,h⟩|⟨_,h⟩
  .exact h
  .exact r.rel.mem c k v h
 .obtain⟨h1,h2⟩:=own c hc';show(if c=b then _ else G.m c k)=none;rw[zO h2];exact r.rel.sep c h1 k
 .exact⟨fun j x y hx hy=>by obtain⟨y',h1,h2⟩:=hst hx;rw[hy]at h1;cases h1;exact h2,hm,fun c hc'=>(own c hc').1,fun c k v hv=>(hmem c k v hv).elim (fun h=> .inr (by rw[h.1];exact hownb)) (fun h=> .inl h.2)⟩
 .obtain⟨q,l',M',q1,q2⟩:=r.round j hj;rw[<-r.heap]at q1;refine⟨q,l',M',?_,q2⟩;rw[<-r.heap];show((G.H.set ido .gone).set idg _)[j]? =_;rw[q06 (fun e=>by subst e;rw[hg']at q1;cases q1),q06 (fun e=>by subst e;rw[ho']at q1;cases q1)];exact q1
 .exact⟨fun j x y hx hy=>by obtain⟨y',h1,h2⟩:=hst hx;rw[hy]at h1;cases h1;exact h2,hm,fun c hc'=>(own c hc').1,fun c k v hv=>(hmem c k v hv).elim (fun h=> .inr (by rw[h.1];exact hownb)) (fun h=> .inl h.2)⟩
section
variable {P:Program}{ro:yW}{ops:ya}{i:Nat}{rest:yb}{Q:Exit->St->Prop}{o:Oper}{en:yr}{hp:yz}{nt:Nat}
theorem fD{S:St}{C:St->Prop}(t:cZ S C)(hl:∀S',C S'->S.H.length<=S'.H.length)(k:∀S',C S'->Wl P ro ops i rest S' Q):Wl P ro ops i rest S Q:=by
 intro hops N G a w r;obtain⟨S',G',hC,r',t'⟩:=t ro N G a w r;have kf:D4 G w G' w:=(D4.refl G w).ghost t' (by rw[r.heap,r'.heap];exact hl S' hC);have hy:=k S' hC hops N G' a w r';rw[GT r r' kf]at hy;exact BZ (fun _ _ _ p=>p.trans kf) _ _ _ hy
theorem pn{l:AT}{d1 d2:D}(t id:Nat)(ht:get en t=some (.ag [.d d1,.sl id l.length 1,.d d2]))(hid:hp[id]? =some (.a (.by l)))(h0:0<l.length)
  (k:∀b N,l.length<=N/\N<=maxLen->Wl P ro ops i rest ⟨(t,.d (.agg [d1,.raw (.slice (some ⟨b,0,none⟩) l.length N),d2]))::en,hp.set id .gone++[.HW b N l],nt⟩ Q):Wl P ro ops i rest ⟨en,hp,nt⟩ Q:=
 fD (cZ.uX (S:=⟨en,hp,nt⟩) t id ht hid h0) (fun S' ⟨b,N,_,e⟩=>by subst e;simp) (fun S' ⟨b,N,h,e⟩=>by subst e;exact k b N h)
variable {C:Nat->Nat->Prop}{A:Nat->Nat->AV}{B:Nat->Nat->yz}
theorem wZ{g:Nat}{xs:yq}(hT:JO P g xs [] fun r K=>∃b N,C b N/\r=A b N/\K=B b N)(hg:AX ops en o=some true)(h:Cp en o.op=some (g,AV.Dv (rn [] hp.length) xs))(hd:Au o.dst nt=true)(k:∀b N,C b N->Wl P ro ops (i+1) rest ⟨Bm o.dst ((A b N).ren (rn [] hp.length)) en,Jy [] hp (E4 (rn [] hp.length) (B b N)),nt⟩ Q)(ha:AV.oks 0 xs=true:=by rfl):Wl P ro ops i (o::rest) ⟨en,hp,nt⟩ Q:=
 pm hg h hd (JO.ren (H2:=hp) [] hT List.nodup_nil trivial rfl ha) fun r K ⟨r',H',⟨b,N,hC,e1,e2⟩,e3,e4⟩=>by
  subst e1;subst e2;subst e3;subst e4;exact k b N hC
theorem wa{g:Nat}{xs:yq}(A':Nat->Nat->AV)(B':Nat->Nat->yz){e:Nat->Nat->yr}(hT:JO P g xs [] fun r K=>∃b N,C b N/\r=A b N/\K=B b N)(hg:AX ops en o=some true)(h:Cp en o.op=some (g,AV.Dv (rn [] hp.length) xs))(hd:Au o.dst nt=true)(hA:∀b N,(A b N).ren (rn [] hp.length)=A' b N)(hB:∀b N,Jy [] hp (E4 (rn [] hp.length) (B b N))=B' b N)(he:∀b N,BU o.dst (A' b N) en=some (e b N))(k:∀b N,C b N->Wl P ro ops (i+1) rest ⟨e b N,B' b N,nt⟩ Q)(ha:AV.oks 0 xs=true:=by rfl):Wl P ro ops i (o::rest) ⟨en,hp,nt⟩ Q:=
 wZ hT hg h hd (fun b N hC=>by rw[hA,hB,<-Az (he b N)];exact k b N hC) ha
end
end Go.Gar
namespace Go.Gar
abbrev Rows:=List (Option (Nat×Nat×AT))
def wN(u:Value)(l:AT)(r:Option (Nat×Nat×AT)):Prop:=
 (∃b N,u= .slice (some ⟨b,0,none⟩) l.length N/\r=some (b,N,l)/\l.length<=N/\N<=maxLen)\/(l=[]/\r=none/\∃a,u= .slice a 0 0)
theorem wN.one{u:Value}{l:AT}{r:Option (Nat×Nat×AT)}(h:wN u l r):u.oneCell'=true:=by
 rcases h with⟨b,N,rfl,_⟩|⟨_,_,a,rfl⟩<;>rfl
end Go.Gar
namespace Go.Gar
section
variable {P:Program}{ro:yW}{ops:ya}{S0 S S':St}{Q:Exit->St->Prop}{E:Nat->Option Bd}{s s':Nat->St}{r r':Nat->Rc}
variable {N:NB}{p:Nat}{listed:yn}{G:Gh}{a:Act}{w:World}
theorem Fl.to(st:Fl ro ops S0 s r N listed p G a w)(pl:Plan P ro E ops S0 S s r)(pl':Plan P ro E ops S0 S' s' r'){c:Nat}(hc:c<ops.size)(hr:∀j,j<c->r' j=r j)(hh:(r' c).h=(r c).h)(hk:(r c).k.QK=true)
  (hunl:listed[c]?≠some true) (hdesc:∀j,c<j->j<ops.size->(UU ops j).testBit c=true):Fl ro ops S0 s' r' N listed p G a w:=by
 have low:∀j,listed[j]? =some true->j<c:=by
  intro j hl;have hj:j<ops.size:=by rw[<-st.size];exact(zZ.1 hl).1
  rcases Nat.lt_trichotomy j c with h|h|h
  .exact h
  .subst h;exact absurd hl hunl
  .exact absurd (st.up pl (o:=ops[j]) (by simp[hj]) (st.closed j _ (by simp[hj]) hl) (hdesc j h hj)) hunl
 have hpc:p<=c:=by
  rcases q0A c p with h|h
  .exact absurd ((st.eff c hc hk).2 h) hunl
  .exact h
 have hH:(s' p).H=(s p).H:=by
  rw[<-pl'.h p om,<-pl.h p om];rcases Nat.eq_or_lt_of_le hpc with h|h
  .rw[h,hh]
  .rw[hr p h]
 refine⟨st.size,st.closed,st.le,fun k hk1 hk2=> ?_,fun k ch hkc hl=> ?_,?_,fun j o t ho hd hl=> ?_,st.env0⟩
 .rcases q0A k c with h|h
  .exact st.eff k hk1 (by rw[<-hr k h];exact hk2)
  .constructor
   .intro hl;have:=low k hl;omega
   .intro h2;omega
 .exact st.nopan k ch (by rw[<-hr k (low k hl)];exact hkc) hl
 .rw[hH];exact st.rel
 .rw[hr j (low j hl)];exact st.env1 j o t ho hd hl
variable {acc:List Rc}{rest:yb}{o:Oper}{en:yr}{hp:yz}{nt:Nat}{A0:Prop}
end
theorem JO.raw{P:Program}{f:FuncId}{args:yq}{H:yz}{R R':AV->yz->Prop}(h:JO P f args H R)
  (hp:∀y K,R y K->∃a d1 d3 c,y= .tup [a,.ag [.d d1,.e0,.d d3],c]/\∀u,(∃q,u= .slice q 0 0)->R' (.tup [a,.d (.agg [d1,.raw u,d3]),c]) K):JO P f args H R':=by
 refine⟨h.1,fun G w vs h1 h2 h3=>(h.2 G w vs h1 h2 h3).mono ?_⟩;rintro e w' ⟨v,y,G',rfl,hR,hv,hr',hf⟩;obtain⟨a,d1,d3,c,rfl,k⟩:=hp y G'.H hR;simp only[RV,BP]at hv;obtain⟨vs',rfl,v1,r1,rfl,ha,v2,r2,rfl,⟨us,rfl,w1,s1,rfl,hd1,w2,s2,rfl,hu,w3,s3,rfl,hd3,rfl⟩,v3,r3,rfl,hc,rfl⟩:=hv;have one:w2.oneCell'=true:=by obtain⟨q,rfl⟩:=hu;rfl
 refine⟨_,_,G',rfl,k w2 hu,?_,hr',hf⟩;simp only[RV,BP,RD,Eb];exact⟨_,rfl,_,_,rfl,ha,_,_,rfl,⟨_,rfl,_,_,rfl,hd1,_,_,rfl,⟨rfl,one⟩,_,_,rfl,hd3,rfl⟩,_,_,rfl,hc,rfl⟩
end Go.Gar
namespace Go.Gar
section
variable {P:Program}{ro:yW}{ops:ya}{S0:St}{E:Nat->Option Bd}{A0:Prop}
variable {acc:List Rc}{rest:yb}{o:Oper}{en:yr}{hp:yz}{nt:Nat}
theorem Ysc(hE:CV P E){c:Bool}{H' H'':yz}{e0 e:yr}(hl:FN (looks ops o) en=some e0)(hg:AX ops e0 o=some true)(h:lB E e0 hp o.op=some (c,H'))(hd:Au o.dst nt=true)(he:BU o.dst .u en=some e)
  (hk:Wd P ro E ops S0 A0 (⟨e0,hp,.u,.eff⟩::acc) rest ⟨e,H'',nt⟩) (hc:c=true) (hH:H'=H'':=by first|(simp only[nS];rfl)|rfl):Wd P ro E ops S0 A0 acc (o::rest) ⟨en,hp,nt⟩:=by
 subst hH;have:=D8 hl;subst this;rw[Az he]at hk;exact Kb (S:=⟨en,hp,nt⟩) (x:=.u) (k:=.eff) (H':=H') ⟨hd,hg,Es.step (S:=⟨FO (looks ops o) en,hp,nt⟩) (dR (S:=⟨FO (looks ops o) en,hp,nt⟩) hE h hc) (Nv h)⟩ hk
end
end Go.Gar
namespace Go.Gar
structure Redo (w:World) (b:Nat) (w':World) (nb:Nat) (cur:yd) (T:TypeId):Prop where
 os:w'.os=w.os
 tape:w'.tape=w.tape
 output:w'.output=w.output
 size:w.heap.size<=w'.heap.size
 new:w'.heap[nb]? =some (.cells cur T (0,0))
 at_:nb=b\/w.heap.size<=nb
 oth:∀c,c<w.heap.size->c≠b->w'.heap[c]? =w.heap[c]?
structure L2 (w0:World) (b:Nat) (w:World) (ws:yd) (T:TypeId):Prop where
 os:w.os=w0.os
 tape:w.tape=w0.tape
 output:w.output=w0.output
 size:w.heap.size=w0.heap.size
 at_:w.heap[b]? =some (.cells ws T (0,0))
 oth:∀c,c≠b->w.heap[c]? =w0.heap[c]?
variable {w:World}{b:Nat}{ws:yd}{T:TypeId}
theorem L2.refl(h:w.heap[b]? =some (.cells ws T (0,0))):L2 w b w ws T:=⟨rfl,rfl,rfl,rfl,h,fun _ _=>rfl⟩
variable {w0:World}
theorem L2.cell(h:L2 w0 b w ws T)(k:Nat):w.cell? ⟨b,k,none⟩=ws[k]?:=by
 unfold World.cell?;simp only[h.at_,Option.isSome_none,q0F,zo]
theorem L2.set:∀(l:y6)(o:Nat){w:World}{ws:yd},L2 w0 b w ws T->o+l.length<=ws.size->
  ∃us:yd,L2 w0 b (w.setCells b o l) us T/\us.size=ws.size/\∀k,us[k]? =if o<=k/\k<o+l.length then l[k-o]? else ws[k]?
 |[],o,w,ws,h,_=>⟨ws,h,rfl,fun k=>by rw[zO (by simp only[zI];omega)]⟩
 |v::r,o,w,ws,h,hl=>by
  simp only[yu]at hl
  have h1:L2 w0 b (w.setCell ⟨b,o,none⟩ v) (ws.setIfInBounds o v) T:=by
   refine⟨h.os,h.tape,h.output,by rw[<-h.size];simp[World.setCell],?_,fun c hc=> ?_⟩
   .simp only[World.setCell,Array.getElem?_modify,zx,h.at_];rfl
   .rw[<-h.oth c hc];simp only[World.setCell,Array.getElem?_modify];rw[zO (Ne.symm hc)]
  obtain⟨us,h2,h3,h4⟩:=L2.set r (o+1) h1 (by simp;omega);refine⟨us,h2,by rw[h3];simp,fun k=> ?_⟩;rw[h4 k];simp only[yu]
  by_cases e:k=o
  .subst e;rw[zO om,zN om,Nat.sub_self,q0K om];rfl
  .by_cases e2:o<=k/\k<o+(r.length+1)
   .rw[zN om,zN e2,show k-o=(k-(o+1))+1 by omega,q1G]
   .rw[zO om,zO e2,q0P om]
theorem L2.new{o:Obj}(h:L2 (w0.alloc o) w0.heap.size w ws T):Redo w0 b w w0.heap.size ws T:=by
 refine⟨h.os,h.tape,h.output,by rw[h.size];simp,h.at_,.inr (yV _),fun c hc _=> ?_⟩;rw[h.oth c om];show(w0.heap.push o)[c]? =_;rw[Array.getElem?_push,zO om]
end Go.Gar
namespace Go.Gar
theorem Yj{G:Gh}{w:World}(h:B9 G w){b:Nat}(ho:Own G b){x:Option (List Deferred)}:w.heap[b]?≠some (.deferred x):=by
 rcases ho with⟨id,N,blk,hb,hl,hρ⟩|⟨id,rs,hb,hr⟩
 .have:=h.blk id blk hb
  cases blk with
  |gone=>simp[AF.live]at hl
  |many rs=>simp[AF.live]at hl
  |c cs=>obtain⟨_,_,_,_,h1,h2,_⟩:=this;rw[hρ]at h1;cases h1;rw[h2];simp
  |a y=>
   obtain⟨_,_,⟨_,h1⟩|⟨_,_,_,_,h1,h2,_⟩⟩:=this
   .rw[hρ]at h1;cases h1
   .rw[hρ]at h1;cases h1;rw[h2];simp
  |m es=>obtain⟨_,_,_,_,h1,h2,_⟩:=this;rw[hρ]at h1;cases h1;rw[h2];simp
  |lp r=>obtain⟨_,_,_,_,h1,h2,_⟩:=this;rw[hρ]at h1;cases h1;rw[h2];simp
  |HW _ _ _=>obtain⟨_,_,h1,h2,_⟩:=this;rw[hρ]at h1;cases h1;rw[h2];simp
 .obtain⟨N,l,hm⟩:=Wb.1 hr;obtain⟨vs,T,hw,_⟩:=h.blk id _ hb b N l hm;rw[hw];simp
theorem YU{N:NB}{G G':Gh}{a:Act}{w:World}(h:Marks N G a w)(hr:B9 G' w):Marks N G' a w:=
 let⟨h0,ms,h1,h2,h3⟩:=h
 ⟨h0,ms,h1,h2,fun r hr'=>⟨(h3 r hr').1,(h3 r hr').2.1,fun ho=>Yj hr ho (h3 r hr').2.1⟩⟩
variable {Q:Exit->St->Prop}
theorem wP{P:Program}{c:Code}{S0:St}{H2:yz}(ids:BK)(h:W P none c S0 Q)(hn:nodupB ids=true)(hm:Dg (rn ids H2.length) H2 ids S0.H)(ho:Ai S0.H.length S0.H=true)(he:F2 S0.H.length S0.env=true):
  W P none c ⟨NW (rn ids H2.length) S0.env,H2,S0.n⟩ fun e S=>∃S',Q e S'/\S=⟨NW (rn ids H2.length) S'.env,Jy ids H2 (E4 (rn ids H2.length) S'.H),S'.n⟩:=by
 intro N G a w r;have hn':=Ft hn;obtain⟨h1,h2⟩:=R6 r.heap hn' hm r.rel ho
 have r0:Rel none N S0 ⟨fun i=>G.ρ (rn ids H2.length i),S0.H,G.m⟩ a w:=⟨rfl,h1,r.size,fun t x hx=>by
  obtain⟨v,hv,hrv⟩:=r.env t (x.ren (rn ids H2.length)) (by show get (NW _ S0.env) t=_;rw[JY,hx];rfl);refine⟨v,hv,?_⟩;have:=h2 (x:=[x]) (vs:=[v]) (by simp only[AV.oks,Lt he hx,q0g]) (by simp only[AV.Dv,BP];exact⟨v,[],rfl,hrv,rfl⟩);simp only[BP]at this;obtain⟨_,_,e,hx',_⟩:=this
  cases e;exact hx',YU r.marks h1,fun _ h=>by cases h⟩
 refine q1O (h N ⟨fun i=>G.ρ (rn ids H2.length i),S0.H,G.m⟩ a w r0) ?_;rintro e a' w' ⟨S',G0',q,r',k⟩;obtain⟨G'',q1,q2,q3,q4,q5⟩:=MC r.heap hn' hm r.rel k r'.rel;refine⟨_,G'',⟨S',q,rfl⟩,⟨by rw[q1,r'.heap],q2,r'.size,fun t x hx=> ?_,YU r'.marks q2,fun _ h=>by cases h⟩,q3⟩;change get (NW _ S'.env) t=some x at hx;rw[JY,q0B]at hx;obtain⟨z,hz,rfl⟩:=hx;obtain⟨v,hv,hrv⟩:=r'.env t z hz;exact⟨v,hv,hrv.ren q4 q5⟩
theorem tj{P:Program}{c:Code}{S:St}(h:W P none c S fun e S'=>∃S'',A5 S' S''/\S.H.length<=S''.H.length/\Q e S''):W P none c S Q:=by
 intro N G a w r;refine q1O (h N G a w r) ?_;rintro e a' w' ⟨S',G',⟨S'',t,hl,q⟩,r',k⟩;obtain⟨G'',r'',t'⟩:=t none N G' a' w' r' (fun _ h=>by cases h);exact⟨S'',G'',q,r'',k.ghost t' (by rw[r.heap,r''.heap];exact hl)⟩
variable {ids:BK}{H l:yz}
theorem tA{i:Nat}(hn:ids.Nodup)(hl:ids.length<=l.length)(ha:∀a∈ids,a<H.length)(hi:i<ids.length):(Jy ids H l)[ids[i]]? =l[i]?:=by
 rw[Qn hn hl ha,zN (q0a hi),hn.idxOf_getElem i hi]
theorem uL(j:Nat)(hn:ids.Nodup)(hl:ids.length<=l.length)(ha:∀a∈ids,a<H.length):(Jy ids H l)[H.length+j]? =l[ids.length+j]?:=by
 rw[Qn hn hl ha,zO (fun h=>by have:=ha _ h;omega),zO om,Nat.add_sub_cancel_left]
theorem Vs:∀{ids:BK}{H l:yz},ids.length<=l.length->(Jy ids H l).length=H.length+(l.length-ids.length)
 |[],H,l,_=>by simp[Jy]
 |a::r,H,[],h=>by simp at h
 |a::r,H,b::l,h=>by simp only[Jy];rw[Vs (by simpa using h)];simp
theorem tB(h:ids.length<=l.length):H.length<=(Jy ids H l).length:=by rw[Vs h];exact Nat.le_add_right ..
theorem V1{ι:Nat->Nat}{H2:yz}:∀{ids:BK}{H:yz},ids.length=H.length->(∀(i:Nat)(a:Nat)(b:AF),ids[i]? =some a->H[i]? =some b->H2[a]? =some (b.ren ι))->Dg ι H2 ids H
 |[],[],_,_=>trivial
 |[],_::_,h,_=>by simp at h
 |_::_,[],h,_=>by simp at h
 |a::r,b::l,h,k=>⟨k 0 a b rfl rfl,V1 (by simpa using h) fun i a' b' h1 h2=>k (i+1) a' b' (by simpa using h1) (by simpa using h2)⟩
theorem YH{α:Type}:∀{l H:List α},(∀(i:Nat)(x:α),l[i]? =some x->H[i]? =some x)->∃G,H=l++G
 |[],H,_=>⟨H,rfl⟩
 |a::l,[],h=>by have:=h 0 a rfl;simp at this
 |a::l,b::H,h=>by
  have e:=h 0 a rfl;simp at e;obtain⟨G,hG⟩:=YH (l:=l) (H:=H) fun i x hx=>by simpa using h (i+1) x (by simpa using hx)
  exact⟨G,by rw[hG,e];rfl⟩
end Go.Gar
namespace Go.Gar
abbrev Tm:=List (List (yv))
def xJ:List (yv)->Nat->yv
 |[],_=>none
 |x::_,0=>x
 |_::r,k+1=>xJ r k
def rR:Tm->Nat->List (yv)
 |[],_=>[]
 |c::_,0=>c
 |_::r,k+1=>rR r k
def X3(e:Tm)(t:Nat):yv:=xJ (rR e (t/8)) (t%8)
def set1(x:AV):Nat->List (yv)->List (yv)
 |0,[]=>[some x]
 |0,_::r=>some x::r
 |k+1,[]=>none::set1 x k []
 |k+1,y::r=>y::set1 x k r
def vJ(j:Nat)(x:AV):Nat->Tm->Tm
 |0,[]=>[set1 x j []]
 |0,c::r=>set1 x j c::r
 |k+1,[]=>[]::vJ j x k []
 |k+1,c::r=>c::vJ j x k r
def tset(t:Nat)(x:AV)(e:Tm):Tm:=vJ (t%8) x (t/8) e
def jJ(e:Tm):Nat->yr
 |0=>[]
 |m+1=>match X3 e m with
  |some x=>(m,x)::jJ e m
  |none=>jJ e m
def xi(e:Tm):yr:=jJ e (8*e.length)
def ofE:yr->Tm
 |[]=>[]
 |p::r=>tset p.1 p.2 (ofE r)
def small(e:Tm):BK->yr
 |[]=>[]
 |t::r=>match X3 e t with
  |some x=>(t,x)::small e r
  |none=>small e r
mutual
def Hs(H:yz):AV->yv
 | .d x=>some (.d x)
 | .u=>some .u
 | .e0=>some .e0
 | .dp cs=>some (.dp cs)
 | .sl id n _=>match H[id]? with
  |some (.a x)=>match Nat.beq n (B3 x)with
   |true=>some (.d x)
   |false=>none
  |_=>none
 | .ag cs=>match Ji H cs with
  |some l=>some (.ag l)
  |none=>none
 | .tup cs=>match Ji H cs with
  |some l=>some (.tup l)
  |none=>none
 | .fn f a b=>match Ji H a,Ji H b with
  |some p,some q=>some (.fn f p q)
  |_,_=>none
 |_=>none
def Ji(H:yz):yq->Option (yq)
 |[]=>some []
 |x::r=>match Hs H x,Ji H r with
  |some y,some l=>some (y::l)
  |_,_=>none
end
def tH:AV->Bool
 | .d x=>flat x
 |_=>false
mutual
def D.kg:D->D->Bool
 | .b x,.b y=>x==y
 | .i k n,.i k' n'=>decide (k=k')&&decide (n=n')
 | .s l,.s l'=>decide (l=l')
 | .by l,.by l'=>decide (l=l')
 | .is l,.is l'=>decide (l=l')
 | .agg p,.agg q=>D.Qc p q
 | .tup p,.tup q=>D.Qc p q
 | .sl n p,.sl m q=>Nat.beq n m&&D.tD p q
 | .np,.np=>true
 | .nf,.nf=>true
 | .ni,.ni=>true
 | .nm,.nm=>true
 |_,_=>false
def D.Qc:yo->yo->Bool
 |[],[]=>true
 |x::r,y::l=>D.kg x y&&D.Qc r l
 |_,_=>false
def D.tD:List (yo)->List (yo)->Bool
 |[],[]=>true
 |x::r,y::l=>D.Qc x y&&D.tD r l
 |_,_=>false
end
mutual
def AV.kg:AV->AV->Bool
 | .d x,.d y=>D.kg x y
 | .u,.u=>true
 | .e0,.e0=>true
 | .ptr a b c,.ptr a' b' c'=>Nat.beq a a'&&Nat.beq b b'&&Nat.beq c c'
 | .sl a b c,.sl a' b' c'=>Nat.beq a a'&&Nat.beq b b'&&Nat.beq c c'
 | .bs i j k m n,.bs i' j' k' m' n'=>Nat.beq i i'&&Nat.beq j j'&&Nat.beq k k'&&Nat.beq m m'&&Nat.beq n n'
 | .ep i j k m n,.ep i' j' k' m' n'=>Nat.beq i i'&&Nat.beq j j'&&Nat.beq k k'&&Nat.beq m m'&&Nat.beq n n'
 | .ag p,.ag q=>AV.Qc p q
 | .tup p,.tup q=>AV.Qc p q
 | .fn (.func f) a b,.fn (.func g) p q=>Nat.beq f g&&AV.Qc a p&&AV.Qc b q
 | .yl p,.yl q=>Nat.beq p q
 | .mp p,.mp q=>Nat.beq p q
 | .dp p,.dp q=>D.Qc p q
 |_,_=>false
def AV.Qc:yq->yq->Bool
 |[],[]=>true
 |x::r,y::l=>AV.kg x y&&AV.Qc r l
 |_,_=>false
end
def eqM:z6->z6->Bool
 |[],[]=>true
 |p::r,q::l=>D.kg p.1 q.1&&AV.kg p.2 q.2&&eqM r l
 |_,_=>false
def AF.kg:AF->AF->Bool
 | .gone,.gone=>true
 | .c p,.c q=>AV.Qc p q
 | .a x,.a y=>D.kg x y
 | .m p,.m q=>eqM p q
 |_,_=>false
def fixB:AF->AF->AF
 | .lp r0,.lp r=> .lp {r0 with state:=r.state,pending:=r.pending}
 |_,b=>b
def wv:yz->yz->yz
 |b0::r0,b::r=>fixB b0 b::wv r0 r
 |_,l=>l
def stB:LoopState->LoopState->Bool
 | .ready,.ready| .busy,.busy| .done,.done| .exhausted,.exhausted=>true
 |_,_=>false
def cmpB:AF->AF->AF->Bool
 | .lp _,.lp r,.lp q=>stB r.state q.state&&r.pending.isNone&&q.pending.isNone
 | .lp _,_,_=>false
 |_,x,y=>AF.kg x y
def uP:yz->yz->yz->Bool
 |b::r,x::l,y::m=>cmpB b x y&&uP r l m
 |[],x::l,y::m=>AF.kg x y&&uP [] l m
 |_,[],[]=>true
 |_,_,_=>false
def di(a b:Nat)(e1 e2:Tm):Nat->yr
 |0=>[]
 |t+1=>match X3 e1 t,X3 e2 t with
  |some x,some y=>match AV.kg (y.ren (sw a b)) x with
   |true=>(t,x)::di a b e1 e2 t
   |false=>di a b e1 e2 t
  |_,_=>di a b e1 e2 t
def Iy(H:yz)(e1:Tm)(H1:yz)(e2:Tm)(H2:yz):y4->Option (Tm×yz)
 |[]=>none
 |p::l=>match Nat.ble H.length p.1&&Nat.ble H.length p.2&&Nat.blt p.1 H1.length&&Nat.blt p.2 H1.length&&Nat.beq H1.length H2.length&&uP H (jX p.1 p.2 H2) H1 with
  |true=>some (ofE (di p.1 p.2 e1 e2 (8*e1.length)),wv H H1)
  |false=>Iy H e1 H1 e2 H2 l
def q1(x:yv)(f:AV->yy):yy:=
 match x with
 |some x=>f x
 |none=>none
def q2(x y:yv)(f:AV->AV->yy):yy:=
 match x,y with
 |some x,some y=>f x y
 |_,_=>none
mutual
def AV.ids:AV->BK
 | .ptr id _ _| .sl id _ _| .bs id _ _ _ _| .ep id _ _ _ _| .yl id| .mp id=>[id]
 | .ag cs| .tup cs=>AV.lj cs
 | .fn _ a b=>AV.lj a++AV.lj b
 |_=>[]
def AV.lj:yq->BK
 |[]=>[]
 |x::r=>x.ids++AV.lj r
end
def AF.ids:AF->BK
 | .c cs=>AV.lj cs
 | .m es=>es.flatMap fun p=>p.2.ids
 | .lp r=>r.env.flatMap fun p=>p.2.ids
 |_=>[]
inductive Rq
 |c (ro:yW) (c:Code) (e:Tm) (H:yz) (n:Nat)
 |lo (ro:yW) (c:Code) (e:Tm) (H:yz) (n:Nat)
 |sc (ro:yW) (c0 c:Code) (e:Tm) (H:yz) (n:Nat)
 |l (ro:yW) (ops:ya) (rest:yb) (e:Tm) (H:yz) (n:Nat)
 |t (ro:yW) (ops:ya) (l:y4) (e:Tm) (H:yz) (n:Nat)
 |d (ops:ya) (acc:List Rc) (ks:List Kd) (rest:yb) (e:Tm) (H:yz) (n:Nat)
 |f (g:Nat) (xs:yq) (H:yz)
 |p (g:Nat) (xs:yq) (b:Bool)
 |y (id:Nat) (xs:yq) (H:yz)
abbrev Rz:=Exit×Tm×yz
def one(x:AV)(H:yz):Option Rz:=some (.normal,[[some x]],H)
end Go.Gar
namespace Go.Gar
theorem mo(i:Nat):rR [] i=[]:=by cases i<;>rfl
theorem oz:∀{e:Tm}{t:Nat},8*e.length<=t->X3 e t=none:=by
 have h:∀{e:Tm}{k:Nat},e.length<=k->rR e k=[]:=by
  intro e
  induction e with
  |nil=>intro k _;exact mo k
  |cons c r ih=>
   intro k hk
   cases k with
   |zero=>simp at hk
   |succ k=>exact ih (by simpa using hk)
 intro e t ht;simp only[X3];rw[h om];rfl
theorem Y7{e:Tm}:∀{m t:Nat},get (jJ e m) t=if t<m then X3 e t else none
 |0,t=>by simp[jJ,get]
 |m+1,t=>by
  have ih:=Y7 (e:=e) (m:=m) (t:=t);simp only[jJ];split
  .rename_i x hx;simp only[get];split
   .rename_i hb;have:=zH hb;subst this;rw[zN om,hx]
   .rename_i hb;have hne:m≠t:=fun e=>hb (by rw[e,q1L])
    rw[ih]
    by_cases h:t<m
    .rw[zN h,zN om]
    .rw[zO h,zO om]
  .rename_i hx;rw[ih]
   by_cases h:t<m
   .rw[zN h,zN om]
   .by_cases h2:t=m
    .subst h2;rw[zO h,zN om,hx]
    .rw[zO h,zO om]
variable {e:Tm}
theorem qU{t:Nat}:get (xi e) t=X3 e t:=by
 unfold xi;rw[Y7];split
 .rfl
 .rw[oz om]
theorem Tu{e:Tm}:∀{l:BK},small e l=FO l (xi e)
 |[]=>rfl
 |t::r=>by
  simp only[small,FO];rw[qU]
  cases X3 e t with
  |none=>exact Tu
  |some x=>simp only[Tu (l:=r)]
variable {l:BK}{x:AV}
theorem jE{t:Nat}(h:get (small e l) t=some x):get (xi e) t=some x:=by
 rw[Tu]at h;exact(KO h).2
section
variable {a b:yr}(hs:∀t x,get a t=some x->get b t=some x)
include hs
end
theorem A5.env{S:St}{env:yr}(h:∀t x,get env t=some x->get S.env t=some x):A5 S ⟨env,S.H,S.n⟩:=
 fun _ _ G _ _ r _=>⟨G,⟨r.heap,r.rel,r.size,fun t x hx=>r.env t x (h t x hx),r.marks,r.round⟩,⟨fun id b b' hb hb'=>by rw[hb]at hb';cases hb';exact Ap.refl _ _ _,Mem.le_refl _,fun _ h=>h,fun _ _ _ h=> .inl h⟩⟩
def G0(m:Mem):Gh:=⟨fun _=>none,[],m⟩
mutual
theorem vG{G:Gh}{w:World}(hr:B9 G w){m:Mem}(hm:G.m.le m)(hown:∀b k v,Own G b->w.cell? ⟨b,k,none⟩=some v->m b k=some v):∀{x y:AV}{v:Value},Hs G.H x=some y->RV G x v->RV (G0 m) y v
 | .d x,y,v,h,r=>by
  simp only[Hs,yh]at h;subst h;simp only[RV]at r|-;exact r.mono hm
 | .u,y,v,h,r=>by simp only[Hs,yh]at h;subst h;trivial
 | .e0,y,v,h,r=>by simp only[Hs,yh]at h;subst h;simpa only[RV]using r
 | .dp cs,y,v,h,r=>by
  simp only[Hs,yh]at h;subst h;simp only[RV]at r|-;obtain⟨b,off,h1,h2⟩:=r;exact⟨b,off,h1,N5.mono hm h2⟩
 | .sl id n sz,y,v,h,r=>by
  simp only[Hs]at h;split at h
  .rename_i x hx;split at h
   .rename_i hn;cases h;have hf:D5 G.H (.sl id n sz) x:=by simp only[D5];exact⟨hx,zH hn⟩
    have:=WC hr hm hown hf r;simpa only[RV,G0]using this
   .cases h
  .cases h
 | .ag _,_,_,h,r| .tup _,_,_,h,r=>by
  simp only[Hs]at h;split at h
  .rename_i l hl;cases h;simp only[RV]at r|-;obtain⟨vs,h1,h2⟩:=r;exact⟨vs,h1,Oa hr hm hown hl h2⟩
  .cases h
 | .fn f a b,y,v,h,r=>by
  simp only[Hs]at h;split at h
  .rename_i p q hp hq;cases h;simp only[RV]at r|-;obtain⟨p',q',h1,h2,h3⟩:=r;exact⟨p',q',h1,Oa hr hm hown hp h2,Oa hr hm hown hq h3⟩
  .cases h
 | .ptr ..,y,v,h,r=>by simp[Hs]at h
 | .bs ..,y,v,h,r=>by simp[Hs]at h
 | .ep ..,y,v,h,r=>by simp[Hs]at h
 | .yl ..,y,v,h,r=>by simp[Hs]at h
 | .mp ..,y,v,h,r=>by simp[Hs]at h
theorem Oa{G:Gh}{w:World}(hr:B9 G w){m:Mem}(hm:G.m.le m)(hown:∀b k v,Own G b->w.cell? ⟨b,k,none⟩=some v->m b k=some v):∀{xs ys:yq}{vs:y6},Ji G.H xs=some ys->BP G xs vs->BP (G0 m) ys vs
 |[],ys,vs,h,r=>by simp only[Ji,yh]at h;subst h;simpa only[BP]using r
 |x::xs,ys,vs,h,r=>by
  simp only[Ji]at h;split at h
  .rename_i y l hy hl;cases h;simp only[BP]at r|-;obtain⟨v,r',h1,h2,h3⟩:=r;exact⟨v,r',h1,vG hr hm hown hy h2,Oa hr hm hown hl h3⟩
  .cases h
end
mutual
theorem eS{H:yz}:∀{x y:AV},Hs H x=some y->∀{m:Mem}{G:Gh}{v:Value},m.le G.m->RV (G0 m) y v->RV G y v
 | .d x,y,h=>by
  intro hm r;simp only[Hs,yh]at h;subst h;simp only[RV]at r|-;exact r.mono hm
 | .u,y,h=>by intro hm r;simp only[Hs,yh]at h;subst h;trivial
 | .e0,y,h=>by intro hm r;simp only[Hs,yh]at h;subst h;simpa only[RV]using r
 | .dp cs,y,h=>by
  intro hm r;simp only[Hs,yh]at h;subst h;simp only[RV]at r|-;obtain⟨b,off,h1,h2⟩:=r;exact⟨b,off,h1,N5.mono hm h2⟩
 | .sl id n sz,y,h=>by
  intro hm r;simp only[Hs]at h;split at h
  .split at h
   .cases h;simp only[RV]at r|-;exact r.mono hm
   .cases h
  .cases h
 | .ag _,_,h| .tup _,_,h=>by
  intro hm r;simp only[Hs]at h;split at h
  .rename_i l hl;cases h;simp only[RV]at r|-;obtain⟨vs,h1,h2⟩:=r;exact⟨vs,h1,OY hl hm h2⟩
  .cases h
 | .fn f a b,y,h=>by
  intro hm r;simp only[Hs]at h;split at h
  .rename_i p q hp hq;cases h;simp only[RV]at r|-;obtain⟨p',q',h1,h2,h3⟩:=r;exact⟨p',q',h1,OY hp hm h2,OY hq hm h3⟩
  .cases h
 | .ptr ..,y,h=>by simp[Hs]at h
 | .bs ..,y,h=>by simp[Hs]at h
 | .ep ..,y,h=>by simp[Hs]at h
 | .yl ..,y,h=>by simp[Hs]at h
 | .mp ..,y,h=>by simp[Hs]at h
theorem OY{H:yz}:∀{xs ys:yq},Ji H xs=some ys->∀{m:Mem}{G:Gh}{vs:y6},m.le G.m->BP (G0 m) ys vs->BP G ys vs
 |[],ys,h=>by intro hm r;simp only[Ji,yh]at h;subst h;simpa only[BP]using r
 |x::xs,ys,h=>by
  intro hm r;simp only[Ji]at h;split at h
  .rename_i y l hy hl;cases h;simp only[BP]at r|-;obtain⟨v,r',h1,h2,h3⟩:=r;exact⟨v,r',h1,eS hy hm h2,OY hl hm h3⟩
  .cases h
end
mutual
theorem vF{G:Gh}:∀{x y:AV}{v:Value},Hs [] x=some y->RV G x v->RV (G0 G.m) y v
 | .d _,_,_,h,r| .dp _,_,_,h,r=>by simp only[Hs,yh]at h;subst h;simpa only[RV,G0]using r
 | .u,y,v,h,r=>by simp only[Hs,yh]at h;subst h;trivial
 | .e0,y,v,h,r=>by simp only[Hs,yh]at h;subst h;simpa only[RV]using r
 | .sl id n sz,y,v,h,r=>by simp[Hs]at h
 | .ag _,_,_,h,r| .tup _,_,_,h,r=>by
  simp only[Hs]at h;split at h
  .rename_i l hl;cases h;simp only[RV]at r|-;obtain⟨vs,h1,h2⟩:=r;exact⟨vs,h1,OZ hl h2⟩
  .cases h
 | .fn f a b,y,v,h,r=>by
  simp only[Hs]at h;split at h
  .rename_i p q hp hq;cases h;simp only[RV]at r|-;obtain⟨p',q',h1,h2,h3⟩:=r;exact⟨p',q',h1,OZ hp h2,OZ hq h3⟩
  .cases h
 | .ptr ..,y,v,h,r=>by simp[Hs]at h
 | .bs ..,y,v,h,r=>by simp[Hs]at h
 | .ep ..,y,v,h,r=>by simp[Hs]at h
 | .yl ..,y,v,h,r=>by simp[Hs]at h
 | .mp ..,y,v,h,r=>by simp[Hs]at h
theorem OZ{G:Gh}:∀{xs ys:yq}{vs:y6},Ji [] xs=some ys->BP G xs vs->BP (G0 G.m) ys vs
 |[],ys,vs,h,r=>by simp only[Ji,yh]at h;subst h;simpa only[BP]using r
 |x::xs,ys,vs,h,r=>by
  simp only[Ji]at h;split at h
  .rename_i y l hy hl;cases h;simp only[BP]at r|-;obtain⟨v,r',h1,h2,h3⟩:=r;exact⟨v,r',h1,vF hy h2,OZ hl h3⟩
  .cases h
end
def xo(P:Program)(f:FuncId)(xs:yq)(y:AV):Prop:=
 Hs [] y=some y/\HK P f/\∀(m:Mem)(w:World)(vs:yd),Q4 m w->sv m->BP (G0 m) xs vs.toList->
  CallsIn Fence.wide 0 P f vs w fun e w'=>∃v m',e= .returned v/\RV (G0 m') y v/\m.le m'/\Q4 m' w'/\(∀b k v,m' b k=some v->m b k=some v\/w.heap.size<=b)/\
   w'.os=w.os/\w'.tape=w.tape/\w'.output=w.output/\w.heap.size<=w'.heap.size/\∀b,b<w.heap.size->w'.heap[b]? =w.heap[b]?
section
variable {P:Program}{ro:yW}{S:St}{Q:Exit->St->Prop}{E:Nat->Option Bd}
theorem xo.vt{f:FuncId}{ys:yq}{y:AV}(h:xo P f ys y){xs:yq}(hx:Ji [] xs=some ys)(H:yz):JO P f xs H fun x H'=>x=y/\H'=H:=by
 refine⟨h.2.1,fun G w vs hG hr hargs=>(h.2.2 G.m w vs hr.mem hr.st (OZ hx hargs)).mono ?_⟩;rintro e w' ⟨v,m',rfl,h1,h2,h3,h4,h5,h6,h7,h8,h9⟩;obtain⟨k1,k2⟩:=K8 hr h5 h6 h7 h8 h9 m' h2 h4 h3;exact⟨v,y,{G with m:=m'},rfl,⟨rfl,hG⟩,eS h.1 (Mem.le_refl _) h1,k1,k2⟩
open Classical in
theorem xo.read{f:FuncId}{ys:yq}{y:AV}(h:xo P f ys y)(hr:tH y=true){xs:yq}{H:yz}(hx:Ji H xs=some ys):JO P f xs H fun x H'=>x=y/\H'=H:=by
 refine⟨h.2.1,fun G w vs hG hrel hargs=> ?_⟩;let m:Mem:=fun b k=>if Own G b then w.cell? ⟨b,k,none⟩else G.m b k
 have hle:G.m.le m:=fun b k v hv=>by
  by_cases ho:Own G b
  .rw[hrel.sep b ho k]at hv;cases hv
  .simp only[m,zO ho,hv]
 have hmem:Q4 m w:=fun b k v hv=>by
  simp only[m]at hv;split at hv
  .exact hv
  .exact hrel.mem b k v hv
 have hds:BP (G0 m) ys vs.toList:=Oa hrel hle (fun b k v ho hc=>by simp only[m,zN ho,hc]) (by rw[hG];exact hx) hargs;refine(h.2.2 m w vs hmem (Mem.le_trans hrel.st hle) hds).mono ?_;rintro e w' ⟨v,m',rfl,h1,h2,h3,h4,h5,h6,h7,h8,h9⟩
 obtain⟨k1,k2⟩:=K8 hrel h5 h6 h7 h8 h9 G.m (Mem.le_refl _) (fun _ _ _ h=> .inl h) (fun b k u hu=>by
  rw[World.cell?_of_block (w:=w) (h9 b (IX hrel hu))]
  exact hrel.mem b k u hu)
 refine⟨v,y,G,rfl,⟨rfl,hG⟩,?_,k1,k2⟩;cases y<;>simp only[tH,q0F]at hr;simp only[RV]at h1|-;exact Qp hr h1
end
mutual
theorem rdV0:∀{x y:AV},Hs [] x=some y->y=x/\x.ok 0=true
 | .d _,_,h| .u,_,h| .e0,_,h| .dp _,_,h=>by simp only[Hs,yh]at h;exact⟨h.symm,rfl⟩
 | .ag _,_,h| .tup _,_,h=>by
  simp only[Hs]at h;split at h
  .rename_i l hl;cases h;obtain⟨rfl,h2⟩:=ZF hl;exact⟨rfl,h2⟩
  .cases h
 | .fn f a b,y,h=>by
  simp only[Hs]at h;split at h
  .rename_i p q hp hq;cases h;obtain⟨rfl,h2⟩:=ZF hp;obtain⟨rfl,h3⟩:=ZF hq;exact⟨rfl,by simp only[AV.ok,h2,h3];rfl⟩
  .cases h
 | .sl ..,y,h=>by simp[Hs]at h
 | .ptr ..,y,h=>by simp[Hs]at h
 | .bs ..,y,h=>by simp[Hs]at h
 | .ep ..,y,h=>by simp[Hs]at h
 | .yl ..,y,h=>by simp[Hs]at h
 | .mp ..,y,h=>by simp[Hs]at h
theorem ZF:∀{xs ys:yq},Ji [] xs=some ys->ys=xs/\AV.oks 0 xs=true
 |[],ys,h=>by simp only[Ji,yh]at h;exact⟨h.symm,rfl⟩
 |x::xs,ys,h=>by
  simp only[Ji]at h;split at h
  .rename_i y l hy hl;cases h;obtain⟨rfl,h1⟩:=rdV0 hy;obtain⟨rfl,h2⟩:=ZF hl;exact⟨rfl,by simp only[AV.oks,h1,h2];rfl⟩
  .cases h
end
theorem Bw.up{P:Program}{f:FuncId}{xs ys:yq}{K:yz}(h:Bw P f ys [] x K)(hx:Ji [] xs=some ys)(H:yz):Bw P f xs H (x.ren (rn [] H.length)) (H++E4 (rn [] H.length) K):=by
 obtain⟨rfl,h2⟩:=ZF hx;have:=Bw.ren (H2:=H) [] h rfl trivial rfl h2;rw[AV.MD (k:=0) (fun i hi=>absurd hi (Nat.not_lt_zero _)) h2]at this;exact this
theorem Es.up{P:Program}{o:Oper}{H H':yz}{n:Nat}(h:Es P o ⟨small e l,H,n⟩ x H'):Es P o ⟨xi e,H,n⟩ x H':=
 fun ro N G a w r=>h ro N G a w (r.SH fun _ _ hx=>jE hx)
end Go.Gar
namespace Go.Gar
section
variable {P:Program}{ro:yW}{S:St}{Q:Exit->St->Prop}{E:Nat->Option Bd}
end
end Go.Gar
