/- Part 7 of a proof. Conditions: those that its theorems state. -/
import Derived.Test.YtamjpnmjpponpaaGreatDoorC06
import Derived.Laws.IdiomCopy
set_option linter.unusedSimpArgs false
set_option linter.unusedVariables false
set_option linter.unnecessarySimpa false
set_option maxHeartbeats 40000000
set_option maxRecDepth 4000
namespace Go.Gar
def wT:yr->Option (yp)
 |[]=>some []
 | .d x::r=>match wT r with
  |some l=>some (x::l)
  |none=>none
 |_::_=>none
theorem lB:∀{l:yr}{xs:yp},wT l=some xs->l=xs.map .d
 |[],xs,h=>by simp[wT]at h;subst h;rfl
 | .d x::r,xs,h=>by
  simp only[wT]at h;split at h
  .rename_i l hl;cases h;rw[lB hl];rfl
  .cases h
 | .u::_,_,h| .ptr _ _ _::_,_,h| .sl _ _ _::_,_,h| .bs _ _ _ _ _::_,_,h| .ep _ _ _ _ _::_,_,h| .e0::_,_,h| .ag _::_,_,h| .tup _::_,_,h| .fn _ _ _::_,_,h| .yl _::_,_,h| .dp _::_,_,h| .mp _::_,_,h=>by simp[wT]at h
def setRows(off:Nat)(xs:yp):Nat->List (yp)->List (yp)
 |_,[]=>[]
 |0,r::l=>(r.take off++xs++r.drop (off+xs.length))::l
 |i+1,r::l=>r::setRows off xs i l
theorem Q6(off:Nat)(xs:yp):∀(i:Nat)(l:List (yp)),(setRows off xs i l).length=l.length
 |_,[]=>by cases ‹Nat›<;>rfl
 |0,_::_=>rfl
 |i+1,r::l=>by simp[setRows,Q6 off xs i l]
theorem TF{off sz:Nat}{xs:yp}(hs:off+xs.length<=sz):∀{i:Nat}{l:List (yp)},(∀e∈l,e.length=sz)->∀e∈setRows off xs i l,e.length=sz
 |i,[],_,e,he=>by cases i<;>cases he
 |0,r::l,h,e,he=>by
  have hr:=h r (q0J ..);rcases q0O.1 he with rfl|he
  .simp;omega
  .exact h e (q0P _ he)
 |i+1,r::l,h,e,he=>by
  rcases q0O.1 he with rfl|he
  .exact h _ (q0J ..)
  .exact TF hs (fun e he=>h e (q0P _ he)) e he
theorem O6{off sz:Nat}{xs:yp}(hs:off+xs.length<=sz):∀{i:Nat}{l:List (yp)},(∀e∈l,e.length=sz)->i<l.length->
  (setRows off xs i l).flatten=l.flatten.take (i*sz+off)++xs++l.flatten.drop (i*sz+off+xs.length)
 |i,[],_,hi=>by simp at hi
 |0,r::l,h,hi=>by
  have hr:=h r (q0J ..);simp only[setRows,q0M,Nat.zero_mul,q0Q];rw[List.take_append_of_le_length om,List.drop_append_of_le_length om];simp only[q0Z]
 |i+1,r::l,h,hi=>by
  have hr:=h r (q0J ..);have ih:=O6 hs (i:=i) (fun e he=>h e (q0P _ he)) (by simp at hi;omega);simp only[setRows,q0M];have e1:(i+1)*sz+off=r.length+(i*sz+off):=by rw[hr,Nat.succ_mul];omega
  rw[ih,e1,List.take_length_add_append,Nat.add_assoc r.length,List.drop_length_add_append];simp only[q0Z]
theorem JG{sz:Nat}:∀{l:List (yp)},(∀e∈l,e.length=sz)->l.flatten.length=l.length*sz
 |[],_=>by simp
 |r::l,h=>by
  have:=JG (fun e he=>h e (q0P r he));rw[q0M,q04,this,h r (q0J ..),q02,Nat.succ_mul];omega
def lT(E:Nat->Option Bv)(env:yv)(H:z6)(op:Op):Option (Bool×z6):=
 match op with
 | .store t a x=>match E t,EY env a,EY env x with
  |some y,some (.ep id i off n sz),some v=>match Oq v with
   |some vl=>match wT vl with
    |some xs=>match H[id]? with
     |some (.a (.sl sz' rows))=>match setH id (.a (.sl sz' (setRows off xs i rows))) H with
      |some H'=>some (Nat.beq n rows.length&&Nat.blt i n&&Nat.beq y.size xs.length&&Nat.ble (off+xs.length) sz&&Nat.beq sz sz'&&Cs xs,H')
      |none=>none
     |_=>none
    |none=>none
   |none=>none
  |_,_,_=>none
 |_=>none
theorem Z5{G:Gh}:∀{xs:yp}{vs:ya},Bf G (xs.map .d) vs->∀(k:Nat)(x:D),xs[k]? =some x->∃v,vs[k]? =some v/\RD G.m x v
 |[],_,_,k,x,h=>by simp at h
 |d::r,vs,hv,k,x,h=>by
  simp only[List.map_cons,Bf]at hv;obtain⟨v,r',rfl,h1,h2⟩:=hv
  cases k with
  |zero=>simp at h;subst h;exact⟨v,rfl,by simpa only[RV]using h1⟩
  |succ k=>exact Z5 h2 k x (by simpa using h)
theorem Kh:∀{xs:yp},Cs xs=true->∀(k:Nat)(x:D),xs[k]? =some x->x.one=true
 |[],_,k,x,h=>by simp at h
 |d::r,ho,k,x,h=>by
  simp only[Cs,zO]at ho
  cases k with
  |zero=>simp at h;subst h;exact ho.1
  |succ k=>exact Kh ho.2 k x (by simpa using h)
variable {E:Nat->Option Bv}
theorem cQ{P:Program}(hE:Ce P E){S:St}{o:Oper}{c:Bool}{H':z6}(h:lT E S.env S.H o.op=some (c,H'))(hc:c=true):Ez P o S .u H':=by
 subst hc;unfold lT at h;split at h
 .rename_i t a x ho;split at h
  .rename_i y id i off n sz xv hy' ha hx;split at h
   .rename_i vl hvl;split at h
    .rename_i xs hxs;have:=lB hxs;subst this;split at h
     .rename_i sz' rows hl;split at h
      .rename_i q hq;simp only[zf,zu,zO]at h;obtain⟨⟨⟨⟨⟨⟨hn,hi⟩,hsz⟩,hfit⟩,hsz'⟩,hone⟩,rfl⟩:=h;have hn:=zk hn;have hsz:=zk hsz;have hsz':=zk hsz';have hfit:=q0R hfit;rw[q1D]at hi;subst hn;subst hsz';obtain⟨hid,rfl⟩:=Ik hq;have hy:=hE t y hy';intro ro N G act w r;have hl':G.H[id]? =some (.a (.sl sz rows)):=by rw[r.heap];exact hl
       have hva:=BE r.rel.st r.env ha;have hvx:=BE r.rel.st r.env hx;have hvs:=HX hvl hvx;have hvn:(act.eval x).cells.toList.length=xs.length:=by have:=Bf.Mj hvs;simpa using this
       simp only[RV]at hva;obtain⟨_,blk,hb,hp⟩:=hva;rw[hl']at hb;cases hb;obtain⟨_,_,hp⟩:=hp;obtain⟨b,M,hρ,hva⟩:=hp rfl;obtain⟨_,hrows,hB⟩:=r.rel.blk id _ hl';simp only[BM]at hrows;rcases hB with⟨h0,hno⟩|⟨b',M',vs,T,hρ',hw,hM,hcell⟩
       .rw[hρ]at hno;cases hno
       rw[hρ]at hρ';cases hρ';have hfl:=JG hrows;have hi2:i*sz+sz<=rows.length*sz:=by rw[<-Nat.succ_mul];exact q0l sz hi
       have hvl2:rows.flatten.length<=vs.size:=by
        rcases q1F rows.flatten.length with h0|h0
        .omega
        .obtain⟨v,hv,_⟩:=hcell (rows.flatten.length-1) _ (zV (by simp only[slc];omega));have:=(q03.1 hv).1;omega
       have hst:=run_storeCells_at P b (i*sz+off) T (act.eval x).cells.toList 0 vs w hw (by rw[hvn];simp;omega) (fun v hv=>by
        obtain⟨k,hk⟩:=List.getElem?_of_mem hv;have hkl:=(zS.1 hk).1;obtain⟨v',hv',hrd⟩:=Z5 hvs k _ (zV (by omega:k<xs.length));rw[hk]at hv';cases hv'
        exact Z4 (Kh hone k _ (zV om)) hrd)
       simp only[q1R]at hst
       obtain⟨r1,r2⟩:=Mt r.rel (cur:=(vs.toList.take (i*sz+off)++(act.eval x).cells.toList++vs.toList.drop (i*sz+off+(act.eval x).cells.toList.length)).toArray) hl' rfl (q:=.a (.sl sz (setRows off xs i rows))) rfl hρ (by simp[Av,Gh.put,BP,CC,Q6]) (by
        refine⟨rfl,TF hfit hrows,.inr ⟨b,M,_,T,hρ,setRow_heap w b vs _ T _ hw,by rw[hvn];simp at hvn|-;omega,fun j z hz=> ?_⟩⟩;replace hz:(setRows off xs i rows).flatten[j]? =some z:=hz;rw[O6 hfit hrows hi]at hz
        obtain⟨v,hv,hrv⟩:=KC (R:=fun d v=>v.oneCell'=true/\RD G.m d v) (cs:=rows.flatten) (xs:=xs) (vs:=vs.toList) (us:=(act.eval x).cells.toList) (off:=i*sz+off) (by rw[hfl];omega) (by simpa using hvl2) hvn
         (fun k x hx=>by obtain⟨v,h1,h2⟩:=hcell k x hx;exact⟨v,by simpa using h1,h2⟩)
         (fun k x hx=>by
          obtain⟨v,h1,h2⟩:=Z5 hvs k x hx
          exact⟨v,h1,Z4 (Kh hone k x hx) h2,h2⟩) j z hz
        exact⟨v,by simpa using hv,hrv⟩)
       have key:(Instr.storeAt t (act.eval a) (act.eval x)).run P w= .ok () (w.setRow b (vs.toList.take (i*sz+off)++(act.eval x).cells.toList++vs.toList.drop (i*sz+off+(act.eval x).cells.toList.length)).toArray):=by
        rw[hva];simp only[Instr.storeAt,Instr.sureAddr,q07,q09,zl,storeVar,Bm hy];rw[zx (by simp at hvn;omega)];exact hst
       refine⟨.skip,_,_,?_,.inl ⟨rfl,rfl⟩,?_,r1,r2⟩
       .unfold execOp;simp only[ho,q07,key,zl,q09]
       .show G.H.set id _=S.H.set id _;rw[r.heap]
      .cases h
     .cases h
    .cases h
   .cases h
  .cases h
 .cases h
theorem NT{env:yv}{H:z6}{op:Op}{r:Bool×z6}(h:lT E env H op=some r):∀c,op≠ .defer c:=fun c e=>by subst e;cases h
section
variable {P:Program}{ro:yb}{E:Nat->Option Bv}{ops:yd}{i:Nat}{rest:yf}{Q:Exit->St->Prop}{o:Oper}{en:yv}{hp:z6}{nt:Nat}{S0:St}{A:Prop}{acc:List Rc}
theorem Xsc(hE:Ce P E){c:Bool}{H' H'':z6}{e:yv}(hg:Af ops en o=some true)(h:lT E en hp o.op=some (c,H'))(hd:B1 o.dst nt=true)(he:Be o.dst .u en=some e)
  (k:Wl P ro ops (i+1) rest ⟨e,H'',nt⟩ Q) (hc:c=true) (hH:H'=H'':=by first|(simp only[nS];rfl)|rfl):Wl P ro ops i (o::rest) ⟨en,hp,nt⟩ Q:=by
 subst hH;rw[BC he]at k;exact Po hg (cQ (S:=⟨en,hp,nt⟩) hE h hc) (NT h) hd k
end
end Go.Gar
namespace Go.Gar
open Go.ChangeShapes Go.WideShapes Go.ChangeAt Go.RowKit
end Go.Gar
namespace Go.Gar
theorem wc:(∀(α β:Type)(f:α->β)(a b:List α),(a++b).map f=a.map f++b.map f)/\(∀(α β:Type)(f:α->β)(x:α)(a:List α),(x::a).map f=f x::a.map f)/\(∀(α β:Type)(f:α->β),([]:List α).map f=[])/\
  (∀(α:Type)(a b:List α),(a++b).length=a.length+b.length)/\(∀(α:Type)(x:α)(a:List α),(x::a).length=a.length+1)/\(∀(α:Type),([]:List α).length=0)/\(∀(α β:Type)(f:α->β)(a:List α),(a.map f).length=a.length):=
 ⟨fun _ _ _ _ _=>q0f,fun _ _ _ _ _=>rfl,fun _ _ _=>rfl,fun _ _ _=>q04,fun _ _ _=>rfl,fun _=>rfl,fun _ _ _ _=>q08 _⟩
variable {S:St}
theorem A8.cn{S':St}(hn:S'.n=S.n)(he:My S'.env S.env:=by repeat'(first|exact q0r|refine zh (by(first|rfl|((with_reducible_and_instances refine congrArg (fun z=>some (AV.d (D.i _ z))) ?_);omega)|(refine congrArg (fun z=>some (AV.d (D.i _ z))) (?_:(_:Int)=_);omega)|(refine congrArg some ?_;simp only[wc,nC];done)|(refine congrArg some ?_;simp[nC];done))) ?_))(hH:C9 S'.H S.H:=by repeat'(first|exact q0r|refine zh (Or.inr rfl) ?_|refine zh (Or.inl ⟨rfl,rfl⟩) ?_|refine zh (Or.inr (by simp only[wc,nC])) ?_|refine zh (Or.inr (by simp only[wc,nC];rfl)) ?_|refine zh (Or.inr (by simp[nC])) ?_))(ho:Bj S'.H.length S'.H=true:=by first|rfl|(simp(decide:=true) [Bj,AM.ok,AV.oks,AV.ok];done)|(simp(decide:=true) [Bj,AM.ok,AV.oks,AV.ok,hk];done))(heo:Ey S'.H.length S'.env=true:=by rfl):A8 S S':=A8.cut hn he hH ho heo
def Pz:List ResultVar->yv->yv
 |[],_=>[]
 | .tmp t::l,e=>match get e t with
  |some x=>(t,x)::Pz l e
  |none=>Pz l e
 | .cell a _::l,e=>match get e a with
  |some x=>(a,x)::Pz l e
  |none=>Pz l e
variable {id n:Nat}{H1:z6}{v:AV}
theorem pJ{r:Lp}(hv:v= .d (.b true))(t:A8 S ⟨[],H1.set id (.lp r.busy),S.n⟩)(hn:n<=(H1.set id (.lp r.busy)).length:=by first|exact zN _|exact q0R rfl)(h1:(H1.set id (.lp r.busy))[id]? =some (.lp r.busy):=by rfl)(h2:(H1.set id (.lp r.busy)).set id (.lp r)=H1:=by rfl):
  tj id n r (fun x K=>x=v/\K=H1) .normal S:=⟨_,t,hn,h1,hv.symm,h2⟩
theorem rEnd{r:Lp}(hv:v= .d (.b false))(t:A8 S ⟨[],H1.set id (.lp r.busy),S.n⟩)(hn:n<=(H1.set id (.lp r.busy)).length:=by first|exact zN _|exact q0R rfl)(h1:(H1.set id (.lp r.busy))[id]? =some (.lp r.busy):=by rfl)(h2:(H1.set id (.lp r.busy)).set id (.lp (r.left .ret))=H1:=by rfl):
  tj id n r (fun x K=>x=v/\K=H1) .ret S:=⟨_,t,hn,h1,hv.symm,h2⟩
variable {P:Program}{E:Nat->Option Bv}{H':z6}{r:AV}
theorem jG{f:FuncId}{fn:Func}{c:Code}(hE:Ce P E)(hf:P.funcs[f]? =some fn)(hb:fn.body=some c)(hname:(fn.name== "runtime.NumGoroutine")=false){args:yr}{H:z6}(hn:args.length<=fn.ntmps)(h:W P none c ⟨FR 0 args,H,fn.ntmps⟩ (Om fun S0=>∃S',A8 S0 S'/\H.length<=S'.H.length/\∃cc x,DU E S'.env S'.H fn.results.toList=some (cc,x)/\cc=true/\x=r/\C9 H' S'.H))(ho:Bj H'.length H'=true:=by rfl)(hr:r.ok H'.length=true:=by rfl)(hl:Nat.ble H.length H'.length=true:=by rfl):Aw P f args H r H':=by
 have hT:LN P f args H fun x K=>x=r/\C9 H' K:=R8 hE hf hb hname hn h;refine⟨hT.1,fun G w vs h1 h2 h3=>(hT.2 G w vs h1 h2 h3).mono ?_⟩
 rintro e w' ⟨v,x,G',rfl,⟨rfl,hs'⟩,hv,hr',hfr⟩;exact⟨v,x,G'.cut H',rfl,⟨rfl,rfl⟩,hv.cut hs' hr,hr'.cut hs' ho,hfr.ghost (Yz.cut hs') (by rw[h1];exact q0R hl)⟩
variable {rs:List ResultVar}
theorem Bh(hs:C9 H' S.H:=by repeat'(first|exact q0r|refine zh (Or.inr rfl) ?_|refine zh (Or.inl ⟨rfl,rfl⟩) ?_|refine zh (Or.inr sm) ?_))(hl:n<=S.H.length:=by first|exact q0R rfl|exact zN _)(he:DU E S.env S.H rs=some (true,r):=by rfl):
  ∃S',A8 S S'/\n<=S'.H.length/\∃cc x,DU E S'.env S'.H rs=some (cc,x)/\cc=true/\x=r/\C9 H' S'.H:=⟨S,A8.refl S,hl,_,_,he,rfl,rfl,hs⟩
theorem xO(hs:C9 H' S.H:=by repeat'(first|exact q0r|refine zh (Or.inr rfl) ?_|refine zh (Or.inl ⟨rfl,rfl⟩) ?_|refine zh (Or.inr (by simp only[wc,nC])) ?_|refine zh (Or.inr (by simp only[wc,nC];rfl)) ?_|refine zh (Or.inr (by simp[nC])) ?_))(hl:n<=S.H.length:=by first|exact q0R rfl|exact zN _)(he:DU E S.env S.H rs=some (true,r):=by rfl):
  ∃S',A8 S S'/\n<=S'.H.length/\∃cc x,DU E S'.env S'.H rs=some (cc,x)/\cc=true/\x=r/\C9 H' S'.H:=⟨S,A8.refl S,hl,_,_,he,rfl,rfl,hs⟩
variable {ro:yb}{Q:Exit->St->Prop}
theorem Uh{ops:yd}(i k a b:Nat){S1:St}(hm:P.follows .mixedOrders=true)(hik:(Nat.blt i k&&Nat.blt k ops.toList.length&&Qa ops)=true)(ho:Bj S.H.length S.H=true)(h1:Wd P ro E (Yl i k ops) S (RH P ro (Yl i k ops) S (Qw (Qb a b S1))) [] (Yl i k ops).toList S)(h2:Wd P ro E (Ym i k ops) S (RH P ro (Ym i k ops) S (Qw (Qb a b S1))) [] (Ym i k ops).toList S)(hab:(Nat.ble S.H.length a&&Nat.ble S.H.length b&&Nat.blt a S1.H.length&&Nat.blt b S1.H.length)=true)(hQ:Q .normal S1):W P ro (.region id ops true) S Q:=
 Hn E i k a b S1 hm hik ho hab h1 h2 hQ
theorem gEnd{l:Nat}{r:Lp}(hv:v= .d (.b false))(t:A8 S ⟨[],H1.set id (.lp r.busy),S.n⟩)(hn:n<=(H1.set id (.lp r.busy)).length:=by first|exact zN _|exact q0R rfl)(h1:(H1.set id (.lp r.busy))[id]? =some (.lp r.busy):=by rfl)(h2:(H1.set id (.lp r.busy)).set id (.lp (r.left (.goto l)))=H1:=by rfl):
  tj id n r (fun x K=>x=v/\K=H1) (.goto l) S:=⟨_,t,hn,h1,hv.symm,h2⟩
section
variable {P:Program}{E:Nat->Option Bv}{f:FuncId}{fn:Func}{c:Code}
theorem zF(hE:Ce P E)(hf:P.funcs[f]? =some fn){ds:yp}{r:D}(h:W P none c ⟨FR 0 (ds.map .d),[],fn.ntmps⟩ (Om fun S'=>∃cc x,DU E S'.env S'.H fn.results.toList=some (cc,x)/\cc=true/\Cw S'.H x r))
  (hb:fn.body=some c:=by rfl) (hname:(fn.name== "runtime.NumGoroutine")=false:=by rfl) (hn:ds.length<=fn.ntmps:=by exact q0R rfl):Fn P f ds r:=pW hE hf hb hname hn h
variable {args:yr}{H:z6}{R:AV->z6->Prop}
theorem zT(hE:Ce P E)(hf:P.funcs[f]? =some fn)(h:W P none c ⟨FR 0 args,H,fn.ntmps⟩ (Om fun S0=>∃S',A8 S0 S'/\H.length<=S'.H.length/\∃cc x,DU E S'.env S'.H fn.results.toList=some (cc,x)/\cc=true/\R x S'.H))(hb:fn.body=some c:=by rfl)(hname:(fn.name== "runtime.NumGoroutine")=false:=by rfl)(hn:args.length<=fn.ntmps:=by exact q0R rfl):LN P f args H R:=R8 hE hf hb hname hn h
variable {H':z6}
theorem zD(hE:Ce P E)(hf:P.funcs[f]? =some fn){r:AV}(h:W P none c ⟨FR 0 args,H,fn.ntmps⟩ (Om fun S0=>∃S',A8 S0 S'/\H.length<=S'.H.length/\∃cc x,DU E S'.env S'.H fn.results.toList=some (cc,x)/\cc=true/\x=r/\S'.H=H'))(hb:fn.body=some c:=by rfl)(hname:(fn.name== "runtime.NumGoroutine")=false:=by rfl)(hn:args.length<=fn.ntmps:=by exact q0R rfl):Aw P f args H r H':=jI hE hf hb hname hn h
theorem zC(hE:Ce P E)(hf:P.funcs[f]? =some fn){r:AV}(h:W P none c ⟨FR 0 args,H,fn.ntmps⟩ (Om fun S0=>∃S',A8 S0 S'/\H.length<=S'.H.length/\∃cc x,DU E S'.env S'.H fn.results.toList=some (cc,x)/\cc=true/\x=r/\C9 H' S'.H))(hb:fn.body=some c:=by rfl)(hname:(fn.name== "runtime.NumGoroutine")=false:=by rfl)(hn:args.length<=fn.ntmps:=by exact q0R rfl)(ho:Bj H'.length H'=true:=by rfl)(hr:r.ok H'.length=true:=by rfl)(hl:Nat.ble H.length H'.length=true:=by rfl):Aw P f args H r H':=jG hE hf hb hname hn h ho hr hl
theorem zX(hE:Ce P E)(hf:P.funcs[f]? =some fn){ch:yn}(h:W P none c ⟨FR 0 args,H,fn.ntmps⟩ (td ch fun S0=>∃S',A8 S0 S'/\H.length<=S'.H.length/\S'.H=H'))(hb:fn.body=some c:=by rfl)(hname:(fn.name== "runtime.NumGoroutine")=false:=by rfl)(hn:args.length<=fn.ntmps:=by exact q0R rfl):MZ P f args H ch H':=jK hE hf hb hname hn h
theorem zR{id n:Nat}{r:Lp}{body:Code}{en:yv}{hp hp':z6}{nt:Nat}(k:W P (some id) body ⟨en,hp',nt⟩ (tj id n r R))(h1:hp[id]? =some (.lp r):=by rfl)(h2:hp.set id (.lp r.busy)=hp':=by first|(simp only[N6,KL,Nat.reduceAdd,Int.reduceAdd,Int.reduceSub,Int.reduceMul,Int.reduceToNat];done)|(simp only[N6,KL,Nat.reduceAdd,Int.reduceAdd,Int.reduceSub,Int.reduceMul,Int.reduceToNat];rfl)|rfl):QAs P id n r body R .normal ⟨en,hp,nt⟩:=by
 subst h2;exact⟨h1,k⟩
variable {rs:List ResultVar}
theorem BW{S:St}{r:D}{cc:Bool}{x:AV}{p:Prop}(n:p)(he:DU E S.env S.H rs=some (cc,x):=by rfl)(hc:cc=true:=by rfl)(hf:p->Cw S.H x r:=by intro nE;simp[LL,BP,Bl,BM,nE]):∃cc x,DU E S.env S.H rs=some (cc,x)/\cc=true/\Cw S.H x r:=⟨cc,x,he,hc,hf n⟩
theorem zE{S:St}{r:D}{cc:Bool}{x:AV}(he:DU E S.env S.H rs=some (cc,x):=by rfl)(hc:cc=true:=by rfl)(hf:Cw S.H x r:=by simp[LL,BP,Bl,BM]):∃cc x,DU E S.env S.H rs=some (cc,x)/\cc=true/\Cw S.H x r:=⟨cc,x,he,hc,hf⟩
end
theorem zG{g:Operand}{ps:Array Tmp}{asg body:Code}{f:FuncId}{first cap xs:yr}{L:Nat}{F:Lp->z6}{en:yv}{hp:z6}{nt:Nat}(K:Lp->AV->z6->Prop)(seq:∀r,r.is nt en ps asg body->LN P f xs (F r) (K r))(k:∀r,r.is nt en ps asg body->∀x H',K r x H'->
   (H'[L]? =some (.lp r)/\Q .normal ⟨en,H'.set L (.lp r.out),nt⟩)\/
   ∃c,H'[L]? =some (.lp (r.left c))/\W P ro c ⟨en,H'.set L (.lp (r.left c).out),nt⟩ Q) (hg:EY en g=some (.fn (.func f) first cap):=by exact rfl) (hL:hp.length=L:=by first|(simp only[N6,KL,Nat.reduceAdd,Int.reduceAdd,Int.reduceSub,Int.reduceMul,Int.reduceToNat];done)|(simp only[N6,KL,Nat.reduceAdd,Int.reduceAdd,Int.reduceSub,Int.reduceMul,Int.reduceToNat];rfl)|rfl) (hxs:first++[.yl L]++cap=xs:=by first|(simp only[N6,KL,Nat.reduceAdd,Int.reduceAdd,Int.reduceSub,Int.reduceMul,Int.reduceToNat];done)|(simp only[N6,KL,Nat.reduceAdd,Int.reduceAdd,Int.reduceSub,Int.reduceMul,Int.reduceToNat];rfl)|rfl) (hF:∀r,hp++[.lp r]=F r:=by intro r;first|(simp only[N6,KL,Nat.reduceAdd,Int.reduceAdd,Int.reduceSub,Int.reduceMul,Int.reduceToNat];done)|(simp only[N6,KL,Nat.reduceAdd,Int.reduceAdd,Int.reduceSub,Int.reduceMul,Int.reduceToNat];rfl)|rfl):W P ro (.rangeFunc g ps asg body) ⟨en,hp,nt⟩ Q:=
 jf K hg hL hxs hF seq k
theorem CT0:(∀(α:Type)(a b c:List α),(a++b)++c=a++(b++c))/\(∀(α:Type)(a:List α),a++[]=a)/\(∀(α:Type)(a:List α),[]++a=a)/\(∀(α:Type)(x:α)(a b:List α),(x::a)++b=x::(a++b))/\(∀(α:Type)(a:List α),a.take 0=[])/\(∀(α:Type)(p:α->Bool),([]:List α).any p=false)/\
  (∀(α:Type)(p:α->Bool),([]:List α).filter p=[])/\(∀(α β:Type)(f:β->α->β)(x:β),([]:List α).foldl f x=x)/\(∀(α:Type)(a b:α),(if True then a else b)=a)/\(∀(α:Type)(a b:α),(if False then a else b)=b)/\(∀b:Bool,(true||b)=true)/\(∀b:Bool,(false||b)=b):=by
 simp
theorem A8.co{S':St}(hn:S'.n=S.n)(he:My S'.env S.env:=by repeat'(first|exact q0r|refine zh (by(first|rfl|((with_reducible_and_instances refine congrArg (fun z=>some (AV.d (D.i _ z))) ?_);omega)|(refine congrArg (fun z=>some (AV.d (D.i _ z))) (?_:(_:Int)=_);omega)|(refine congrArg some ?_;simp only[CT0,nC,Int.reduceEq,q0X,q0U,Nat.add_sub_cancel,Nat.succ_ne_zero];done)|(refine congrArg some ?_;simp[nC];done))) ?_))(hH:C9 S'.H S.H:=by repeat'(first|exact q0r|refine zh (Or.inr rfl) ?_|refine zh (Or.inl ⟨rfl,rfl⟩) ?_|refine zh (Or.inr (by simp only[CT0,nC,Int.reduceEq,q0X,q0U,Nat.add_sub_cancel,Nat.succ_ne_zero])) ?_|refine zh (Or.inr (by simp only[CT0,nC,Int.reduceEq,q0X,q0U,Nat.add_sub_cancel,Nat.succ_ne_zero];rfl)) ?_|refine zh (Or.inr (by simp[nC])) ?_))(ho:Bj S'.H.length S'.H=true:=by first|rfl|(simp(decide:=true) [Bj,AM.ok,AV.oks,AV.ok];done)|(simp(decide:=true) [Bj,AM.ok,AV.oks,AV.ok,hk];done))(heo:Ey S'.H.length S'.env=true:=by rfl):A8 S S':=A8.cut hn he hH ho heo
theorem zB{p q A B:Prop}(t:p->A)(f:q->B):Br p q A B:=⟨t,f⟩
theorem wE{x:AV}{c:Bool}(t:A8 S ⟨Pz rs S.env,H',S.n⟩:=by exact A8.ck rfl)(hl:n<=H'.length:=by first|exact q0R rfl|exact zN _|exact zi _|exact Nat.le_add_right _ _)(he:DU E (Pz rs S.env) H' rs=some (c,x):=by rfl)(hc:c=true:=by rfl)(hx:x=r:=by first|rfl|(refine congrArg (fun z=>AV.d (D.i _ z)) ?_;omega)|(simp;done)):∃S',A8 S S'/\n<=S'.H.length/\∃cc x,DU E S'.env S'.H rs=some (cc,x)/\cc=true/\x=r/\S'.H=H':=⟨_,t,hl,_,_,he,hc,hx,rfl⟩
theorem QO(id i:Nat)(q:D){x:AV}{c:Bool}{cs:yr}(hid:S.H[id]? =some (.c cs):=by rfl)(h:cs[i]? =some .e0:=by rfl)(hs:Bl q=true:=by rfl)(hq:BP q=0:=by rfl)(ho:BM q:=by first|trivial|simp[BM])(t:A8 ⟨S.env,S.H.set id (.c (cs.set i (.d q))),S.n⟩ ⟨Pz rs S.env,H',S.n⟩:=by exact A8.ck rfl)(hL:H'.length<=(S.H.set id (.c (cs.set i (.d q)))).length:=by first|exact q0R rfl|exact zN _)(hl:n<=H'.length:=by first|exact q0R rfl|exact zN _|exact zi _)(he:DU E (Pz rs S.env) H' rs=some (c,x):=by rfl)(hc:c=true:=by rfl)(hx:x=r:=by rfl):∃S',A8 S S'/\n<=S'.H.length/\∃cc x,DU E S'.env S'.H rs=some (cc,x)/\cc=true/\x=r/\S'.H=H':=⟨_,(A8.Ux id i q hid h hs hq ho).trans' t hL,hl,_,_,he,hc,hx,rfl⟩
end Go.Gar
namespace Go.Gar
def Gh.Oh(G:Gh)(id b N:Nat)(l:AL):Gh:={ρ:=fun j=>if j=G.H.length then some (b,N)else G.ρ j,H:=G.H.set id .gone++[.Oh b N l],m:=G.m}
theorem Rel.Tk{ro:yb}{N:NB}{S:St}{G G':Gh}{a:Act}{w:World}(r:Rel ro N S G a w){env:yv}(hr:BK G' w)(t:Yz G G')(he:Hl G' env a.tmps)(hro:∀id q,G.H[id]? =some (.lp q)->G'.H[id]? =some (.lp q)/\G'.ρ id=G.ρ id):Rel ro N ⟨env,G'.H,S.n⟩ G' a w:=
 ⟨rfl,hr,r.size,he,r.marks.Tk t,fun id hid=>by
  obtain⟨q,l,M,q1,q2⟩:=r.round id hid;rw[<-r.heap]at q1;obtain⟨h1,h2⟩:=hro id q q1
  exact⟨q,l,M,h1,h2.trans q2⟩⟩
end Go.Gar
namespace Go.Gar
abbrev Rows:=List (Option (Nat×Nat×AL))
def wx(u:Value)(l:AL)(r:Option (Nat×Nat×AL)):Prop:=
 (∃b N,u= .slice (some ⟨b,0,none⟩) l.length N/\r=some (b,N,l)/\l.length<=N/\N<=maxLen)\/(l=[]/\r=none/\∃a,u= .slice a 0 0)
theorem wx.one{u:Value}{l:AL}{r:Option (Nat×Nat×AL)}(h:wx u l r):u.oneCell'=true:=by
 rcases h with⟨b,N,rfl,_⟩|⟨_,_,a,rfl⟩<;>rfl
end Go.Gar
namespace Go.Gar
section
variable {P:Program}{ro:yb}{ops:yd}{S0 S S':St}{Q:Exit->St->Prop}{E:Nat->Option Bv}{s s':Nat->St}{r r':Nat->Rc}
variable {N:NB}{p:Nat}{listed:yo}{G:Gh}{a:Act}{w:World}
theorem FP.to(st:FP ro ops S0 s r N listed p G a w)(pl:Plan P ro E ops S0 S s r)(pl':Plan P ro E ops S0 S' s' r'){c:Nat}(hc:c<ops.size)(hr:∀j,j<c->r' j=r j)(hh:(r' c).h=(r c).h)(hk:(r c).k.Py=true)
  (hunl:listed[c]?≠some true) (hdesc:∀j,c<j->j<ops.size->(Tt ops j).testBit c=true):FP ro ops S0 s' r' N listed p G a w:=by
 have low:∀j,listed[j]? =some true->j<c:=by
  intro j hl;have hj:j<ops.size:=by rw[<-st.size];exact(q03.1 hl).1
  rcases Nat.lt_trichotomy j c with h|h|h
  .exact h
  .subst h;exact absurd hl hunl
  .exact absurd (st.up pl (o:=ops[j]) (by simp[hj]) (st.closed j _ (by simp[hj]) hl) (hdesc j h hj)) hunl
 have hpc:p<=c:=by
  rcases q0C c p with h|h
  .exact absurd ((st.eff c hc hk).2 h) hunl
  .exact h
 have hH:(s' p).H=(s p).H:=by
  rw[<-pl'.h p om,<-pl.h p om];rcases Nat.eq_or_lt_of_le hpc with h|h
  .rw[h,hh]
  .rw[hr p h]
 refine⟨st.size,st.closed,st.le,fun k hk1 hk2=> ?_,fun k ch hkc hl=> ?_,?_,fun j o t ho hd hl=> ?_,st.env0⟩
 .rcases q0C k c with h|h
  .exact st.eff k hk1 (by rw[<-hr k h];exact hk2)
  .constructor
   .intro hl;have:=low k hl;omega
   .intro h2;omega
 .exact st.nopan k ch (by rw[<-hr k (low k hl)];exact hkc) hl
 .rw[hH];exact st.rel
 .rw[hr j (low j hl)];exact st.env1 j o t ho hd hl
variable {acc:List Rc}{rest:yf}{o:Oper}{en:yv}{hp:z6}{nt:Nat}{A0:Prop}
end
end Go.Gar
namespace Go.Gar
section
variable {P:Program}{ro:yb}{ops:yd}{S0:St}{E:Nat->Option Bv}{A0:Prop}
variable {acc:List Rc}{rest:yf}{o:Oper}{en:yv}{hp:z6}{nt:Nat}
theorem Ysc(hE:Ce P E){c:Bool}{H' H'':z6}{e0 e:yv}(hl:F5 (looks ops o) en=some e0)(hg:Af ops e0 o=some true)(h:lT E e0 hp o.op=some (c,H'))(hd:B1 o.dst nt=true)(he:Be o.dst .u en=some e)
  (hk:Wd P ro E ops S0 A0 (⟨e0,hp,.u,.eff⟩::acc) rest ⟨e,H'',nt⟩) (hc:c=true) (hH:H'=H'':=by first|(simp only[nS];rfl)|rfl):Wd P ro E ops S0 A0 acc (o::rest) ⟨en,hp,nt⟩:=by
 subst hH;have:=Cy hl;subst this;rw[BC he]at hk;exact KM (S:=⟨en,hp,nt⟩) (x:=.u) (k:=.eff) (H':=H') ⟨hd,hg,Ez.step (S:=⟨FH (looks ops o) en,hp,nt⟩) (cQ (S:=⟨FH (looks ops o) en,hp,nt⟩) hE h hc) (NT h)⟩ hk
end
end Go.Gar
namespace Go.Gar
structure Redo (w:World) (b:Nat) (w':World) (nb:Nat) (cur:yi) (T:TypeId):Prop where
 os:w'.os=w.os
 tape:w'.tape=w.tape
 output:w'.output=w.output
 size:w.heap.size<=w'.heap.size
 new:w'.heap[nb]? =some (.cells cur T (0,0))
 at_:nb=b\/w.heap.size<=nb
 oth:∀c,c<w.heap.size->c≠b->w'.heap[c]? =w.heap[c]?
theorem WQ{P:Program}{f:FuncId}(hcal:Gi P f){args:yr}{R pl:z6}{sz:Nat}{es ys:List (yp)}(hpl:pl=[]\/(pl=[.a (.sl sz [])]/\0<ys.length))(hsz:∀e∈ys,e.length=sz)(h0:0<es.length)
  (hrun:∀G w vs us b cap ws T,BK G w->G.H= .a (.sl sz es)::(R++pl)->Bf G args us->vs=(.slice (some ⟨b,0,none⟩) es.length cap::us).toArray->G.ρ 0=some (b,cap*sz)->w.heap[b]? =some (.cells ws T (0,0))->ws.size=cap*sz->es.length<=cap->cap<=maxLen->
   (∀(k:Nat)(d:D),es.flatten[k]? =some d->∃v,ws[k]? =some v/\v.oneCell'=true/\RD G.m d v)->
   Calls P f vs w fun e w'=>∃nb cap' cur T',e= .returned (.slice (some ⟨nb,0,none⟩) ys.length cap')/\Redo w b w' nb cur T'/\cur.size=cap'*sz/\ys.length<=cap'/\cap'<=maxLen/\
    ∀(k:Nat)(d:D),ys.flatten[k]? =some d->∃v,cur[k]? =some v/\v.oneCell'=true/\RD G.m d v):
  Aw P f (.sl 0 es.length sz::args) (.a (.sl sz es)::(R++pl)) (.sl (R.length+1) ys.length sz) (.gone::(R++[.a (.sl sz ys)])):=by
 refine⟨hcal,fun G w vs hG hR hv=> ?_⟩;rw[callsIn_wide];obtain⟨v,us,hvs,hv1,hus⟩:=hv;simp only[RV]at hv1;obtain⟨_,blk,hb,hp⟩:=hv1;have hb0:G.H[0]? =some (.a (.sl sz es)):=by rw[hG];rfl
 rw[hb0]at hb;cases hb;obtain⟨_,_,hp⟩:=hp;rcases hp rfl with⟨h00,_⟩|⟨b,N,cap,hρ,rfl,hnc,hcm,rfl⟩
 .omega
 obtain⟨_,_,hB⟩:=hR.blk 0 _ hb0;rcases hB with⟨_,hno⟩|⟨b',N',ws,T,hρ',hw,hM,hcell⟩
 .rw[hρ]at hno;cases hno
 rw[hρ]at hρ';cases hρ';have hownb:Own G b:=.inl ⟨0,_,_,hb0,rfl,hρ⟩;refine(hrun G w vs us b cap ws T hR hG hus (by rw[<-hvs]) hρ hw hM hnc hcm hcell).mono ?_;rintro e w' ⟨nb,cap',cur,T',rfl,k,hcs,hyl,hcl,hcur⟩;let K:Gh:={ρ:=fun id=>if id=R.length+1 then some (nb,cur.size)else G.ρ id,H:=.gone::(R++[.a (.sl sz ys)]),m:=G.m};have hlen:G.H.length=R.length+1+pl.length:=by rw[hG];simp only[q02,q04];omega
 have low':∀{j:Nat},j<R.length->G.H[j+1]? =R[j]?:=fun{j} hj=>by rw[hG];show(R++pl)[j]? =_;rw[zy hj]
 have hKρ:∀{j},j<R.length+1->K.ρ j=G.ρ j:=fun{j} hj=>zx om;have hKn:K.ρ (R.length+1)=some (nb,cur.size):=zn rfl
 have get:∀{j:Nat}{q:AM},K.H[j]? =some q->(j=0/\q= .gone)\/(j=R.length+1/\q= .a (.sl sz ys))\/(0<j/\j<R.length+1/\G.H[j]? =some q):=by
  intro j q h
  cases j with
  |zero=>cases h;exact .inl ⟨rfl,rfl⟩
  |succ j=>
   replace h:(R++[.a (.sl sz ys)])[j]? =some q:=h;rcases q0C j R.length with hj|hj
   .rw[zy hj]at h;exact .inr (.inr ⟨Nat.succ_pos j,om,by rw[low' hj];exact h⟩)
   .rw[q05 hj]at h
    have:j-R.length=0:=by
     have:=(zS.1 h).1;simp at this;omega
    rw[this]at h;cases h;exact .inr (.inl ⟨om,rfl⟩)
 have ne:∀{j:Nat}{q:AM}{c M:Nat},0<j->G.H[j]? =some q->q.live=true->G.ρ j=some (c,M)->c≠b:=fun h1 h2 h3 h4 e=>by
  subst e;have:=hR.inj _ 0 _ _ _ _ _ h2 hb0 h3 rfl h4 hρ;omega
 have neS:∀{c:Nat},ta G c->c≠b:=fun⟨j,rs,h1,h2⟩ e=>by
  subst e;exact((hR.mny j rs h1).2 _ h2).1 ⟨0,_,_,hb0,rfl,hρ⟩
 have hgle:IJ G K:=by
  refine⟨fun j p hp=> ?_,Mem.le_refl _⟩
  cases j with
  |zero=>
   rw[hb0]at hp;cases hp;exact⟨.gone,rfl,trivial⟩
  |succ j=>
   rcases q0C j R.length with hj|hj
   .refine⟨p,?_,?_⟩
    .show(R++[.a (.sl sz ys)])[j]? =some p;rw[zy hj,<-low' hj];exact hp
    .have:=hKρ (show j+1<R.length+1 by omega);cases p<;>simp_all[Av]
   .have hjl:=(zS.1 hp).1;rcases hpl with e|⟨e,hy⟩
    .rw[e]at hlen;simp only[q0B]at hlen;omega
    .rw[e]at hlen;simp only[q02,q0B]at hlen;obtain rfl:j=R.length:=om
     rw[hG]at hp;replace hp:(R++pl)[R.length]? =some p:=hp;rw[q05 (zN _),Nat.sub_self,e]at hp;cases hp;refine⟨.a (.sl sz ys),?_,rfl,zi _,fun e0=> ?_⟩
     .show(R++[.a (.sl sz ys)])[R.length]? =_;rw[q05 (zN _),Nat.sub_self];rfl
     .replace e0:0=ys.length:=e0;omega
 have hS:∀(j:Nat)(rs:List (Option (Nat×Nat×AL))),K.H[j]? =some (.many rs)->G.H[j]? =some (.many rs):=fun j rs h=>by
  rcases get h with⟨_,e⟩|⟨_,e⟩|⟨_,_,h⟩
  .cases e
  .cases e
  .exact h
 have hP:∀c,Dw K c->Dw G c\/w.heap.size<=c:=by
  rintro c ⟨j,M,q,hq,lq,hc⟩;rcases get hq with⟨rfl,rfl⟩|⟨rfl,rfl⟩|⟨h1,h2,h⟩
  .simp[AM.live]at lq
  .rw[hKn]at hc;cases hc;rcases k.at_ with e|e
   .subst e;exact .inl ⟨0,_,_,hb0,rfl,hρ⟩
   .exact .inr e
  .rw[hKρ h2]at hc;exact .inl ⟨j,M,q,h,lq,hc⟩
 have own:∀c,Own K c->Own G c\/w.heap.size<=c:=by
  rintro c (h|⟨j,rs,hq,hc⟩)
  .exact(hP c h).imp .inl id
  .exact .inl (.inr ⟨j,rs,hS j rs hq,hc⟩)
 have low:∀{c o v},G.m c o=some v->c<w.heap.size:=fun{c o v} hv=>by
  have hc:=hR.mem c o v hv;unfold World.cell? at hc;rcases q0C c w.heap.size with hlt|hge
  .exact hlt
  .simp[Array.getElem?_eq_none hge]at hc
 refine⟨_,.sl (R.length+1) ys.length sz,K,rfl,⟨rfl,rfl⟩,?_,⟨fun j q hq=> ?_,fun i j p q c M1 M2 hp hq lp lq r1 r2=> ?_,fun c o v hv=> ?_,fun c hc o=> ?_,hR.st,hR.mny.of (fun c hc=>Bt hR (.inr hc)) hS hP⟩,⟨k.os,k.tape,k.output,k.size,fun c hc hno=>⟨k.oth c hc (fun e=>hno (e▸hownb)),fun h=> ?_⟩,fun _ _ _ hv=> .inl hv,hgle⟩⟩
 .simp only[RV];refine⟨rfl,.a (.sl sz ys),?_,rfl,zN _,fun _=> .inr ⟨nb,cur.size,cap',hKn,rfl,hyl,hcl,hcs⟩⟩;show(R++[.a (.sl sz ys)])[R.length]? =_;rw[q05 (zN _),Nat.sub_self];rfl
 .rcases get hq with⟨rfl,rfl⟩|⟨rfl,rfl⟩|⟨h1,h2,h⟩
  .trivial
  .exact⟨rfl,hsz,.inr ⟨nb,cur.size,cur,T',hKn,k.new,rfl,hcur⟩⟩
  .exact(hR.blk j q h).P4 hgle (fun c M lp hr=>k.oth c (Bt hR (.inl ⟨j,M,q,h,lp,hr⟩)) (ne h1 h lp hr)) (hKρ h2) (fun rs e c hc=>k.oth c (Bt hR (.inr ⟨j,rs,by rw[<-e];exact h,hc⟩)) (neS ⟨j,rs,by rw[<-e];exact h,hc⟩))
 .have far:∀{j:Nat}{q:AM}{c M:Nat},0<j->j<R.length+1->G.H[j]? =some q->q.live=true->G.ρ j=some (c,M)->c≠nb:=fun h1 h2 h3 h4 h5 e=>by
   subst e;rcases k.at_ with e|e
   .exact ne h1 h3 h4 h5 e
   .have:=Bt hR (.inl ⟨_,_,_,h3,h4,h5⟩);omega
  rcases get hp with⟨rfl,rfl⟩|⟨rfl,rfl⟩|⟨h1,h2,h⟩
  .simp[AM.live]at lp
  .rw[hKn]at r1;cases r1;rcases get hq with⟨rfl,rfl⟩|⟨rfl,rfl⟩|⟨g1,g2,g⟩
   .simp[AM.live]at lq
   .rfl
   .rw[hKρ g2]at r2;exact absurd rfl (far g1 g2 g lq r2)
  .rw[hKρ h2]at r1;rcases get hq with⟨rfl,rfl⟩|⟨rfl,rfl⟩|⟨g1,g2,g⟩
   .simp[AM.live]at lq
   .rw[hKn]at r2;cases r2;exact absurd rfl (far h1 h2 h lp r1)
   .rw[hKρ g2]at r2;exact hR.inj i j p q c M1 M2 h g lp lq r1 r2
 .have hno:¬Own G c:=fun h=>by rw[hR.sep c h o]at hv;cases hv
  rw[World.cell?_of_block (w:=w) (k.oth c (low hv) (fun e=>hno (e▸hownb)))];exact hR.mem c o v hv
 .show G.m c o=none;rcases own c hc with h|h
  .exact hR.sep c h o
  .cases hv:G.m c o with
   |none=>rfl
   |some v=>have:=low hv;omega
 .rcases own c h with h|h
  .exact hno h
  .omega
theorem A8.aNew{S:St}(sz:Nat):A8 S ⟨S.env,S.H++[.a (.sl sz [])],S.n⟩:=by
 intro ro M G a w r _;let K:Gh:={ρ:=fun j=>if j=G.H.length then none else G.ρ j,H:=G.H++[.a (.sl sz [])],m:=G.m};have hKn:K.ρ G.H.length=none:=zn rfl;have hKρ:∀{j},j<G.H.length->K.ρ j=G.ρ j:=fun{j} hj=>zx om
 have get:∀{j:Nat}{q:AM},K.H[j]? =some q->(j<G.H.length/\G.H[j]? =some q)\/(j=G.H.length/\q= .a (.sl sz [])):=by
  intro j q h;have h:(G.H++[.a (.sl sz [])])[j]? =some q:=h;rcases q0C j G.H.length with hj|hj
  .rw[zy hj]at h;exact .inl ⟨hj,h⟩
  .rw[q05 hj]at h;have:j-G.H.length=0:=by have:=(zS.1 h).1;simp at this;omega
   rw[this]at h;simp at h;exact .inr ⟨om,h.symm⟩
 have up:∀{j:Nat}{q:AM},G.H[j]? =some q->K.H[j]? =some q/\K.ρ j=G.ρ j:=fun{j q} h=>by
  have hj:=(zS.1 h).1;refine⟨?_,hKρ hj⟩;show(G.H++[.a (.sl sz [])])[j]? =_;rw[zy hj];exact h
 have hs:∀{j:Nat}{q:AM},G.H[j]? =some q->Av G K j q q:=fun{j q} h=>by
  have:=(up h).2;cases q<;>simp_all[Av]
 have hg:IJ G K:=⟨fun j x hx=>⟨x,(up hx).1,hs hx⟩,Mem.le_refl _⟩
 have hP:∀c,Dw K c->Dw G c:=by
  rintro c ⟨j,N,q,hq,lq,hc⟩;rcases get hq with⟨hj,h⟩|⟨rfl,rfl⟩
  .rw[hKρ hj]at hc;exact⟨j,N,q,h,lq,hc⟩
  .rw[hKn]at hc;cases hc
 have hS:∀(j:Nat)(rs:List (Option (Nat×Nat×AL))),K.H[j]? =some (.many rs)->G.H[j]? =some (.many rs):=fun j rs h=>by
  rcases get h with⟨_,h⟩|⟨_,e⟩
  .exact h
  .cases e
 have own:∀c,Own K c->Own G c:=J2 hS hP
 have rel:BK K w:=by
  refine⟨fun j q hq=> ?_,fun i j p q c N N' hp hq lp lq r1 r2=> ?_,r.rel.mem,fun c hc=>r.rel.sep c (own c hc),r.rel.st,r.rel.mny.of (fun b hb=>Bt r.rel (.inr hb)) hS (fun c hc=> .inl (hP c hc))⟩
  .rcases get hq with⟨hj,h⟩|⟨rfl,rfl⟩
   .exact(r.rel.blk j q h).P4 hg (fun _ _ _ _=>rfl) (hKρ hj)
   .exact⟨rfl,fun e he=>(by cases he),.inl ⟨rfl,hKn⟩⟩
  .rcases get hp with⟨h1,h2⟩|⟨rfl,rfl⟩
   .rcases get hq with⟨g1,g2⟩|⟨rfl,rfl⟩
    .rw[hKρ h1]at r1;rw[hKρ g1]at r2;exact r.rel.inj i j p q c N N' h2 g2 lp lq r1 r2
    .rw[hKn]at r2;cases r2
   .rw[hKn]at r1;cases r1
 have Tk:Yz G K:=⟨fun j x y hx hy=>by rw[(up hx).1]at hy;cases hy;exact hs hx,Mem.le_refl _,own,fun _ _ _ h=> .inl h⟩;have:=r.Tk (env:=S.env) rel Tk (r.env.mono hg) (fun j q hj=>up hj);have e:K.H=S.H++[.a (.sl sz [])]:=by show G.H++_=_;rw[r.heap]
 rw[e]at this;exact⟨K,this,Tk⟩
structure Cb (w0:World) (b:Nat) (w:World) (ws:yi) (T:TypeId):Prop where
 os:w.os=w0.os
 tape:w.tape=w0.tape
 output:w.output=w0.output
 size:w.heap.size=w0.heap.size
 at_:w.heap[b]? =some (.cells ws T (0,0))
 oth:∀c,c≠b->w.heap[c]? =w0.heap[c]?
variable {w:World}{b:Nat}{ws:yi}{T:TypeId}
theorem Cb.refl(h:w.heap[b]? =some (.cells ws T (0,0))):Cb w b w ws T:=⟨rfl,rfl,rfl,rfl,h,fun _ _=>rfl⟩
variable {w0:World}
theorem Cb.drew(h:Cb w0 b w ws T):Cb w0 b w.drew ws T:=⟨h.os,h.tape,h.output,h.size,h.at_,h.oth⟩
theorem Cb.cell(h:Cb w0 b w ws T)(k:Nat):w.cell? ⟨b,k,none⟩=ws[k]?:=by
 unfold World.cell?;simp only[h.at_,Option.isSome_none,q0E,q0U]
theorem Cb.frozen(h:Cb w0 b w ws T)(k:Nat):w.frozen? ⟨b,k,none⟩=false:=by
 unfold World.frozen?;simp[h.at_]
theorem Cb.set:∀(l:ya)(o:Nat){w:World}{ws:yi},Cb w0 b w ws T->o+l.length<=ws.size->
  ∃us:yi,Cb w0 b (w.setCells b o l) us T/\us.size=ws.size/\∀k,us[k]? =if o<=k/\k<o+l.length then l[k-o]? else ws[k]?
 |[],o,w,ws,h,_=>⟨ws,h,rfl,fun k=>by rw[zx (by simp only[q0B];omega)]⟩
 |v::r,o,w,ws,h,hl=>by
  simp only[q02]at hl
  have h1:Cb w0 b (w.setCell ⟨b,o,none⟩ v) (ws.setIfInBounds o v) T:=by
   refine⟨h.os,h.tape,h.output,by rw[<-h.size];simp[World.setCell],?_,fun c hc=> ?_⟩
   .simp only[World.setCell,Array.getElem?_modify,q0X,h.at_];rfl
   .rw[<-h.oth c hc];simp only[World.setCell,Array.getElem?_modify];rw[zx (Ne.symm hc)]
  obtain⟨us,h2,h3,h4⟩:=Cb.set r (o+1) h1 (by simp;omega);refine⟨us,h2,by rw[h3];simp,fun k=> ?_⟩;rw[h4 k];simp only[q02]
  by_cases e:k=o
  .subst e;rw[zx om,zn om,Nat.sub_self,q0K om];rfl
  .by_cases e2:o<=k/\k<o+(r.length+1)
   .rw[zn om,zn e2,show k-o=(k-(o+1))+1 by omega,q1Q]
   .rw[zx om,zx e2,q0S om]
theorem Cb.redo(h:Cb w0 b w ws T):Redo w0 b w b ws T:=
 ⟨h.os,h.tape,h.output,Nat.le_of_eq h.size.symm,h.at_,.inl rfl,fun c _ hc=>h.oth c hc⟩
theorem Cb.new{o:Obj}(h:Cb (w0.alloc o) w0.heap.size w ws T):Redo w0 b w w0.heap.size ws T:=by
 refine⟨h.os,h.tape,h.output,by rw[h.size];simp,h.at_,.inr (zN _),fun c hc _=> ?_⟩;rw[h.oth c om];show(w0.heap.push o)[c]? =_;rw[Array.getElem?_push,zx om]
section
variable {P:Program}
theorem KA(w:World)(dT sT ty elem size:Nat)(b o dLen dCap:Nat)(a:Addr)(sLen sCap:Nat)(cs:ya)
  (hu:P.underlying dT=some (.slice elem)) (hs:(P.info? elem).map (·.size)=some size) (hn:cs.length=Nat.min sLen dLen*size)
  (hsrc:∀j v,cs[j]? =some v->w.cell? (a.add j)=some v) (hc:∀j,j<cs.length->(w.cell? ⟨b,o+j,none⟩).isSome=true) (hf:∀j,j<cs.length->w.frozen? ⟨b,o+j,none⟩=false) (h1:∀v∈cs,v.oneCell'=true):
  (Builtin.copy_ #[dT,sT] ty #[.slice (some ⟨b,o,none⟩) dLen dCap,.slice (some a) sLen sCap]).run P w= .ok (goInt (Nat.min sLen dLen)) (w.setCells b o cs):=by
 have hl:=run_loadCells_list (P:=P) w a cs hsrc;have hst:=run_storeCells_cells (P:=P) b o cs 0 w (by simpa using hc) (by simpa using hf) h1
 cases hq:P.info? elem with
 |none=>simp[hq]at hs
 |some i=>
  have hi:i.size=size:=by simpa[hq]using hs
  simp[Builtin.copy_,q1f hu,Builtin.lenOf,Builtin.firstCells,sizeOf,typeInfo,hq,hi,<-hn,hl,hst]
theorem YR(w:World)(t e ty:Nat)(z:Value)(zs:ya)(ht:P.underlying t=some (.slice e))(hv:(zeroValue e).run P w= .ok z w)(b o n c:Nat)(hn:0<n)(hz:(Builtin.zeroCells z.cells n).toList=zs)
  (hc:∀j,j<zs.length->(w.cell? ⟨b,o+j,none⟩).isSome=true) (hf:∀j,j<zs.length->w.frozen? ⟨b,o+j,none⟩=false) (h1:∀v∈zs,v.oneCell'=true):
  (Builtin.clear_ #[t] ty #[.slice (some ⟨b,o,none⟩) n c]).run P w= .ok (.tuple #[]) (w.setCells b o zs):=by
 have hst:=run_storeCells_cells (P:=P) b o zs 0 w (by simpa using hc) (by simpa using hf) h1;simp only[q1R]at hst;obtain⟨m,rfl⟩:∃m,n=m+1:=⟨n-1,om⟩;simp[Builtin.clear_,q1f ht,hv,hz,hst]
end
theorem Tl{z:yi}{n:Nat}{v:Value}(h:v∈(Builtin.zeroCells z n).toList):v∈z.toList:=by
 unfold Builtin.zeroCells at h;rw[Array.toList_map,q1L]at h;obtain⟨i,hi,rfl⟩:=h
 have hz:0<z.size:=by
  rcases q1F z.size with h0|h0
  .simp[h0]at hi
  .exact h0
 have:=Nat.mod_lt i hz;rw[getElem!_pos z _ this];simp
end Go.Gar
namespace Go.Gar
theorem YA{G:Gh}{w:World}(h:BK G w){b:Nat}(ho:Own G b){x:Option (List Deferred)}:w.heap[b]?≠some (.deferred x):=by
 rcases ho with⟨id,N,blk,hb,hl,hρ⟩|⟨id,rs,hb,hr⟩
 .have:=h.blk id blk hb
  cases blk with
  |gone=>simp[AM.live]at hl
  |many rs=>simp[AM.live]at hl
  |c cs=>obtain⟨_,_,_,_,h1,h2,_⟩:=this;rw[hρ]at h1;cases h1;rw[h2];simp
  |a y=>
   obtain⟨_,_,⟨_,h1⟩|⟨_,_,_,_,h1,h2,_⟩⟩:=this
   .rw[hρ]at h1;cases h1
   .rw[hρ]at h1;cases h1;rw[h2];simp
  |m es=>obtain⟨_,_,_,_,h1,h2,_⟩:=this;rw[hρ]at h1;cases h1;rw[h2];simp
  |lp r=>obtain⟨_,_,_,_,h1,h2,_⟩:=this;rw[hρ]at h1;cases h1;rw[h2];simp
  |Oh _ _ _=>obtain⟨_,_,h1,h2,_⟩:=this;rw[hρ]at h1;cases h1;rw[h2];simp
 .obtain⟨N,l,hm⟩:=Vj.1 hr;obtain⟨vs,T,hw,_⟩:=h.blk id _ hb b N l hm;rw[hw];simp
theorem Y0{N:NB}{G G':Gh}{a:Act}{w:World}(h:Marks N G a w)(hr:BK G' w):Marks N G' a w:=
 let⟨h0,ms,h1,h2,h3⟩:=h
 ⟨h0,ms,h1,h2,fun r hr'=>⟨(h3 r hr').1,(h3 r hr').2.1,fun ho=>YA hr ho (h3 r hr').2.1⟩⟩
variable {Q:Exit->St->Prop}
theorem wz{P:Program}{c:Code}{S0:St}{H2:z6}(ids:BF)(h:W P none c S0 Q)(hn:nodupB ids=true)(hm:DY (rn ids H2.length) H2 ids S0.H)(ho:Bj S0.H.length S0.H=true)(he:Ey S0.H.length S0.env=true):
  W P none c ⟨L6 (rn ids H2.length) S0.env,H2,S0.n⟩ fun e S=>∃S',Q e S'/\S=⟨L6 (rn ids H2.length) S'.env,KO ids H2 (E1 (rn ids H2.length) S'.H),S'.n⟩:=by
 intro N G a w r;have hn':=FW hn;obtain⟨h1,h2⟩:=Qn r.heap hn' hm r.rel ho
 have r0:Rel none N S0 ⟨fun i=>G.ρ (rn ids H2.length i),S0.H,G.m⟩ a w:=⟨rfl,h1,r.size,fun t x hx=>by
  obtain⟨v,hv,hrv⟩:=r.env t (x.ren (rn ids H2.length)) (by show get (L6 _ S0.env) t=_;rw[JH,hx];rfl);refine⟨v,hv,?_⟩;have:=h2 (x:=[x]) (vs:=[v]) (by simp only[AV.oks,LS he hx,q1c]) (by simp only[AV.E2,Bf];exact⟨v,[],rfl,hrv,rfl⟩);simp only[Bf]at this;obtain⟨_,_,e,hx',_⟩:=this
  cases e;exact hx',Y0 r.marks h1,fun _ h=>by cases h⟩
 refine q1d (h N ⟨fun i=>G.ρ (rn ids H2.length i),S0.H,G.m⟩ a w r0) ?_;rintro e a' w' ⟨S',G0',q,r',k⟩;obtain⟨G'',q1,q2,q3,q4,q5⟩:=Ld r.heap hn' hm r.rel k r'.rel;refine⟨_,G'',⟨S',q,rfl⟩,⟨by rw[q1,r'.heap],q2,r'.size,fun t x hx=> ?_,Y0 r'.marks q2,fun _ h=>by cases h⟩,q3⟩;change get (L6 _ S'.env) t=some x at hx;rw[JH,q0F]at hx;obtain⟨z,hz,rfl⟩:=hx;obtain⟨v,hv,hrv⟩:=r'.env t z hz;exact⟨v,hv,hrv.ren q4 q5⟩
theorem tz{P:Program}{c:Code}{S:St}(h:W P none c S fun e S'=>∃S'',A8 S' S''/\S.H.length<=S''.H.length/\Q e S''):W P none c S Q:=by
 intro N G a w r;refine q1d (h N G a w r) ?_;rintro e a' w' ⟨S',G',⟨S'',t,hl,q⟩,r',k⟩;obtain⟨G'',r'',t'⟩:=t none N G' a' w' r' (fun _ h=>by cases h);exact⟨S'',G'',q,r'',k.ghost t' (by rw[r.heap,r''.heap];exact hl)⟩
variable {ids:BF}{H l:z6}
theorem su{i:Nat}(hn:ids.Nodup)(hl:ids.length<=l.length)(ha:∀a∈ids,a<H.length)(hi:i<ids.length):(KO ids H l)[ids[i]]? =l[i]?:=by
 rw[QW hn hl ha,zn (q0q hi),hn.idxOf_getElem i hi]
theorem uW(j:Nat)(hn:ids.Nodup)(hl:ids.length<=l.length)(ha:∀a∈ids,a<H.length):(KO ids H l)[H.length+j]? =l[ids.length+j]?:=by
 rw[QW hn hl ha,zx (fun h=>by have:=ha _ h;omega),zx om,Nat.add_sub_cancel_left]
theorem Ut:∀{ids:BF}{H l:z6},ids.length<=l.length->(KO ids H l).length=H.length+(l.length-ids.length)
 |[],H,l,_=>by simp[KO]
 |a::r,H,[],h=>by simp at h
 |a::r,H,b::l,h=>by simp only[KO];rw[Ut (by simpa using h)];simp
theorem sv(h:ids.length<=l.length):H.length<=(KO ids H l).length:=by rw[Ut h];exact Nat.le_add_right ..
theorem UI{ι:Nat->Nat}{H2:z6}:∀{ids:BF}{H:z6},ids.length=H.length->(∀(i:Nat)(a:Nat)(b:AM),ids[i]? =some a->H[i]? =some b->H2[a]? =some (b.ren ι))->DY ι H2 ids H
 |[],[],_,_=>trivial
 |[],_::_,h,_=>by simp at h
 |_::_,[],h,_=>by simp at h
 |a::r,b::l,h,k=>⟨k 0 a b rfl rfl,UI (by simpa using h) fun i a' b' h1 h2=>k (i+1) a' b' (by simpa using h1) (by simpa using h2)⟩
theorem Xl{α:Type}:∀{l H:List α},(∀(i:Nat)(x:α),l[i]? =some x->H[i]? =some x)->∃G,H=l++G
 |[],H,_=>⟨H,rfl⟩
 |a::l,[],h=>by have:=h 0 a rfl;simp at this
 |a::l,b::H,h=>by
  have e:=h 0 a rfl;simp at e;obtain⟨G,hG⟩:=Xl (l:=l) (H:=H) fun i x hx=>by simpa using h (i+1) x (by simpa using hx)
  exact⟨G,by rw[hG,e];rfl⟩
end Go.Gar
