/- Part 7 of a proof. Conditions: those that its theorems state. -/
import Derived.Test.YtkljbfejbakooaaGreatDoorT06
set_option linter.unusedSimpArgs false
set_option linter.unusedVariables false
set_option linter.unnecessarySimpa false
set_option maxHeartbeats 40000000
set_option maxRecDepth 4000
namespace Go.Gar
def uU:xD->Option (ww)
 |[]=>some []
 | .d x::r=>match uU r with
  |some l=>some (x::l)
  |none=>none
 |_::_=>none
theorem ja:∀{l:xD}{xs:ww},uU l=some xs->l=xs.map .d
 |[],xs,h=>by simp[uU]at h;subst h;rfl
 | .d x::r,xs,h=>by
  simp only[uU]at h;split at h
  .rename_i l hl;cases h;rw[ja hl];rfl
  .cases h
 | .u::_,_,h| .ptr _ _ _::_,_,h| .sl _ _ _::_,_,h| .bs _ _ _ _ _::_,_,h| .ep _ _ _ _ _::_,_,h| .e0::_,_,h| .ag _::_,_,h| .tup _::_,_,h| .fn _ _ _::_,_,h| .yl _::_,_,h| .dp _::_,_,h| .mp _::_,_,h=>by simp[uU]at h
def setRows(off:Nat)(xs:ww):Nat->List (ww)->List (ww)
 |_,[]=>[]
 |0,r::l=>(r.take off++xs++r.drop (off+xs.length))::l
 |i+1,r::l=>r::setRows off xs i l
theorem Pp(off:Nat)(xs:ww):∀(i:Nat)(l:List (ww)),(setRows off xs i l).length=l.length
 |_,[]=>by cases ‹Nat›<;>rfl
 |0,_::_=>rfl
 |i+1,r::l=>by simp[setRows,Pp off xs i l]
theorem So{off sz:Nat}{xs:ww}(hs:off+xs.length<=sz):∀{i:Nat}{l:List (ww)},(∀e∈l,e.length=sz)->∀e∈setRows off xs i l,e.length=sz
 |i,[],_,e,he=>by cases i<;>cases he
 |0,r::l,h,e,he=>by
  have hr:=h r (yT ..);rcases yP.1 he with rfl|he
  .simp;omega
  .exact h e (yQ _ he)
 |i+1,r::l,h,e,he=>by
  rcases yP.1 he with rfl|he
  .exact h _ (yT ..)
  .exact So hs (fun e he=>h e (yQ _ he)) e he
theorem Ny{off sz:Nat}{xs:ww}(hs:off+xs.length<=sz):∀{i:Nat}{l:List (ww)},(∀e∈l,e.length=sz)->i<l.length->
  (setRows off xs i l).flatten=l.flatten.take (i*sz+off)++xs++l.flatten.drop (i*sz+off+xs.length)
 |i,[],_,hi=>by simp at hi
 |0,r::l,h,hi=>by
  have hr:=h r (yT ..);simp only[setRows,zo,Nat.zero_mul,yw];rw[List.take_append_of_le_length om,List.drop_append_of_le_length om];simp only[yB]
 |i+1,r::l,h,hi=>by
  have hr:=h r (yT ..);have ih:=Ny hs (i:=i) (fun e he=>h e (yQ _ he)) (by simp at hi;omega);simp only[setRows,zo];have e1:(i+1)*sz+off=r.length+(i*sz+off):=by rw[hr,Nat.succ_mul];omega
  rw[ih,e1,List.take_length_add_append,Nat.add_assoc r.length,List.drop_length_add_append];simp only[yB]
theorem X0{sz:Nat}:∀{l:List (ww)},(∀e∈l,e.length=sz)->l.flatten.length=l.length*sz
 |[],_=>by simp
 |r::l,h=>by
  have:=X0 (fun e he=>h e (yQ r he));rw[zo,y9,this,h r (yT ..),xw,Nat.succ_mul];omega
def jq(E:Nat->Option Be)(env:xF)(H:xS)(op:Op):Option (Bool×xS):=
 match op with
 | .store t a x=>match E t,Db env a,Db env x with
  |some y,some (.ep id i off n sz),some v=>match OY v with
   |some vl=>match uU vl with
    |some xs=>match H[id]? with
     |some (.a (.sl sz' rows))=>match setH id (.a (.sl sz' (setRows off xs i rows))) H with
      |some H'=>some (Nat.beq n rows.length&&Nat.blt i n&&Nat.beq y.size xs.length&&Nat.ble (off+xs.length) sz&&Nat.beq sz sz'&&DF xs,H')
      |none=>none
     |_=>none
    |none=>none
   |none=>none
  |_,_,_=>none
 |_=>none
theorem Yf{G:Gh}:∀{xs:ww}{vs:wj},Ba G (xs.map .d) vs->∀(k:Nat)(x:D),xs[k]? =some x->∃v,vs[k]? =some v/\RD G.m x v
 |[],_,_,k,x,h=>by simp at h
 |d::r,vs,hv,k,x,h=>by
  simp only[zA,Ba]at hv;obtain⟨v,r',rfl,h1,h2⟩:=hv
  cases k with
  |zero=>simp at h;subst h;exact⟨v,rfl,by simpa only[RV]using h1⟩
  |succ k=>exact Yf h2 k x (by simpa using h)
theorem Kh:∀{xs:ww},DF xs=true->∀(k:Nat)(x:D),xs[k]? =some x->x.one=true
 |[],_,k,x,h=>by simp at h
 |d::r,ho,k,x,h=>by
  simp only[DF,xI]at ho
  cases k with
  |zero=>simp at h;subst h;exact ho.1
  |succ k=>exact Kh ho.2 k x (by simpa using h)
variable {E:Nat->Option Be}
theorem bY{P:Program}(hE:CP P E){S:St}{o:Oper}{c:Bool}{H':xS}(h:jq E S.env S.H o.op=some (c,H'))(hc:c=true):EU P o S .u H':=by
 subst hc;unfold jq at h;split at h
 .rename_i t a x ho;split at h
  .rename_i y id i off n sz xv hy' ha hx;split at h
   .rename_i vl hvl;split at h
    .rename_i xs hxs;have:=ja hxs;subst this;split at h
     .rename_i sz' rows hl;split at h
      .rename_i q hq;simp only[xJ,xZ,xI]at h;obtain⟨⟨⟨⟨⟨⟨hn,hi⟩,hsz⟩,hfit⟩,hsz'⟩,hone⟩,rfl⟩:=h;have hn:=xR hn;have hsz:=xR hsz;have hsz':=xR hsz';have hfit:=yY hfit;rw[zZ]at hi;subst hn;subst hsz';obtain⟨hid,rfl⟩:=Lo hq;have hy:=hE t y hy';intro ro N G act w r;have hl':G.H[id]? =some (.a (.sl sz rows)):=by rw[r.heap];exact hl
       have hva:=BF r.rel.st r.env ha;have hvx:=BF r.rel.st r.env hx;have hvs:=LR hvl hvx;have hvn:(act.eval x).cells.toList.length=xs.length:=by have:=Ba.Mi hvs;simpa using this
       simp only[RV]at hva;obtain⟨_,blk,hb,hp⟩:=hva;rw[hl']at hb;cases hb;obtain⟨_,_,hp⟩:=hp;obtain⟨b,M,hρ,hva⟩:=hp rfl;obtain⟨_,hrows,hB⟩:=r.rel.blk id _ hl';simp only[B0]at hrows;rcases hB with⟨h0,hno⟩|⟨b',M',vs,T,hρ',hw,hM,hcell⟩
       .rw[hρ]at hno;cases hno
       rw[hρ]at hρ';cases hρ';have hfl:=X0 hrows;have hi2:i*sz+sz<=rows.length*sz:=by rw[<-Nat.succ_mul];exact Nat.mul_le_mul_right sz hi
       have hvl2:rows.flatten.length<=vs.size:=by
        rcases zu rows.flatten.length with h0|h0
        .omega
        .obtain⟨v,hv,_⟩:=hcell (rows.flatten.length-1) _ (xP (by simp only[slc];omega));have:=(y5.1 hv).1;omega
       have hst:=run_storeCells_at P b (i*sz+off) T (act.eval x).cells.toList 0 vs w hw (by rw[hvn];simp;omega) (fun v hv=>by
        obtain⟨k,hk⟩:=List.getElem?_of_mem hv;have hkl:=(xW.1 hk).1;obtain⟨v',hv',hrd⟩:=Yf hvs k _ (xP (by omega:k<xs.length));rw[hk]at hv';cases hv'
        exact Yc (Kh hone k _ (xP om)) hrd)
       simp only[q0O]at hst
       obtain⟨r1,r2⟩:=Vd r.rel (cur:=(vs.toList.take (i*sz+off)++(act.eval x).cells.toList++vs.toList.drop (i*sz+off+(act.eval x).cells.toList.length)).toArray) hl' rfl (q:=.a (.sl sz (setRows off xs i rows))) rfl hρ (by simp[B7,Gh.put,BK,C7,Pp]) (by
        refine⟨rfl,So hfit hrows,.inr ⟨b,M,_,T,hρ,setRow_heap w b vs _ T _ hw,by rw[hvn];simp at hvn|-;omega,fun j z hz=> ?_⟩⟩;replace hz:(setRows off xs i rows).flatten[j]? =some z:=hz;rw[Ny hfit hrows hi]at hz
        obtain⟨v,hv,hrv⟩:=K7 (R:=fun d v=>v.oneCell'=true/\RD G.m d v) (cs:=rows.flatten) (xs:=xs) (vs:=vs.toList) (us:=(act.eval x).cells.toList) (off:=i*sz+off) (by rw[hfl];omega) (by simpa using hvl2) hvn
         (fun k x hx=>by obtain⟨v,h1,h2⟩:=hcell k x hx;exact⟨v,by simpa using h1,h2⟩)
         (fun k x hx=>by
          obtain⟨v,h1,h2⟩:=Yf hvs k x hx
          exact⟨v,h1,Yc (Kh hone k x hx) h2,h2⟩) j z hz
        exact⟨v,by simpa using hv,hrv⟩)
       have key:(Instr.storeAt t (act.eval a) (act.eval x)).run P w= .ok () (w.setRow b (vs.toList.take (i*sz+off)++(act.eval x).cells.toList++vs.toList.drop (i*sz+off+(act.eval x).cells.toList.length)).toArray):=by
        rw[hva];simp only[Instr.storeAt,Instr.sureAddr,y7,yA,xq,storeVar,Bv hy];rw[if_neg (by simp at hvn;omega)];exact hst
       refine⟨.skip,_,_,?_,.inl ⟨rfl,rfl⟩,?_,r1,r2⟩
       .unfold execOp;simp only[ho,y7,key,xq,yA]
       .show G.H.set id _=S.H.set id _;rw[r.heap]
      .cases h
     .cases h
    .cases h
   .cases h
  .cases h
 .cases h
theorem NM{env:xF}{H:xS}{op:Op}{r:Bool×xS}(h:jq E env H op=some r):∀c,op≠ .defer c:=fun c e=>by subst e;cases h
section
variable {P:Program}{ro:wk}{E:Nat->Option Be}{ops:wl}{i:Nat}{rest:wm}{Q:Exit->St->Prop}{o:Oper}{en:xF}{hp:xS}{nt:Nat}{S0:St}{A:Prop}{acc:List Rc}
theorem Xsc(hE:CP P E){c:Bool}{H' H'':xS}{e:xF}(hg:Af ops en o=some true)(h:jq E en hp o.op=some (c,H'))(hd:Az o.dst nt=true)(he:Bf o.dst .u en=some e)
  (k:Wl P ro ops (i+1) rest ⟨e,H'',nt⟩ Q) (hc:c=true) (hH:H'=H'':=by first|(simp only[nS];rfl)|rfl):Wl P ro ops i (o::rest) ⟨en,hp,nt⟩ Q:=by
 subst hH;rw[BG he]at k;exact NA hg (bY (S:=⟨en,hp,nt⟩) hE h hc) (NM h) hd k
end
end Go.Gar
namespace Go.Gar
open Go.ChangeShapes Go.WideShapes Go.ChangeAt Go.RowKit
end Go.Gar
namespace Go.Gar
theorem uh:(∀(α β:Type)(f:α->β)(a b:List α),(a++b).map f=a.map f++b.map f)/\(∀(α β:Type)(f:α->β)(x:α)(a:List α),(x::a).map f=f x::a.map f)/\(∀(α β:Type)(f:α->β),([]:List α).map f=[])/\
  (∀(α:Type)(a b:List α),(a++b).length=a.length+b.length)/\(∀(α:Type)(x:α)(a:List α),(x::a).length=a.length+1)/\(∀(α:Type),([]:List α).length=0)/\(∀(α β:Type)(f:α->β)(a:List α),(a.map f).length=a.length):=
 ⟨fun _ _ _ _ _=>List.map_append,fun _ _ _ _ _=>rfl,fun _ _ _=>rfl,fun _ _ _=>y9,fun _ _ _=>rfl,fun _=>rfl,fun _ _ _ _=>yS _⟩
variable {S:St}
theorem A6.cn{S':St}(hn:S'.n=S.n)(he:Mv S'.env S.env:=by repeat'(first|exact zl|refine xU (by(first|rfl|((with_reducible_and_instances refine congrArg (fun z=>some (AV.d (D.i _ z))) ?_);omega)|(refine congrArg (fun z=>some (AV.d (D.i _ z))) (?_:(_:Int)=_);omega)|(refine congrArg some ?_;simp only[uh,nC];done)|(refine congrArg some ?_;simp[nC];done))) ?_))(hH:Bj S'.H S.H:=by repeat'(first|exact zl|refine xU (Or.inr rfl) ?_|refine xU (Or.inl ⟨rfl,rfl⟩) ?_|refine xU (Or.inr (by simp only[uh,nC])) ?_|refine xU (Or.inr (by simp only[uh,nC];rfl)) ?_|refine xU (Or.inr (by simp[nC])) ?_))(ho:BY S'.H.length S'.H=true:=by first|rfl|(simp(decide:=true) [BY,AI.ok,AV.oks,AV.ok];done)|(simp(decide:=true) [BY,AI.ok,AV.oks,AV.ok,hk];done))(heo:FM S'.H.length S'.env=true:=by rfl):A6 S S':=A6.cut hn he hH ho heo
variable {id n:Nat}{r:Lp}{H1:xS}{v:AV}
theorem gr(hv:v= .d (.b true))(t:A6 S ⟨[],H1.set id (.lp r.busy),S.n⟩)(hn:n<=(H1.set id (.lp r.busy)).length:=by first|exact xH _|exact yY rfl)(h1:(H1.set id (.lp r.busy))[id]? =some (.lp r.busy):=by rfl)(h2:(H1.set id (.lp r.busy)).set id (.lp r)=H1:=by rfl):
  rL id n r (fun x K=>x=v/\K=H1) .normal S:=⟨_,t,hn,h1,hv.symm,h2⟩
theorem rEnd(hv:v= .d (.b false))(t:A6 S ⟨[],H1.set id (.lp r.busy),S.n⟩)(hn:n<=(H1.set id (.lp r.busy)).length:=by first|exact xH _|exact yY rfl)(h1:(H1.set id (.lp r.busy))[id]? =some (.lp r.busy):=by rfl)(h2:(H1.set id (.lp r.busy)).set id (.lp (r.left .ret))=H1:=by rfl):
  rL id n r (fun x K=>x=v/\K=H1) .ret S:=⟨_,t,hn,h1,hv.symm,h2⟩
variable {P:Program}{E:Nat->Option Be}{H':xS}
theorem iA{f:FuncId}{fn:Func}{c:Code}(hE:CP P E)(hf:P.funcs[f]? =some fn)(hb:fn.body=some c)(hname:(fn.name== "runtime.NumGoroutine")=false){args:xD}{H:xS}{r:AV}(hn:args.length<=fn.ntmps)(h:W P none c ⟨EG 0 args,H,fn.ntmps⟩ (MZ fun S0=>∃S',A6 S0 S'/\H.length<=S'.H.length/\∃cc x,Da E S'.env S'.H fn.results.toList=some (cc,x)/\cc=true/\x=r/\Bj H' S'.H))(ho:BY H'.length H'=true:=by rfl)(hr:r.ok H'.length=true:=by rfl)(hl:Nat.ble H.length H'.length=true:=by rfl):BJ P f args H r H':=by
 have hT:KR P f args H fun x K=>x=r/\Bj H' K:=Qq hE hf hb hname hn h;refine⟨hT.1,fun G w vs h1 h2 h3=>(hT.2 G w vs h1 h2 h3).mono ?_⟩
 rintro e w' ⟨v,x,G',rfl,⟨rfl,hs'⟩,hv,hr',hfr⟩;exact⟨v,x,G'.cut H',rfl,⟨rfl,rfl⟩,hv.cut hs' hr,hr'.cut hs' ho,hfr.ghost (av.cut hs') (by rw[h1];exact yY hl)⟩
variable {rs:List ResultVar}
theorem Hc{r:AV}(hs:Bj H' S.H:=by repeat'(first|exact zl|refine xU (Or.inr rfl) ?_|refine xU (Or.inl ⟨rfl,rfl⟩) ?_|refine xU (Or.inr sm) ?_))(hl:n<=S.H.length:=by first|exact yY rfl|exact xH _)(he:Da E S.env S.H rs=some (true,r):=by rfl):
  ∃S',A6 S S'/\n<=S'.H.length/\∃cc x,Da E S'.env S'.H rs=some (cc,x)/\cc=true/\x=r/\Bj H' S'.H:=⟨S,A6.refl S,hl,_,_,he,rfl,rfl,hs⟩
theorem vQ{r:AV}(hs:Bj H' S.H:=by repeat'(first|exact zl|refine xU (Or.inr rfl) ?_|refine xU (Or.inl ⟨rfl,rfl⟩) ?_|refine xU (Or.inr (by simp only[uh,nC])) ?_|refine xU (Or.inr (by simp only[uh,nC];rfl)) ?_|refine xU (Or.inr (by simp[nC])) ?_))(hl:n<=S.H.length:=by first|exact yY rfl|exact xH _)(he:Da E S.env S.H rs=some (true,r):=by rfl):
  ∃S',A6 S S'/\n<=S'.H.length/\∃cc x,Da E S'.env S'.H rs=some (cc,x)/\cc=true/\x=r/\Bj H' S'.H:=⟨S,A6.refl S,hl,_,_,he,rfl,rfl,hs⟩
variable {ro:wk}{Q:Exit->St->Prop}
theorem iR{ops:wl}(i k a b:Nat){S1:St}(hm:P.follows .mixedOrders=true)(hik:(Nat.blt i k&&Nat.blt k ops.toList.length&&LV ops)=true)(ho:BY S.H.length S.H=true)(h1:Wd P ro E (PS i k ops) S (Jg P ro (PS i k ops) S (Qw (Qb a b S1))) [] (PS i k ops).toList S)(h2:Wd P ro E (PT i k ops) S (Jg P ro (PT i k ops) S (Qw (Qb a b S1))) [] (PT i k ops).toList S)(hab:(Nat.ble S.H.length a&&Nat.ble S.H.length b&&Nat.blt a S1.H.length&&Nat.blt b S1.H.length)=true)(hQ:Q .normal S1):W P ro (.region id ops true) S Q:=
 Mb E i k a b S1 hm hik ho hab h1 h2 hQ
theorem gEnd{l:Nat}(hv:v= .d (.b false))(t:A6 S ⟨[],H1.set id (.lp r.busy),S.n⟩)(hn:n<=(H1.set id (.lp r.busy)).length:=by first|exact xH _|exact yY rfl)(h1:(H1.set id (.lp r.busy))[id]? =some (.lp r.busy):=by rfl)(h2:(H1.set id (.lp r.busy)).set id (.lp (r.left (.goto l)))=H1:=by rfl):
  rL id n r (fun x K=>x=v/\K=H1) (.goto l) S:=⟨_,t,hn,h1,hv.symm,h2⟩
section
variable {P:Program}{E:Nat->Option Be}{f:FuncId}{fn:Func}{c:Code}
theorem zF(hE:CP P E)(hf:P.funcs[f]? =some fn){ds:ww}{r:D}(h:W P none c ⟨EG 0 (ds.map .d),[],fn.ntmps⟩ (MZ fun S'=>∃cc x,Da E S'.env S'.H fn.results.toList=some (cc,x)/\cc=true/\Cq S'.H x r))
  (hb:fn.body=some c:=by rfl) (hname:(fn.name== "runtime.NumGoroutine")=false:=by rfl) (hn:ds.length<=fn.ntmps:=by exact yY rfl):Fn P f ds r:=nu hE hf hb hname hn h
variable {args:xD}{H:xS}{R:AV->xS->Prop}
theorem zT(hE:CP P E)(hf:P.funcs[f]? =some fn)(h:W P none c ⟨EG 0 args,H,fn.ntmps⟩ (MZ fun S0=>∃S',A6 S0 S'/\H.length<=S'.H.length/\∃cc x,Da E S'.env S'.H fn.results.toList=some (cc,x)/\cc=true/\R x S'.H))(hb:fn.body=some c:=by rfl)(hname:(fn.name== "runtime.NumGoroutine")=false:=by rfl)(hn:args.length<=fn.ntmps:=by exact yY rfl):KR P f args H R:=Qq hE hf hb hname hn h
variable {H':xS}
theorem zD(hE:CP P E)(hf:P.funcs[f]? =some fn){r:AV}(h:W P none c ⟨EG 0 args,H,fn.ntmps⟩ (MZ fun S0=>∃S',A6 S0 S'/\H.length<=S'.H.length/\∃cc x,Da E S'.env S'.H fn.results.toList=some (cc,x)/\cc=true/\x=r/\S'.H=H'))(hb:fn.body=some c:=by rfl)(hname:(fn.name== "runtime.NumGoroutine")=false:=by rfl)(hn:args.length<=fn.ntmps:=by exact yY rfl):BJ P f args H r H':=iB hE hf hb hname hn h
theorem zC(hE:CP P E)(hf:P.funcs[f]? =some fn){r:AV}(h:W P none c ⟨EG 0 args,H,fn.ntmps⟩ (MZ fun S0=>∃S',A6 S0 S'/\H.length<=S'.H.length/\∃cc x,Da E S'.env S'.H fn.results.toList=some (cc,x)/\cc=true/\x=r/\Bj H' S'.H))(hb:fn.body=some c:=by rfl)(hname:(fn.name== "runtime.NumGoroutine")=false:=by rfl)(hn:args.length<=fn.ntmps:=by exact yY rfl)(ho:BY H'.length H'=true:=by rfl)(hr:r.ok H'.length=true:=by rfl)(hl:Nat.ble H.length H'.length=true:=by rfl):BJ P f args H r H':=iA hE hf hb hname hn h ho hr hl
theorem zX(hE:CP P E)(hf:P.funcs[f]? =some fn){ch:wt}(h:W P none c ⟨EG 0 args,H,fn.ntmps⟩ (rI ch fun S0=>∃S',A6 S0 S'/\H.length<=S'.H.length/\S'.H=H'))(hb:fn.body=some c:=by rfl)(hname:(fn.name== "runtime.NumGoroutine")=false:=by rfl)(hn:args.length<=fn.ntmps:=by exact yY rfl):MY P f args H ch H':=iD hE hf hb hname hn h
theorem zR{id n:Nat}{r:Lp}{body:Code}{en:xF}{hp hp':xS}{nt:Nat}(k:W P (some id) body ⟨en,hp',nt⟩ (rL id n r R))(h1:hp[id]? =some (.lp r):=by rfl)(h2:hp.set id (.lp r.busy)=hp':=by first|(simp only[N4,HZ,Nat.reduceAdd,Int.reduceAdd,Int.reduceSub,Int.reduceMul,Int.reduceToNat];done)|(simp only[N4,HZ,Nat.reduceAdd,Int.reduceAdd,Int.reduceSub,Int.reduceMul,Int.reduceToNat];rfl)|rfl):QAs P id n r body R .normal ⟨en,hp,nt⟩:=by
 subst h2;exact⟨h1,k⟩
variable {rs:List ResultVar}
theorem BL{S:St}{r:D}{cc:Bool}{x:AV}{p:Prop}(n:p)(he:Da E S.env S.H rs=some (cc,x):=by rfl)(hc:cc=true:=by rfl)(hf:p->Cq S.H x r:=by intro nE;simp[IT,BK,Bd,B0,nE]):∃cc x,Da E S.env S.H rs=some (cc,x)/\cc=true/\Cq S.H x r:=⟨cc,x,he,hc,hf n⟩
theorem zE{S:St}{r:D}{cc:Bool}{x:AV}(he:Da E S.env S.H rs=some (cc,x):=by rfl)(hc:cc=true:=by rfl)(hf:Cq S.H x r:=by simp[IT,BK,Bd,B0]):∃cc x,Da E S.env S.H rs=some (cc,x)/\cc=true/\Cq S.H x r:=⟨cc,x,he,hc,hf⟩
end
theorem zG{g:Operand}{ps:Array Tmp}{asg body:Code}{f:FuncId}{first cap xs:xD}{L:Nat}{F:Lp->xS}{en:xF}{hp:xS}{nt:Nat}(K:Lp->AV->xS->Prop)(seq:∀r,r.is nt en ps asg body->KR P f xs (F r) (K r))(k:∀r,r.is nt en ps asg body->∀x H',K r x H'->
   (H'[L]? =some (.lp r)/\Q .normal ⟨en,H'.set L (.lp r.out),nt⟩)\/
   ∃c,H'[L]? =some (.lp (r.left c))/\W P ro c ⟨en,H'.set L (.lp (r.left c).out),nt⟩ Q) (hg:Db en g=some (.fn (.func f) first cap):=by exact rfl) (hL:hp.length=L:=by first|(simp only[N4,HZ,Nat.reduceAdd,Int.reduceAdd,Int.reduceSub,Int.reduceMul,Int.reduceToNat];done)|(simp only[N4,HZ,Nat.reduceAdd,Int.reduceAdd,Int.reduceSub,Int.reduceMul,Int.reduceToNat];rfl)|rfl) (hxs:first++[.yl L]++cap=xs:=by first|(simp only[N4,HZ,Nat.reduceAdd,Int.reduceAdd,Int.reduceSub,Int.reduceMul,Int.reduceToNat];done)|(simp only[N4,HZ,Nat.reduceAdd,Int.reduceAdd,Int.reduceSub,Int.reduceMul,Int.reduceToNat];rfl)|rfl) (hF:∀r,hp++[.lp r]=F r:=by intro r;first|(simp only[N4,HZ,Nat.reduceAdd,Int.reduceAdd,Int.reduceSub,Int.reduceMul,Int.reduceToNat];done)|(simp only[N4,HZ,Nat.reduceAdd,Int.reduceAdd,Int.reduceSub,Int.reduceMul,Int.reduceToNat];rfl)|rfl):W P ro (.rangeFunc g ps asg body) ⟨en,hp,nt⟩ Q:=
 iV K hg hL hxs hF seq k
theorem CT0:(∀(α:Type)(a b c:List α),(a++b)++c=a++(b++c))/\(∀(α:Type)(a:List α),a++[]=a)/\(∀(α:Type)(a:List α),[]++a=a)/\(∀(α:Type)(x:α)(a b:List α),(x::a)++b=x::(a++b))/\(∀(α:Type)(a:List α),a.take 0=[])/\(∀(α:Type)(p:α->Bool),([]:List α).any p=false)/\
  (∀(α:Type)(p:α->Bool),([]:List α).filter p=[])/\(∀(α β:Type)(f:β->α->β)(x:β),([]:List α).foldl f x=x)/\(∀(α:Type)(a b:α),(if True then a else b)=a)/\(∀(α:Type)(a b:α),(if False then a else b)=b)/\(∀b:Bool,(true||b)=true)/\(∀b:Bool,(false||b)=b):=by
 simp
theorem A6.co{S':St}(hn:S'.n=S.n)(he:Mv S'.env S.env:=by repeat'(first|exact zl|refine xU (by(first|rfl|((with_reducible_and_instances refine congrArg (fun z=>some (AV.d (D.i _ z))) ?_);omega)|(refine congrArg (fun z=>some (AV.d (D.i _ z))) (?_:(_:Int)=_);omega)|(refine congrArg some ?_;simp only[CT0,nC,Int.reduceEq,yG,yC,Nat.add_sub_cancel,Nat.succ_ne_zero];done)|(refine congrArg some ?_;simp[nC];done))) ?_))(hH:Bj S'.H S.H:=by repeat'(first|exact zl|refine xU (Or.inr rfl) ?_|refine xU (Or.inl ⟨rfl,rfl⟩) ?_|refine xU (Or.inr (by simp only[CT0,nC,Int.reduceEq,yG,yC,Nat.add_sub_cancel,Nat.succ_ne_zero])) ?_|refine xU (Or.inr (by simp only[CT0,nC,Int.reduceEq,yG,yC,Nat.add_sub_cancel,Nat.succ_ne_zero];rfl)) ?_|refine xU (Or.inr (by simp[nC])) ?_))(ho:BY S'.H.length S'.H=true:=by first|rfl|(simp(decide:=true) [BY,AI.ok,AV.oks,AV.ok];done)|(simp(decide:=true) [BY,AI.ok,AV.oks,AV.ok,hk];done))(heo:FM S'.H.length S'.env=true:=by rfl):A6 S S':=A6.cut hn he hH ho heo
end Go.Gar
