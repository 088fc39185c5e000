/- Part 7 of a proof. Conditions: those that its theorems state. -/
import Derived.Test.YtmlaifbbpdanmaaV06
import Derived.Laws.IdiomCopy
set_option linter.unusedSimpArgs false
set_option linter.unusedVariables false
set_option linter.unnecessarySimpa false
set_option maxHeartbeats 40000000
set_option maxRecDepth 4000
namespace Go.Gar
def PN:R8->Option (R6)
 |[]=>some []
 | .d x::r=>match PN r with
  |some l=>some (x::l)
  |none=>none
 |_::_=>none
theorem ML:∀{l:R8}{xs:R6},PN l=some xs->l=xs.map .d
 |[],xs,h=>by simp[PN]at h;subst h;rfl
 | .d x::r,xs,h=>by
  simp only[PN]at h;split at h
  .rename_i l hl;cases h;rw[ML hl];rfl
  .cases h
 | .u::_,_,h| .ptr _ _ _::_,_,h| .sl _ _ _::_,_,h| .bs _ _ _ _ _::_,_,h| .ep _ _ _ _ _::_,_,h| .e0::_,_,h| .ag _::_,_,h| .tup _::_,_,h| .fn _ _ _::_,_,h| .yl _::_,_,h| .dp _::_,_,h| .mp _::_,_,h=>by simp[PN]at h
def setRows(off:Nat)(xs:R6):Nat->List (R6)->List (R6)
 |_,[]=>[]
 |0,r::l=>(r.take off++xs++r.drop (off+xs.length))::l
 |i+1,r::l=>r::setRows off xs i l
theorem FY(off:Nat)(xs:R6):∀(i:Nat)(l:List (R6)),(setRows off xs i l).length=l.length
 |_,[]=>by cases ‹Nat›<;>rfl
 |0,_::_=>rfl
 |i+1,r::l=>by simp[setRows,FY off xs i l]
theorem Gp{off sz:Nat}{xs:R6}(hs:off+xs.length<=sz):∀{i:Nat}{l:List (R6)},(∀e∈l,e.length=sz)->∀e∈setRows off xs i l,e.length=sz
 |i,[],_,e,he=>by cases i<;>cases he
 |0,r::l,h,e,he=>by
  have hr:=h r (List.mem_cons_self ..);rcases Si.1 he with rfl|he
  .simp;omega
  .exact h e (List.mem_cons_of_mem _ he)
 |i+1,r::l,h,e,he=>by
  rcases Si.1 he with rfl|he
  .exact h _ (List.mem_cons_self ..)
  .exact Gp hs (fun e he=>h e (List.mem_cons_of_mem _ he)) e he
theorem Eu{off sz:Nat}{xs:R6}(hs:off+xs.length<=sz):∀{i:Nat}{l:List (R6)},(∀e∈l,e.length=sz)->i<l.length->
  (setRows off xs i l).flatten=l.flatten.take (i*sz+off)++xs++l.flatten.drop (i*sz+off+xs.length)
 |i,[],_,hi=>by simp at hi
 |0,r::l,h,hi=>by
  have hr:=h r (List.mem_cons_self ..);simp only[setRows,Rx,Nat.zero_mul,RZ];rw[List.take_append_of_le_length om,List.drop_append_of_le_length om];simp only[Rl]
 |i+1,r::l,h,hi=>by
  have hr:=h r (List.mem_cons_self ..);have ih:=Eu hs (i:=i) (fun e he=>h e (List.mem_cons_of_mem _ he)) (by simp at hi;omega);simp only[setRows,Rx];have e1:(i+1)*sz+off=r.length+(i*sz+off):=by rw[hr,Nat.succ_mul];omega
  rw[ih,e1,List.take_length_add_append,Nat.add_assoc r.length,List.drop_length_add_append];simp only[Rl]
theorem IZ{sz:Nat}:∀{l:List (R6)},(∀e∈l,e.length=sz)->l.flatten.length=l.length*sz
 |[],_=>by simp
 |r::l,h=>by
  have:=IZ (fun e he=>h e (List.mem_cons_of_mem r he));rw[Rx,RH,this,h r (List.mem_cons_self ..),Qz,Nat.succ_mul];omega
def Mc(E:Nat->Option AK)(env:R9)(H:RE)(op:Op):Option (Bool×RE):=
 match op with
 | .store t a x=>match E t,Bh env a,Bh env x with
  |some y,some (.ep id i off n sz),some v=>match F8 v with
   |some vl=>match PN vl with
    |some xs=>match H[id]? with
     |some (.a (.sl sz' rows))=>match setH id (.a (.sl sz' (setRows off xs i rows))) H with
      |some H'=>some (Nat.beq n rows.length&&Nat.blt i n&&Nat.beq y.size xs.length&&Nat.ble (off+xs.length) sz&&Nat.beq sz sz'&&AJ xs,H')
      |none=>none
     |_=>none
    |none=>none
   |none=>none
  |_,_,_=>none
 |_=>none
theorem JE{G:Gh}:∀{xs:R6}{vs:Qf},AH G (xs.map .d) vs->∀(k:Nat)(x:D),xs[k]? =some x->∃v,vs[k]? =some v/\RD G.m x v
 |[],_,_,k,x,h=>by simp at h
 |d::r,vs,hv,k,x,h=>by
  simp only[Ru,AH]at hv;obtain⟨v,r',rfl,h1,h2⟩:=hv
  cases k with
  |zero=>simp at h;subst h;exact⟨v,rfl,by simpa only[RV]using h1⟩
  |succ k=>exact JE h2 k x (by simpa using h)
theorem Dk:∀{xs:R6},AJ xs=true->∀(k:Nat)(x:D),xs[k]? =some x->x.one=true
 |[],_,k,x,h=>by simp at h
 |d::r,ho,k,x,h=>by
  simp only[AJ,Qk]at ho
  cases k with
  |zero=>simp at h;subst h;exact ho.1
  |succ k=>exact Dk ho.2 k x (by simpa using h)
variable {E:Nat->Option AK}
theorem KU{P:Program}(hE:Ai P E){S:St}{o:Oper}{c:Bool}{H':RE}(h:Mc E S.env S.H o.op=some (c,H'))(hc:c=true):Bi P o S .u H':=by
 subst hc;unfold Mc at h;split at h
 .rename_i t a x ho;split at h
  .rename_i y id i off n sz xv hy' ha hx;split at h
   .rename_i vl hvl;split at h
    .rename_i xs hxs;have:=ML hxs;subst this;split at h
     .rename_i sz' rows hl;split at h
      .rename_i q hq;simp only[Qj,Qo,Qk]at h;obtain⟨⟨⟨⟨⟨⟨hn,hi⟩,hsz⟩,hfit⟩,hsz'⟩,hone⟩,rfl⟩:=h;have hn:=Qi hn;have hsz:=Qi hsz;have hsz':=Qi hsz';have hfit:=SH hfit;rw[S9]at hi;subst hn;subst hsz';obtain⟨hid,rfl⟩:=D1 hq;have hy:=hE t y hy';intro ro N G act w r;have hl':G.H[id]? =some (.a (.sl sz rows)):=by rw[r.heap];exact hl
       have hva:=AB r.rel.st r.env ha;have hvx:=AB r.rel.st r.env hx;have hvs:=Ci hvl hvx;have hvn:(act.eval x).cells.toList.length=xs.length:=by have:=AH.EJ hvs;simpa using this
       simp only[RV]at hva;obtain⟨_,blk,hb,hp⟩:=hva;rw[hl']at hb;cases hb;obtain⟨_,_,hp⟩:=hp;obtain⟨b,M,hρ,hva⟩:=hp rfl;obtain⟨_,hrows,hB⟩:=r.rel.blk id _ hl';simp only[AX]at hrows;rcases hB with⟨h0,hno⟩|⟨b',M',vs,T,hρ',hw,hM,hcell⟩
       .rw[hρ]at hno;cases hno
       rw[hρ]at hρ';cases hρ';have hfl:=IZ hrows;have hi2:i*sz+sz<=rows.length*sz:=by rw[<-Nat.succ_mul];exact Nat.mul_le_mul_right sz hi
       have hvl2:rows.flatten.length<=vs.size:=by
        rcases Nat.eq_zero_or_pos rows.flatten.length with h0|h0
        .omega
        .obtain⟨v,hv,_⟩:=hcell (rows.flatten.length-1) _ (Qm (by simp only[slc];omega));have:=(Qp.1 hv).1;omega
       have hst:=run_storeCells_at P b (i*sz+off) T (act.eval x).cells.toList 0 vs w hw (by rw[hvn];simp;omega) (fun v hv=>by
        obtain⟨k,hk⟩:=SN hv;have hkl:=(Qh.1 hk).1;obtain⟨v',hv',hrd⟩:=JE hvs k _ (Qm (by omega:k<xs.length));rw[hk]at hv';cases hv'
        exact JD (Dk hone k _ (Qm om)) hrd)
       simp only[Sm]at hst
       obtain⟨r1,r2⟩:=FI r.rel (cur:=(vs.toList.take (i*sz+off)++(act.eval x).cells.toList++vs.toList.drop (i*sz+off+(act.eval x).cells.toList.length)).toArray) hl' rfl (q:=.a (.sl sz (setRows off xs i rows))) rfl hρ (by simp[A6,Gh.put,AI,AU,FY]) (by
        refine⟨rfl,Gp hfit hrows,.inr ⟨b,M,_,T,hρ,setRow_heap w b vs _ T _ hw,by rw[hvn];simp at hvn|-;omega,fun j z hz=> ?_⟩⟩;replace hz:(setRows off xs i rows).flatten[j]? =some z:=hz;rw[Eu hfit hrows hi]at hz
        obtain⟨v,hv,hrv⟩:=DZ (R:=fun d v=>v.oneCell'=true/\RD G.m d v) (cs:=rows.flatten) (xs:=xs) (vs:=vs.toList) (us:=(act.eval x).cells.toList) (off:=i*sz+off) (by rw[hfl];omega) (by simpa using hvl2) hvn
         (fun k x hx=>by obtain⟨v,h1,h2⟩:=hcell k x hx;exact⟨v,by simpa using h1,h2⟩)
         (fun k x hx=>by
          obtain⟨v,h1,h2⟩:=JE hvs k x hx
          exact⟨v,h1,JD (Dk hone k x hx) h2,h2⟩) j z hz
        exact⟨v,by simpa using hv,hrv⟩)
       have key:(Instr.storeAt t (act.eval a) (act.eval x)).run P w= .ok () (w.setRow b (vs.toList.take (i*sz+off)++(act.eval x).cells.toList++vs.toList.drop (i*sz+off+(act.eval x).cells.toList.length)).toArray):=by
        rw[hva];simp only[Instr.storeAt,Instr.sureAddr,Qr,Qu,Ql,storeVar,AG hy];rw[Rw (by simp at hvn;omega)];exact hst
       refine⟨.skip,_,_,?_,.inl ⟨rfl,rfl⟩,?_,r1,r2⟩
       .unfold execOp;simp only[ho,Qr,key,Ql,Qu]
       .show G.H.set id _=S.H.set id _;rw[r.heap]
      .cases h
     .cases h
    .cases h
   .cases h
  .cases h
 .cases h
theorem Ea{env:R9}{H:RE}{op:Op}{r:Bool×RE}(h:Mc E env H op=some r):∀c,op≠ .defer c:=fun c e=>by subst e;cases h
section
variable {P:Program}{ro:Qt}{E:Nat->Option AK}{ops:R0}{i:Nat}{rest:R1}{Q:Exit->St->Prop}{o:Oper}{en:R9}{hp:RE}{nt:Nat}{S0:St}{A:Prop}{acc:List Rc}
theorem Xsc(hE:Ai P E){c:Bool}{H' H'':RE}{e:R9}(hg:A4 ops en o=some true)(h:Mc E en hp o.op=some (c,H'))(hd:AA o.dst nt=true)(he:AL o.dst .u en=some e)
  (k:Wl P ro ops (i+1) rest ⟨e,H'',nt⟩ Q) (hc:c=true) (hH:H'=H'':=by first|(simp only[nS];rfl)|rfl):Wl P ro ops i (o::rest) ⟨en,hp,nt⟩ Q:=by
 subst hH;rw[AE he]at k;exact FN hg (KU (S:=⟨en,hp,nt⟩) hE h hc) (Ea h) hd k
end
end Go.Gar
namespace Go.Gar
open Go.ChangeShapes Go.WideShapes Go.ChangeAt Go.RowKit
end Go.Gar
namespace Go.Gar
theorem PI:(∀(α β:Type)(f:α->β)(a b:List α),(a++b).map f=a.map f++b.map f)/\(∀(α β:Type)(f:α->β)(x:α)(a:List α),(x::a).map f=f x::a.map f)/\(∀(α β:Type)(f:α->β),([]:List α).map f=[])/\
  (∀(α:Type)(a b:List α),(a++b).length=a.length+b.length)/\(∀(α:Type)(x:α)(a:List α),(x::a).length=a.length+1)/\(∀(α:Type),([]:List α).length=0)/\(∀(α β:Type)(f:α->β)(a:List α),(a.map f).length=a.length):=
 ⟨fun _ _ _ _ _=>Sl,fun _ _ _ _ _=>rfl,fun _ _ _=>rfl,fun _ _ _=>RH,fun _ _ _=>rfl,fun _=>rfl,fun _ _ _ _=>Rh _⟩
variable {S S':St}
theorem A3.cn(hn:S'.n=S.n)(he:Dw S'.env S.env:=by repeat'(first|exact Rk|refine RI (by(first|rfl|((with_reducible_and_instances refine congrArg (fun z=>some (AV.d (D.i _ z))) ?_);omega)|(refine congrArg (fun z=>some (AV.d (D.i _ z))) (?_:(_:Int)=_);omega)|(refine congrArg some ?_;simp only[PI,nC];done)|(refine congrArg some ?_;simp[nC];done))) ?_))(hH:B0 S'.H S.H:=by repeat'(first|exact Rk|refine RI (Or.inr rfl) ?_|refine RI (Or.inl ⟨rfl,rfl⟩) ?_|refine RI (Or.inr (by simp only[PI,nC])) ?_|refine RI (Or.inr (by simp only[PI,nC];rfl)) ?_|refine RI (Or.inr (by simp[nC])) ?_))(ho:AM S'.H.length S'.H=true:=by first|rfl|(simp(decide:=true) [AM,A2.ok,AV.oks,AV.ok];done)|(simp(decide:=true) [AM,A2.ok,AV.oks,AV.ok,hk];done))(heo:Bn S'.H.length S'.env=true:=by rfl):A3 S S':=A3.cut hn he hH ho heo
def HM:List ResultVar->R9->R9
 |[],_=>[]
 | .tmp t::l,e=>match get e t with
  |some x=>(t,x)::HM l e
  |none=>HM l e
 | .cell a _::l,e=>match get e a with
  |some x=>(a,x)::HM l e
  |none=>HM l e
section
variable {P:Program}{E:Nat->Option AK}{f:FuncId}{fn:Func}{c:Code}
theorem zF(hE:Ai P E)(hf:P.funcs[f]? =some fn){ds:R6}{r:D}(h:W P none c ⟨Cu 0 (ds.map .d),[],fn.ntmps⟩ (G9 fun S'=>∃cc x,C8 E S'.env S'.H fn.results.toList=some (cc,x)/\cc=true/\Bg S'.H x r))
  (hb:fn.body=some c:=by rfl) (hname:(fn.name== "runtime.NumGoroutine")=false:=by rfl) (hn:ds.length<=fn.ntmps:=by exact SH rfl):Fn P f ds r:=Nb hE hf hb hname hn h
variable {R:AV->RE->Prop}
theorem zT(hE:Ai P E)(hf:P.funcs[f]? =some fn){args:R8}{H:RE}(h:W P none c ⟨Cu 0 args,H,fn.ntmps⟩ (G9 fun S0=>∃S',A3 S0 S'/\H.length<=S'.H.length/\∃cc x,C8 E S'.env S'.H fn.results.toList=some (cc,x)/\cc=true/\R x S'.H))(hb:fn.body=some c:=by rfl)(hname:(fn.name== "runtime.NumGoroutine")=false:=by rfl)(hn:args.length<=fn.ntmps:=by exact SH rfl):Bv P f args H R:=II hE hf hb hname hn h
theorem zD(hE:Ai P E)(hf:P.funcs[f]? =some fn){args:R8}{H:RE}{r:AV}{H':RE}
  (h:W P none c ⟨Cu 0 args,H,fn.ntmps⟩ (G9 fun S0=>∃S',A3 S0 S'/\H.length<=S'.H.length/\∃cc x,C8 E S'.env S'.H fn.results.toList=some (cc,x)/\cc=true/\x=r/\S'.H=H'))
  (hb:fn.body=some c:=by rfl) (hname:(fn.name== "runtime.NumGoroutine")=false:=by rfl) (hn:args.length<=fn.ntmps:=by exact SH rfl):Df P f args H r H':=Lr hE hf hb hname hn h
theorem zR{id n:Nat}{r:Lp}{body:Code}{en:R9}{hp hp':RE}{nt:Nat}(k:W P (some id) body ⟨en,hp',nt⟩ (QA id n r R))(h1:hp[id]? =some (.lp r):=by rfl)(h2:hp.set id (.lp r.busy)=hp':=by first|(simp only[EN,CU,Nat.reduceAdd,Int.reduceAdd,Int.reduceSub,Int.reduceMul,Int.reduceToNat];done)|(simp only[EN,CU,Nat.reduceAdd,Int.reduceAdd,Int.reduceSub,Int.reduceMul,Int.reduceToNat];rfl)|rfl):QAs P id n r body R .normal ⟨en,hp,nt⟩:=by
 subst h2;exact⟨h1,k⟩
variable {rs:List ResultVar}
theorem L0{S:St}{r:D}{cc:Bool}{x:AV}{p:Prop}(n:p)(he:C8 E S.env S.H rs=some (cc,x):=by rfl)(hc:cc=true:=by rfl)(hf:p->Bg S.H x r:=by intro nE;simp[L1,AI,Af,AX,nE]):∃cc x,C8 E S.env S.H rs=some (cc,x)/\cc=true/\Bg S.H x r:=⟨cc,x,he,hc,hf n⟩
theorem zE{S:St}{r:D}{cc:Bool}{x:AV}(he:C8 E S.env S.H rs=some (cc,x):=by rfl)(hc:cc=true:=by rfl)(hf:Bg S.H x r:=by simp[L1,AI,Af,AX]):∃cc x,C8 E S.env S.H rs=some (cc,x)/\cc=true/\Bg S.H x r:=⟨cc,x,he,hc,hf⟩
end
theorem A3.cm(hn:S'.n=S.n)(he:Dw S'.env S.env:=by repeat'(first|exact Rk|refine RI (by(first|rfl|((with_reducible_and_instances refine congrArg (fun z=>some (AV.d (D.i _ z))) ?_);omega)|(refine congrArg some ?_;simp only[PI];done)|(refine congrArg some ?_;simp;done))) ?_))(hH:B0 S'.H S.H:=by repeat'(first|exact Rk|refine RI (Or.inr rfl) ?_|refine RI (Or.inl ⟨rfl,rfl⟩) ?_|refine RI (Or.inr (by simp only[PI])) ?_|refine RI (Or.inr (by simp only[PI];rfl)) ?_|refine RI (Or.inr sm) ?_))(ho:AM S'.H.length S'.H=true:=by first|rfl|(simp(decide:=true) [AM,A2.ok,AV.oks,AV.ok];done)|(simp(decide:=true) [AM,A2.ok,AV.oks,AV.ok,hk];done))(heo:Bn S'.H.length S'.env=true:=by rfl):A3 S S':=A3.cut hn he hH ho heo
theorem zG{P:Program}{ro:Qt}{Q:Exit->St->Prop}{g:Operand}{ps:Array Tmp}{asg body:Code}{f:FuncId}{first cap xs:R8}{L:Nat}{F:Lp->RE}{en:R9}{hp:RE}{nt:Nat}(K:Lp->AV->RE->Prop)
  (seq:∀r,r.is nt en ps asg body->Bv P f xs (F r) (K r))
  (k:∀r,r.is nt en ps asg body->∀x H',K r x H'->
   (H'[L]? =some (.lp r)/\Q .normal ⟨en,H'.set L (.lp r.out),nt⟩)\/
   ∃c,H'[L]? =some (.lp (r.left c))/\W P ro c ⟨en,H'.set L (.lp (r.left c).out),nt⟩ Q)
  (hg:Bh en g=some (.fn (.func f) first cap):=by exact rfl) (hL:hp.length=L:=by first|(simp only[EN,CU,Nat.reduceAdd,Int.reduceAdd,Int.reduceSub,Int.reduceMul,Int.reduceToNat];done)|(simp only[EN,CU,Nat.reduceAdd,Int.reduceAdd,Int.reduceSub,Int.reduceMul,Int.reduceToNat];rfl)|rfl) (hxs:first++[.yl L]++cap=xs:=by first|(simp only[EN,CU,Nat.reduceAdd,Int.reduceAdd,Int.reduceSub,Int.reduceMul,Int.reduceToNat];done)|(simp only[EN,CU,Nat.reduceAdd,Int.reduceAdd,Int.reduceSub,Int.reduceMul,Int.reduceToNat];rfl)|rfl) (hF:∀r,hp++[.lp r]=F r:=by intro r;first|(simp only[EN,CU,Nat.reduceAdd,Int.reduceAdd,Int.reduceSub,Int.reduceMul,Int.reduceToNat];done)|(simp only[EN,CU,Nat.reduceAdd,Int.reduceAdd,Int.reduceSub,Int.reduceMul,Int.reduceToNat];rfl)|rfl):W P ro (.rangeFunc g ps asg body) ⟨en,hp,nt⟩ Q:=
 M1 K hg hL hxs hF seq k
theorem CT0:(∀(α:Type)(a b c:List α),(a++b)++c=a++(b++c))/\(∀(α:Type)(a:List α),a++[]=a)/\(∀(α:Type)(a:List α),[]++a=a)/\(∀(α:Type)(x:α)(a b:List α),(x::a)++b=x::(a++b))/\(∀(α:Type)(a:List α),a.take 0=[])/\(∀(α:Type)(p:α->Bool),([]:List α).any p=false)/\
  (∀(α:Type)(p:α->Bool),([]:List α).filter p=[])/\(∀(α β:Type)(f:β->α->β)(x:β),([]:List α).foldl f x=x)/\(∀(α:Type)(a b:α),(if True then a else b)=a)/\(∀(α:Type)(a b:α),(if False then a else b)=b)/\(∀b:Bool,(true||b)=true)/\(∀b:Bool,(false||b)=b):=by
 simp
theorem A3.co(hn:S'.n=S.n)(he:Dw S'.env S.env:=by repeat'(first|exact Rk|refine RI (by(first|rfl|((with_reducible_and_instances refine congrArg (fun z=>some (AV.d (D.i _ z))) ?_);omega)|(refine congrArg (fun z=>some (AV.d (D.i _ z))) (?_:(_:Int)=_);omega)|(refine congrArg some ?_;simp only[CT0,nC,Int.reduceEq,SG,SY,Nat.add_sub_cancel,Nat.succ_ne_zero];done)|(refine congrArg some ?_;simp[nC];done))) ?_))(hH:B0 S'.H S.H:=by repeat'(first|exact Rk|refine RI (Or.inr rfl) ?_|refine RI (Or.inl ⟨rfl,rfl⟩) ?_|refine RI (Or.inr (by simp only[CT0,nC,Int.reduceEq,SG,SY,Nat.add_sub_cancel,Nat.succ_ne_zero])) ?_|refine RI (Or.inr (by simp only[CT0,nC,Int.reduceEq,SG,SY,Nat.add_sub_cancel,Nat.succ_ne_zero];rfl)) ?_|refine RI (Or.inr (by simp[nC])) ?_))(ho:AM S'.H.length S'.H=true:=by first|rfl|(simp(decide:=true) [AM,A2.ok,AV.oks,AV.ok];done)|(simp(decide:=true) [AM,A2.ok,AV.oks,AV.ok,hk];done))(heo:Bn S'.H.length S'.env=true:=by rfl):A3 S S':=A3.cut hn he hH ho heo
theorem wE{E:Nat->Option AK}{n:Nat}{rs:List ResultVar}{r x:AV}{c:Bool}{H':RE}(t:A3 S ⟨HM rs S.env,H',S.n⟩:=by exact A3.ck rfl)(hl:n<=H'.length:=by first|exact SH rfl|exact Qn _|exact RN _|exact Nat.le_add_right _ _)(he:C8 E (HM rs S.env) H' rs=some (c,x):=by rfl)(hc:c=true:=by rfl)(hx:x=r:=by first|rfl|(refine congrArg (fun z=>AV.d (D.i _ z)) ?_;omega)|(simp;done)):∃S',A3 S S'/\n<=S'.H.length/\∃cc x,C8 E S'.env S'.H rs=some (cc,x)/\cc=true/\x=r/\S'.H=H':=⟨_,t,hl,_,_,he,hc,hx,rfl⟩
end Go.Gar
namespace Go.Gar
def OP(S:St)(C:St->Prop):Prop:=∀ro N G a w,Rel ro N S G a w->∃S' G',C S'/\Rel ro N S' G' a w/\IL G G'
def Gh.D5(G:Gh)(id b N:Nat)(l:A5):Gh:={ρ:=fun j=>if j=G.H.length then some (b,N)else G.ρ j,H:=G.H.set id .gone++[.D5 b N l],m:=G.m}
theorem Rel.HV{ro:Qt}{N:NB}{S:St}{G G':Gh}{a:Act}{w:World}(r:Rel ro N S G a w){env:R9}(hr:AD G' w)(t:IL G G')(he:Cj G' env a.tmps)(hro:∀id q,G.H[id]? =some (.lp q)->G'.H[id]? =some (.lp q)/\G'.ρ id=G.ρ id):Rel ro N ⟨env,G'.H,S.n⟩ G' a w:=
 ⟨rfl,hr,r.size,he,r.marks.HV t,fun id hid=>by
  obtain⟨q,l,M,q1,q2⟩:=r.round id hid;rw[<-r.heap]at q1;obtain⟨h1,h2⟩:=hro id q q1
  exact⟨q,l,M,h1,h2.trans q2⟩⟩
end Go.Gar
namespace Go.Gar
abbrev Rows:=List (Option (Nat×Nat×A5))
def F5(u:Value)(l:A5)(r:Option (Nat×Nat×A5)):Prop:=
 (∃b N,u= .slice (some ⟨b,0,none⟩) l.length N/\r=some (b,N,l)/\l.length<=N/\N<=maxLen)\/(l=[]/\r=none/\∃a,u= .slice a 0 0)
variable {l:A5}{r:Option (Nat×Nat×A5)}
theorem F5.one{u:Value}(h:F5 u l r):u.oneCell'=true:=by
 rcases h with⟨b,N,rfl,_⟩|⟨_,_,a,rfl⟩<;>rfl
theorem Gd(a b:Rows):BX (a++b)=BX a++BX b:=by simp[BX]
def Gh.two(G:Gh)(i j:Nat)(x y:A2):Gh:={ρ:=G.ρ,H:=(G.H.set i x).set j y,m:=G.m}
variable {G:Gh}{j k:Nat}
theorem Bu{i:Nat}{x y:A2}{q:A2}(h:(G.two i j x y).H[k]? =some q):(k=j/\q=y)\/(k≠j/\k=i/\q=x)\/(k≠j/\k≠i/\G.H[k]? =some q):=by
 have h:((G.H.set i x).set j y)[k]? =some q:=h
 by_cases e:k=j
 .subst e;have hlt:k<G.H.length:=by have:=(Qh.1 h).1;simpa using this
  rw[Qs (by simpa using hlt)]at h;cases h;exact .inl ⟨rfl,rfl⟩
 .rw[RG (Ne.symm e)]at h
  by_cases e':k=i
  .subst e';have hlt:k<G.H.length:=by have:=(Qh.1 h).1;simpa using this
   rw[Qs hlt]at h;cases h;exact .inr (.inl ⟨e,rfl,rfl⟩)
  .rw[RG (Ne.symm e')]at h;exact .inr (.inr ⟨e,e',h⟩)
variable {w:World}{ob:Nat}{rs:Rows}
theorem Ke(hr:AD G w){id:Nat}(hid:G.H[id]? =some (.a (.by l)))(hob:G.H[ob]? =some (.many rs))(hrow:(∃b N,r=some (b,N,l)/\G.ρ id=some (b,N)/\l.length<=N)\/r=none):AD (G.two id ob .gone (.many (rs++[r]))) w/\DN G (G.two id ob .gone (.many (rs++[r])))/\IL G (G.two id ob .gone (.many (rs++[r]))):=by
 have hne:id≠ob:=fun e=>by subst e;rw[hid]at hob;cases hob
 have l1:id<G.H.length:=(Qh.1 hid).1;have l2:ob<G.H.length:=(Qh.1 hob).1;let K:=G.two id ob .gone (.many (rs++[r]))
 have hst:∀{j:Nat}{x:A2},G.H[j]? =some x->∃y,K.H[j]? =some y/\A6 G K j x y:=by
  intro j x hx;have hj:j<G.H.length:=(Qh.1 hx).1;obtain⟨y,hy⟩:∃y,K.H[j]? =some y:=⟨_,Qm (by show j<((G.H.set id .gone).set ob _).length;simpa using hj)⟩;refine⟨y,hy,?_⟩;rcases Bu hy with⟨rfl,rfl⟩|⟨_,rfl,rfl⟩|⟨_,_,h⟩
  .rw[hob]at hx;cases hx;trivial
  .rw[hid]at hx;cases hx;trivial
  .rw[h]at hx;cases hx;cases x<;>simp[A6,K,Gh.two]
 have hgle:DN G K:=⟨fun j x hx=>hst hx,Mem.le_refl _⟩
 have new:∀c,c∈BX [r]->∃N,G.ρ id=some (c,N):=by
  intro c hc;obtain⟨N,l',hm⟩:=C4.1 hc;rcases hrow with⟨b,N',rfl,h1,_⟩|rfl
  .simp at hm;obtain⟨rfl,rfl,rfl⟩:=hm;exact⟨N,h1⟩
  .simp at hm
 have hP:∀c,B8 K c->B8 G c/\∀N,G.ρ id≠some (c,N):=by
  rintro c ⟨j,M,q,hq,lq,hc⟩;have hc:G.ρ j=some (c,M):=hc;rcases Bu hq with⟨rfl,rfl⟩|⟨_,rfl,rfl⟩|⟨_,n2,h⟩
  .simp[A2.live]at lq
  .simp[A2.live]at lq
  .exact⟨⟨j,M,q,h,lq,hc⟩,fun N hN=>n2 (hr.inj j id q _ c M N h hid lq rfl hc hN)⟩
 have hS:∀(j:Nat)(rs':Rows)(c:Nat),K.H[j]? =some (.many rs')->c∈BX rs'->(∃rs0,G.H[j]? =some (.many rs0)/\c∈BX rs0)\/(j=ob/\∃N,G.ρ id=some (c,N)):=by
  intro j rs' c hj hc;rcases Bu hj with⟨rfl,e⟩|⟨_,_,e⟩|⟨_,_,h⟩
  .cases e;rw[Gd,TI]at hc;rcases hc with hc|hc
   .exact .inl ⟨rs,hob,hc⟩
   .exact .inr ⟨rfl,new c hc⟩
  .cases e
  .exact .inl ⟨rs',h,hc⟩
 have own:∀c,Own K c->Own G c:=by
  rintro c (h|⟨j,rs',hj,hc⟩)
  .exact .inl (hP c h).1
  .rcases hS j rs' c hj hc with⟨rs0,h1,h2⟩|⟨_,N,hN⟩
   .exact .inr ⟨j,rs0,h1,h2⟩
   .exact .inl ⟨id,N,_,hid,rfl,hN⟩
 refine⟨⟨fun j q hq=> ?_,fun i j p q c M M' hp hq lp lq r1 r2=> ?_,hr.mem,fun c hc=>hr.sep c (own c hc),hr.st,fun j rs' hj=>⟨?_,fun c hc=>⟨fun ho=> ?_,fun j' rs'' hj' hc'=> ?_⟩⟩⟩,hgle,
  ⟨fun j x y hx hy=>by obtain⟨y',h1,h2⟩:=hst hx;rw[hy]at h1;cases h1;exact h2,Mem.le_refl _,own,fun _ _ _ h=> .inl h⟩⟩
 .rcases Bu hq with⟨rfl,rfl⟩|⟨_,rfl,rfl⟩|⟨_,_,h⟩
  .intro b N l' hm;rw[TI]at hm;rcases hm with hm|hm
   .exact hr.blk _ _ hob b N l' hm
   .rcases hrow with⟨b',N',rfl,h1,h2⟩|rfl
    .simp at hm;obtain⟨rfl,rfl,rfl⟩:=hm;obtain⟨_,_,hB⟩:=hr.blk id _ hid;rcases hB with⟨_,hn⟩|⟨b2,N2,vs,T,e1,e2,e3,e4⟩
     .rw[h1]at hn;cases hn
     .rw[h1]at e1;cases e1;refine⟨vs,T,e2,e3,h2,fun k x hx=> ?_⟩;obtain⟨v,hv,_,hd⟩:=e4 k (.i .u8 (x.toNat:Int)) (by simp only[slc,RX,hx,Option.map_some]);simp only[RD]at hd;rw[hv,hd]
    .simp at hm
  .trivial
  .exact(hr.blk j q h).Gz hgle (fun _ _ _ _=>rfl) rfl
 .have back:∀{i:Nat}{p:A2},K.H[i]? =some p->p.live=true->G.H[i]? =some p:=by
   intro i p hp lp;rcases Bu hp with⟨_,rfl⟩|⟨_,_,rfl⟩|⟨_,_,h⟩
   .simp[A2.live]at lp
   .simp[A2.live]at lp
   .exact h
  exact hr.inj i j p q c M M' (back hp lp) (back hq lq) lp lq r1 r2
 .rcases Bu hj with⟨rfl,e⟩|⟨_,_,e⟩|⟨_,_,h⟩
  .cases e;rw[Gd];refine List.nodup_append.2 ⟨(hr.mny _ rs hob).1,?_,fun c hc c' hc' e=> ?_⟩
   .cases r with
    |none=>simp[BX]
    |some p=>simp[BX]
   .subst e;obtain⟨N,hN⟩:=new c hc';exact((hr.mny _ rs hob).2 c hc).1 ⟨id,N,_,hid,rfl,hN⟩
  .cases e
  .exact(hr.mny j rs' h).1
 .rcases hS j rs' c hj hc with⟨rs0,h1,h2⟩|⟨_,N,hN⟩
  .exact((hr.mny j rs0 h1).2 c h2).1 (hP c ho).1
  .exact(hP c ho).2 N hN
 .rcases hS j rs' c hj hc with⟨rs0,h1,h2⟩|⟨e,N,hN⟩<;>rcases hS j' rs'' c hj' hc' with⟨rs1,h3,h4⟩|⟨e',N',hN'⟩
  .exact((hr.mny j rs0 h1).2 c h2).2 j' rs1 h3 h4
  .exact absurd ⟨id,N',_,hid,rfl,hN'⟩ ((hr.mny j rs0 h1).2 c h2).1
  .exact absurd ⟨id,N,_,hid,rfl,hN⟩ ((hr.mny j' rs1 h3).2 c h4).1
  .rw[e,e']
theorem HW{i:Nat}{x y:A2}{q:Lp}(hi:∀q,G.H[i]?≠some (.lp q))(hj:∀q,G.H[j]?≠some (.lp q))(h:G.H[k]? =some (.lp q)):(G.two i j x y).H[k]? =some (.lp q):=by
 show((G.H.set i x).set j y)[k]? =_;rw[RG (fun e=>by subst e;exact hj q h),RG (fun e=>by subst e;exact hi q h)];exact h
variable {S:St}
theorem OP.OR(t id ob:Nat){d1 d2:D}(ht:get S.env t=some (.ag [.d d1,.sl id l.length 1,.d d2]))(hid:S.H[id]? =some (.a (.by l)))(hob:S.H[ob]? =some (.many rs)):
  OP S fun S'=>∃u r,F5 u l r/\S'=⟨(t,.d (.agg [d1,.raw u,d2]))::S.env,(S.H.set id .gone).set ob (.many (rs++[r])),S.n⟩:=by
 intro ro M G a w r;have hid':G.H[id]? =some (.a (.by l)):=by rw[r.heap];exact hid
 have hob':G.H[ob]? =some (.many rs):=by rw[r.heap];exact hob
 obtain⟨v,hv,hrv⟩:=r.env t _ ht;simp only[RV,AH]at hrv;obtain⟨us,rfl,u1,_,rfl,h1,u2,_,rfl,⟨h1c,blk,hb,hp⟩,u3,_,rfl,h3,rfl⟩:=hrv;rw[hid']at hb;cases hb;obtain⟨_,_,hp⟩:=hp
 have key:∃row,F5 u2 l row/\((∃b N,row=some (b,N,l)/\G.ρ id=some (b,N)/\l.length<=N)\/row=none):=by
  rcases hp rfl with⟨e,a',e'⟩|⟨b,N,cap,hρ,e',hc1,hc2,e3⟩
  .have:l=[]:=List.length_eq_zero_iff.1 e;subst this;exact⟨none,.inr ⟨rfl,rfl,a',e'⟩,.inr rfl⟩
  .rw[SE]at e3;subst e3;exact⟨some (b,N,l),.inl ⟨b,N,e',rfl,hc1,hc2⟩,.inl ⟨b,N,rfl,hρ,hc1⟩⟩
 obtain⟨row,k0,hrow⟩:=key;obtain⟨k1,k2,k3⟩:=Ke r.rel hid' hob' hrow;refine⟨_,_,⟨u2,row,k0,rfl⟩,?_,k3⟩;have:=r.HV (env:=(t,.d (.agg [d1,.raw u2,d2]))::S.env) k1 k3 (fun s y hy=> ?_) (fun j q hj=>⟨HW (fun q h=>by rw[hid']at h;cases h) (fun q h=>by rw[hob']at h;cases h) hj,rfl⟩)
 .have e:(G.two id ob .gone (.many (rs++[row]))).H=(S.H.set id .gone).set ob (.many (rs++[row])):=by show(G.H.set id .gone).set ob _=_;rw[r.heap]
  rw[e]at this;exact this
 .simp only[get]at hy;split at hy
  .rename_i hts;have:=Qi hts;subst this;cases hy;refine⟨_,hv,?_⟩;simp only[RV,RD,BJ];exact⟨_,rfl,_,_,rfl,h1.mono k2.mem,_,_,rfl,⟨rfl,k0.one⟩,_,_,rfl,h3.mono k2.mem,rfl⟩
  .obtain⟨z,hz,hrz⟩:=r.env s y hy;exact⟨z,hz,hrz.mono k2⟩
def Gh.Bl(G:Gh)(ob b N:Nat)(l:A5)(rs:Rows)(k:Nat):Gh:={ρ:=fun j=>if j=G.H.length then some (b,N)else G.ρ j,H:=G.H.set ob (.many (rs.set k none))++[.D5 b N l],m:=G.m}
theorem Kg{c:Nat}(h:c∈BX (rs.set k none)):c∈BX rs:=by
 obtain⟨N,l,hm⟩:=C4.1 h;rcases TK hm with hm|e
 .exact C4.2 ⟨N,l,hm⟩
 .cases e
variable {b N:Nat}
theorem H5(h:(BX rs).Nodup)(hk:rs[k]? =some (some (b,N,l))):(BX (rs.set k none)).Nodup/\b∉BX (rs.set k none):=by
 induction rs generalizing k with
 |nil=>simp at hk
 |cons r rs ih=>
  cases k with
  |zero=>
   simp at hk;subst hk;simp only[BX,Rt,List.filterMap_cons,Option.map_some,Option.map_none,Sj]at h|-;exact⟨h.2,h.1⟩
  |succ k=>
   have hk:rs[k]? =some (some (b,N,l)):=by simpa using hk
   have hmem:b∈BX rs:=C4.2 ⟨N,l,Ro hk⟩
   cases r with
   |none=>
    have h':(BX rs).Nodup:=by simpa[BX]using h
    simpa[BX,Rj]using ih h' hk
   |some p=>
    have h':p.1∉BX rs/\(BX rs).Nodup:=by simpa[BX,Sj]using h
    obtain⟨i1,i2⟩:=ih h'.2 hk;refine⟨?_,?_⟩
    .have:(p.1∉BX (rs.set k none))/\(BX (rs.set k none)).Nodup:=⟨fun hc=>h'.1 (Kg hc),i1⟩;simpa[BX,Sj,Rj]using this
    .intro hc;have hc:b=p.1\/b∈BX (rs.set k none):=by simpa[BX,Rj]using hc
     rcases hc with e|hc
     .exact h'.1 (by rw[<-e];exact hmem)
     .exact i2 hc
theorem BV{q:A2}(h:(G.Bl ob b N l rs k).H[j]? =some q):(j=G.H.length/\q= .D5 b N l)\/(j<G.H.length/\j=ob/\q= .many (rs.set k none))\/(j<G.H.length/\j≠ob/\G.H[j]? =some q):=by
 have h:(G.H.set ob (.many (rs.set k none))++[.D5 b N l])[j]? =some q:=h;rcases RJ j G.H.length with hj|hj
 .rw[Qq (by simpa using hj),List.getElem?_set]at h
  by_cases e:ob=j
  .subst e;rw[Rf rfl,Rf hj]at h;cases h;exact .inr (.inl ⟨hj,rfl,rfl⟩)
  .rw[Rw e]at h;exact .inr (.inr ⟨hj,Ne.symm e,h⟩)
 .rw[Qx (by simpa using hj)]at h;simp only[SS]at h
  have:j-G.H.length=0:=by
   have:=(Qh.1 h).1;simp at this;omega
  rw[this]at h;simp at h;exact .inl ⟨om,h.symm⟩
theorem Jt(hr:AD G w)(hob:G.H[ob]? =some (.many rs))(hk:rs[k]? =some (some (b,N,l))):
  AD (G.Bl ob b N l rs k) w/\DN G (G.Bl ob b N l rs k)/\IL G (G.Bl ob b N l rs k):=by
 have hlt:ob<G.H.length:=(Qh.1 hob).1;have hmem:some (b,N,l)∈rs:=Ro hk;have hocc:b∈BX rs:=C4.2 ⟨N,l,hmem⟩;obtain⟨n1,n2⟩:=H5 (hr.mny ob rs hob).1 hk;let K:=G.Bl ob b N l rs k;have hρ':∀{j},j<G.H.length->K.ρ j=G.ρ j:=fun{j} hj=>Rw om
 have hρn:K.ρ G.H.length=some (b,N):=Rf rfl
 have hg:DN G K:=by
  refine⟨fun j p hp=> ?_,Mem.le_refl _⟩;have hj:j<G.H.length:=(Qh.1 hp).1
  by_cases e:j=ob
  .subst e;rw[hob]at hp;cases hp;exact⟨.many (rs.set k none),by show(G.H.set j _++_)[j]? =_;rw[Qq (by simpa using hj),Qs hj],trivial⟩
  .refine⟨p,by show(G.H.set ob _++_)[j]? =_;rw[Qq (by simpa using hj),RG (Ne.symm e)];exact hp,?_⟩;have:=hρ' hj;cases p<;>simp_all[A6]
 have hP:∀c,B8 K c->B8 G c\/c=b:=by
  rintro c ⟨j,M,q,hq,lq,hc⟩;rcases BV hq with⟨rfl,rfl⟩|⟨_,_,rfl⟩|⟨hj,_,h⟩
  .rw[hρn]at hc;cases hc;exact .inr rfl
  .simp[A2.live]at lq
  .rw[hρ' hj]at hc;exact .inl ⟨j,M,q,h,lq,hc⟩
 have hS:∀(j:Nat)(rs':Rows)(c:Nat),K.H[j]? =some (.many rs')->c∈BX rs'->c≠b/\∃rs0,G.H[j]? =some (.many rs0)/\c∈BX rs0:=by
  intro j rs' c hj hc;rcases BV hj with⟨_,e⟩|⟨_,rfl,e⟩|⟨_,ne,h⟩
  .cases e
  .cases e;exact⟨fun e=>by subst e;exact n2 hc,rs,hob,Kg hc⟩
  .exact⟨fun e=>by subst e;exact ne (((hr.mny ob rs hob).2 c hocc).2 j rs' h hc),rs',h,hc⟩
 have own:∀c,Own K c->Own G c:=by
  rintro c (h|⟨j,rs',hj,hc⟩)
  .rcases hP c h with h|rfl
   .exact .inl h
   .exact .inr ⟨ob,rs,hob,hocc⟩
  .obtain⟨_,rs0,h1,h2⟩:=hS j rs' c hj hc;exact .inr ⟨j,rs0,h1,h2⟩
 refine⟨⟨fun j p hp=> ?_,fun i j p q c M M' hp hq lp lq r1 r2=> ?_,hr.mem,fun c hc=>hr.sep c (own c hc),hr.st,fun j rs' hj=>⟨?_,fun c hc=>⟨fun ho=> ?_,fun j' rs'' hj' hc'=> ?_⟩⟩⟩,hg,⟨fun j p p' hp hp'=> ?_,Mem.le_refl _,own,fun _ _ _ h=> .inl h⟩⟩
 .rcases BV hp with⟨rfl,rfl⟩|⟨_,rfl,rfl⟩|⟨hj,_,h⟩
  .obtain⟨vs,T,h2,h3,h4,h5⟩:=hr.blk ob _ hob b N l hmem;exact⟨vs,T,hρn,h2,h3,h4,h5⟩
  .intro b' N' l' hm;rcases TK hm with hm|e
   .exact hr.blk _ _ hob b' N' l' hm
   .cases e
  .exact(hr.blk j p h).Gz hg (fun _ _ _ _=>rfl) (hρ' hj)
 .rcases BV hp with⟨rfl,rfl⟩|⟨_,_,rfl⟩|⟨hi,_,h⟩
  .rcases BV hq with⟨rfl,rfl⟩|⟨_,_,rfl⟩|⟨hj,_,h'⟩
   .rfl
   .simp[A2.live]at lq
   .rw[hρn]at r1;cases r1;rw[hρ' hj]at r2;exact absurd ⟨j,M',q,h',lq,r2⟩ ((hr.mny ob rs hob).2 b hocc).1
  .simp[A2.live]at lp
  .rcases BV hq with⟨rfl,rfl⟩|⟨_,_,rfl⟩|⟨hj,_,h'⟩
   .rw[hρn]at r2;cases r2;rw[hρ' hi]at r1;exact absurd ⟨i,M,p,h,lp,r1⟩ ((hr.mny ob rs hob).2 b hocc).1
   .simp[A2.live]at lq
   .rw[hρ' hi]at r1;rw[hρ' hj]at r2;exact hr.inj i j p q c M M' h h' lp lq r1 r2
 .rcases BV hj with⟨_,e⟩|⟨_,rfl,e⟩|⟨_,_,h⟩
  .cases e
  .cases e;exact n1
  .exact(hr.mny j rs' h).1
 .obtain⟨nb,rs0,h1,h2⟩:=hS j rs' c hj hc;rcases hP c ho with ho|e
  .exact((hr.mny j rs0 h1).2 c h2).1 ho
  .exact nb e
 .obtain⟨_,rs0,h1,h2⟩:=hS j rs' c hj hc;obtain⟨_,rs1,h3,h4⟩:=hS j' rs'' c hj' hc';exact((hr.mny j rs0 h1).2 c h2).2 j' rs1 h3 h4
 .have hj:j<G.H.length:=(Qh.1 hp).1;rcases BV hp' with⟨rfl,rfl⟩|⟨_,rfl,rfl⟩|⟨_,_,h⟩
  .omega
  .rw[hob]at hp;cases hp;trivial
  .rw[h]at hp;cases hp;have e:(G.Bl ob b N l rs k).ρ j=G.ρ j:=hρ' hj;cases p<;>simp[A6,e]
theorem A3.Bl(ob k:Nat)(hob:S.H[ob]? =some (.many rs))(hk:rs[k]? =some (some (b,N,l))):A3 S ⟨S.env,S.H.set ob (.many (rs.set k none))++[.D5 b N l],S.n⟩:=by
 intro ro M G a w r _;have hob':G.H[ob]? =some (.many rs):=by rw[r.heap];exact hob
 obtain⟨k1,k2,k3⟩:=Jt r.rel hob' hk;have:=r.HV (env:=S.env) k1 k3 (r.env.mono k2) (fun j q hj=> ?_)
 .have e:(G.Bl ob b N l rs k).H=S.H.set ob (.many (rs.set k none))++[.D5 b N l]:=by show G.H.set ob _++_=_;rw[r.heap]
  rw[e]at this;exact⟨_,this,k3⟩
 .have hlt:j<G.H.length:=(Qh.1 hj).1;exact⟨by show(G.H.set ob _++_)[j]? =_;rw[Qq (by simpa using hlt),RG (fun e=>by subst e;rw[hob']at hj;cases hj)];exact hj,Rw om⟩
theorem O6(hr:AD G w){id:Nat}{blk:A2}{rs1:Rows}(hid:G.H[id]? =some blk)(hlv:blk.live=true)(hnl:blk.LR=false)(hob:G.H[ob]? =some (.many rs))(hin:∀b N l,some (b,N,l)∈rs1->some (b,N,l)∈rs\/(G.ρ id=some (b,N)/\∃vs T,w.heap[b]? =some (.cells vs T (0,0))/\vs.size=N/\l.length<=N/\∀(k:Nat)(x:UInt8),l[k]? =some x->vs[k]? =some (.int .u8 (x.toNat:Int))))(hnd:(BX rs1).Nodup):AD (G.two id ob .gone (.many rs1)) w/\DN G (G.two id ob .gone (.many rs1))/\IL G (G.two id ob .gone (.many rs1)):=by
 have hne:id≠ob:=fun e=>by subst e;rw[hid]at hob;cases hob;simp[A2.live]at hlv
 have l1:id<G.H.length:=(Qh.1 hid).1;have l2:ob<G.H.length:=(Qh.1 hob).1;let K:=G.two id ob .gone (.many rs1)
 have hst:∀{j:Nat}{x:A2},G.H[j]? =some x->∃y,K.H[j]? =some y/\A6 G K j x y:=by
  intro j x hx;have hj:j<G.H.length:=(Qh.1 hx).1;obtain⟨y,hy⟩:∃y,K.H[j]? =some y:=⟨_,Qm (by show j<((G.H.set id .gone).set ob _).length;simpa using hj)⟩;refine⟨y,hy,?_⟩;rcases Bu hy with⟨rfl,rfl⟩|⟨_,rfl,rfl⟩|⟨_,_,h⟩
  .rw[hob]at hx;cases hx;trivial
  .rw[hid]at hx;cases hx;cases blk<;>simp_all[A6,A2.LR]
  .rw[h]at hx;cases hx;cases x<;>simp[A6,K,Gh.two]
 have hgle:DN G K:=⟨fun j x hx=>hst hx,Mem.le_refl _⟩
 have hP:∀c,B8 K c->B8 G c/\∀N,G.ρ id≠some (c,N):=by
  rintro c ⟨j,M,q,hq,lq,hc⟩;have hc:G.ρ j=some (c,M):=hc;rcases Bu hq with⟨rfl,rfl⟩|⟨_,rfl,rfl⟩|⟨_,n2,h⟩
  .simp[A2.live]at lq
  .simp[A2.live]at lq
  .exact⟨⟨j,M,q,h,lq,hc⟩,fun N hN=>n2 (hr.inj j id q _ c M N h hid lq hlv hc hN)⟩
 have hS:∀(j:Nat)(rs':Rows)(c:Nat),K.H[j]? =some (.many rs')->c∈BX rs'->(∃rs0,G.H[j]? =some (.many rs0)/\c∈BX rs0)\/(j=ob/\∃N,G.ρ id=some (c,N)):=by
  intro j rs' c hj hc;rcases Bu hj with⟨rfl,e⟩|⟨_,_,e⟩|⟨_,_,h⟩
  .cases e;obtain⟨N,l,hm⟩:=C4.1 hc;rcases hin c N l hm with hm|⟨h,_⟩
   .exact .inl ⟨rs,hob,C4.2 ⟨N,l,hm⟩⟩
   .exact .inr ⟨rfl,N,h⟩
  .cases e
  .exact .inl ⟨rs',h,hc⟩
 have own:∀c,Own K c->Own G c:=by
  rintro c (h|⟨j,rs',hj,hc⟩)
  .exact .inl (hP c h).1
  .rcases hS j rs' c hj hc with⟨rs0,h1,h2⟩|⟨_,N,hN⟩
   .exact .inr ⟨j,rs0,h1,h2⟩
   .exact .inl ⟨id,N,_,hid,hlv,hN⟩
 refine⟨⟨fun j q hq=> ?_,fun i j p q c M M' hp hq lp lq r1 r2=> ?_,hr.mem,fun c hc=>hr.sep c (own c hc),hr.st,fun j rs' hj=>⟨?_,fun c hc=>⟨fun ho=> ?_,fun j' rs'' hj' hc'=> ?_⟩⟩⟩,hgle,
  ⟨fun j x y hx hy=>by obtain⟨y',h1,h2⟩:=hst hx;rw[hy]at h1;cases h1;exact h2,Mem.le_refl _,own,fun _ _ _ h=> .inl h⟩⟩
 .rcases Bu hq with⟨rfl,rfl⟩|⟨_,rfl,rfl⟩|⟨_,_,h⟩
  .intro b N l' hm;rcases hin b N l' hm with hm|⟨_,h⟩
   .exact hr.blk _ _ hob b N l' hm
   .exact h
  .trivial
  .exact(hr.blk j q h).Gz hgle (fun _ _ _ _=>rfl) rfl
 .have back:∀{i:Nat}{p:A2},K.H[i]? =some p->p.live=true->G.H[i]? =some p:=by
   intro i p hp lp;rcases Bu hp with⟨_,rfl⟩|⟨_,_,rfl⟩|⟨_,_,h⟩
   .simp[A2.live]at lp
   .simp[A2.live]at lp
   .exact h
  exact hr.inj i j p q c M M' (back hp lp) (back hq lq) lp lq r1 r2
 .rcases Bu hj with⟨rfl,e⟩|⟨_,_,e⟩|⟨_,_,h⟩
  .cases e;exact hnd
  .cases e
  .exact(hr.mny j rs' h).1
 .rcases hS j rs' c hj hc with⟨rs0,h1,h2⟩|⟨_,N,hN⟩
  .exact((hr.mny j rs0 h1).2 c h2).1 (hP c ho).1
  .exact(hP c ho).2 N hN
 .rcases hS j rs' c hj hc with⟨rs0,h1,h2⟩|⟨e,N,hN⟩<;>rcases hS j' rs'' c hj' hc' with⟨rs1,h3,h4⟩|⟨e',N',hN'⟩
  .exact((hr.mny j rs0 h1).2 c h2).2 j' rs1 h3 h4
  .exact absurd ⟨id,N',_,hid,hlv,hN'⟩ ((hr.mny j rs0 h1).2 c h2).1
  .exact absurd ⟨id,N,_,hid,hlv,hN⟩ ((hr.mny j' rs1 h3).2 c h4).1
  .rw[e,e']
theorem H4(h:(BX rs).Nodup)(hk:rs[k]? =some none)(hb:b∉BX rs):(BX (rs.set k (some (b,N,l)))).Nodup:=by
 have mem:∀{rs:Rows}{k:Nat}{c:Nat},c∈BX (rs.set k (some (b,N,l)))->c∈BX rs\/c=b:=by
  intro rs k c h;obtain⟨N',l',hm⟩:=C4.1 h;rcases TK hm with hm|e
  .exact .inl (C4.2 ⟨N',l',hm⟩)
  .cases e;exact .inr rfl
 induction rs generalizing k with
 |nil=>simp at hk
 |cons r rs ih=>
  cases k with
  |zero=>
   simp at hk;subst hk;have h':(BX rs).Nodup:=by simpa[BX]using h
   have hb':b∉BX rs:=by simpa[BX]using hb
   have:b∉BX rs/\(BX rs).Nodup:=⟨hb',h'⟩;simpa[BX,Sj]using this
  |succ k=>
   have hk:rs[k]? =some none:=by simpa using hk
   cases r with
   |none=>
    have h':(BX rs).Nodup:=by simpa[BX]using h
    have hb':b∉BX rs:=by simpa[BX]using hb
    simpa[BX,Rj]using ih h' hk hb'
   |some p=>
    have h':p.1∉BX rs/\(BX rs).Nodup:=by simpa[BX,Sj]using h
    have hb':b≠p.1/\b∉BX rs:=by simpa[BX]using hb
    have:(p.1∉BX (rs.set k (some (b,N,l))))/\(BX (rs.set k (some (b,N,l)))).Nodup:=⟨fun hc=>(mem hc).elim h'.1 (fun e=>hb'.1 e.symm),ih h'.2 hk hb'.2⟩;simpa[BX,Sj,Rj]using this
theorem A3.Gl(j ob k:Nat)(hj:S.H[j]? =some (.D5 b N l))(hob:S.H[ob]? =some (.many rs))(hk:rs[k]? =some none):
  A3 S ⟨S.env,(S.H.set j .gone).set ob (.many (rs.set k (some (b,N,l)))),S.n⟩:=by
 intro ro M G a w r _;have hj':G.H[j]? =some (.D5 b N l):=by rw[r.heap];exact hj
 have hob':G.H[ob]? =some (.many rs):=by rw[r.heap];exact hob
 obtain⟨vs,T,hρ,g1,g2,g3,g4⟩:=r.rel.blk j _ hj';have hb:b∉BX rs:=fun h=>((r.rel.mny ob rs hob').2 b h).1 ⟨j,N,_,hj',rfl,hρ⟩
 obtain⟨k1,k2,k3⟩:=O6 r.rel hj' rfl rfl hob' (rs1:=rs.set k (some (b,N,l))) (fun b' N' l' hm=>by
  rcases TK hm with hm|e
  .exact .inl hm
  .cases e;exact .inr ⟨hρ,vs,T,g1,g2,g3,g4⟩) (H4 (r.rel.mny ob rs hob').1 hk hb)
 have:=r.HV (env:=S.env) k1 k3 (r.env.mono k2) (fun i q hi=>⟨HW (fun q h=>by rw[hj']at h;cases h) (fun q h=>by rw[hob']at h;cases h) hi,rfl⟩);have e:(G.two j ob .gone (.many (rs.set k (some (b,N,l))))).H=(S.H.set j .gone).set ob (.many (rs.set k (some (b,N,l)))):=by show(G.H.set j .gone).set ob _=_;rw[r.heap]
 rw[e]at this;exact⟨_,this,k3⟩
theorem A3.Fp:A3 S ⟨S.env,S.H++[.many []],S.n⟩:=by
 intro ro M G a w r _;let K:Gh:={ρ:=G.ρ,H:=G.H++[.many []],m:=G.m}
 have get:∀{j:Nat}{q:A2},K.H[j]? =some q->G.H[j]? =some q\/q= .many []:=by
  intro j q h;have h:(G.H++[.many []])[j]? =some q:=h;rcases RJ j G.H.length with hj|hj
  .rw[Qq hj]at h;exact .inl h
  .rw[Qx hj]at h;have:j-G.H.length=0:=by have:=(Qh.1 h).1;simp at this;omega
   rw[this]at h;simp at h;exact .inr h.symm
 have up:∀{j:Nat}{q:A2},G.H[j]? =some q->K.H[j]? =some q:=fun{j q} h=>by
  show(G.H++[.many []])[j]? =_;rw[Qq (Qh.1 h).1];exact h
 have hg:DN G K:=⟨fun j x hx=>⟨x,up hx,A6.refl _ _ _⟩,Mem.le_refl _⟩
 have hP:∀c,B8 K c->B8 G c:=by
  rintro c ⟨j,N,q,hq,lq,hc⟩;rcases get hq with h|rfl
  .exact⟨j,N,q,h,lq,hc⟩
  .simp[A2.live]at lq
 have hS:∀(j:Nat)(rs:Rows)(c:Nat),K.H[j]? =some (.many rs)->c∈BX rs->G.H[j]? =some (.many rs):=by
  intro j rs c hj hc;rcases get hj with h|e
  .exact h
  .cases e;simp[BX]at hc
 have own:∀c,Own K c->Own G c:=by
  rintro c (h|⟨j,rs,hj,hc⟩)
  .exact .inl (hP c h)
  .exact .inr ⟨j,rs,hS j rs c hj hc,hc⟩
 have rel:AD K w:=by
  refine⟨fun j q hq=> ?_,fun i j p q c M M' hp hq lp lq r1 r2=> ?_,r.rel.mem,fun c hc=>r.rel.sep c (own c hc),r.rel.st,fun j rs hj=>⟨?_,fun c hc=>⟨fun ho=>((r.rel.mny j rs (hS j rs c hj hc)).2 c hc).1 (hP c ho),fun j' rs' hj' hc'=>((r.rel.mny j rs (hS j rs c hj hc)).2 c hc).2 j' rs' (hS j' rs' c hj' hc') hc'⟩⟩⟩
  .rcases get hq with h|rfl
   .exact(r.rel.blk j q h).Gz hg (fun _ _ _ _=>rfl) rfl
   .intro b N l hm;simp at hm
  .have back:∀{i:Nat}{p:A2},K.H[i]? =some p->p.live=true->G.H[i]? =some p:=by
    intro i p hp lp;rcases get hp with h|rfl
    .exact h
    .simp[A2.live]at lp
   exact r.rel.inj i j p q c M M' (back hp lp) (back hq lq) lp lq r1 r2
  .rcases get hj with h|e
   .exact(r.rel.mny j rs h).1
   .cases e;simp[BX]
 have HV:IL G K:=⟨fun j x y hx hy=>by rw[up hx]at hy;cases hy;exact A6.refl _ _ _,Mem.le_refl _,own,fun _ _ _ h=> .inl h⟩;have:=r.HV (env:=S.env) rel HV (r.env.mono hg) (fun j q hj=>⟨up hj,rfl⟩);have e:K.H=S.H++[.many []]:=by show G.H++_=_;rw[r.heap]
 rw[e]at this;exact⟨K,this,HV⟩
end Go.Gar
namespace Go.Gar
section
variable {P:Program}{ro:Qt}{ops:R0}{S0 S S':St}{Q:Exit->St->Prop}{E:Nat->Option AK}{s s':Nat->St}{r r':Nat->Rc}
variable {N:NB}{p:Nat}{listed:R5}{G:Gh}{a:Act}{w:World}
theorem B5.to(st:B5 ro ops S0 s r N listed p G a w)(pl:Plan P ro E ops S0 S s r)(pl':Plan P ro E ops S0 S' s' r'){c:Nat}(hc:c<ops.size)(hr:∀j,j<c->r' j=r j)(hh:(r' c).h=(r c).h)(hk:(r c).k.El=true)
  (hunl:listed[c]?≠some true) (hdesc:∀j,c<j->j<ops.size->(F6 ops j).testBit c=true):B5 ro ops S0 s' r' N listed p G a w:=by
 have low:∀j,listed[j]? =some true->j<c:=by
  intro j hl;have hj:j<ops.size:=by rw[<-st.size];exact(Qp.1 hl).1
  rcases Nat.lt_trichotomy j c with h|h|h
  .exact h
  .subst h;exact absurd hl hunl
  .exact absurd (st.up pl (o:=ops[j]) (by simp[hj]) (st.closed j _ (by simp[hj]) hl) (hdesc j h hj)) hunl
 have hpc:p<=c:=by
  rcases RJ c p with h|h
  .exact absurd ((st.eff c hc hk).2 h) hunl
  .exact h
 have hH:(s' p).H=(s p).H:=by
  rw[<-pl'.h p om,<-pl.h p om];rcases Nat.eq_or_lt_of_le hpc with h|h
  .rw[h,hh]
  .rw[hr p h]
 refine⟨st.size,st.closed,st.le,fun k hk1 hk2=> ?_,fun k ch hkc hl=> ?_,?_,fun j o t ho hd hl=> ?_,st.env0⟩
 .rcases RJ k c with h|h
  .exact st.eff k hk1 (by rw[<-hr k h];exact hk2)
  .constructor
   .intro hl;have:=low k hl;omega
   .intro h2;omega
 .exact st.nopan k ch (by rw[<-hr k (low k hl)];exact hkc) hl
 .rw[hH];exact st.rel
 .rw[hr j (low j hl)];exact st.env1 j o t ho hd hl
variable {Z:Type}{C:Z->Prop}{A:Z->AV}{B:Z->RE}{e0:R9}
theorem M2{H0:RE}{c:Nat}{oc:Oper}{r0:Nat->Rc}(hE:Ai P E)(hoc:ops[c]? =some oc)(fam:∀z,C z->∃S s r,Plan P ro E ops S0 S s r/\Q .normal S/\(∀i ch,(r i).k≠ .pan ch)/\(∀i h,(r i).k= .ext h->i=c)/\r c=⟨e0,H0,A z,.ext (B z)⟩/\(s (c+1)).H=B z/\∀j,j<c->r j=r0 j)(hne:∃z,C z)(hdesc:∀j,c<j->j<ops.size->(F6 ops j).testBit c=true)(hg:A4 ops e0 oc=some true)(step:∀N G a w (K:Act->World->Prop)(R':Exit->Act->World->Prop),Rel ro N ⟨e0,H0,S0.n⟩ G a w->(∀z v w' G',C z->G'.H=B z->RV G' (A z) v->AD G' w'->BE G w G' w'->K (a.put oc.dst v) w')->oc.wpIn (FE (rl G ro)) 0 P a w K R'):GC P ro ops S0 Q:=by
 intro N G a w hr;obtain⟨z0,hz0⟩:=hne;obtain⟨S,s,r,pl,q,np,ux,rc,sc,rj⟩:=fam z0 hz0;obtain⟨h1,h2⟩:=B5.init pl hr;have hrl:∀{G':Gh}{w':World}{H:RE}{a':Act},Rel ro N ⟨[],H,S0.n⟩ G' a' w'->BE G w G' w'->rl G' ro=rl G ro:=fun h hf=>CH hr h hf
 have hcs:c<ops.size:=(Qp.1 hoc).1;refine B5.run pl hE (fun _=>q) (fun i ch _ h=>absurd h (np i ch)) hrl (X:=fun _=>False) ?_ _ _ 0 G a _ (fun _ h=>h.elim) (by simp[List.countP_replicate]) h1 h2;intro fuel listed p G1 a1 w1 i hx hc _ st hf hi hk;obtain rfl:=ux i hx hk;obtain⟨hun,o,ho,hall⟩:=(Ah st.size).1 hi;rw[hoc]at ho;cases ho;have hun':listed[i]?≠some true:=by rw[hun];simp
 have hil:i<listed.size:=by rw[st.size];exact hcs
 have hkE:(r i).k.El=true:=by rw[hk];rfl
 have hlook:=st.look pl hoc hun' hall;have hH:(s p).H=H0:=by rw[(st.Jf pl hoc hun' hall).1 hkE,<-pl.h i hcs,rc]
 have hrel:Rel ro N ⟨e0,H0,S0.n⟩ G1 a1 w1:=by
  have:Rel ro N ⟨(r i).e,(s p).H,S0.n⟩ G1 a1 w1:=⟨st.rel.heap,st.rel.rel,st.rel.size,hlook,st.rel.marks,st.rel.round⟩;rw[hH,rc]at this;exact this
 have hF:rl G1 ro=rl G ro:=hrl st.rel hf;unfold wpOpIn;simp only[hoc];have hw:=Ax (S:=⟨e0,H0,S0.n⟩) hrel.env hg;rw[Rf hw,<-hF];refine step N G1 a1 w1 _ _ hrel fun z v w' G' hz hB hv hr' hfr=> ?_
 obtain⟨S2,s2,r2,pl2,q2,np2,ux2,rc2,sc2,rj2⟩:=fam z hz;have st2:=st.to pl pl2 hcs (fun j hj=>by rw[rj2 j hj,rj j hj]) (by rw[rc2,rc]) hkE hun' hdesc;rw[hF];have nx:=st2.next pl2 hoc hun hall (np2 i) (p':=i+1) ⟨hcs,fun _=>rfl,fun h=>absurd (by rw[rc2];rfl) h⟩ (v:=v) (G':=G') (w':=w') (by rw[rc2];exact hv) (by rw[sc2];exact hB) hr' hfr;refine B5.run pl2 hE (fun _=>q2) (fun i ch _ h=>absurd h (np2 i ch)) hrl (X:=fun j=>j=i) ?_ fuel _ (i+1) G' _ w' (fun j hj=>by subst hj;exact(Bf hil).2 (.inl rfl)) (count_set hun hc) nx (hf.trans hfr);intro _ listed' _ _ _ _ j hx' _ hX st' _ hj hkj;obtain rfl:=ux2 j hx' hkj;have h3:=((Ah st'.size).1 hj).1;rw[hX j rfl]at h3;cases h3
variable {g:Nat}
theorem KC{o:Oper}{S:St}{xs:R8}{R:AV->RE->Prop}(h:Ab S.env o.op=some (g,xs))(hT:Bv P g xs S.H R):
  ∀N G a w (K:Act->World->Prop)(R':Exit->Act->World->Prop),Rel ro N S G a w->(∀y v w' G',R y G'.H->RV G' y v->AD G' w'->BE G w G' w'->K (a.put o.dst v) w')->o.wpIn (FE (rl G ro)) 0 P a w K R':=by
 obtain⟨c,fo,first,ys,cap,ho,hc,hf,hxs,rfl⟩:=DC h;intro N G a w K R' r hK;refine⟨fun _ _=>trivial,?_⟩;have hfv:=AB r.rel.st r.env hf;simp only[RV]at hfv;obtain⟨p,q,hfv,hp,hq⟩:=hfv;have hrun:=Dv (P:=P) (f:=g) hc hfv hT.1 ho w;rw[Oper.semAt_eq _ _ _ (fun c e=>by rw[ho]at e;cases e),hrun];simp only[Oper.uponIn];refine⟨CC _,?_⟩;have hargs:=ET hp (BI r.rel.st r.env hxs) hq;have hcall:=hT.2 G w _ r.heap r.rel hargs;have hcall':CallsIn (FE (rl G ro)) 0 P g (p.toArray++c.args.map a.eval++q.toArray) w _:=hcall;refine hcall'.mono ?_;rintro e w' ⟨v,y,G',rfl,hR,hv,hr',hfr⟩;exact hK y v w' G' hR hv hr' hfr
def Me(ops:R0)(ks:List Kd)(l:QR)(c:Nat):Bool:=
 Bt ops ks l&&(Fb ks.length fun j=>match ks[j]? with
  |some (.pan _)|some .dead=>false
  |some (.ext _)=>Nat.beq j c
  |_=>true)&&Fb ops.toList.length fun j=> !Nat.blt c j||(F6 ops j).testBit c
def Fam(P:Program)(ro:Qt)(E:Nat->Option AK)(ops:R0)(S0:St)(Q:Exit->St->Prop)(z:Rc)(acc1:List Rc):Prop:=
 ∃acc S l,Run P ro E ops S0 (acc++z::acc1) S/\Me ops ((acc++z::acc1).reverse.map Rc.k) l acc1.length=true/\Au E ops (acc++z::acc1).reverse S.H l/\Q .normal S
theorem Fam.plan{H0 H1:RE}{x:AV}{acc1:List Rc}(h:Fam P ro E ops S0 Q ⟨e0,H0,x,.ext H1⟩ acc1):(∃S s r,Plan P ro E ops S0 S s r/\Q .normal S/\(∀i ch,(r i).k≠ .pan ch)/\(∀i h,(r i).k= .ext h->i=acc1.length)/\
  r acc1.length=⟨e0,H0,x,.ext H1⟩/\(s (acc1.length+1)).H=H1/\∀j,j<acc1.length->r j=(acc1.reverse[j]?).getD ⟨[],[],.u,.skip⟩)/\∀j,acc1.length<j->j<ops.size->(F6 ops j).testBit acc1.length=true:=by
 obtain⟨acc,S,l,ht,hd,hx,hq⟩:=h;simp only[Me,Qk]at hd;obtain⟨⟨hd1,hd2⟩,hd3⟩:=hd;obtain⟨s,_,pl⟩:=ht.plan hd1 hx;have hd2:=BL hd2;have hd3:=BL hd3
 have hlen:(acc++(⟨e0,H0,x,.ext H1⟩:Rc)::acc1).length=ops.size:=by
  have h1:=hd1;simp only[Bt,Qk]at h1;have:=Qi h1.1;simp at this;simp;omega
 have hcl:acc1.length<ops.size:=by simp at hlen;omega
 have hrc:((acc++(⟨e0,H0,x,.ext H1⟩:Rc)::acc1).reverse[acc1.length]?).getD ⟨[],[],.u,.skip⟩=⟨e0,H0,x,.ext H1⟩:=by
  rw[List.reverse_append,List.reverse_cons,Rl,Qx sm];simp
 have kd:∀i,i<ops.size->((acc++(⟨e0,H0,x,.ext H1⟩:Rc)::acc1).reverse.map Rc.k)[i]? =some (((acc++(⟨e0,H0,x,.ext H1⟩:Rc)::acc1).reverse[i]?).getD ⟨[],[],.u,.skip⟩).k:=by
  intro i hi;have hil:i<(acc++(⟨e0,H0,x,.ext H1⟩:Rc)::acc1).reverse.length:=by rw[SV,hlen];exact hi
  rw[RX,Qm hil];rfl
 have out:∀i,¬i<ops.size->(((acc++(⟨e0,H0,x,.ext H1⟩:Rc)::acc1).reverse[i]?).getD ⟨[],[],.u,.skip⟩).k= .skip:=by
  intro i hi;rw[Rn (by rw[SV,hlen];omega)];rfl
 refine⟨⟨S,s,_,pl,hq,fun i ch hk=> ?_,fun i h hk=> ?_,hrc,?_,fun j hj=> ?_⟩,fun j h1 h2=> ?_⟩
 .by_cases hi:i<ops.size
  .have:=hd2 i (by simp only[Rh,SV];rw[hlen];exact hi);rw[kd i hi,hk]at this;cases this
  .rw[out i hi]at hk;cases hk
 .by_cases hi:i<ops.size
  .have:=hd2 i (by simp only[Rh,SV];rw[hlen];exact hi);rw[kd i hi,hk]at this;exact Qi this
  .rw[out i hi]at hk;cases hk
 .have:=(pl.ok acc1.length ops[acc1.length] (by simp[hcl])).2;rw[hrc]at this;exact this.2
 .rw[List.reverse_append,List.reverse_cons,Rl,Qq (by simpa using hj)]
 .have:=hd3 j (by simpa using h2);have hb:Nat.blt acc1.length j=true:=by rw[S9];exact h1
  rw[hb]at this;simpa using this
variable {acc:List Rc}{rest:R1}{o:Oper}{en:R9}{hp:RE}{nt:Nat}{A0:Prop}
theorem Oh{id:Nat}{xs:R8}(hE:Ai P E)(hm:P.follows .mixedOrders=true)(hg:A4 ops (B7 (looks ops o) S.env) o=some true)(h:Ab (B7 (looks ops o) S.env) o.op=some (g,xs))(hd:AA o.dst S.n=true)(hT:Bv P g xs S.H fun y H=>∃z,C z/\y=A z/\H=B z)(hne:∃z,C z)(hk:∀z,C z->Wd P ro E ops S0 (Fam P ro E ops S0 (Qw Q) ⟨B7 (looks ops o) S.env,S.H,A z,.ext (B z)⟩ acc) (⟨B7 (looks ops o) S.env,S.H,A z,.ext (B z)⟩::acc) rest ⟨AW o.dst (A z) S.env,B z,S.n⟩):
  Wd P ro E ops S0 (W P ro (.region id ops true) S0 Q) acc (o::rest) S:=by
 intro Sr ht hH hn he hr;have ho:ops[acc.length]? =some o:=by have:=hr 0;simpa using this.symm
 have fam:∀z,C z->Fam P ro E ops S0 (Qw Q) ⟨B7 (looks ops o) S.env,S.H,A z,.ext (B z)⟩ acc:=fun z hz=>Ck (x:=A z) (k:=.ext (B z)) (H':=B z) ⟨hd,hg,rfl⟩ (hk z hz) Sr ht hH hn he hr
 have hSn:S.n=S0.n:=by
  obtain⟨z,hz⟩:=hne;obtain⟨s,h0,h1,h2⟩:=ht.trace
  cases hl:acc.length with
  |zero=>rw[hl]at h1;rw[<-hn,<-h1,h0]
  |succ k=>
   obtain⟨_,_,_,_,_,_,_,_,h3,_⟩:=h2 k om;rw[<-hn,<-h1,hl,h3]
 refine Hc (Q':=Qw Q) (fun N G a w hrel=>wpIn_region_any hm (M2 (C:=C) (A:=A) (B:=B) (e0:=B7 (looks ops o) S.env) (H0:=S.H) (c:=acc.length) (r0:=fun j=>(acc.reverse[j]?).getD ⟨[],[],.u,.skip⟩) hE ho (fun z hz=>(fam z hz).plan.1) hne ?_ hg ?_ N G a w hrel)) (fun e S' ⟨env,hs,q⟩=> .inr ⟨env,hs,q⟩)
 .obtain⟨z,hz⟩:=hne;exact(fam z hz).plan.2
 .intro N G a w K R' hrel hK;refine KC (S:=⟨B7 (looks ops o) S.env,S.H,S0.n⟩) h hT N G a w K R' hrel fun y v w' G' ⟨z,hz,e1,e2⟩ hv hr' hfr=> ?_
  subst e1;exact hK z v w' G' hz e2 hv hr' hfr
variable {B':Z->RE}{e:Z->R9}
theorem YE{id:Nat}{A':Z->AV}{args:R8}{H:RE}(ids:QQ)(hT:Bv P g args H fun y K=>∃z,C z/\y=A z/\K=B z)(hne:∃z,C z)(hE:Ai P E)(hmx:P.follows .mixedOrders=true)(hl:BK (looks ops o) en=some e0)(hg:A4 ops e0 o=some true)(h:Ab e0 o.op=some (g,AV.B4 (rn ids hp.length) args))(hd:AA o.dst nt=true)(hm:Az (rn ids hp.length) hp ids H)(hn:nodupB ids=true)(ho:AM H.length H=true)(ha:AV.oks H.length args=true)(hA:∀z,(A z).ren (rn ids hp.length)=A' z)(hB:∀z,F7 ids hp (CG (rn ids hp.length) (B z))=B' z)(he:∀z,AL o.dst (A' z) en=some (e z))(hk:∀z,C z->Wd P ro E ops S0 (Fam P ro E ops S0 (Qw Q) ⟨e0,hp,A' z,.ext (B' z)⟩ acc) (⟨e0,hp,A' z,.ext (B' z)⟩::acc) rest ⟨e z,B' z,nt⟩):
  Wd P ro E ops S0 (W P ro (.region id ops true) S0 Q) acc (o::rest) ⟨en,hp,nt⟩:=by
 have:=Aa hl;subst this;refine Oh (S:=⟨en,hp,nt⟩) (C:=C) (A:=A') (B:=B') hE hmx hg h hd ((Bv.ren ids hT (Bz hn) hm ho ha).mono fun y K ⟨y',H',⟨z,hz,e1,e2⟩,e3,e4⟩=>⟨z,hz,by rw[e3,e1,hA z],by rw[e4,e2,hB z]⟩) hne fun z hz=> ?_
 show Wd P ro E ops S0 _ _ rest ⟨AW o.dst (A' z) en,B' z,nt⟩;rw[<-AE (he z)];exact hk z hz
theorem XE{A':Z->AV}{args:R8}{H:RE}{i:Nat}(ids:QQ)(hT:Bv P g args H fun y K=>∃z,C z/\y=A z/\K=B z)(hg:A4 ops en o=some true)(h:Ab en o.op=some (g,AV.B4 (rn ids hp.length) args))(hd:AA o.dst nt=true)(hm:Az (rn ids hp.length) hp ids H)(hn:nodupB ids=true)(ho:AM H.length H=true)(ha:AV.oks H.length args=true)(hA:∀z,(A z).ren (rn ids hp.length)=A' z)(hB:∀z,F7 ids hp (CG (rn ids hp.length) (B z))=B' z)(he:∀z,AL o.dst (A' z) en=some (e z))(k:∀z,C z->Wl P ro ops (i+1) rest ⟨e z,B' z,nt⟩ Q):Wl P ro ops i (o::rest) ⟨en,hp,nt⟩ Q:=
 Om hg h hd (Bv.ren ids hT (Bz hn) hm ho ha) fun y K ⟨y',H',⟨z,hz,e1,e2⟩,e3,e4⟩=>by
  subst e1;subst e2;subst e3;subst e4;have:=k z hz;rw[hA z,hB z,<-AE (he z)];exact this
theorem YnE{z:Rc}{acc1:List Rc}(acc2:List Rc)(hacc:acc=acc2++z::acc1)(live:QQ){e:R9}(l:QR)(hd:Me ops (acc.reverse.map Rc.k) l acc1.length=true)(hx:Au E ops acc.reverse hp l)(he:BK live en=some e)(hQ:Q .normal ⟨e,hp,nt⟩):
  Wd P ro E ops S0 (Fam P ro E ops S0 (Qw Q) z acc1) acc [] ⟨en,hp,nt⟩:=by
 have:=Aa he;subst this;intro Sr ht hH hn he' hr;subst hacc;refine⟨acc2,Sr,l,ht,hd,by rw[hH];exact hx,B7 live en,fun t x hx=>he' t x (Cg hx).2,?_⟩;rw[hH,hn];exact hQ
theorem Ybs(hE:Ai P E){f:Nat->AV}{b:A2}{c:Bool}{x':AV}{e:R9}{H':RE}(hl:BK (looks ops o) en=some e0)(hg:A4 ops e0 o=some true)(h:LG E e0 o.op=some (c,f,b))(hd:AA o.dst nt=true)(he:AL o.dst x' en=some e)(hH:Ca hp b=some H')(hx:f hp.length=x')(hk:Wd P ro E ops S0 A0 (⟨e0,hp,x',.eff⟩::acc) rest ⟨e,H',nt⟩)(hc:c=true):Wd P ro E ops S0 A0 acc (o::rest) ⟨en,hp,nt⟩:=by
 subst hx;have:=Aa hl;subst this;rw[AE he,Cr hH]at hk;exact Ck (S:=⟨en,hp,nt⟩) (x:=f hp.length) (k:=.eff) (H':=hp++[b]) ⟨hd,hg,Bi.step (S:=⟨B7 (looks ops o) en,hp,nt⟩) (KQ (S:=⟨B7 (looks ops o) en,hp,nt⟩) hE h hc) (EY h)⟩ hk
end
variable {P:Program}{f:FuncId}{args:R8}{R R':AV->RE->Prop}
theorem Bv.pick(h:Bv P f args [] R)(hp:∀y K,R y K->∃ids H y',nodupB ids=true/\Az (rn ids K.length) K ids H/\AM H.length H=true/\AV.oks H.length [y']=true/\y=y'.ren (rn ids K.length)/\R' y' H):Bv P f args [] R':=by
 refine⟨h.1,fun G w vs h1 h2 h3=>(h.2 G w vs h1 h2 h3).mono ?_⟩;rintro e w' ⟨v,y,G',rfl,hR,hv,hr',hf⟩;obtain⟨ids,H,y',hn,hm,ho,ha,rfl,hR'⟩:=hp y G'.H hR;obtain⟨k1,k2⟩:=Fx rfl (Bz hn) hm hr' ho;have hv':=k2 (x:=[y']) (vs:=[v]) ha (by simp only[AV.B4,AH];exact⟨v,[],rfl,hv,rfl⟩)
 have own:∀b,Own ⟨fun i=>G'.ρ (rn ids G'.H.length i),H,G'.m⟩ b->Own G' b:=by
  rintro b (⟨id,M,blk,q1,q2,q3⟩|⟨id,rs,q1,q2⟩)
  .obtain⟨a,p1,p2⟩:=CE hm q1;have q3:G'.ρ (rn ids G'.H.length id)=some (b,M):=q3;rw[J0 p1]at q3;exact .inl ⟨a,M,_,p2,by rw[B3];exact q2,q3⟩
  .obtain⟨a,p1,p2⟩:=CE hm q1;exact .inr ⟨a,rs,p2,q2⟩
 refine⟨v,y',_,rfl,hR',?_,k1,⟨hf.os,hf.tape,hf.output,hf.size,fun b hb hno=> ?_,hf.memNew,fun id b hb=> ?_,hf.gle.mem⟩⟩
 .simp only[AH]at hv';obtain⟨_,_,e,q,_⟩:=hv';cases e;exact q
 .obtain⟨f1,f2⟩:=hf.keep b hb hno;exact⟨f1,fun h=>f2 (own b h)⟩
 .rw[h1]at hb;simp at hb
theorem Bv.raw{H:RE}(h:Bv P f args H R)(hp:∀y K,R y K->∃a d1 d3 c,y= .tup [a,.ag [.d d1,.e0,.d d3],c]/\∀u,(∃q,u= .slice q 0 0)->R' (.tup [a,.d (.agg [d1,.raw u,d3]),c]) K):Bv P f args H R':=by
 refine⟨h.1,fun G w vs h1 h2 h3=>(h.2 G w vs h1 h2 h3).mono ?_⟩;rintro e w' ⟨v,y,G',rfl,hR,hv,hr',hf⟩;obtain⟨a,d1,d3,c,rfl,k⟩:=hp y G'.H hR;simp only[RV,AH]at hv;obtain⟨vs',rfl,v1,r1,rfl,ha,v2,r2,rfl,⟨us,rfl,w1,s1,rfl,hd1,w2,s2,rfl,hu,w3,s3,rfl,hd3,rfl⟩,v3,r3,rfl,hc,rfl⟩:=hv;have one:w2.oneCell'=true:=by obtain⟨q,rfl⟩:=hu;rfl
 refine⟨_,_,G',rfl,k w2 hu,?_,hr',hf⟩;simp only[RV,AH,RD,BJ];exact⟨_,rfl,_,_,rfl,ha,_,_,rfl,⟨_,rfl,_,_,rfl,hd1,_,_,rfl,⟨rfl,one⟩,_,_,rfl,hd3,rfl⟩,_,_,rfl,hc,rfl⟩
theorem Bv.OR{H K:RE}{id ob:Nat}{l:A5}{d1 d2:D}{rs:Rows}(h:Df P f args H (.ag [.d d1,.sl id l.length 1,.d d2]) K)(hid:K[id]? =some (.a (.by l)))(hob:K[ob]? =some (.many rs)):
  Bv P f args H fun y K'=>∃z:Value×Option (Nat×Nat×A5),F5 z.1 l z.2/\y= .d (.agg [d1,.raw z.1,d2])/\K'=(K.set id .gone).set ob (.many (rs++[z.2])):=by
 refine⟨h.1,fun G w vs h1 h2 h3=>(h.2 G w vs h1 h2 h3).mono ?_⟩;rintro e w' ⟨v,r,G',rfl,⟨rfl,rfl⟩,hv,hr',hf⟩;have hrv:=hv;simp only[RV,AH]at hrv;obtain⟨us,rfl,u1,_,rfl,h1,u2,_,rfl,⟨h1c,blk,hb,hp⟩,u3,_,rfl,h3,rfl⟩:=hrv;rw[hid]at hb;cases hb;obtain⟨_,_,hp⟩:=hp
 have key:∃row,F5 u2 l row/\((∃b N,row=some (b,N,l)/\G'.ρ id=some (b,N)/\l.length<=N)\/row=none):=by
  rcases hp rfl with⟨e,a',e'⟩|⟨b,N,cap,hρ,e',hc1,hc2,e3⟩
  .have:l=[]:=List.length_eq_zero_iff.1 e;subst this;exact⟨none,.inr ⟨rfl,rfl,a',e'⟩,.inr rfl⟩
  .rw[SE]at e3;subst e3;exact⟨some (b,N,l),.inl ⟨b,N,e',rfl,hc1,hc2⟩,.inl ⟨b,N,rfl,hρ,hc1⟩⟩
 obtain⟨row,k0,hrow⟩:=key;obtain⟨k1,k2,k3⟩:=Ke hr' hid hob hrow;refine⟨_,_,G'.two id ob .gone (.many (rs++[row])),rfl,⟨⟨u2,row⟩,k0,rfl,rfl⟩,?_,k1,hf.ghost k3 (by show _<=((G'.H.set id _).set ob _).length;simp only[SS];exact hf.gle.len)⟩;simp only[RV,RD,BJ];exact⟨_,rfl,_,_,rfl,h1.mono k2.mem,_,_,rfl,⟨rfl,k0.one⟩,_,_,rfl,h3.mono k2.mem,rfl⟩
end Go.Gar
namespace Go.Gar
section
variable {P:Program}{ro:Qt}{ops:R0}{S0:St}{E:Nat->Option AK}{A0:Prop}
variable {acc:List Rc}{rest:R1}{o:Oper}{en:R9}{hp:RE}{nt:Nat}
theorem Ysc(hE:Ai P E){c:Bool}{H' H'':RE}{e0 e:R9}(hl:BK (looks ops o) en=some e0)(hg:A4 ops e0 o=some true)(h:Mc E e0 hp o.op=some (c,H'))(hd:AA o.dst nt=true)(he:AL o.dst .u en=some e)
  (hk:Wd P ro E ops S0 A0 (⟨e0,hp,.u,.eff⟩::acc) rest ⟨e,H'',nt⟩) (hc:c=true) (hH:H'=H'':=by first|(simp only[nS];rfl)|rfl):Wd P ro E ops S0 A0 acc (o::rest) ⟨en,hp,nt⟩:=by
 subst hH;have:=Aa hl;subst this;rw[AE he]at hk;exact Ck (S:=⟨en,hp,nt⟩) (x:=.u) (k:=.eff) (H':=H') ⟨hd,hg,Bi.step (S:=⟨B7 (looks ops o) en,hp,nt⟩) (KU (S:=⟨B7 (looks ops o) en,hp,nt⟩) hE h hc) (Ea h)⟩ hk
end
end Go.Gar
namespace Go.Gar
structure Redo (w:World) (b:Nat) (w':World) (nb:Nat) (cur:R2) (T:TypeId):Prop where
 os:w'.os=w.os
 tape:w'.tape=w.tape
 output:w'.output=w.output
 size:w.heap.size<=w'.heap.size
 new:w'.heap[nb]? =some (.cells cur T (0,0))
 at_:nb=b\/w.heap.size<=nb
 oth:∀c,c<w.heap.size->c≠b->w'.heap[c]? =w.heap[c]?
structure Di (w0:World) (b:Nat) (w:World) (ws:R2) (T:TypeId):Prop where
 os:w.os=w0.os
 tape:w.tape=w0.tape
 output:w.output=w0.output
 size:w.heap.size=w0.heap.size
 at_:w.heap[b]? =some (.cells ws T (0,0))
 oth:∀c,c≠b->w.heap[c]? =w0.heap[c]?
variable {w:World}{b:Nat}{ws:R2}{T:TypeId}
theorem Di.refl(h:w.heap[b]? =some (.cells ws T (0,0))):Di w b w ws T:=⟨rfl,rfl,rfl,rfl,h,fun _ _=>rfl⟩
variable {w0:World}
theorem Di.cell(h:Di w0 b w ws T)(k:Nat):w.cell? ⟨b,k,none⟩=ws[k]?:=by
 unfold World.cell?;simp only[h.at_,Option.isSome_none,Ry,SY]
theorem Di.set:∀(l:Qf)(o:Nat){w:World}{ws:R2},Di w0 b w ws T->o+l.length<=ws.size->
  ∃us:R2,Di w0 b (w.setCells b o l) us T/\us.size=ws.size/\∀k,us[k]? =if o<=k/\k<o+l.length then l[k-o]? else ws[k]?
 |[],o,w,ws,h,_=>⟨ws,h,rfl,fun k=>by rw[Rw (by simp only[RY];omega)]⟩
 |v::r,o,w,ws,h,hl=>by
  simp only[Qz]at hl
  have h1:Di w0 b (w.setCell ⟨b,o,none⟩ v) (ws.setIfInBounds o v) T:=by
   refine⟨h.os,h.tape,h.output,by rw[<-h.size];simp[World.setCell],?_,fun c hc=> ?_⟩
   .simp only[World.setCell,Array.getElem?_modify,SG,h.at_];rfl
   .rw[<-h.oth c hc];simp only[World.setCell,Array.getElem?_modify];rw[Rw (Ne.symm hc)]
  obtain⟨us,h2,h3,h4⟩:=Di.set r (o+1) h1 (by simp;omega);refine⟨us,h2,by rw[h3];simp,fun k=> ?_⟩;rw[h4 k];simp only[Qz]
  by_cases e:k=o
  .subst e;rw[Rw om,Rf om,Nat.sub_self,RP om];rfl
  .by_cases e2:o<=k/\k<o+(r.length+1)
   .rw[Rf om,Rf e2,show k-o=(k-(o+1))+1 by omega,List.getElem?_cons_succ]
   .rw[Rw om,Rw e2,RU om]
theorem Di.new{o:Obj}(h:Di (w0.alloc o) w0.heap.size w ws T):Redo w0 b w w0.heap.size ws T:=by
 refine⟨h.os,h.tape,h.output,by rw[h.size];simp,h.at_,.inr (Qn _),fun c hc _=> ?_⟩;rw[h.oth c om];show(w0.heap.push o)[c]? =_;rw[Array.getElem?_push,Rw om]
end Go.Gar
namespace Go.Gar
end Go.Gar
