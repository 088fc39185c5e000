/- Part 2 of a proof. Conditions: those that its theorems state. -/
import Derived.Test.YtmlaifbbpdanmaaV01
import Derived.KernelRfl
set_option linter.unusedSimpArgs false
set_option linter.unusedVariables false
set_option linter.unnecessarySimpa false
set_option maxHeartbeats 40000000
set_option maxRecDepth 4000
namespace Go.Gar
def tt(x:RA):RB:=
 match x with
 |some y=>some (true,y)
 |none=>none
def EA(env:R9):List Operand->Option (R8)
 |[]=>some []
 |o::r=>match Bh env o,EA env r with
  |some x,some l=>some (x::l)
  |_,_=>none
def LY(env:R9):Option Operand->Option (RA)
 |none=>none
 |some o=>some (Bh env o)
def Ov(E:Nat->Option AK)(H:RE)(b:Builtin)(ts:List TypeId)(xs:R8):RB:=
 match b,ts,xs with
 | .len,[t],[x]=>MX E H t x
 | .min,_,[.d (.i k a),.d (.i _ b)]=>some (true,.d (.i k (if b<a then b else a)))
 | .max,_,[.d (.i k a),.d (.i _ b)]=>some (true,.d (.i k (if a<b then b else a)))
 | .append,[t,u],[.e0,x]=>match FB E H t u x with
  |some (c,q)=>some (c,.d q)
  |none=>none
 |_,_,_=>none
def Fl(E:Nat->Option AK)(env:R9)(H:RE)(op:Op):RB:=
 match op with
 | .move x| .assign x=>tt (Bh env x)
 | .pick c a b=>match Bh env c with
  |some (.d (.b t))=>match t with
   |true=>tt (Bh env a)
   |false=>tt (Bh env b)
  |_=>none
 | .load t a=>match Bh env a with
  |some x=>Ho E H t x
  |none=>none
 | .nilCheck a=>match Bh env a with
  |some x=>MZ H x
  |none=>none
 | .binOp op t a b _=>match Bh env a,Bh env b with
  |some x,some y=>match x,y with
   | .d p,.d q=>match LA op p q with
    |some (c,r)=>some (c,.d r)
    |none=>match op with
     | .eql=>match GN E H t x y with
      |some (c,r)=>some (c,.d (.b r))
      |none=>none
     | .neq=>match GN E H t x y with
      |some (c,r)=>some (c,.d (.b (!r)))
      |none=>none
     |_=>none
   |x,y=>match op with
    | .eql=>match GN E H t x y with
     |some (c,r)=>some (c,.d (.b r))
     |none=>none
    | .neq=>match GN E H t x y with
     |some (c,r)=>some (c,.d (.b (!r)))
     |none=>none
    |_=>none
  |_,_=>none
 | .unOp op _ a=>match Bh env a with
  |some (.d p)=>match unD op p with
   |some (c,r)=>some (c,.d r)
   |none=>none
  |_=>none
 | .convert s d a=>match Bh env a with
  |some x=>JR E H s d x
  |none=>none
 | .slice t a lo hi mx=>match Bh env a with
  |some x=>Hr E t x (LY env lo) (LY env hi) (LY env mx)
  |none=>none
 | .fieldAddr s a f=>match Bh env a with
  |some x=>Dn E H s x f
  |none=>none
 | .field t a f=>match Bh env a with
  |some x=>Hm E t x f
  |none=>none
 | .indexAddr t a i=>match Bh env a,Bh env i with
  |some x,some y=>Do E H t x y
  |_,_=>none
 | .index t a i=>match Bh env a,Bh env i with
  |some x,some y=>Hn E t x y
  |_,_=>none
 | .build t ps=>Hk E (Bh env) t ps.toList
 | .buildSlice t len ps=>match Cm E (Bh env) t len ps.toList with
  |some (c,q)=>match len with
   |0=>some (c,.e0)
   |_+1=>some (c,.d q)
  |none=>none
 | .makeFunc f first cap=>match EA env first.toList,EA env cap.toList with
  |some a,some b=>some (true,.fn f a b)
  |_,_=>none
 | .extract a i=>match Bh env a with
  |some x=>FC x i
  |none=>none
 | .lookup t m k ok=>match Bh env m,Bh env k with
  |some x,some y=>Hp E H t x y ok
  |_,_=>none
 | .makeInterface t a=>match Bh env a with
  |some x=>MU E t x
  |none=>none
 | .typeAssert a _ asserted ok=>match Bh env a with
  |some x=>GM E x asserted ok
  |none=>none
 | .call c=>match c.callee with
  | .builtin b=>match EA env c.args.toList with
   |some xs=>Ov E H b c.argTypes.toList xs
   |none=>none
  |_=>none
 |_=>none
theorem BI{G:Gh}{a:Act}{env:R9}(hst:Oe G.m)(h:Cj G env a.tmps):∀{l:List Operand}{xs:R8},EA env l=some xs->AH G xs (l.map a.eval)
 |[],xs,e=>by simp[EA]at e;subst e;simp[AH]
 |o::l,xs,e=>by
  simp only[EA]at e;split at e
  .rename_i x q h1 h2;cases e;simp only[Ru,AH];exact⟨_,_,rfl,AB hst h h1,BI hst h h2⟩
  .cases e
theorem I2{G:Gh}{a:Act}{env:R9}(hst:Oe G.m)(h:Cj G env a.tmps)(o:Option Operand):G5 G (LY env o) (o.map a.eval):=by
 cases o with
 |none=>simp[LY,G5]
 |some o=>
  simp only[LY,Option.map_some]
  cases hx:Bh env o with
  |none=>simp[G5]
  |some x=>exact AB hst h hx
variable {P:Program}{o:Oper}{S:St}{y:AV}{f:Act->Sem Value}
theorem Bi.DG(ho:∀a:Act,execOp a.eval o=(do pure (.value (<-f a))))(h:∀ro N G a w,Rel ro N S G a w->Yields P G w (f a) y):Bi P o S y S.H:=by
 intro ro N G a w r;obtain⟨u,w',G',h1,h2,h3,h4,h5⟩:=h ro N G a w r;refine⟨.value u,w',G',?_,.inr ⟨u,rfl,h2⟩,h3.trans r.heap,h4,h5⟩;rw[ho];simp[h1]
theorem Bi.BS{H':RE}(ho:∀a:Act,execOp a.eval o=(do pure (.value (<-f a))))(h:∀ro N G a w,Rel ro N S G a w->CJ P G w (f a) y H'):Bi P o S y H':=by
 intro ro N G a w r;obtain⟨u,w',G',h1,h2,h3,h4,h5⟩:=h ro N G a w r;refine⟨.value u,w',G',?_,.inr ⟨u,rfl,h2⟩,h3,h4,h5⟩;rw[ho];simp[h1]
theorem Bi.of_run(ho:∀a:Act,execOp a.eval o=(do pure (.value (<-f a))))(h:∀ro N G a w,Rel ro N S G a w->∃u,(f a).run P w= .ok u w/\RV G y u):Bi P o S y S.H:=
 .DG ho fun ro N G a w r=>let⟨u,h1,h2⟩:=h ro N G a w r;Yields.still r.rel h1 h2
variable {op:BinOp}{t:Nat}
theorem Dm{x y:Operand}{v u:Value}{w:World}(h:(∀a,v≠ .agg a)/\v≠ .nilIface\/(op≠ .eql/\op≠ .neq)):(eqGuard op t x y v u).run P w= .ok () w:=by
 unfold eqGuard;rcases h with⟨h1,h2⟩|⟨h1,h2⟩
 .cases op<;>first
   |(simp;done)
   |(simp only[Qr];cases v<;>first|exact absurd rfl (h1 _)|exact absurd rfl h2|simp)
 .cases op<;>simp_all
theorem IV{x y:Operand}{a b:R2}{w:World}(h:P.eqGuardType P.depth t=false):(eqGuard op t x y (.agg a) (.agg b)).run P w= .ok () w:=by
 unfold eqGuard;cases op<;>simp[h]
theorem IJ{m:Mem}{p:D}{v:Value}(hp:(∃k n,p= .i k n)\/(∃s,p= .s s))(h:RD m p v):(∀a,v≠ .agg a)/\v≠ .nilIface:=by
 rcases hp with⟨k,n,rfl⟩|⟨s,rfl⟩<;>simp only[RD]at h<;>subst h<;>simp
variable {c:Bool}
theorem GH{p q:D}{r:D}(h:LA op p q=some (c,r)):(∃k n,p= .i k n)\/(∃s,p= .s s):=by
 unfold LA at h;split at h
 .exact .inl ⟨_,_,rfl⟩
 .exact .inr ⟨_,rfl⟩
 .cases h
variable {ps:Array (Nat×Operand)}
theorem Cv{len:Nat}(ho:o.op= .buildSlice t len ps)(ρ:Operand->Value):execOp ρ o=(do pure (.value (<-Instr.buildSlice t len (ps.map fun(i,x)=>(i,ρ x))))):=by
 unfold execOp;simp only[ho]
theorem Jb(ho:o.op= .build t ps)(ρ:Operand->Value):execOp ρ o=(do pure (.value (<-Instr.build t (ps.map fun(i,x)=>(i,ρ x))))):=by
 unfold execOp;simp only[ho]
theorem Bo{α:Type}{a:Array α}{l:List α}(h:a.toList=l):a=l.toArray:=by rw[<-h]
theorem FK{P:Program}{b:Builtin}{c:Call}(hc:c.callee= .builtin b)(ho:o.op= .call c)(a:Act):execOp a.eval o=builtin b c.argTypes o.type (c.args.map fun| .const _=>true|_=>false) (c.args.map a.eval):=by
 unfold execOp;simp only[ho,resolve,hc];rfl
variable {E:Nat->Option AK}
theorem Nz(hE:Ai P E){cl:Call}(ho:o.op= .call cl){b:Builtin}(hb:cl.callee= .builtin b){xs:R8}(hxs:EA S.env cl.args.toList=some xs){x:AV}(h:Ov E S.H b cl.argTypes.toList xs=some (c,x))(hc:c=true):Bi P o S x S.H:=by
 subst hc;unfold Ov at h;split at h
 .rename_i t x' ht;have hty:=Bo ht;refine .of_run (f:=fun a=>Builtin.len_ cl.argTypes o.type (cl.args.map a.eval)) (fun a=>by rw[FK (P:=P) hb ho];rfl) fun ro N G a w r=> ?_
  have:=BI r.rel.st r.env hxs;simp only[AH]at this;obtain⟨v,q,e,h1,rfl⟩:=this;have e2:cl.args.map a.eval= #[v]:=Bo (by simpa using e);obtain⟨u,hu,hr⟩:=MY (ty:=o.type) hE (w:=w) (by rw[r.heap];exact h) rfl h1;exact⟨u,by rw[e2,hty];exact hu,hr⟩
 .rename_i k p k' q;cases h;refine .of_run (f:=fun a=>Builtin.min_ cl.argTypes o.type (cl.args.map a.eval)) (fun a=>by rw[FK (P:=P) hb ho];rfl) fun ro N G a w r=> ?_
  have:=BI r.rel.st r.env hxs;simp only[AH,RV,RD]at this;obtain⟨v,l,e,h1,v',l',e',h2,h3⟩:=this;subst h1;subst e';subst h2;subst h3;have e2:cl.args.map a.eval= #[.int k p,.int k' q]:=Bo (by simpa using e);refine⟨.int k (if q<p then q else p),?_,by simp[RV,RD]⟩;rw[e2];simp[Builtin.min_,Builtin.min2]
 .rename_i k p k' q;cases h;refine .of_run (f:=fun a=>Builtin.max_ cl.argTypes o.type (cl.args.map a.eval)) (fun a=>by rw[FK (P:=P) hb ho];rfl) fun ro N G a w r=> ?_
  have:=BI r.rel.st r.env hxs;simp only[AH,RV,RD]at this;obtain⟨v,l,e,h1,v',l',e',h2,h3⟩:=this;subst h1;subst e';subst h2;subst h3;have e2:cl.args.map a.eval= #[.int k p,.int k' q]:=Bo (by simpa using e);refine⟨.int k (if p<q then q else p),?_,by simp[RV,RD]⟩;rw[e2];simp[Builtin.max_,Builtin.max2]
 .rename_i t u x' ht;have hty:=Bo ht;split at h
  .rename_i c' q hq;simp only[Qj,Qo]at h;obtain⟨hc,rfl⟩:=h;refine .DG (f:=fun a=>Builtin.append_ cl.argTypes o.type (cl.args.map a.eval)) (fun a=>by rw[FK (P:=P) hb ho];rfl) fun ro N G a w r=> ?_
   have:=BI r.rel.st r.env hxs;simp only[AH]at this;obtain⟨v,l,e,h1,v',l',e',h2,h3⟩:=this;subst e';subst h3;have e2:cl.args.map a.eval= #[v,v']:=Bo (by simpa using e);have hy:=L8 (ty:=o.type) hE r.rel (by rw[r.heap];exact hq) hc h1 h2;obtain⟨u,w',G',y1,y2⟩:=hy;exact⟨u,w',G',by rw[e2,hty];exact y1,y2⟩
  .cases h
 .cases h
theorem JX(hE:Ai P E){x:AV}(h:Fl E S.env S.H o.op=some (c,x))(hc:c=true):Bi P o S x S.H:=by
 subst hc;obtain⟨dst,op,ty,pos,after,guard⟩:=o;simp only at h
 have ttok:∀{p:Operand},tt (Bh S.env p)=some (true,x)->Bh S.env p=some x:=by
  intro p hp;unfold tt at hp;split at hp
  .rename_i y hy;cases hp;exact hy
  .cases hp
 cases op<;>simp only[Fl]at h<;>try(cases h;done)
 case move p=>
  exact .still fun ro N G a w r=>⟨_,by simp[execOp],AB r.rel.st r.env (ttok h)⟩
 case assign p=>
  exact .still fun ro N G a w r=>⟨_,by simp[execOp],AB r.rel.st r.env (ttok h)⟩
 case pick p q s=>
  split at h
  .rename_i t ht;split at h
   .refine .still fun ro N G a w r=>⟨a.eval q,?_,AB r.rel.st r.env (ttok h)⟩;have:=AB r.rel.st r.env ht
    simp only[RV,RD]at this;simp[execOp,this,asBool]
   .refine .still fun ro N G a w r=>⟨a.eval s,?_,AB r.rel.st r.env (ttok h)⟩;have:=AB r.rel.st r.env ht
    simp only[RV,RD]at this;simp[execOp,this,asBool]
  .cases h
 case load t p=>
  split at h
  .rename_i y hy;exact .of_run (f:=fun a=>Instr.loadAt t (a.eval p)) (fun _=>rfl) fun ro N G a w r=>HI hE r.rel (by rw[r.heap];exact h) rfl (AB r.rel.st r.env hy)
  .cases h
 case nilCheck p=>
  split at h
  .rename_i y hy;exact .still fun ro N G a w r=>Ma (by rw[r.heap];exact h) rfl (p:=p) rfl (AB r.rel.st r.env hy)
  .cases h
 case binOp op t p q yt=>
  have eqcase:∀{y z:AV}{rr:Bool},Bh S.env p=some y->Bh S.env q=some z->GN E S.H t y z=some (true,rr)->(op= .eql/\x= .d (.b rr)\/op= .neq/\x= .d (.b (!rr)))->Bi P ⟨dst,.binOp op t p q yt,ty,pos,after,guard⟩ S x S.H:=by
   intro y z rr hy hz he hop;refine .of_run (f:=fun a=>do eqGuard op t p q (a.eval p) (a.eval q);binOp op t (a.eval p) (a.eval q)) (fun _=>rfl) fun ro N G a w r=> ?_
   obtain⟨g1,g2,g3,g4,g5,g6⟩:=MS hE (w:=w) (by rw[r.heap];exact he) rfl (AB r.rel.st r.env hy) (AB r.rel.st r.env hz)
   have hg:(eqGuard op t p q (a.eval p) (a.eval q)).run P w= .ok () w:=by
    rcases g6 with g6|⟨va,ua,e1,e2,e3⟩
    .exact Dm (P:=P) (op:=op) (t:=t) (x:=p) (y:=q) (v:=a.eval p) (u:=a.eval q) (w:=w) (.inl g6)
    .rw[e1,e2];exact IV e3
   have hb:∀op',(op'= .eql\/op'= .neq)->binOp op' t (a.eval p) (a.eval q)=(match op' with| .eql=>do pure (.bool (<-Op.equal t (a.eval p) (a.eval q)))|_=>do pure (.bool (!(<-Op.equal t (a.eval p) (a.eval q))))):=by
    intro op' ho;generalize a.eval p=v1 at *;generalize a.eval q=v2 at*
    rcases ho with rfl|rfl<;>cases v1<;>first
     |exact absurd rfl (g2 _ _)
     |exact absurd rfl (g3 _ _)
     |exact absurd rfl (g4 _)
     |exact absurd rfl (g5 _ _ _)
     |rfl
   rcases hop with⟨rfl,rfl⟩|⟨rfl,rfl⟩
   .exact⟨.bool rr,by simp only[Qr,hg,Ql];rw[hb .eql (.inl rfl)];simp[g1],by simp[RV,RD]⟩
   .exact⟨.bool (!rr),by simp only[Qr,hg,Ql];rw[hb .neq (.inr rfl)];simp[g1],by simp[RV,RD]⟩
  split at h
  .rename_i y z hy hz;split at h
   .rename_i p' q';split at h
    .rename_i c' r' hb;simp only[Qj,Qo]at h;obtain⟨hc,rfl⟩:=h;refine .of_run (f:=fun a=>do eqGuard op t p q (a.eval p) (a.eval q);binOp op t (a.eval p) (a.eval q)) (fun _=>rfl) fun ro N G a w r=> ?_
     have hp:=AB r.rel.st r.env hy;have hq:=AB r.rel.st r.env hz;simp only[RV]at hp hq;obtain⟨v,hv,hr⟩:=Nv (P:=P) (t:=t) hb hc hp hq w;have hg:=Dm (P:=P) (op:=op) (t:=t) (x:=p) (y:=q) (v:=a.eval p) (u:=a.eval q) (w:=w) (.inl (IJ (GH hb) hp));exact⟨v,by simp only[Qr,hg,Ql,hv],by simpa only[RV]using hr⟩
    .split at h
     .split at h
      .rename_i cc rr he;cases h;exact eqcase hy hz he (.inl ⟨rfl,rfl⟩)
      .cases h
     .split at h
      .rename_i cc rr he;cases h;exact eqcase hy hz he (.inr ⟨rfl,rfl⟩)
      .cases h
     .cases h
   .split at h
    .split at h
     .rename_i cc rr he;cases h;exact eqcase hy hz he (.inl ⟨rfl,rfl⟩)
     .cases h
    .split at h
     .rename_i cc rr he;cases h;exact eqcase hy hz he (.inr ⟨rfl,rfl⟩)
     .cases h
    .cases h
  .cases h
 case unOp op t p=>
  split at h
  .rename_i p' hy;split at h
   .rename_i c' r' hu;simp only[Qj,Qo]at h;obtain⟨hc,rfl⟩:=h;refine .of_run (f:=fun a=>Op.unary op (a.eval p)) (fun _=>rfl) fun ro N G a w r=> ?_
    have hp:=AB r.rel.st r.env hy;simp only[RV]at hp;obtain⟨v,hv,hr⟩:=PF (P:=P) hu hc hp w;exact⟨v,hv,by simpa only[RV]using hr⟩
   .cases h
  .cases h
 case convert s d p=>
  split at h
  .rename_i y hy;exact .DG (f:=fun a=>convert s d (a.eval p)) (fun _=>rfl) fun ro N G a w r=>LH hE r.rel (by rw[r.heap];exact h) rfl (AB r.rel.st r.env hy)
  .cases h
 case slice t p lo hi mx=>
  split at h
  .rename_i y hy;exact .of_run (f:=fun a=>Instr.sliceAt t (a.eval p) (lo.map a.eval) (hi.map a.eval) (mx.map a.eval)) (fun _=>rfl) fun ro N G a w r=>JZ hE h rfl (AB r.rel.st r.env hy) (I2 r.rel.st r.env lo) (I2 r.rel.st r.env hi) (I2 r.rel.st r.env mx)
  .cases h
 case fieldAddr s p f=>
  split at h
  .rename_i y hy;exact .of_run (f:=fun a=>Instr.fieldAt s (a.eval p) f) (fun _=>rfl) fun ro N G a w r=>GO hE (by rw[r.heap];exact h) rfl (AB r.rel.st r.env hy)
  .cases h
 case field t p f=>
  split at h
  .rename_i y hy;exact .of_run (f:=fun a=>Instr.field t (a.eval p) f) (fun _=>rfl) fun ro N G a w r=>JS hE h (AB r.rel.st r.env hy)
  .cases h
 case indexAddr t p q=>
  split at h
  .rename_i y z hy hz;exact .of_run (f:=fun a=>Instr.indexAt t (a.eval p) (a.eval q)) (fun _=>rfl) fun ro N G a w r=>GP hE (by rw[r.heap];exact h) rfl (AB r.rel.st r.env hy) (AB r.rel.st r.env hz)
  .cases h
 case index t p q=>
  split at h
  .rename_i y z hy hz;exact .of_run (f:=fun a=>Instr.index t (a.eval p) (a.eval q)) (fun _=>rfl) fun ro N G a w r=>JU hE h rfl (AB r.rel.st r.env hy) (AB r.rel.st r.env hz)
  .cases h
 case build t ps=>
  exact .of_run (f:=fun a=>Instr.build t (J8 a.eval ps)) (fun a=>Jb rfl a.eval) fun ro N G a w r=>JQ hE (fun o x hx=>AB r.rel.st r.env hx) h rfl
 case buildSlice t len ps=>
  split at h
  .rename_i c' q hq
   cases len with
   |zero=>
    simp only[Qj,Qo]at h;obtain⟨hc,rfl⟩:=h;exact .DG (f:=fun a=>Instr.buildSlice t 0 (J8 a.eval ps)) (fun a=>Cv rfl a.eval) fun ro N G a w r=>LC hE r.rel (fun o x hx=>AB r.rel.st r.env hx) hq hc
   |succ n=>
    simp only[Qj,Qo]at h;obtain⟨hc,rfl⟩:=h;exact .DG (f:=fun a=>Instr.buildSlice t (n+1) (J8 a.eval ps)) (fun a=>Cv rfl a.eval) fun ro N G a w r=>IT hE r.rel (fun o x hx=>AB r.rel.st r.env hx) hq hc
  .cases h
 case makeFunc f first cap=>
  split at h
  .rename_i y z hy hz;cases h;refine .of_run (f:=fun a=>Instr.makeFunc f (first.map a.eval) (cap.map a.eval)) (fun _=>rfl) fun ro N G a w r=>⟨_,by simp only[Instr.makeFunc,Qu];rfl,?_⟩
   simp only[RV];exact⟨first.toList.map a.eval,cap.toList.map a.eval,by congr 1<;>(apply Array.ext';simp),BI r.rel.st r.env hy,BI r.rel.st r.env hz⟩
  .cases h
 case lookup t m k ok=>
  split at h
  .rename_i y z hy hz;exact .of_run (f:=fun a=>Instr.lookup t (a.eval m) (a.eval k) ok) (fun _=>rfl) fun ro N G a w r=>LI hE r.rel (by rw[r.heap];exact h) rfl (AB r.rel.st r.env hy) (AB r.rel.st r.env hz)
  .cases h
 case makeInterface t p=>
  split at h
  .rename_i y hy;exact .of_run (f:=fun a=>Instr.makeInterface t (a.eval p)) (fun _=>rfl) fun ro N G a w r=>MV hE h rfl (AB r.rel.st r.env hy)
  .cases h
 case typeAssert p xt asserted ok=>
  split at h
  .rename_i y hy;exact .of_run (f:=fun a=>Instr.typeAssert (a.eval p) xt asserted ok) (fun _=>rfl) fun ro N G a w r=>IW hE h rfl (AB r.rel.st r.env hy)
  .cases h
 case extract p i=>
  split at h
  .rename_i y hy;exact .of_run (f:=fun a=>Instr.extract (a.eval p) i) (fun _=>rfl) fun ro N G a w r=>Hl h (AB r.rel.st r.env hy)
  .cases h
 case call c=>
  split at h
  .rename_i b hb;split at h
   .rename_i xs hxs;exact Nz hE rfl hb hxs h rfl
   .cases h
  .cases h
end Go.Gar
namespace Go.Gar
def Ny(E:Nat->Option AK)(env:R9)(H:RE)(op:Op):Option (Bool×(Nat->AV)×A2):=
 match op with
 | .alloc t=>match Hj E t with
  |some cs=>some (true,fun id=> .ptr id 0 cs.length,.c cs)
  |none=>none
 | .box t a=>match Bh env a with
  |some x=>match MQ E t x with
   |some cs=>some (true,fun id=> .ptr id 0 cs.length,.c cs)
   |none=>none
  |none=>none
 | .makeSlice t l c=>match Bh env l,Bh env c with
  |some x,some y=>match JV E t x y with
   |some (cc,q)=>some (cc,fun id=> .sl id (AI q) (AU q),.a q)
   |none=>none
  |_,_=>none
 | .makeMap _ r=>match r with
  |none=>some (true,fun id=> .mp id,.m [])
  |some _=>none
 |_=>none
variable {P:Program}{E:Nat->Option AK}{S:St}{o:Oper}{c:Bool}
theorem MP(hE:Ai P E){f:Nat->AV}{b:A2}(h:Ny E S.env S.H o.op=some (c,f,b))(hc:c=true):Bi P o S (f S.H.length) (S.H++[b]):=by
 subst hc;obtain⟨dst,op,ty,pos,after,guard⟩:=o;simp only at h;cases op<;>simp only[Ny]at h<;>try(cases h;done)
 case alloc t=>
  split at h
  .rename_i cs hcs;cases h
   exact .BS (f:=fun a=>Instr.alloc t true (.tuple #[])) (fun _=>rfl) fun ro N G a w r=>by
    have:=JO hE r.rel hcs;rw[r.heap]at this;exact this
  .cases h
 case box t p=>
  split at h
  .rename_i x hx;split at h
   .rename_i cs hcs;cases h
    exact .BS (f:=fun a=>Instr.box t (a.eval p)) (fun _=>rfl) fun ro N G a w r=>by
     have:=MR (P:=P) r.rel hcs (AB r.rel.st r.env hx);rw[r.heap]at this;exact this
   .cases h
  .cases h
 case makeSlice t l c=>
  split at h
  .rename_i x y hx hy;split at h
   .rename_i cc q hq;simp only[Qj,Qo]at h;obtain⟨hc,rfl,rfl⟩:=h
    exact .BS (f:=fun a=>Instr.makeSlice t (a.eval l) (a.eval c)) (fun _=>rfl) fun ro N G a w r=>by
     have:=LJ hE r.rel hq hc (AB r.rel.st r.env hx) (AB r.rel.st r.env hy);rw[r.heap]at this;exact this
   .cases h
  .cases h
 case makeMap t p=>
  cases p with
  |none=>
   cases h
   exact .BS (f:=fun a=>Instr.makeMap t none) (fun _=>rfl) fun ro N G a w r=>by
    have:=Jk (P:=P) r.rel t;rw[r.heap]at this;exact this
  |some q=>cases h
def GL(E:Nat->Option AK)(env:R9)(H:RE)(op:Op):Option (Bool×D):=
 match op with
 | .call c=>match c.callee,c.argTypes.toList with
  | .builtin .append,[t,u]=>match EA env c.args.toList with
   |some [.e0,x]=>FB E H t u x
   |_=>none
  |_,_=>none
 | .buildSlice t len ps=>Cm E (Bh env) t len ps.toList
 |_=>none
theorem KO(hE:Ai P E){q:D}(h:GL E S.env S.H o.op=some (c,q))(hc:c=true):Bi P o S (.sl S.H.length (AI q) (AU q)) (S.H++[.a q]):=by
 subst hc;unfold GL at h;split at h
 .rename_i cl ho;split at h
  .rename_i t u hb ht;have hty:=Bo ht;split at h
   .rename_i x hxs;refine .BS (f:=fun a=>Builtin.append_ cl.argTypes o.type (cl.args.map a.eval)) (fun a=>by rw[FK (P:=P) hb ho];rfl) fun ro N G a w r=> ?_
    have:=BI r.rel.st r.env hxs;simp only[AH]at this;obtain⟨v,l,e,h1,v',l',e',h2,h3⟩:=this;subst e';subst h3;have e2:cl.args.map a.eval= #[v,v']:=Bo (by simpa using e);have hy:=MF (ty:=o.type) hE r.rel (by rw[r.heap];exact h) rfl h1 h2;rw[e2,hty];rw[r.heap]at hy;exact hy
   .cases h
  .cases h
 .rename_i t len ps ho;refine .BS (f:=fun a=>Instr.buildSlice t len (J8 a.eval ps)) (fun a=>Cv ho a.eval) fun ro N G a w r=> ?_
  have:=JK hE r.rel (fun o x hx=>AB r.rel.st r.env hx) h rfl;rw[r.heap]at this;exact this
 .cases h
def Ox(E:Nat->Option AK)(env:R9)(H:RE)(op:Op):Option (Bool×AV×RE):=
 match op with
 | .store t a x=>match Bh env a,Bh env x with
  |some p,some v=>match Hs E H t p v with
   |some (c,H')=>some (c,.u,H')
   |none=>none
  |_,_=>none
 | .insert t m k v| .mapUpdate t m k v=>match Bh env m,Bh env k,Bh env v with
  |some x,some y,some z=>match MW E H t x y z with
   |some (c,H')=>some (c,.u,H')
   |none=>none
  |_,_,_=>none
 | .call c=>match c.callee,c.argTypes.toList with
  | .builtin .append,[t,u]=>match EA env c.args.toList with
   |some [.sl id n sz,x]=>match JP E H t u id n x with
    |some (c,r)=>match setH id (.a r) H with
     |some H'=>some (c,.sl id (AI r) sz,H')
     |none=>none
    |none=>none
   |_=>none
  |_,_=>none
 |_=>none
theorem Md(hE:Ai P E){x:AV}{H':RE}(h:Ox E S.env S.H o.op=some (c,x,H'))(hc:c=true):Bi P o S x H':=by
 subst hc;unfold Ox at h;split at h
 .rename_i t p v ho;split at h
  .rename_i y z hy hz;split at h
   .rename_i c' q hq;simp only[Qj,Qo]at h;obtain⟨hc,rfl,rfl⟩:=h;intro ro N G a w r;obtain⟨w',G',h1,h2,h3,h4⟩:=Ja hE r.rel (by rw[r.heap];exact hq) hc (AB r.rel.st r.env hy) (AB r.rel.st r.env hz);refine⟨.skip,w',G',?_,.inl ⟨rfl,rfl⟩,h2,h3,h4⟩;unfold execOp;simp only[ho,Qr,h1,Ql,Qu]
   .cases h
  .cases h
 .rename_i t m k v ho;split at h
  .rename_i x' y z hx hy hz;split at h
   .rename_i c' q hq;simp only[Qj,Qo]at h;obtain⟨hc,rfl,rfl⟩:=h;intro ro N G a w r;obtain⟨w',G',h1,h2,h3,h4⟩:=IX hE r.rel (by rw[r.heap];exact hq) hc (AB r.rel.st r.env hx) (AB r.rel.st r.env hy) (AB r.rel.st r.env hz);refine⟨.skip,w',G',?_,.inl ⟨rfl,rfl⟩,h2,h3,h4⟩;unfold execOp;simp only[ho,Qr,h1,Ql,Qu]
   .cases h
  .cases h
 .rename_i t m k v ho;split at h
  .rename_i x' y z hx hy hz;split at h
   .rename_i c' q hq;simp only[Qj,Qo]at h;obtain⟨hc,rfl,rfl⟩:=h;intro ro N G a w r;obtain⟨w',G',h1,h2,h3,h4⟩:=IX hE r.rel (by rw[r.heap];exact hq) hc (AB r.rel.st r.env hx) (AB r.rel.st r.env hy) (AB r.rel.st r.env hz);refine⟨.skip,w',G',?_,.inl ⟨rfl,rfl⟩,h2,h3,h4⟩;unfold execOp;simp only[ho,Qr,h1,Ql,Qu]
   .cases h
  .cases h
 .rename_i cl ho;split at h
  .rename_i t u hb ht;have hty:=Bo ht;split at h
   .rename_i id n sz x' hxs;split at h
    .rename_i c' q hq;split at h
     .rename_i H2 hset;simp only[Qj,Qo]at h;obtain⟨hc,rfl,rfl⟩:=h;obtain⟨_,rfl⟩:=D1 hset;refine .BS (f:=fun a=>Builtin.append_ cl.argTypes o.type (cl.args.map a.eval)) (fun a=>by rw[FK (P:=P) hb ho];rfl) fun ro N G a w r=> ?_
      have:=BI r.rel.st r.env hxs;simp only[AH]at this;obtain⟨v,l,e,h1,v',l',e',h2,h3⟩:=this;subst e';subst h3;have e2:cl.args.map a.eval= #[v,v']:=Bo (by simpa using e);have hy:=Ns (ty:=o.type) hE r.rel (by rw[r.heap];exact hq) hc h1 h2;rw[e2,hty];rw[r.heap]at hy;exact hy
     .cases h
    .cases h
   .cases h
  .cases h
 .cases h
def AW(dst:Option Tmp)(x:AV)(env:R9):R9:=
 match dst with
 |some d=>(d,x)::env
 |none=>env
def AA(dst:Option Tmp)(n:Nat):Bool:=
 match dst with
 |some d=>Nat.blt d n
 |none=>true
def A4(ops:R0)(env:R9)(o:Oper):Option Bool:=
 match o.guard with
 |none=>some true
 |some (j,want)=>match ops.toList[j]? with
  |some p=>match p.dst with
   |some d=>match get env d with
    |some (.d (.b b))=>some (match want with|true=>b|false=> !b)
    |some (.d (.tup []))=>some false
    |_=>none
   |none=>none
  |none=>none
def Wl(P:Program)(ro:Qt)(ops:R0)(i:Nat)(rest:R1)(S:St)(Q:Exit->St->Prop):Prop:=
 (∀k:Nat,rest[k]? =ops[i+k]?)->∀N G a w,Rel ro N S G a w->wpOpsIn (FE (rl G ro)) 0 P ops (Post ro N G w Q) (List.range' i rest.length) a w
section
variable {P:Program}{ro:Qt}{ops:R0}{i:Nat}{rest:R1}{S:St}{Q:Exit->St->Prop}{o:Oper}
theorem AQ{id:Nat}(h:Wl P ro ops 0 ops.toList S Q):W P ro (.region id ops false) S Q:=by
 intro N G a w r;refine wpIn_region ?_;have:=h (fun k=>sm) N G a w r;rw[List.range_eq_range'];simpa using this
theorem M7(h:Q .normal S):Wl P ro ops i [] S Q:=by
 intro _ N G a w r;simp only[RY,List.range'_zero,wpOpsIn];exact⟨S,G,h,r,BE.refl G w⟩
theorem Am{F:Fence}{n:Nat}{Q Q':Exit->Act->World->Prop}(hq:∀e a w,Q e a w->Q' e a w):∀(l:QQ)(a:Act)(w:World),wpOpsIn F n P ops Q l a w->wpOpsIn F n P ops Q' l a w
 |[],a,w,h=>hq _ _ _ h
 |i::l,a,w,h=>by
  simp only[wpOpsIn]at h|-;split
  .rename_i ho;simp only[ho]at h;exact Am hq l a w h
  .rename_i o ho;simp only[ho]at h;split
   .rename_i hw;rw[Rf hw]at h;obtain⟨h1,h2⟩:=h;refine⟨h1,?_⟩;generalize(o.semAt F.round a.eval).run P w=r at*
    cases r with
    |ok x w'=>
     cases x<;>simp only[Oper.uponIn]at h2|-<;>
      first
       |exact Am hq l _ _ h2
       |exact⟨h2.1,CallsIn.mono h2.2 (fun e w'' he=>by
        cases e with
        |returned v=>exact Am hq l _ _ he
        |panicked c=>exact hq _ _ _ he
        |outgrown=>obtain⟨a0,w0,h0⟩:=he;exact⟨a0,w0,hq _ _ _ h0⟩)⟩
       |exact⟨h2.1,RowsIn.mono h2.2 (fun _ _ he=>Am hq l _ _ he)⟩
       |exact⟨h2.1,RoundIn.mono h2.2 (fun e w'' he=>by
        cases e with
        |returned v=>exact Am hq l _ _ he
        |panicked c=>exact hq _ _ _ he
        |outgrown=>obtain⟨a0,w0,h0⟩:=he;exact⟨a0,w0,hq _ _ _ h0⟩)⟩
    |halt x w'=>
     cases x<;>simp only[Oper.uponIn]at h2|-<;>exact hq _ _ _ h2
   .rename_i hw;rw[Rw hw]at h;exact⟨h.1,Am hq l _ _ h.2⟩
theorem Ax{G:Gh}{a:Act}(h:Cj G S.env a.tmps){b:Bool}(hg:A4 ops S.env o=some b):Region.wanted o (yielded ops a.tmps)=b:=by
 unfold A4 at hg;unfold Region.wanted;split at hg
 .rename_i hn;cases hg;rw[hn]
 .rename_i j want hn;rw[hn];split at hg
  .rename_i p hp;split at hg
   .rename_i d hd;split at hg
    .rename_i q hq;cases hg;obtain⟨v,hv,hr⟩:=h d _ hq;simp only[RV,RD]at hr;subst hr
     have:yielded ops a.tmps j=some q:=by
      have hp':ops[j]? =some p:=by simpa using hp
      simp[yielded,hp',hd,hv]
     simp only[this];cases want<;>cases q<;>rfl
    .rename_i hq;cases hg;obtain⟨v,hv,hr⟩:=h d _ hq;simp only[RV,RD,BJ]at hr;obtain⟨vs,rfl,rfl⟩:=hr
     have:yielded ops a.tmps j=none:=by
      have hp':ops[j]? =some p:=by simpa using hp
      simp[yielded,hp',hd,hv]
     simp only[this];rfl
    .cases hg
   .cases hg
  .cases hg
theorem Fv{G:Gh}{a:Act}(h:Cj G S.env a.tmps)(hs:a.tmps.size=S.n){dst:Option Tmp}(hd:AA dst S.n=true){x:AV}{v:Value}(hx:RV G x v):Cj G (AW dst x S.env) (a.put dst v).tmps/\(a.put dst v).tmps.size=S.n/\(a.put dst v).defers=a.defers:=by
 cases dst with
 |none=>exact⟨h,hs,rfl⟩
 |some d=>
  simp only[AA,S9]at hd;refine⟨fun t y hy=> ?_,by simp[Act.put,hs],rfl⟩;simp only[AW,get]at hy;split at hy
  .rename_i hb;cases hy;have:=Qi hb;subst this;exact⟨v,by simp only[Act.put];exact RP (by rw[hs];exact hd),hx⟩
  .rename_i hb;obtain⟨u,hu,hr⟩:=h t y hy
   have hne:d≠t:=by
    intro e;subst e;simp at hb
   exact⟨u,by simp only[Act.put];rw[RU hne];exact hu,hr⟩
theorem FN{x:AV}{H':RE}(hg:A4 ops S.env o=some true)(hop:Bi P o S x H')(hnd:∀c,o.op≠ .defer c)(hd:AA o.dst S.n=true)
  (k:Wl P ro ops (i+1) rest ⟨AW o.dst x S.env,H',S.n⟩ Q):Wl P ro ops i (o::rest) S Q:=by
 intro hops N G a w r;have ho:ops[i]? =some o:=by have:=hops 0;simpa using this.symm
 simp only[Qz,TL,wpOpsIn,ho];rw[Rf (Ax r.env hg)];obtain⟨res,w',G',h1,h2,h3,h4,h5⟩:=hop ro N G a w r;refine⟨fun _ _=>trivial,?_⟩;rw[Oper.semAt_eq _ _ _ hnd,h1];have hops':∀k:Nat,rest[k]? =ops[i+1+k]?:=fun k=>by have:=hops (k+1);simp at this;rw[this];congr 1;omega
 have fin:∀v,RV G' x v->wpOpsIn (FE (rl G ro)) 0 P ops (Post ro N G w Q) (List.range' (i+1) rest.length) (a.put o.dst v) w':=by
  intro v hv;obtain⟨e1,e2,e3⟩:=Fv (r.env.mono h5.gle) r.size hd hv
  have r':Rel ro N ⟨AW o.dst x S.env,H',S.n⟩ G' (a.put o.dst v) w':=⟨h3,h4,e2,e1,r.marks.Gz h5 e3,fun id hid=>by
   obtain⟨q,l,M,q1,q2⟩:=r.round id hid;rw[<-r.heap]at q1;obtain⟨b',hb',hs⟩:=h5.gle.blk id _ q1;rw[h3]at hb';cases b'<;>simp only[A6]at hs
   exact⟨_,l,M,hb',hs.1.trans q2⟩⟩
  have hk:=k hops' N G' _ w' r';rw[CH r r' h5]at hk;exact Am (fun _ _ _ p=>p.trans h5) _ _ _ hk
 rcases h2 with⟨rfl,rfl⟩|⟨v,rfl,hv⟩
 .simp only[Oper.uponIn];exact fin undef (by simp[RV])
 .simp only[Oper.uponIn];exact fin v hv
end
end Go.Gar
namespace Go.Gar
section
variable {P:Program}{ro:Qt}{ops:R0}{i:Nat}{rest:R1}{S:St}{Q:Exit->St->Prop}{o:Oper}{E:Nat->Option AK}
variable {env:R9}{H:RE}{op:Op}
theorem Dp{r:Bool×AV}(h:Fl E env H op=some r):∀c,op≠ .defer c:=fun c e=>by subst e;cases h
theorem FQ{r:Bool×(Nat->AV)×A2}(h:Ny E env H op=some r):∀c,op≠ .defer c:=fun c e=>by subst e;cases h
theorem EX{r:Bool×D}(h:GL E env H op=some r):∀c,op≠ .defer c:=fun c e=>by subst e;cases h
theorem FR{r:Bool×AV×RE}(h:Ox E env H op=some r):∀c,op≠ .defer c:=fun c e=>by subst e;cases h
variable {x:AV}{c:Bool}
theorem On(hE:Ai P E)(hg:A4 ops S.env o=some true)(h:Fl E S.env S.H o.op=some (c,x))(hd:AA o.dst S.n=true)(hc:c=true)(k:Wl P ro ops (i+1) rest ⟨AW o.dst x S.env,S.H,S.n⟩ Q):Wl P ro ops i (o::rest) S Q:=
 FN hg (JX hE h hc) (Dp h) hd k
theorem Wl_a(hE:Ai P E){f:Nat->AV}{b:A2}(hg:A4 ops S.env o=some true)(h:Ny E S.env S.H o.op=some (c,f,b))(hd:AA o.dst S.n=true)(hc:c=true)(k:Wl P ro ops (i+1) rest ⟨AW o.dst (f S.H.length) S.env,S.H++[b],S.n⟩ Q):Wl P ro ops i (o::rest) S Q:=
 FN hg (MP hE h hc) (FQ h) hd k
theorem Ph(hE:Ai P E){q:D}(hg:A4 ops S.env o=some true)(h:GL E S.env S.H o.op=some (c,q))(hd:AA o.dst S.n=true)(hc:c=true)(k:Wl P ro ops (i+1) rest ⟨AW o.dst (.sl S.H.length (AI q) (AU q)) S.env,S.H++[.a q],S.n⟩ Q):Wl P ro ops i (o::rest) S Q:=
 FN hg (KO hE h hc) (EX h) hd k
theorem Wl_w(hE:Ai P E){H':RE}(hg:A4 ops S.env o=some true)(h:Ox E S.env S.H o.op=some (c,x,H'))(hd:AA o.dst S.n=true)(hc:c=true)(k:Wl P ro ops (i+1) rest ⟨AW o.dst x S.env,H',S.n⟩ Q):Wl P ro ops i (o::rest) S Q:=
 FN hg (Md hE h hc) (FR h) hd k
variable {G:Gh}{a:Act}
theorem Rel.Hh{N:NB}{w:World}(r:Rel ro N S G a w)(h:∀t x,get env t=some x->get S.env t=some x):Rel ro N ⟨env,S.H,S.n⟩ G a w:=
 ⟨r.heap,r.rel,r.size,fun t x hx=>r.env t x (h t x hx),r.marks,r.round⟩
theorem JH(h:∀t x,get env t=some x->get S.env t=some x)(k:Wl P ro ops i rest ⟨env,S.H,S.n⟩ Q):Wl P ro ops i rest S Q:=
 fun hops N G a w r=>k hops N G a w (r.Hh h)
theorem Ei{d:Nat}(h:get env d=some x):∀t y,get ((d,x)::env) t=some y->get env t=some y:=by
 intro t y hy;simp only[get]at hy;split at hy
 .rename_i hb;have:=Qi hb;subst this;cases hy;exact h
 .exact hy
def LQ(ops:R0)(o:Oper):Qt:=
 match o.guard with
 |some (j,_)=>match ops.toList[j]? with
  |some p=>p.dst
  |none=>none
 |none=>none
theorem M9{d:Nat}{b:Bool}(hg:LQ ops o=some d)(hb:get S.env d=some (.d (.b b)))
  (ht:b=true->Wl P ro ops i (o::rest) ⟨(d,.d (.b true))::S.env,S.H,S.n⟩ Q) (hf:b=false->Wl P ro ops i (o::rest) ⟨(d,.d (.b false))::S.env,S.H,S.n⟩ Q):Wl P ro ops i (o::rest) S Q:=by
 cases b with
 |true=>exact JH (Ei hb) (ht rfl)
 |false=>exact JH (Ei hb) (hf rfl)
theorem Rel.step{N:NB}{G':Gh}{a':Act}{w w':World}{S':St}(r:Rel ro N S G a w)(h:BE G w G' w')(hH:G'.H=S'.H)(hr:AD G' w')(hn:S'.n=S.n)(hs:a'.tmps.size=S.n)(he:Cj G' S'.env a'.tmps)(hd:a'.defers=a.defers):Rel ro N S' G' a' w':=
 ⟨hH,hr,by rw[hs,hn],he,r.marks.Gz h hd,fun id hid=>by
  obtain⟨q,l,M,q1,q2⟩:=r.round id hid;rw[<-r.heap]at q1;obtain⟨b',hb',hs⟩:=h.gle.blk id _ q1;rw[hH]at hb';cases b'<;>simp only[A6]at hs
  exact⟨_,l,M,hb',hs.1.trans q2⟩⟩
theorem Np(hg:A4 ops S.env o=some false)(hd:AA o.dst S.n=true)(k:Wl P ro ops (i+1) rest ⟨AW o.dst (.d (.tup [])) S.env,S.H,S.n⟩ Q):Wl P ro ops i (o::rest) S Q:=by
 intro hops N G a w r;have ho:ops[i]? =some o:=by have:=hops 0;simpa using this.symm
 simp only[Qz,TL,wpOpsIn,ho];have hw:=Ax r.env hg;rw[Rw (by rw[hw];simp)];refine⟨fun _ _=>trivial,?_⟩;have hops':∀k:Nat,rest[k]? =ops[i+1+k]?:=fun k=>by have:=hops (k+1);simp at this;rw[this];congr 1;omega
 obtain⟨e1,e2,e3⟩:=Fv r.env r.size hd (x:=.d (.tup [])) (v:=undef) (by simp only[RV,RD];exact⟨[],rfl,by simp[BJ]⟩);exact k hops' N G _ w (r.step (BE.refl G w) r.heap r.rel rfl e2 e1 e3)
def Dh(P:Program)(f:FuncId):Prop:=∃fn, P.funcs[f]? =some fn/\(fn.name== "runtime.NumGoroutine")=false/\fn.body.isSome=true
def Bv(P:Program)(f:FuncId)(args:R8)(H:RE)(R:AV->RE->Prop):Prop:=
 Dh P f/\∀G w (vs:R2),G.H=H->AD G w->AH G args vs.toList->
  CallsIn Fence.wide 0 P f vs w fun e w'=>∃v r G',e= .returned v/\R r G'.H/\RV G' r v/\AD G' w'/\BE G w G' w'
variable {R:AV->RE->Prop}
theorem Bv.mono{f:FuncId}{args:R8}{R':AV->RE->Prop}(h:Bv P f args H R)(hr:∀x H,R x H->R' x H):Bv P f args H R':=
 ⟨h.1,fun G w vs h1 h2 h3=>(h.2 G w vs h1 h2 h3).mono fun _ _ ⟨v,r,G',e,q,rest⟩=>⟨v,r,G',e,hr _ _ q,rest⟩⟩
theorem Dv{f g:FuncId}{c:Call}{fo:Operand}(hc:c.callee= .value fo){first cap:R2}(hf:a.eval fo= .func (.func g) first cap)(hcall:Dh P g)(ho:o.op= .call c)(w:World):
  (execOp a.eval o).run P w= .ok (.enter g (first++c.args.map a.eval++cap)) w:=by
 obtain⟨fn,h1,h2,h3⟩:=hcall;have hb:fn.body.isNone=false:=by cases hx:fn.body<;>simp_all
 unfold execOp;simp only[ho,resolve,hc,hf,Deferred.ofValue,Qr,Qu,Ql,invoke,callFunc,run_program,h1,h2,hb,Ry,SY,Sem.run_ite]
theorem AH.app:∀{xs ys:R8}{vs us:Qf},AH G xs vs->AH G ys us->AH G (xs++ys) (vs++us)
 |[],ys,vs,us,h,k=>by simp only[AH]at h;subst h;exact k
 |x::xs,ys,vs,us,h,k=>by
  simp only[AH]at h;obtain⟨v,r,rfl,h1,h2⟩:=h;simp only[List.cons_append,AH];exact⟨v,r++us,rfl,h1,AH.app h2 k⟩
theorem ET{first xs cap:R8}{p q:Qf}{l:Array Operand}{ev:Operand->Value}(hp:AH G first p)(h1:AH G xs (l.toList.map ev))(hq:AH G cap q):AH G (first++xs++cap) (p.toArray++l.map ev++q.toArray).toList:=by
 have e:(p.toArray++l.map ev++q.toArray).toList=p++l.toList.map ev++q:=by simp
 rw[e];exact(hp.app h1).app hq
theorem I3{ops:R0}{i:Nat}{o:Oper}{rest:R1}(h:∀k:Nat,(o::rest)[k]? =ops[i+k]?):ops[i]? =some o:=by have:=h 0;simpa using this.symm
theorem Ir{ops:R0}{i:Nat}{o:Oper}{rest:R1}(h:∀k:Nat,(o::rest)[k]? =ops[i+k]?):∀k:Nat,rest[k]? =ops[i+1+k]?:=fun k=>by have:=h (k+1);simp at this;rw[this];congr 1;omega
theorem M4{c:Call}{fo:Operand}{g:FuncId}{first cap xs:R8}(ho:o.op= .call c)(hc:c.callee= .value fo)(hg:A4 ops S.env o=some true)(hf:Bh S.env fo=some (.fn (.func g) first cap))(hxs:EA S.env c.args.toList=some xs)(hd:AA o.dst S.n=true)(hT:Bv P g (first++xs++cap) S.H R)(k:∀r H',R r H'->Wl P ro ops (i+1) rest ⟨AW o.dst r S.env,H',S.n⟩ Q):Wl P ro ops i (o::rest) S Q:=by
 intro hops N G a w r;have ho':=I3 hops;simp only[Qz,TL,wpOpsIn,ho'];rw[Rf (Ax r.env hg)];refine⟨fun _ _=>trivial,?_⟩;have hfv:=AB r.rel.st r.env hf;simp only[RV]at hfv;obtain⟨p,q,hfv,hp,hq⟩:=hfv;have hrun:=Dv (P:=P) (f:=g) hc hfv hT.1 ho w;rw[Oper.semAt_eq _ _ _ (fun c e=>by rw[ho]at e;cases e),hrun];simp only[Oper.uponIn];refine⟨CC _,?_⟩;have hops':=Ir hops;have hargs:=ET hp (BI r.rel.st r.env hxs) hq;have hcall:=hT.2 G w _ r.heap r.rel hargs;have hcall':CallsIn (FE (rl G ro)) 0 P g (p.toArray++c.args.map a.eval++q.toArray) w _:=hcall;refine hcall'.mono ?_;rintro e w' ⟨v,x,G',rfl,hR,hv,hr',hfr⟩;obtain⟨e1,e2,e3⟩:=Fv (r.env.mono hfr.gle) r.size hd hv;have r':Rel ro N ⟨AW o.dst x S.env,G'.H,S.n⟩ G' (a.put o.dst v) w':=r.step hfr rfl hr' rfl e2 e1 e3;have hk:=k x G'.H hR hops' N G' _ w' r';rw[CH r r' hfr]at hk;exact Am (fun _ _ _ p=>p.trans hfr) _ _ _ hk
end
end Go.Gar
namespace Go.Gar
section
variable {P:Program}{ro:Qt}{S:St}{Q:Exit->St->Prop}{E:Nat->Option AK}
variable {w:World}
theorem ID{r:Nat}{o:Obj}(h:w.heap[r]? =some (.deferred (some []))):(Instr.takeDeferred r).run P w= .ok [] {w with heap:=w.heap.setIfInBounds r (.deferred none)}:=by
 simp only[Instr.takeDeferred,getObj,setObj,Qr];simp[Sem.run,h]
structure L3 (ms:QQ) (w w':World):Prop where
 os:w'.os=w.os
 tape:w'.tape=w.tape
 output:w'.output=w.output
 size:w'.heap.size=w.heap.size
 other:∀b,b∉ms->w'.heap[b]? =w.heap[b]?
 at_:∀b,b∈ms->∃o,w'.heap[b]? =some (.deferred o)
theorem D4{F:Fence}{n:Nat}{fn:Func}{tmps:R2}{R:Ending->World->Prop}{base:List Deferred}{u:FrameMode}(hu:u≠ .run):∀(ms:QQ)(w:World),ms.Nodup->(∀r∈ms,w.heap[r]? =some (.deferred (some [])))->
  (∀w',L3 ms w w'->LeavesInM F n P fn tmps R base u w')->LeavesInM F n P fn tmps R (ms.map (fun r=>{target:=.collected r,args:=#[]})++base) u w
 |[],w,_,_,h=>by
  simp only[TJ,List.nil_append];exact h w ⟨rfl,rfl,rfl,rfl,fun _ _=>rfl,fun _ h=>by cases h⟩
 |r::ms,w,hn,hm,h=>by
  simp only[Ru,List.cons_append,LeavesInM];have hr:=hm r sm;have hlt:r<w.heap.size:=(Qp.1 hr).1;obtain⟨hnr,hn'⟩:=Sj.1 hn;refine⟨hu,.inl ⟨r,_,rfl,ID (o:=.deferred none) hr,D4 hu ms _ hn' (fun q hq=> ?_) (fun w' ht=>h w' ?_)⟩⟩
  .have:r≠q:=fun e=>hnr (e▸hq);show(w.heap.setIfInBounds r (.deferred none))[q]? =_
   rw[RU this];exact hm q (by simp[hq])
  .refine⟨ht.os,ht.tape,ht.output,by rw[ht.size];simp,fun b hb=> ?_,fun b hb=> ?_⟩
   .rw[Si,not_or]at hb;rw[ht.other b hb.2];show(w.heap.setIfInBounds r (.deferred none))[b]? =_;rw[RU (Ne.symm hb.1)]
   .rcases Si.1 hb with rfl|hb
    .by_cases hbm:b∈ms
     .exact ht.at_ b hbm
     .refine⟨none,?_⟩;rw[ht.other b hbm];show(w.heap.setIfInBounds b (.deferred none))[b]? =_;rw[RP hlt]
    .exact ht.at_ b hb
variable {fn:Func}{tmps:R2}{R:Ending->World->Prop}
theorem Hx{F:Fence}{n:Nat}(ms:QQ)(w:World)(hn:ms.Nodup)(hm:∀r∈ms,w.heap[r]? =some (.deferred (some [])))(h:∀w',L3 ms w w'->∃v,(results fn tmps).run P w'= .ok v w'/\R (.returned v) w'):LeavesInM F n P fn tmps R (ms.map (fun r=>{target:=.collected r,args:=#[]})++[]) .returning w:=
 D4 sm ms w hn hm fun w' ht=>by simpa only[LeavesInM,LeavesIn]using h w' ht
variable {G:Gh}
theorem J4{w':World}{ms:QQ}(h:AD G w)(t:L3 ms w w')(hm:∀r∈ms,w.heap[r]? =some (.deferred (some []))/\¬Own G r):AD G w' where
 blk id b hb:=(h.blk id b hb).Gz (DN.refl G) (fun q N hl hρ=>t.other q fun hq=>(hm q hq).2 (.inl ⟨id,N,b,hb,hl,hρ⟩)) rfl (fun rs e c hc=>t.other c fun hq=>(hm c hq).2 (.inr ⟨id,rs,by rw[<-e];exact hb,hc⟩))
 inj:=h.inj
 mny:=h.mny
 mem b k v hv:=by
  have hc:=h.mem b k v hv
  have hne:b∉ms:=fun hb=>by
   rw[World.cell?]at hc;simp[(hm b hb).1]at hc
  rw[World.cell?_of_block (w:=w) (t.other b hne)];exact hc
 sep:=h.sep
 st:=h.st
def res1(tmps:R2):ResultVar->Sem Value
 | .tmp t=>pure (tmps.getD t undef)
 | .cell a t=>do loadVar t (<-asAddr (tmps.getD a undef))
theorem Js(fn:Func)(tmps:R2):results fn tmps=(do let vs <-fn.results.mapM (res1 tmps);pure (if h:vs.size=1 then vs[0]else .tuple vs)):=by
 unfold results
 congr 1
def Hq(E:Nat->Option AK)(env:R9)(H:RE):ResultVar->RB
 | .tmp t=>tt (get env t)
 | .cell a t=>match get env a with
  |some (.ptr id off cnt)=>Ho E H t (.ptr id off cnt)
  |_=>none
def FD(E:Nat->Option AK)(env:R9)(H:RE):List ResultVar->Option (Bool×R8)
 |[]=>some (true,[])
 |r::l=>match Hq E env H r,FD E env H l with
  |some (c,x),some (d,xs)=>some (c&&d,x::xs)
  |_,_=>none
def C8(E:Nat->Option AK)(env:R9)(H:RE)(rs:List ResultVar):RB:=
 match FD E env H rs with
 |some (c,[x])=>some (c,x)
 |some (c,xs)=>some (c,.tup xs)
 |none=>none
variable {env:R9}
theorem LL(hE:Ai P E)(hr:AD G w)(he:Cj G env tmps){r:ResultVar}{c:Bool}{x:AV}(h:Hq E env G.H r=some (c,x))(hc:c=true):
  ∃v,(res1 tmps r).run P w= .ok v w/\RV G x v:=by
 subst hc
 cases r with
 |tmp t=>
  simp only[Hq,tt]at h;split at h
  .rename_i y hy;cases h;obtain⟨v,hv,hrv⟩:=he t _ hy;exact⟨v,by simp[res1,hv],hrv⟩
  .cases h
 |cell a t=>
  simp only[Hq]at h;split at h
  .rename_i id off cnt hy;obtain⟨v,hv,hrv⟩:=he a _ hy;obtain⟨u,hu,hru⟩:=HI hE hr h rfl hrv
   have hp:∃q,v= .pointer (some q):=by
    cases v with
    |pointer q=>
     cases q with
     |none=>simp[Instr.loadAt,Instr.sureAddr]at hu
     |some q=>exact⟨q,rfl⟩
    |_=>simp[Instr.loadAt,Instr.sureAddr]at hu
   obtain⟨q,rfl⟩:=hp;simp only[Instr.loadAt,Instr.sureAddr,Qr,Qu,Ql]at hu;exact⟨u,by simp[res1,hv,asAddr,hu],hru⟩
  .cases h
theorem HJ(hE:Ai P E){G:Gh}{w:World}(hr:AD G w){env:R9}{tmps:R2}(he:Cj G env tmps):∀{rs:List ResultVar}{c:Bool}{xs:R8},FD E env G.H rs=some (c,xs)->c=true->
  ∃vs:Qf,(rs.mapM (res1 tmps)).run P w= .ok vs w/\AH G xs vs
 |[],c,xs,h,_=>by
  simp[FD]at h;obtain⟨_,rfl⟩:=h;exact⟨[],sm,by simp[AH]⟩
 |r::rs,c,xs,h,hc=>by
  simp only[FD]at h;split at h
  .rename_i c1 x d ys h1 h2;simp only[Qj,Qo]at h;obtain⟨h3,rfl⟩:=h;rw[<-h3]at hc;simp only[Qk]at hc;obtain⟨v,hv,hrv⟩:=LL hE hr he h1 hc.1;obtain⟨vs,hvs,hrs⟩:=HJ hE hr he h2 hc.2;refine⟨v::vs,?_,by simp only[AH];exact⟨v,vs,rfl,hrv,hrs⟩⟩;rw[List.mapM_cons];simp only[Qr,hv,Ql,hvs,Qu]
  .cases h
theorem Mb(hE:Ai P E)(hr:AD G w)(he:Cj G env tmps){c:Bool}{x:AV}(h:C8 E env G.H fn.results.toList=some (c,x))(hc:c=true):
  ∃v,(results fn tmps).run P w= .ok v w/\RV G x v:=by
 unfold C8 at h
 have key:∀{xs:R8}{c':Bool},FD E env G.H fn.results.toList=some (c',xs)->c'=true->∃vs:Qf,AH G xs vs/\(results fn tmps).run P w= .ok (if h:vs.toArray.size=1 then vs.toArray[0]else .tuple vs.toArray) w:=by
  intro xs c' h1 h2;obtain⟨vs,hvs,hrs⟩:=HJ hE hr he h1 h2;refine⟨vs,hrs,?_⟩;rw[Js];simp only[Qr];rw[Array.mapM_eq_mapM_toList];simp only[Sem.run_map,hvs,Ql,Qu]
 split at h
 .rename_i c' y h1;simp only[Qj,Qo]at h;obtain⟨rfl,rfl⟩:=h;obtain⟨vs,h2,h3⟩:=key h1 hc;simp only[AH]at h2;obtain⟨v,r,rfl,h4,rfl⟩:=h2;exact⟨v,by rw[h3];simp,h4⟩
 .rename_i c' xs hne h1;simp only[Qj,Qo]at h;obtain⟨rfl,rfl⟩:=h;obtain⟨vs,h2,h3⟩:=key h1 hc;have hl:=AH.EJ h2
  have:vs.toArray.size≠1:=by
   intro e
   cases xs with
   |nil=>simp at hl;simp[hl]at e
   |cons x r=>
    cases r with
    |nil=>exact hne x rfl
    |cons y r=>simp at hl;simp[hl]at e
  refine⟨.tuple vs.toArray,by rw[h3,dif_neg this],?_⟩;simp only[RV];exact⟨vs,rfl,h2⟩
 .cases h
def G9(K:St->Prop):Exit->St->Prop
 | .ret,S=>K S
 | .normal,S=>K S
 |_,_=>False
def Cu:Nat->R8->R9
 |_,[]=>[]
 |n,x::r=>(n,x)::Cu (n+1) r
theorem HH:∀{l:R8}{n t:Nat}{x:AV},get (Cu n l) t=some x->n<=t/\l[t-n]? =some x
 |[],n,t,x,h=>by simp[Cu,get]at h
 |y::l,n,t,x,h=>by
  simp only[Cu,get]at h;split at h
  .rename_i hb;have:=Qi hb;subst this;cases h;simp
  .obtain⟨h1,h2⟩:=HH h;refine⟨om,?_⟩;rw[show t-n=(t-(n+1))+1 by omega];simpa using h2
def OO(K:St->Prop)(KP:R4->St->Prop):Exit->St->Prop
 | .ret,S=>K S
 | .normal,S=>K S
 | .panic ch,S=>KP ch S
 |_,_=>False
theorem Nf{K:St->Prop}{KP:R4->St->Prop}:∀e S,G9 K e S->OO K KP e S:=by
 intro e S h;cases e<;>first|exact h|exact h.elim
variable {args:R8}{H:RE}{vs:R2}
theorem P5(hG:G.H=H)(hr:AD G w)(hargs:AH G args vs.toList)(hn:args.length<=fn.ntmps):
  Rel none ⟨w.heap.size,[]⟩ ⟨Cu 0 args,H,fn.ntmps⟩ G {tmps:=vs++Array.replicate (fn.ntmps-vs.size) undef,defers:=[]} w:=by
 have hl:vs.size=args.length:=by have:=AH.EJ hargs;simpa using this
 refine⟨hG,hr,by simp;omega,fun t x hx=> ?_,⟨Qn _,[],rfl,List.nodup_nil,fun _ h=>by cases h⟩,fun _ h=>by cases h⟩;obtain⟨_,h2⟩:=HH hx;rw[Nat.sub_zero]at h2;obtain⟨v,hv,hrv⟩:=(B2.1 hargs).2 t x h2;have hlt:t<vs.size:=by simpa using(Qh.1 hv).1
 exact⟨v,by rw[Array.getElem?_append_left hlt];simpa using hv,hrv⟩
variable {f:FuncId}{c:Code}{K:AV->RE->Prop}
theorem LB(hE:Ai P E)(hf:P.funcs[f]? =some fn)(hb:fn.body=some c)(hn:args.length<=fn.ntmps){KP:R4->RE->Prop}(h:W P none c ⟨Cu 0 args,H,fn.ntmps⟩ (OO (fun S'=>∃cc x,C8 E S'.env S'.H fn.results.toList=some (cc,x)/\cc=true/\K x S'.H) fun ch S'=>KP ch S'.H))(hG:G.H=H)(hr:AD G w)(hargs:AH G args vs.toList)(hR:∀(x:AV)(v:Value)(G':Gh)(w1 w':World)(ms:QQ),K x G'.H->RV G' x v->AD G' w1->AD G' w'->BE G w G' w1->L3 ms w1 w'->(∀r∈ms,w.heap.size<=r)->R (.returned v) w')(hP:∀(ch:R4)(G':Gh)(w1 w':World)(ms:QQ),KP ch G'.H->AD G' w1->AD G' w'->BE G w G' w1->L3 ms w1 w'->(∀r∈ms,w.heap.size<=r)->R (.panicked ch) w'):
  CallsIn Fence.wide 0 P f vs w R:=by
 refine callsIn_of_wp_marks hf hb trivial ?_;have r0:=P5 (fn:=fn) hG hr hargs hn;have hw:=h ⟨w.heap.size,[]⟩ G _ w r0;refine wpIn_mono hw ?_;rintro e a' w1 ⟨S',G',q,r',k⟩
 have fin:(∃cc x,C8 E S'.env S'.H fn.results.toList=some (cc,x)/\cc=true/\K x S'.H)->LeavesInM Fence.wide 0 P fn a'.tmps R a'.defers .returning w1:=by
  rintro⟨cc,x,h1,h2,h3⟩;obtain⟨_,ms,m1,m2,m3⟩:=r'.marks;rw[m1];refine Hx ms w1 m2 (fun r hr=>(m3 r hr).2.1) (fun w' ht=> ?_);have hr2:=J4 r'.rel ht (fun r hr=>(m3 r hr).2);obtain⟨v,hv,hrv⟩:=Mb hE hr2 r'.env (fn:=fn) (by rw[r'.heap];exact h1) h2;exact⟨v,hv,hR x v G' w1 w' ms (by rw[r'.heap];exact h3) hrv r'.rel hr2 k ht (fun r hr=>(m3 r hr).1)⟩
 cases e with
 |normal|ret=>exact fin q
 |panic ch=>
  obtain⟨_,ms,m1,m2,m3⟩:=r'.marks;show LeavesInM Fence.wide 0 P fn a'.tmps R a'.defers (.panicking ch) w1;rw[m1];refine D4 sm ms w1 m2 (fun r hr=>(m3 r hr).2.1) (fun w' ht=> ?_);have hr2:=J4 r'.rel ht (fun r hr=>(m3 r hr).2);simp only[LeavesInM,LeavesIn];exact hP ch G' w1 w' ms (by rw[r'.heap];exact q) r'.rel hr2 k ht (fun r hr=>(m3 r hr).1)
 |_=>exact q.elim
theorem IS(hE:Ai P E)(hf:P.funcs[f]? =some fn)(hb:fn.body=some c)(hn:args.length<=fn.ntmps)(h:W P none c ⟨Cu 0 args,H,fn.ntmps⟩ (G9 fun S'=>∃cc x,C8 E S'.env S'.H fn.results.toList=some (cc,x)/\cc=true/\K x S'.H))(hG:G.H=H)(hr:AD G w)(hargs:AH G args vs.toList)(hR:∀(x:AV)(v:Value)(G':Gh)(w1 w':World)(ms:QQ),K x G'.H->RV G' x v->AD G' w1->AD G' w'->BE G w G' w1->L3 ms w1 w'->(∀r∈ms,w.heap.size<=r)->R (.returned v) w'):
  CallsIn Fence.wide 0 P f vs w R:=
 LB (KP:=fun _ _=>False) hE hf hb hn (h.mono Nf) hG hr hargs hR fun _ _ _ _ _ hk=>hk.elim
theorem Ls(hE:Ai P E)(hf:P.funcs[f]? =some fn)(hb:fn.body=some c)(hname:(fn.name== "runtime.NumGoroutine")=false)(hn:args.length<=fn.ntmps){R:AV->RE->Prop}(h:W P none c ⟨Cu 0 args,H,fn.ntmps⟩ (G9 fun S'=>∃cc x,C8 E S'.env S'.H fn.results.toList=some (cc,x)/\cc=true/\R x S'.H)):Bv P f args H R:=by
 refine⟨⟨fn,hf,hname,by rw[hb];rfl⟩,fun G w vs hG hr hargs=>IS hE hf hb hn h hG hr hargs ?_⟩;intro x v G' w1 w' ms hK hv h1 h2 hfr ht hms;refine⟨v,x,G',rfl,hK,hv,h2,⟨ht.os.trans hfr.os,ht.tape.trans hfr.tape,ht.output.trans hfr.output,by rw[ht.size];exact hfr.size,fun b hb ho=> ?_,hfr.memNew,hfr.gle⟩⟩;obtain⟨k1,k2⟩:=hfr.keep b hb ho;exact⟨(ht.other b fun hm=>by have:=hms b hm;omega).trans k1,k2⟩
def K8(m:Mem)(w:World):Prop:=∀b k v,m b k=some v->w.cell? ⟨b,k,none⟩=some v
def Fn(P:Program)(f:FuncId)(ds:R6)(r:D):Prop:=
 Dh P f/\∀(m:Mem)(w:World)(vs:R2),K8 m w->Oe m->BJ m ds vs.toList->
  CallsIn Fence.wide 0 P f vs w fun e w'=>∃v m',e= .returned v/\RD m' r v/\m.le m'/\K8 m' w'/\(∀b k v,m' b k=some v->m b k=some v\/w.heap.size<=b)/\
   w'.os=w.os/\w'.tape=w.tape/\w'.output=w.output/\w.heap.size<=w'.heap.size/\∀b,b<w.heap.size->w'.heap[b]? =w.heap[b]?
mutual
def Bg(H:RE):AV->D->Prop
 | .d x,r=>r=x
 | .e0,r=>Af r=true/\AI r=0/\AX r
 | .sl id n _,r=>H[id]? =some (.a r)/\n=AI r
 | .ag xs,r=>∃l,r= .agg l/\BY H xs l
 | .tup xs,r=>∃l,r= .tup l/\BY H xs l
 |_,_=>False
def BY(H:RE):R8->R6->Prop
 |[],l=>l=[]
 |x::xs,l=>∃y r,l=y::r/\Bg H x y/\BY H xs r
end
mutual
theorem Jd{G:Gh}{w:World}(hr:AD G w){m:Mem}(hm:G.m.le m)(hown:∀b k v,Own G b->w.cell? ⟨b,k,none⟩=some v->m b k=some v):∀{x:AV}{d:D}{v:Value},Bg G.H x d->RV G x v->RD m d v
 | .d x,d,v,h,r=>by
  simp only[Bg]at h;simp only[RV]at r;subst h;exact r.mono hm
 | .e0,d,v,h,r=>by
  simp only[Bg]at h;simp only[RV]at r;obtain⟨a,rfl⟩:=r;exact(Bm h.1).2 ⟨a,0,by rw[h.2.1],om,h.2.2,.inl h.2.1⟩
 | .sl id n sz,d,v,h,r=>by
  simp only[Bg]at h;obtain⟨h1,h2⟩:=h;simp only[RV]at r;obtain⟨_,blk,hb,hp⟩:=r;rw[h1]at hb;cases hb;obtain⟨g1,g2,g3⟩:=hp;obtain⟨k1,k2,k3⟩:=hr.blk id _ h1;rcases g3 h2 with⟨g4,a,rfl⟩|⟨b,N,cap,g4,rfl,g6,_⟩
  .exact(Bm k1).2 ⟨a,0,by rw[<-h2,g4],om,k2,.inl om⟩
  .rcases k3 with⟨k3,k4⟩|⟨b',N',vs,T,k4,k5,k6,k7⟩
   .exact(Bm k1).2 ⟨_,cap,by rw[<-h2],om,k2,.inl k3⟩
   .rw[g4]at k4;cases k4;refine(Bm k1).2 ⟨_,cap,by rw[<-h2],om,k2,.inr ⟨b,0,rfl,fun k d hd=> ?_⟩⟩;obtain⟨u,hu,h1c,hru⟩:=k7 k d hd;refine⟨u,?_,h1c,hru.mono hm⟩;rw[RZ];exact hown b k u (.inl ⟨id,N,_,h1,rfl,g4⟩) (by rw[BG k5];exact hu)
 | .ag _,_,_,h,r| .tup _,_,_,h,r=>by
  simp only[Bg]at h;simp only[RV]at r;obtain⟨l,rfl,hl⟩:=h;obtain⟨vs,rfl,hvs⟩:=r;simp only[RD];exact⟨vs,rfl,KW hr hm hown hl hvs⟩
 | .u,_,_,h,_=>by simp[Bg]at h
 | .ptr _ _ _,_,_,h,_=>by simp[Bg]at h
 | .bs _ _ _ _ _,_,_,h,_=>by simp[Bg]at h
 | .ep _ _ _ _ _,_,_,h,_=>by simp[Bg]at h
 | .fn _ _ _,_,_,h,_=>by simp[Bg]at h
 | .yl _,_,_,h,_=>by simp[Bg]at h
 | .dp _,_,_,h,_=>by simp[Bg]at h
 | .mp _,_,_,h,_=>by simp[Bg]at h
theorem KW{G:Gh}{w:World}(hr:AD G w){m:Mem}(hm:G.m.le m)(hown:∀b k v,Own G b->w.cell? ⟨b,k,none⟩=some v->m b k=some v):∀{xs:R8}{ds:R6}{vs:Qf},BY G.H xs ds->AH G xs vs->BJ m ds vs
 |[],ds,vs,h,r=>by
  simp only[BY]at h;simp only[AH]at r;subst h;subst r;simp[BJ]
 |x::xs,ds,vs,h,r=>by
  simp only[BY]at h;simp only[AH]at r;obtain⟨y,q,rfl,h1,h2⟩:=h;obtain⟨v,u,rfl,r1,r2⟩:=r;simp only[BJ];exact⟨v,u,rfl,Jd hr hm hown h1 r1,KW hr hm hown h2 r2⟩
end
variable {ds:R6}
theorem Nb(hE:Ai P E)(hf:P.funcs[f]? =some fn)(hb:fn.body=some c)(hname:(fn.name== "runtime.NumGoroutine")=false){r:D}(hn:ds.length<=fn.ntmps)(h:W P none c ⟨Cu 0 (ds.map .d),[],fn.ntmps⟩ (G9 fun S'=>∃cc x,C8 E S'.env S'.H fn.results.toList=some (cc,x)/\cc=true/\Bg S'.H x r)):Fn P f ds r:=by
 refine⟨⟨fn,hf,hname,by rw[hb];rfl⟩,fun m w vs hm hst hargs=> ?_⟩;let G:Gh:={ρ:=fun _=>none,H:=[],m:=m};have hr:AD G w:=⟨fun id b hb=>by simp[G]at hb,fun id id' p q b N N' hp=>by simp[G]at hp,hm,fun b ho=>absurd ho Ft,hst,Is⟩;have hno:∀b,¬Own G b:=fun b=>Ft
 refine IS (G:=G) (K:=fun x H=>Bg H x r) hE hf hb (by simpa using hn) h rfl hr (H8.2 hargs) ?_;intro x v G' w1 w' ms hK hv h1 h2 hfr ht hms
 let m':Mem:=fun b k=>match G'.m b k with
  |some v=>some v
  |none=>if w.heap.size<=b then w'.cell? ⟨b,k,none⟩else none
 have hle:G'.m.le m':=fun b k v hv=>by simp only[m',hv]
 have hmem:K8 m' w':=by
  intro b k v hv;simp only[m']at hv;split at hv
  .rename_i u hu;cases hv;exact h2.mem b k _ hu
  .split at hv
   .exact hv
   .cases hv
 refine⟨v,m',rfl,Jd h2 hle ?_ hK hv,Mem.le_trans hfr.gle.mem hle,hmem,?_,ht.os.trans hfr.os,ht.tape.trans hfr.tape,ht.output.trans hfr.output,by rw[ht.size];exact hfr.size,fun b hb=> ?_⟩
 .intro b k v ho hc
  have hge:w.heap.size<=b:=by
   rcases RJ b w.heap.size with hlt|hge
   .exact absurd ho (hfr.keep b hlt (hno b)).2
   .exact hge
  simp only[m',h2.sep b ho k,Rf hge,hc]
 .intro b k v hv;simp only[m']at hv;split at hv
  .rename_i u hu;cases hv;rcases hfr.memNew b k _ hu with h3|h3|h3
   .exact .inl h3
   .exact absurd h3 (hno b)
   .exact .inr h3
  .split at hv
   .rename_i hge;exact .inr hge
   .cases hv
 .exact(ht.other b fun hm=>by have:=hms b hm;omega).trans (hfr.keep b hb (hno b)).1
def Gw:R8->R6->Prop:=BY []
mutual
theorem Nu{G:Gh}:∀{x:AV}{d:D}{v:Value},Bg [] x d->RV G x v->RD G.m d v
 | .d x,d,v,h,r=>by
  simp only[Bg]at h;simp only[RV]at r;subst h;exact r
 | .e0,d,v,h,r=>by
  simp only[Bg]at h;simp only[RV]at r;obtain⟨a,rfl⟩:=r;exact(Bm h.1).2 ⟨a,0,by rw[h.2.1],om,h.2.2,.inl h.2.1⟩
 | .sl id n sz,d,v,h,r=>by simp[Bg]at h
 | .ag _,_,_,h,r| .tup _,_,_,h,r=>by
  simp only[Bg]at h;simp only[RV]at r;obtain⟨l,rfl,hl⟩:=h;obtain⟨vs,rfl,hvs⟩:=r;simp only[RD];exact⟨vs,rfl,Hd hl hvs⟩
 | .u,_,_,h,_=>by simp[Bg]at h
 | .ptr _ _ _,_,_,h,_=>by simp[Bg]at h
 | .bs _ _ _ _ _,_,_,h,_=>by simp[Bg]at h
 | .ep _ _ _ _ _,_,_,h,_=>by simp[Bg]at h
 | .fn _ _ _,_,_,h,_=>by simp[Bg]at h
 | .yl _,_,_,h,_=>by simp[Bg]at h
 | .dp _,_,_,h,_=>by simp[Bg]at h
 | .mp _,_,_,h,_=>by simp[Bg]at h
theorem Hd{G:Gh}:∀{xs:R8}{ds:R6}{vs:Qf},BY [] xs ds->AH G xs vs->BJ G.m ds vs
 |[],ds,vs,h,r=>by
  simp only[BY]at h;simp only[AH]at r;subst h;subst r;simp[BJ]
 |x::xs,ds,vs,h,r=>by
  simp only[BY]at h;simp only[AH]at r;obtain⟨y,q,rfl,h1,h2⟩:=h;obtain⟨v,u,rfl,r1,r2⟩:=r;simp only[BJ];exact⟨v,u,rfl,Nu h1 r1,Hd h2 r2⟩
end
theorem MH{xs:R8}(h:Gw xs ds){vs:Qf}(r:AH G xs vs):BJ G.m ds vs:=Hd h r
theorem Fn.toT{r:D}(h:Fn P f ds r){xs:R8}(hx:Gw xs ds)(H:RE):Bv P f xs H fun x H'=>x= .d r/\H'=H:=by
 refine⟨h.1,fun G w vs hG hr hargs=>(h.2 G.m w vs hr.mem hr.st (MH hx hargs)).mono ?_⟩;rintro e w' ⟨v,m',rfl,h1,h2,h3,h4,h5,h6,h7,h8,h9⟩;obtain⟨k1,k2⟩:=Fo hr h5 h6 h7 h8 h9 m' h2 h4 h3;exact⟨v,.d r,{G with m:=m'},rfl,⟨rfl,hG⟩,by simpa only[RV]using h1,k1,k2⟩
end
end Go.Gar
namespace Go.Gar
section
variable {P:Program}{ro:Qt}{ops:R0}{i:Nat}{rest:R1}{S:St}{Q:Exit->St->Prop}{o:Oper}
def callOf(op:Op):Option (Operand×List Operand):=
 match op with
 | .call c=>match c.callee with
  | .value f=>some (f,c.args.toList)
  |_=>none
 |_=>none
theorem HE{op:Op}{f:Operand}{l:List Operand}(h:callOf op=some (f,l)):∃c:Call,op= .call c/\c.callee= .value f/\c.args.toList=l:=by
 unfold callOf at h;split at h
 .rename_i c;split at h
  .rename_i g hg;cases h;exact⟨c,rfl,hg,rfl⟩
  .cases h
 .cases h
def Ab(env:R9)(op:Op):Option (Nat×R8):=
 match callOf op with
 |some (f,l)=>match Bh env f,EA env l with
  |some (.fn (.func g) first cap),some xs=>match first,cap with
   |[],[]=>some (g,xs)
   |_,_=>some (g,first++xs++cap)
  |_,_=>none
 |none=>none
variable {g:Nat}{xs:R8}
theorem DC{env:R9}{op:Op}(h:Ab env op=some (g,xs)):∃c f first ys cap,op= .call c/\c.callee= .value f/\Bh env f=some (.fn (.func g) first cap)/\EA env c.args.toList=some ys/\first++ys++cap=xs:=by
 unfold Ab at h;split at h
 .rename_i f l hcl;obtain⟨c,ho,hc,rfl⟩:=HE hcl;split at h
  .rename_i g' first cap ys hf hxs
   refine⟨c,f,first,ys,cap,ho,hc,?_,hxs,?_⟩<;>(split at h<;>cases h<;>first|exact hf|simp)
  .cases h
 .cases h
theorem Om{R:AV->RE->Prop}(hg:A4 ops S.env o=some true)(h:Ab S.env o.op=some (g,xs))(hd:AA o.dst S.n=true)(hT:Bv P g xs S.H R)(k:∀r H',R r H'->Wl P ro ops (i+1) rest ⟨AW o.dst r S.env,H',S.n⟩ Q):Wl P ro ops i (o::rest) S Q:=by
 obtain⟨c,f,first,ys,cap,ho,hc,hf,hxs,rfl⟩:=DC h;exact M4 ho hc hg hf hxs hd hT k
theorem Pf{ds:R6}{r:D}(hg:A4 ops S.env o=some true)(h:Ab S.env o.op=some (g,xs))(hd:AA o.dst S.n=true)(hF:Fn P g ds r)(hx:Gw xs ds)(k:Wl P ro ops (i+1) rest ⟨AW o.dst (.d r) S.env,S.H,S.n⟩ Q):Wl P ro ops i (o::rest) S Q:=
 Om hg h hd (hF.toT hx S.H) fun x H' ⟨h1,h2⟩=>by subst h1;subst h2;exact k
end
inductive Tr where
 |l
 |n (a:Tr) (k:Nat) (v:AK) (b:Tr)
def Tr.get:Tr->Nat->Option AK
 | .l,_=>none
 | .n a k v b,t=>match Nat.beq t k with
  |true=>some v
  |false=>match Nat.blt t k with
   |true=>a.get t
   |false=>b.get t
def Tr.PR:Tr->List (Nat×AK)
 | .l=>[]
 | .n a k v b=>a.PR++(k,v)::b.PR
theorem Tr.get_mem:∀{T:Tr}{t:Nat}{v:AK},T.get t=some v->(t,v)∈T.PR
 | .l,t,v,h=>by simp[Tr.get]at h
 | .n a k u b,t,v,h=>by
  simp only[Tr.get]at h;simp only[Tr.PR,TI,Si];split at h
  .rename_i hb;cases h;have:=Qi hb;subst this;exact .inr (.inl rfl)
  .split at h
   .exact .inl (Tr.get_mem h)
   .exact .inr (.inr (Tr.get_mem h))
theorem Tr.ok{P:Program}{T:Tr}(h:T.PR.map (fun p=>CF P p.1)=T.PR.map fun p=>some p.2):Ai P T.get:=by
 intro t i hi;have hm:=Tr.get_mem hi;obtain⟨k,hk,he⟩:=List.mem_iff_getElem.1 hm;have:=congrArg (·[k]?) h;simp only[RX,Qm hk,Option.map_some,Qj]at this;rw[he]at this;exact this
end Go.Gar
namespace Go.Gar
section
variable {P:Program}{ro:Qt}{ops:R0}{S:St}{Q:Exit->St->Prop}{o:Oper}{E:Nat->Option AK}
def GB(P:Program)(ro:Qt)(o:Oper)(S:St)(x:AV)(H':RE):Prop:=
 ∀N G a w (K:Act->World->Prop)(R:Exit->Act->World->Prop),Rel ro N S G a w->
  (∀v w' G',RV G' x v->G'.H=H'->AD G' w'->BE G w G' w'->K (a.put o.dst v) w')->o.wpIn (FE (rl G ro)) 0 P a w K R
variable {x:AV}{H':RE}
theorem Bi.step(hop:Bi P o S x H')(hnd:∀c,o.op≠ .defer c):GB P ro o S x H':=by
 intro N G a w K R r hK;obtain⟨res,w',G',h1,h2,h3,h4,h5⟩:=hop ro N G a w r;refine⟨fun _ _=>trivial,?_⟩;rw[Oper.semAt_eq _ _ _ hnd,h1];rcases h2 with⟨rfl,rfl⟩|⟨v,rfl,hv⟩
 .exact hK undef w' G' (by simp[RV]) h3 h4 h5
 .exact hK v w' G' hv h3 h4 h5
theorem LF{c:Call}{fo:Operand}{g:FuncId}{first cap xs:R8}(ho:o.op= .call c)(hc:c.callee= .value fo)(hf:Bh S.env fo=some (.fn (.func g) first cap))(hxs:EA S.env c.args.toList=some xs)(hT:Bv P g (first++xs++cap) S.H fun y H=>y=x/\H=H'):GB P ro o S x H':=by
 intro N G a w K R r hK;refine⟨fun _ _=>trivial,?_⟩;have hfv:=AB r.rel.st r.env hf;simp only[RV]at hfv;obtain⟨p,q,hfv,hp,hq⟩:=hfv;have hrun:=Dv (P:=P) (f:=g) hc hfv hT.1 ho w;rw[Oper.semAt_eq _ _ _ (fun c e=>by rw[ho]at e;cases e),hrun];simp only[Oper.uponIn];refine⟨CC _,?_⟩;have hargs:=ET hp (BI r.rel.st r.env hxs) hq;have hcall:=hT.2 G w _ r.heap r.rel hargs;have hcall':CallsIn (FE (rl G ro)) 0 P g (p.toArray++c.args.map a.eval++q.toArray) w _:=hcall;refine hcall'.mono ?_;rintro e w' ⟨v,y,G',rfl,⟨rfl,hH⟩,hv,hr',hfr⟩;exact hK v w' G' hv hH hr' hfr
theorem Lx{g:Nat}{xs:R8}(h:Ab S.env o.op=some (g,xs))(hT:Bv P g xs S.H fun y H=>y=x/\H=H'):GB P ro o S x H':=by
 obtain⟨c,f,first,ys,cap,ho,hc,hf,hxs,rfl⟩:=DC h;exact LF ho hc hf hxs hT
def Kc:Operand->QQ
 | .tmp t=>[t]
 |_=>[]
def Mv:List Operand->QQ
 |[]=>[]
 |x::r=>Kc x++Mv r
def QC:Option Operand->QQ
 |some x=>Kc x
 |none=>[]
def Mu:Op->QQ
 | .move x| .assign x| .box _ x| .load _ x| .nilCheck x| .unOp _ _ x| .convert _ _ x| .sliceToArrayPointer _ x| .makeInterface _ x
 | .makeChan _ x| .fieldAddr _ x _| .field _ x _| .range _ x| .next x _| .entry x| .typeAssert x _ _ _| .extract x _| .panic x| .recv _ x _=>Kc x
 | .pick c a b=>Kc c++Kc a++Kc b
 | .build _ ps| .buildSlice _ _ ps=>Mv (ps.toList.map (·.2))
 | .store _ a v| .binOp _ _ a v _| .makeSlice _ a v| .indexAddr _ a v| .index _ a v| .lookup _ a v _| .mapEntry _ a v| .send a v=>Kc a++Kc v
 | .makeFunc _ first captured=>Mv first.toList++Mv captured.toList
 | .makeMap _ r=>QC r
 | .slice _ x l h m=>Kc x++QC l++QC h++QC m
 | .mapUpdate _ m k v| .entryStore _ m k v| .insert _ m k v=>Kc m++Kc k++Kc v
 | .call c=>(match c.callee with| .value f=>Kc f| .invoke r _=>Kc r| .builtin _=>[])++Mv c.args.toList
 |_=>[]
def lkG(ops:R0)(o:Oper):QQ:=
 match o.guard with
 |some (j,_)=>match ops.toList[j]? with
  |some p=>match p.dst with
   |some d=>[d]
   |none=>[]
  |none=>[]
 |none=>[]
def looks(ops:R0)(o:Oper):QQ:=lkG ops o++Mu o.op
def B7:QQ->R9->R9
 |[],_=>[]
 |t::r,env=>match get env t with
  |some x=>(t,x)::B7 r env
  |none=>B7 r env
theorem Cg:∀{l:QQ}{env:R9}{t:Nat}{x:AV},get (B7 l env) t=some x->t∈l/\get env t=some x
 |[],env,t,x,h=>by simp[B7,get]at h
 |s::r,env,t,x,h=>by
  simp only[B7]at h;split at h
  .rename_i y hy;simp only[get]at h;split at h
   .rename_i hb;have:=Qi hb;subst this;cases h;exact⟨sm,hy⟩
   .obtain⟨h1,h2⟩:=Cg h;exact⟨by simp[h1],h2⟩
  .obtain⟨h1,h2⟩:=Cg h;exact⟨by simp[h1],h2⟩
inductive Kd where
 |skip|any|quiet|eff
 |pan (ch:R4)
 |dead
 |ext (h:RE)
def Kd.El:Kd->Bool
 | .eff| .pan _| .ext _=>true
 |_=>false
def Lw(P:Program)(ro:Qt)(o:Oper)(S:St)(ch:R4)(H':RE):Prop:=
 ∀N G a w (K:Act->World->Prop)(R:Exit->Act->World->Prop),Rel ro N S G a w->
  (∀w' G',G'.H=H'->AD G' w'->BE G w G' w'->R (.panic ch) a w')->o.wpIn (FE (rl G ro)) 0 P a w K R
structure Rc where
 e:R9
 h:RE
 x:AV
 k:Kd
def Rc.ok(P:Program)(ro:Qt)(E:Nat->Option AK)(ops:R0)(n:Nat)(o:Oper)(r:Rc)(h':RE):Prop:=
 AA o.dst n=true/\
 match r.k with
 | .skip=>A4 ops r.e o=some false/\r.x= .d (.tup [])/\h'=r.h
 | .any=>A4 ops r.e o=some true/\(∀H,GB P ro o ⟨r.e,H,n⟩ r.x H)/\h'=r.h
 | .quiet=>A4 ops r.e o=some true/\(∃c,Fl E r.e r.h o.op=some (c,r.x)/\c=true)/\h'=r.h
 | .eff=>A4 ops r.e o=some true/\GB P ro o ⟨r.e,r.h,n⟩ r.x h'
 | .pan ch=>A4 ops r.e o=some true/\Lw P ro o ⟨r.e,r.h,n⟩ ch h'
 | .dead=>h'=r.h
 | .ext h=>A4 ops r.e o=some true/\h'=h
inductive Run (P:Program) (ro:Qt) (E:Nat->Option AK) (ops:R0) (S0:St):List Rc->St->Prop
 |nil:Run P ro E ops S0 [] S0
 |snoc {acc:List Rc} {S:St} {o:Oper} {r:Rc} {h':RE} (ht:Run P ro E ops S0 acc S) (ho:ops.toList[acc.length]? =some o) (he:∀t x,get r.e t=some x->t∈looks ops o/\get S.env t=some x) (hh:r.h=S.H)
  (hok:r.ok P ro E ops S.n o h'):Run P ro E ops S0 (r::acc) ⟨AW o.dst r.x S.env,h',S.n⟩
theorem Run.trace{S0:St}{acc:List Rc}{S:St}(h:Run P ro E ops S0 acc S):∃s:Nat->St,s 0=S0/\s acc.length=S/\∀i,i<acc.length->∃o r,ops.toList[i]? =some o/\acc.reverse[i]? =some r/\
  (∀t x,get r.e t=some x->t∈looks ops o/\get (s i).env t=some x)/\r.h=(s i).H/\(s i).n=S0.n/\(s (i+1)).env=AW o.dst r.x (s i).env/\(s (i+1)).n=S0.n/\r.ok P ro E ops S0.n o (s (i+1)).H:=by
 induction h with
 |nil=>exact⟨fun _=>S0,rfl,rfl,fun i h=>by simp at h⟩
 | @snoc acc S o r h' ht ho he hh hok ih=>
  obtain⟨s,h0,h1,h2⟩:=ih
  have hn:S.n=S0.n:=by
   cases hl:acc.length with
   |zero=>rw[hl]at h1;rw[<-h1,h0]
   |succ k=>
    obtain⟨_,_,_,_,_,_,_,_,h3,_⟩:=h2 k om;rw[<-h1,hl,h3]
  refine⟨fun i=>if i<=acc.length then s i else⟨AW o.dst r.x S.env,h',S.n⟩,by simp[h0],by show(if acc.length+1<=acc.length then _ else _)=_;rw[Rw om],fun i hi=> ?_⟩;rcases RJ i acc.length with hlt|hge
  .obtain⟨o',r',k1,k2,k3,k4,k5,k6,k7,k8⟩:=h2 i hlt;refine⟨o',r',k1,?_,?_⟩
   .rw[List.reverse_cons,Qq (by simpa using hlt)];exact k2
   .have e1:i<=acc.length:=om
    have e2:i+1<=acc.length:=hlt;simp only[e1,e2,SG];exact⟨k3,k4,k5,k6,k7,k8⟩
  .have:i=acc.length:=by simp at hi;omega
   subst this;refine⟨o,r,ho,by rw[List.reverse_cons,Qx sm];simp,?_⟩;have e2:¬(acc.length+1<=acc.length):=om
   simp only[Qn,SG,e2,SY,h1];exact⟨he,hh,hn,trivial,hn,hn▸hok⟩
def Gx(acc:QQ):List Edge->Nat
 |[]=>0
 |e::r=>if Region.binds .any e then Nat.lor (Nat.lor (2^e.on) (acc.getD e.on 0)) (Gx acc r)else Gx acc r
def Fc:R1->QQ->QQ
 |[],acc=>acc
 |o::l,acc=>Fc l (acc++[Gx acc o.after.toList])
def F6(ops:R0)(i:Nat):Nat:=(Fc ops.toList []).getD i 0
theorem IR:∀(l:R1)(acc:QQ),(Fc l acc).length=acc.length+l.length/\(∀i,i<acc.length->(Fc l acc)[i]? =acc[i]?)/\
  ∀i o,l[i]? =some o->(Fc l acc)[acc.length+i]? =some (Gx ((Fc l acc).take (acc.length+i)) o.after.toList)
 |[],acc=>⟨by simp[Fc],fun i _=>by simp[Fc],fun i o h=>by simp at h⟩
 |o::l,acc=>by
  obtain⟨h1,h2,h3⟩:=IR l (acc++[Gx acc o.after.toList])
  have htake:(Fc l (acc++[Gx acc o.after.toList])).take acc.length=acc:=by
   apply List.ext_getElem?;intro i;rcases RJ i acc.length with hlt|hge
   .rw[List.getElem?_take_of_lt hlt,h2 i (by simp;omega),Qq hlt]
   .rw[Rn (by simp;omega),Rn hge]
  refine⟨by simp only[Fc,h1,RH,Qz,RY];omega,fun i hi=> ?_,fun i p hp=> ?_⟩
  .simp only[Fc];rw[h2 i (by simp;omega),Qq hi]
  .simp only[Fc]
   cases i with
   |zero=>
    simp at hp;subst hp;rw[Sm,htake,h2 _ sm,Qx sm];simp
   |succ i=>
    have:=h3 i p (by simpa using hp);simp only[RH,Qz,RY]at this;rw[show acc.length+(i+1)=acc.length+(0+1)+i by omega];exact this
theorem GG{acc:QQ}{j:Nat}:∀{l:List Edge},(Gx acc l).testBit j=true->∃e∈l,Region.binds .any e=true/\(e.on=j\/(acc.getD e.on 0).testBit j=true)
 |[],h=>by simp[Gx]at h
 |e::r,h=>by
  simp only[Gx]at h;split at h
  .rename_i hb;change (((2^e.on|||acc.getD e.on 0)|||Gx acc r)).testBit j=true at h;rw[Nat.testBit_or,Nat.testBit_or,Nat.testBit_two_pow]at h;simp only[Bool.or_eq_true,Qv]at h;rcases h with(h|h)|h
   .exact⟨e,sm,hb,.inl h⟩
   .exact⟨e,sm,hb,.inr h⟩
   .obtain⟨e',h1,h2⟩:=GG h;exact⟨e',by simp[h1],h2⟩
  .obtain⟨e',h1,h2⟩:=GG h;exact⟨e',by simp[h1],h2⟩
theorem KH{i j:Nat}{o:Oper}(ho:ops.toList[i]? =some o)(h:(F6 ops i).testBit j=true):∃e∈o.after.toList,Region.binds .any e=true/\(e.on=j\/e.on<i/\(F6 ops e.on).testBit j=true):=by
 obtain⟨_,_,h3⟩:=IR ops.toList [];have h4:=h3 i o ho;simp only[RY,RZ]at h4;unfold F6 at h;rw[Qy,h4,Option.getD_some]at h;obtain⟨e,he,hb,hj⟩:=GG h;refine⟨e,he,hb,hj.imp_right fun hj=> ?_⟩;rcases RJ e.on i with hlt|hge
 .refine⟨hlt,?_⟩;rw[Qy,List.getElem?_take_of_lt hlt]at hj;unfold F6;rw[Qy];exact hj
 .rw[Qy,Rn (by simp;omega)]at hj;simp at hj
def Fb:Nat->(Nat->Bool)->Bool
 |0,_=>true
 |n+1,p=>p n&&Fb n p
theorem BL{p:Nat->Bool}:∀{n:Nat},Fb n p=true->∀i,i<n->p i=true
 |0,_,i,h=>by omega
 |n+1,h,i,hi=>by
  simp only[Fb,Qk]at h;rcases RJ i n with hlt|hge
  .exact BL h.2 i hlt
  .have:i=n:=om
   subst this;exact h.1
def ME:Nat->(Nat->Bool)->Bool
 |0,_=>false
 |n+1,p=>p n||ME n p
theorem HD{p:Nat->Bool}:∀{n:Nat},ME n p=true->∃i,i<n/\p i=true
 |0,h=>by simp[ME]at h
 |n+1,h=>by
  simp only[ME,Bool.or_eq_true]at h;rcases h with h|h
  .exact⟨n,om,h⟩
  .obtain⟨i,h1,h2⟩:=HD h;exact⟨i,om,h2⟩
def KY:Option Kd->Bool
 |some k=>k.El
 |none=>false
def Mr:Option Kd->Bool
 |some (.pan _)=>true
 |_=>false
def Mq:Option Kd->Bool
 |some .dead=>true
 |_=>false
def Mz(ks:List Kd):Bool:=ks.all fun k=>match k with
 | .pan _| .dead| .ext _=>false
 |_=>true
def Kb:Option Kd->Bool
 |some .quiet=>true
 |_=>false
def HG(ops:R0)(j t:Nat):Bool:=
 match ops.toList[j]? with
 |some o=>match o.dst with
  |some d=>Nat.beq d t
  |none=>false
 |none=>false
def Ek(i k:Nat):QR->Bool
 |[]=>false
 |p::r=>(Nat.beq p.1 i&&Nat.beq p.2 k)||Ek i k r
def Bt(ops:R0)(ks:List Kd)(l:QR):Bool:=
 Nat.beq ks.length ops.toList.length&&
 Fb ops.toList.length fun i=>match ops.toList[i]? with
  |none=>false
  |some o=>
   (o.after.toList.all fun e=> !Region.binds .any e||Nat.blt e.on i)&&
   ((looks ops o).all fun t=>Fb ops.toList.length fun j=> !HG ops j t||Nat.beq j i||(F6 ops i).testBit j||(F6 ops j).testBit i)&&
   (match o.dst with
    |some d=>Fb ops.toList.length fun j=>Nat.beq j i|| !HG ops j d
    |none=>true)&&
   (!KY ks[i]? ||Fb i fun j=> !KY ks[j]? ||(F6 ops i).testBit j)&&
   (!Kb ks[i]? ||Fb ops.toList.length fun k=> !KY ks[k]? ||(Nat.blt k i&&(F6 ops i).testBit k)||(Nat.blt i k&&(F6 ops k).testBit i)||Ek i k l)&&
   (!Mq ks[i]? ||ME ops.toList.length fun j=>Mr ks[j]? &&(F6 ops i).testBit j)
def Dl(ops:R0)(ks:List Kd)(l:QR):Bool:=Mz ks&&Bt ops ks l
def hAt(rs:List Rc)(Hf:RE)(i:Nat):RE:=
 match rs[i]? with
 |some r=>r.h
 |none=>Hf
def Au(E:Nat->Option AK)(ops:R0)(rs:List Rc)(Hf:RE):QR->Prop
 |[]=>True
 |p::l=>(match ops.toList[p.1]?,rs[p.1]? with
  |some o,some r=>∃c,Fl E r.e (hAt rs Hf (if Nat.blt p.2 p.1 then p.2 else p.2+1)) o.op=some (c,r.x)/\c=true
  |_,_=>False)/\Au E ops rs Hf l
theorem GT{rs:List Rc}{Hf:RE}{i k:Nat}{o:Oper}{r:Rc}(ho:ops.toList[i]? =some o)(hr:rs[i]? =some r):∀{l:QR},Au E ops rs Hf l->Ek i k l=true->
  ∃c,Fl E r.e (hAt rs Hf (if Nat.blt k i then k else k+1)) o.op=some (c,r.x)/\c=true
 |[],_,h=>by simp[Ek]at h
 |p::l,hx,h=>by
  simp only[Au]at hx;simp only[Ek,Bool.or_eq_true,Qk]at h;rcases h with⟨h1,h2⟩|h
  .have h1:=Qi h1;have h2:=Qi h2;obtain⟨p1,p2⟩:=p;simp only at h1 h2;subst h1;subst h2;simp only[ho,hr]at hx;exact hx.1
  .exact GT ho hr hx.2 h
end
end Go.Gar
namespace Go.Gar
section
variable {P:Program}{ro:Qt}{ops:R0}{S0 S:St}{Q:Exit->St->Prop}{E:Nat->Option AK}
structure Plan (P:Program) (ro:Qt) (E:Nat->Option AK) (ops:R0) (S0 S:St) (s:Nat->St) (r:Nat->Rc):Prop where
 s0:s 0=S0
 sn:s ops.size=S
 e:∀(i:Nat)(o:Oper),ops[i]? =some o->∀t x,get (r i).e t=some x->t∈looks ops o/\get (s i).env t=some x
 h:∀i,i<ops.size->(r i).h=(s i).H
 env:∀(i:Nat)(o:Oper),ops[i]? =some o->(s (i+1)).env=AW o.dst (r i).x (s i).env
 n:∀i,i<=ops.size->(s i).n=S0.n
 ok:∀(i:Nat)(o:Oper),ops[i]? =some o->(r i).ok P ro E ops S0.n o (s (i+1)).H
 back:∀(i:Nat)(o:Oper),ops[i]? =some o->∀e∈o.after,Region.binds .any e=true->e.on<i
 look:∀(i:Nat)(o:Oper),ops[i]? =some o->∀t∈looks ops o,∀(j:Nat)(p:Oper),ops[j]? =some p->p.dst=some t->j=i\/(F6 ops i).testBit j=true\/(F6 ops j).testBit i=true
 uniq:∀(i j:Nat)(o p:Oper)(d:Nat),ops[i]? =some o->ops[j]? =some p->o.dst=some d->p.dst=some d->i=j
 effs:∀i j,i<ops.size->j<i->(r i).k.El=true->(r j).k.El=true->(F6 ops i).testBit j=true
 quiet:∀(i k:Nat)(o:Oper),ops[i]? =some o->k<ops.size->(r i).k= .quiet->(r k).k.El=true->(k<i/\(F6 ops i).testBit k=true)\/(i<k/\(F6 ops k).testBit i=true)\/
  ∃c,Fl E (r i).e (if k<i then(s k).H else(s (k+1)).H) o.op=some (c,(r i).x)/\c=true
 dead:∀i,i<ops.size->(r i).k= .dead->∃j ch,(r j).k= .pan ch/\(F6 ops i).testBit j=true
variable {s:Nat->St}{r:Nat->Rc}
theorem Plan.MD(p:Plan P ro E ops S0 S s r):∀{i j:Nat},i<ops.size->(F6 ops i).testBit j=true->j<i:=by
 intro i
 induction i using Nat.strongRecOn with
 |_ i ih=>
  intro j hi h;have ho:ops.toList[i]? =some ops[i]:=by simp[hi]
  obtain⟨e,he,hb,hj⟩:=KH ho h;have hlt:=p.back i ops[i] (by simp[hi]) e (by simpa using he) hb;rcases hj with rfl|⟨_,hj⟩
  .exact hlt
  .have:=ih e.on hlt om hj;omega
variable {i:Nat}
theorem Plan.By(p:Plan P ro E ops S0 S s r):∀{j:Nat},i<=j->j<=ops.size->(∀k,i<=k->k<j->(r k).k.El≠true)->(s i).H=(s j).H:=by
 intro j
 induction j with
 |zero=>intro hi _ _;have:i=0:=om
        subst this;rfl
 |succ j ih=>
  intro hi hj hk;rcases RJ j i with hlt|hge
  .have:i=j+1:=om
   subst this;rfl
  .rw[ih hge om fun k h1 h2=>hk k h1 om];have hok:=p.ok j ops[j] sm;have hne:=hk j hge om;have hh:=p.h j om;obtain⟨_,hok⟩:=hok
   cases hkd:(r j).k with
   |skip|any|quiet=>rw[hkd]at hok;rw[hok.2.2,hh]
   |eff|pan ch|ext h=>exact absurd (by rw[hkd];rfl) hne
   |dead=>rw[hkd]at hok;rw[hok,hh]
theorem Plan.KM(p:Plan P ro E ops S0 S s r){t:Nat}{x:AV}:∀{i:Nat},i<=ops.size->get (s i).env t=some x->
  (∃(j:Nat)(o:Oper),j<i/\ops[j]? =some o/\o.dst=some t/\x=(r j).x)\/(get S0.env t=some x/\∀(j:Nat)(o:Oper),j<i->ops[j]? =some o->o.dst≠some t):=by
 intro i
 induction i with
 |zero=>intro _ h;rw[p.s0]at h;exact .inr ⟨h,fun j o hj=>om⟩
 |succ i ih=>
  intro hi h;have ho:ops[i]? =some ops[i]:=by simp
  rw[p.env i _ ho]at h
  have rec_:get (s i).env t=some x->ops[i].dst≠some t->(∃(j:Nat)(o:Oper),j<i+1/\ops[j]? =some o/\o.dst=some t/\x=(r j).x)\/(get S0.env t=some x/\∀(j:Nat)(o:Oper),j<i+1->ops[j]? =some o->o.dst≠some t):=by
   intro h hne;rcases ih om h with⟨j,o,h1,h2,h3,h4⟩|⟨h1,h2⟩
   .exact Or.inl ⟨j,o,om,h2,h3,h4⟩
   .refine Or.inr ⟨h1,fun j o hj hjo=> ?_⟩;rcases RJ j i with hlt|hge
    .exact h2 j o hlt hjo
    .have:j=i:=om
     subst this;rw[ho]at hjo;cases hjo;exact hne
  cases hd:ops[i].dst with
  |none=>
   rw[hd]at h;exact rec_ h (by rw[hd];simp)
  |some d=>
   rw[hd]at h;simp only[AW,get]at h;split at h
   .rename_i hb;cases h;have:=Qi hb;subst this;exact .inl ⟨i,_,om,ho,hd,rfl⟩
   .rename_i hb;exact rec_ h (by rw[hd];intro e;cases e;simp at hb)
structure B5 (ro:Qt) (ops:R0) (S0:St) (s:Nat->St) (r:Nat->Rc) (N:NB) (listed:R5) (p:Nat) (G:Gh) (a:Act) (w:World):Prop where
 size:listed.size=ops.size
 closed:∀(i:Nat)(o:Oper),ops[i]? =some o->listed[i]? =some true->∀e∈o.after,Region.binds .any e=true->listed[e.on]? =some true
 le:p<=ops.size
 eff:∀k,k<ops.size->(r k).k.El=true->(listed[k]? =some true↔k<p)
 nopan:∀k ch,(r k).k= .pan ch->listed[k]?≠some true
 rel:Rel ro N ⟨[],(s p).H,S0.n⟩ G a w
 env1:∀(j:Nat)(o:Oper)(t:Nat),ops[j]? =some o->o.dst=some t->listed[j]? =some true->∃v,a.tmps[t]? =some v/\RV G (r j).x v
 env0:∀t x,get S0.env t=some x->(∀(j:Nat)(o:Oper),ops[j]? =some o->o.dst=some t->listed[j]?≠some true)->∃v,a.tmps[t]? =some v/\RV G x v
variable {N:NB}{p:Nat}{listed:R5}{G:Gh}{a:Act}{w:World}
theorem B5.up(st:B5 ro ops S0 s r N listed p G a w)(pl:Plan P ro E ops S0 S s r):∀{i:Nat}{o:Oper},ops[i]? =some o->(∀e∈o.after,Region.binds .any e=true->listed[e.on]? =some true)->
  ∀{j:Nat},(F6 ops i).testBit j=true->listed[j]? =some true:=by
 intro i
 induction i using Nat.strongRecOn with
 |_ i ih=>
  intro o ho hall j hj;obtain⟨e,he,hb,hj⟩:=KH (i:=i) (by simpa using ho) hj;have hle:=hall e (by simpa using he) hb;rcases hj with rfl|⟨hlt,hj⟩
  .exact hle
  .have hlt':e.on<ops.size:=by have:=(Qp.1 ho).1;omega
   exact ih e.on hlt (o:=ops[e.on]) (by simp[hlt']) (st.closed _ _ (by simp[hlt']) hle) hj
theorem B5.look(st:B5 ro ops S0 s r N listed p G a w)(pl:Plan P ro E ops S0 S s r){o:Oper}(ho:ops[i]? =some o)(hun:listed[i]?≠some true)(hall:∀e∈o.after,Region.binds .any e=true->listed[e.on]? =some true):
  Cj G (r i).e a.tmps:=by
 have hi:i<ops.size:=(Qp.1 ho).1;intro t x hx;obtain⟨hl,hx⟩:=pl.e i o ho t x hx;rcases pl.KM (Nat.le_of_lt hi) hx with⟨j,q,hlt,hq,hd,rfl⟩|⟨h0,hno⟩
 .refine st.env1 j q t hq hd ?_;rcases pl.look i o ho t hl j q hq hd with rfl|h|h
  .omega
  .exact st.up pl ho hall h
  .have:=pl.MD om h;omega
 .refine st.env0 t x h0 fun j q hq hd hlj=> ?_;have hj:j<ops.size:=(Qp.1 hq).1
  rcases RJ j i with hlt|hge
  .exact hno j q hlt hq hd
  .rcases pl.look i o ho t hl j q hq hd with rfl|h|h
   .exact hun hlj
   .have:=pl.MD hi h;omega
   .exact hun (st.up pl hq (st.closed j q hq hlj) h)
theorem Ah(hs:listed.size=ops.size):i∈Region.ready .any ops listed↔listed[i]? =some false/\∃o,ops[i]? =some o/\∀e∈o.after,Region.binds .any e=true->listed[e.on]? =some true:=by
 rw[mem_ready]
 have h1:listed.getD i true=false↔listed[i]? =some false:=by
  rw[Array.getD_eq_getD_getElem?];cases listed[i]? <;>simp
 have h2:∀k,listed.getD k false=true↔listed[k]? =some true:=fun k=>by
  rw[Array.getD_eq_getD_getElem?];cases listed[k]? <;>simp
 simp only[h1,h2]
theorem JJ(pl:Plan P ro E ops S0 S s r)(hs:listed.size=ops.size)(h:Region.ready .any ops listed=[]):∀i,i<ops.size->listed[i]? =some true:=by
 intro i
 induction i using Nat.strongRecOn with
 |_ i ih=>
  intro hi;have ho:ops[i]? =some ops[i]:=by simp
  cases hl:listed[i]? with
  |none=>simp at hl;omega
  |some b=>
   cases b with
   |true=>rfl
   |false=>
    have:i∈Region.ready .any ops listed:=(Ah hs).2 ⟨hl,_,ho,fun e he hb=>by
     have:=pl.back i _ ho e he hb
     exact ih e.on this om⟩
    rw[h]at this;cases this
theorem B5.Jf(st:B5 ro ops S0 s r N listed p G a w)(pl:Plan P ro E ops S0 S s r){o:Oper}(ho:ops[i]? =some o)(hun:listed[i]?≠some true)(hall:∀e∈o.after,Region.binds .any e=true->listed[e.on]? =some true):
  ((r i).k.El=true->(s p).H=(s i).H)/\((r i).k= .quiet->∃c,Fl E (r i).e (s p).H o.op=some (c,(r i).x)/\c=true):=by
 have hi:i<ops.size:=(Qp.1 ho).1;constructor
 .intro hk
  have hpi:p<=i:=by
   rcases RJ i p with h|h
   .exact absurd ((st.eff i hi hk).2 h) hun
   .exact h
  refine pl.By hpi (Nat.le_of_lt hi) fun k h1 h2 h3=> ?_;have:=(st.eff k om h3).1 (st.up pl ho hall (pl.effs i k hi h2 hk h3))
  omega
 .intro hk
  have hbase:∃c,Fl E (r i).e (s i).H o.op=some (c,(r i).x)/\c=true:=by
   have:=(pl.ok i o ho).2;rw[hk]at this;rw[<-pl.h i hi];exact this.2.1
  rcases RJ i p with hlt|hge
  ·
   by_cases hex:∃k,i<k/\k<p/\(r k).k.El=true/\∀q,k<q->q<p->(r q).k.El≠true
   .obtain⟨k,h1,h2,h3,h4⟩:=hex;have hkl:=(st.eff k (by have:=st.le;omega) h3).2 h2;rw[<-pl.By (i:=k+1) (j:=p) h2 st.le fun q a b=>h4 q a b];rcases pl.quiet i k o ho (by have:=st.le;omega) hk h3 with⟨h,_⟩|⟨_,h⟩|h
    .omega
    .have hkn:k<ops.size:=by have:=st.le;omega
     exact absurd (st.up pl (o:=ops[k]) (by simp[hkn]) (st.closed k _ (by simp[hkn]) hkl) h) hun
    .rw[Rw om]at h;exact h
   .have hno:∀d q,q+d=p->i<q->(r q).k.El≠true\/p<=q:=by
     intro d
     induction d using Nat.strongRecOn with
     |_ d ih=>
      intro q hq hiq;rcases Nat.eq_zero_or_pos d with h0|hpos
      .right;omega
      .left;intro hkq;refine hex ⟨q,hiq,om,hkq,fun q' h1 h2=> ?_⟩;rcases ih (p-q') om q' om om with h|h
       .exact h
       .omega
    rw[<-pl.By (i:=i) (j:=p) (Nat.le_of_lt hlt) st.le fun k h1 h2=> ?_]
    .exact hbase
    .rcases Nat.eq_or_lt_of_le h1 with rfl|h1
     .rw[hk];decide
     .rcases hno (p-k) k om h1 with h|h
      .exact h
      .omega
  ·
   by_cases hex:∃k,p<=k/\k<i/\(r k).k.El=true/\∀q,p<=q->q<k->(r q).k.El≠true
   .obtain⟨k,h1,h2,h3,h4⟩:=hex;have hkl:listed[k]?≠some true:=fun h=>by have:=(st.eff k om h3).1 h;omega
    rw[pl.By (i:=p) (j:=k) h1 om h4];rcases pl.quiet i k o ho om hk h3 with⟨_,h⟩|⟨h,_⟩|h
    .exact absurd (st.up pl ho hall h) hkl
    .omega
    .rw[Rf h2]at h;exact h
   .have hno:∀q,p<=q->q<i->(r q).k.El≠true:=by
     intro q
     induction q using Nat.strongRecOn with
     |_ q ih=>
      intro h1 h2 h3;exact hex ⟨q,h1,h2,h3,fun q' a b=>ih q' b a om⟩
    rw[pl.By (i:=p) (j:=i) hge (Nat.le_of_lt hi) hno];exact hbase
end
end Go.Gar
namespace Go.Gar
section
variable {P:Program}{ro:Qt}{ops:R0}{S0 S:St}{Q:Exit->St->Prop}{E:Nat->Option AK}{s:Nat->St}{r:Nat->Rc}
variable {N:NB}{p:Nat}{listed:R5}{G:Gh}{a:Act}{w:World}
theorem Bf{i k:Nat}(hi:i<listed.size):(listed.setIfInBounds i true)[k]? =some true↔k=i\/listed[k]? =some true:=by
 by_cases h:i=k
 .subst h;rw[RP hi];simp
 .rw[RU h];simp[Ne.symm h]
variable {o:Oper}{v:Value}
theorem Kp{t:Nat}(h:o.dst≠some t):(a.put o.dst v).tmps[t]? =a.tmps[t]?:=by
 cases hd:o.dst with
 |none=>rfl
 |some d=>
  rw[hd]at h;simp only[Act.put];rw[RU fun e=>h (by rw[e])]
theorem Iv:(a.put o.dst v).defers=a.defers:=by
 cases hd:o.dst<;>rfl
theorem N9:(a.put o.dst v).tmps.size=a.tmps.size:=by
 cases hd:o.dst<;>simp[Act.put]
theorem B5.next(st:B5 ro ops S0 s r N listed p G a w)(pl:Plan P ro E ops S0 S s r){i:Nat}(ho:ops[i]? =some o)(hun:listed[i]? =some false)(hall:∀e∈o.after,Region.binds .any e=true->listed[e.on]? =some true)(hnp:∀ch,(r i).k≠ .pan ch){p':Nat}(hp:p'<=ops.size/\((r i).k.El=true->p'=i+1)/\((r i).k.El≠true->p'=p)){G':Gh}{w':World}(hv:RV G' (r i).x v)(hH:G'.H=(s p').H)(hr:AD G' w')(hfr:BE G w G' w'):B5 ro ops S0 s r N (listed.setIfInBounds i true) p' G' (a.put o.dst v) w':=by
 have hi:i<ops.size:=(Qp.1 ho).1;have hil:i<listed.size:=by rw[st.size];exact hi
 have hd:=(pl.ok i o ho).1;refine⟨by simp[st.size],fun k q hq hk e he hb=> ?_,hp.1,fun k hk hkk=> ?_,fun k ch hkc=> ?_,?_,fun j q t hq hqd hj=> ?_,fun t x hx hno=> ?_⟩
 .rw[Bf hil]at hk|-;rcases hk with rfl|hk
  .rw[ho]at hq;cases hq;exact .inr (hall e he hb)
  .exact .inr (st.closed k q hq hk e he hb)
 .rw[Bf hil]
  by_cases hie:(r i).k.El=true
  .rw[hp.2.1 hie];constructor
   .rintro(rfl|h)
    .omega
    .have hkp:=(st.eff k hk hkk).1 h;rcases RJ i k with hlt|hge
     .have:=pl.effs k i hk hlt hkk hie;have hkl:=st.up pl (o:=ops[k]) (by simp[hk]) (st.closed k _ (by simp[hk]) h) this;rw[hun]at hkl;cases hkl
     .omega
   .intro h;rcases RJ k i with hlt|hge
    .exact .inr (st.up pl ho hall (pl.effs i k hi hlt hie hkk))
    .exact .inl om
  .rw[hp.2.2 hie,<-st.eff k hk hkk];constructor
   .rintro(rfl|h)
    .exact absurd hkk hie
    .exact h
   .exact .inr
 .rw[Ne,Bf hil];rintro(rfl|h)
  .exact hnp ch hkc
  .exact st.nopan k ch hkc h
 .exact st.rel.step hfr hH hr rfl (by rw[N9];exact st.rel.size) (fun t x h=>by simp[get]at h) Iv
 .rw[Bf hil]at hj
  by_cases hji:j=i
  .subst hji;rw[ho]at hq;cases hq;rw[hqd]at hd|-;simp only[AA,S9]at hd;exact⟨v,by simp only[Act.put];exact RP (by rw[st.rel.size];exact hd),hv⟩
  .obtain⟨u,hu,hru⟩:=st.env1 j q t hq hqd (hj.resolve_left hji);refine⟨u,?_,hru.mono hfr.gle⟩;rw[Kp fun h=>hji (pl.uniq j i q o t hq ho hqd h)];exact hu
 .have hne:o.dst≠some t:=fun h=>hno i o ho h ((Bf hil).2 (.inl rfl));obtain⟨u,hu,hru⟩:=st.env0 t x hx fun j q hq hqd hj=>hno j q hq hqd ((Bf hil).2 (.inr hj))
  exact⟨u,by rw[Kp hne];exact hu,hru.mono hfr.gle⟩
theorem B5.run(pl:Plan P ro E ops S0 S s r)(hE:Ai P E)(hQ:(∀i ch,i<ops.size->(r i).k≠ .pan ch)->Q .normal S)(hP:∀i ch,i<ops.size->(r i).k= .pan ch->Q (.panic ch) ⟨[],(s (i+1)).H,S0.n⟩){G0:Gh}{w0:World}(hrl:∀{G:Gh}{w:World}{H:RE}{a:Act},Rel ro N ⟨[],H,S0.n⟩ G a w->BE G0 w0 G w->rl G ro=rl G0 ro)
  {X:Nat->Prop} (hX:∀(fuel:Nat)(listed:R5)(p:Nat)(G:Gh)(a:Act)(w:World)(i:Nat)(h:RE),listed.toList.countP (fun b=> !b)<=fuel+1->(∀j,X j->listed[j]? =some true)->B5 ro ops S0 s r N listed p G a w->BE G0 w0 G w->i∈Region.ready .any ops listed->(r i).k= .ext h->
   wpOpIn (FE (rl G0 ro)) 0 P ops (Post ro N G0 w0 Q) i (wpAnyIn (FE (rl G0 ro)) 0 P .any ops (Post ro N G0 w0 Q) fuel (listed.setIfInBounds i true)) a w):
  ∀(fuel:Nat)(listed:R5)(p:Nat)(G:Gh)(a:Act)(w:World),(∀j,X j->listed[j]? =some true)->listed.toList.countP (fun b=> !b)<=fuel->
  B5 ro ops S0 s r N listed p G a w->BE G0 w0 G w->wpAnyIn (FE (rl G0 ro)) 0 P .any ops (Post ro N G0 w0 Q) fuel listed a w:=by
 intro fuel
 have done:∀(listed:R5)(p:Nat)(G:Gh)(a:Act)(w:World),B5 ro ops S0 s r N listed p G a w->BE G0 w0 G w->(∀i,i<ops.size->listed[i]? =some true)->Post ro N G0 w0 Q .normal a w:=by
  intro listed p G a w st hf hall;refine⟨S,G,hQ (fun i ch hi hk=>st.nopan i ch hk (hall i hi)),⟨?_,st.rel.rel,?_,fun t x hx=> ?_,st.rel.marks,fun id hid=> ?_⟩,hf⟩
  .rw[<-pl.sn,<-pl.By st.le (Qn _) fun k h1 h2 h3=> ?_]
   .exact st.rel.heap
   .have:=(st.eff k h2 h3).1 (hall k h2);omega
  .rw[<-pl.sn,pl.n _ (Qn _)];exact st.rel.size
  .rw[<-pl.sn]at hx;rcases pl.KM (Qn _) hx with⟨j,q,hlt,hq,hd,rfl⟩|⟨h0,hno⟩
   .exact st.env1 j q t hq hd (hall j hlt)
   .exact st.env0 t x h0 fun j q hq hd _=>hno j q (Qp.1 hq).1 hq hd
  .have:=st.rel.round id hid;simp only at this;rw[<-pl.sn,<-pl.By st.le (Qn _) fun k h1 h2 h3=> ?_]
   .exact this
   .have:=(st.eff k h2 h3).1 (hall k h2);omega
 induction fuel with
 |zero=>
  intro listed p G a w _ hc st hf
  have hall:∀i,i<ops.size->listed[i]? =some true:=by
   intro i hi;have h0:listed.toList.countP (fun b=> !b)=0:=om
   rw[List.countP_eq_zero]at h0;have hil:i<listed.size:=by rw[st.size];exact hi
   have:=h0 listed[i] sm;rw[Array.getElem?_eq_getElem hil];simpa using this
  refine⟨?_,done listed p G a w st hf hall⟩
  cases hr:Region.ready .any ops listed with
  |nil=>rfl
  |cons i l=>
   have:i∈Region.ready .any ops listed:=by rw[hr];simp
   rw[Ah st.size]at this;obtain⟨h1,o,h2,_⟩:=this;rw[hall i (Qp.1 h2).1]at h1;cases h1
 |succ fuel ih=>
  intro listed p G a w hXl hc st hf;refine⟨fun hr=>done listed p G a w st hf (JJ pl st.size hr),fun i hi=> ?_⟩
  by_cases hext:∃h,(r i).k= .ext h
  .obtain⟨h,hext⟩:=hext;exact hX fuel listed p G a w i h hc hXl st hf hi hext
  obtain⟨hun,o,ho,hall⟩:=(Ah st.size).1 hi;have hun':listed[i]?≠some true:=by rw[hun];simp
  have hio:i<ops.size:=(Qp.1 ho).1;have hil:i<listed.size:=by rw[st.size];exact hio
  have hlook:=st.look pl ho hun' hall;have hheap:=st.Jf pl ho hun' hall;have hok:=(pl.ok i o ho).2
  have hcount:(listed.setIfInBounds i true).toList.countP (fun b=> !b)<=fuel:=by
   have hl:listed.toList[i]'(by simpa using hil)=false:=by
    have:=Qp.1 hun;obtain⟨h,e⟩:=this;simpa using e
   have:(listed.setIfInBounds i true).toList=listed.toList.set i true:=by simp
   rw[this,List.countP_set (by simpa using hil),hl];simp only[Bool.not_false,SG,Bool.not_true,Ry,SY];have hpos:0<listed.toList.countP (fun b=> !b):=List.countP_pos_iff.2 ⟨false,by rw[<-hl];exact List.getElem_mem _,rfl⟩;have hc':List.countP (fun b=> !b) listed.toList<=fuel+1:=hc;omega
  have hrel:Rel ro N ⟨(r i).e,(s p).H,S0.n⟩ G a w:=⟨st.rel.heap,st.rel.rel,st.rel.size,hlook,st.rel.marks,st.rel.round⟩
  have cont:(∀ch,(r i).k≠ .pan ch)->∀p',p'<=ops.size/\((r i).k.El=true->p'=i+1)/\((r i).k.El≠true->p'=p)->∀v w' G',RV G' (r i).x v->G'.H=(s p').H->AD G' w'->BE G w G' w'->wpAnyIn (FE (rl G0 ro)) 0 P .any ops (Post ro N G0 w0 Q) fuel (listed.setIfInBounds i true) (a.put o.dst v) w':=by
   intro hnp p' hp' v w' G' hv hH hr hfr;exact ih _ p' G' _ w' (fun j hj=>(Bf hil).2 (.inr (hXl j hj))) hcount (st.next pl ho hun hall hnp hp' hv hH hr hfr) (hf.trans hfr)
  have hF:rl G ro=rl G0 ro:=hrl st.rel hf;unfold wpOpIn;simp only[ho]
  cases hk:(r i).k with
  |skip=>
   rw[hk]at hok;have hw:=Ax (S:=⟨(r i).e,(s p).H,S0.n⟩) hlook hok.1;rw[Rw (by rw[hw];simp)];refine⟨fun _ _=>trivial,cont (by rw[hk];intro _ h;cases h) p ⟨st.le,by rw[hk];(intro h;exact absurd h (by decide)),fun _=>rfl⟩ undef w G (by rw[hok.2.1];simp only[RV,RD];exact⟨[],rfl,by simp[BJ]⟩) st.rel.heap st.rel.rel (BE.refl G w)⟩
  |any=>
   rw[hk]at hok;have hw:=Ax (S:=⟨(r i).e,(s p).H,S0.n⟩) hlook hok.1;rw[Rf hw,<-hF];refine hok.2.1 (s p).H N G a w _ _ hrel fun v w' G' h1 h2 h3 h4=> ?_
   rw[hF];exact cont (by rw[hk];intro _ h;cases h) p ⟨st.le,by rw[hk];(intro h;exact absurd h (by decide)),fun _=>rfl⟩ v w' G' h1 h2 h3 h4
  |quiet=>
   rw[hk]at hok;have hw:=Ax (S:=⟨(r i).e,(s p).H,S0.n⟩) hlook hok.1;rw[Rf hw,<-hF];obtain⟨c,hc1,hc2⟩:=hheap.2 hk;refine Bi.step (S:=⟨(r i).e,(s p).H,S0.n⟩) (JX (S:=⟨(r i).e,(s p).H,S0.n⟩) hE hc1 hc2) (Dp hc1) N G a w _ _ hrel fun v w' G' h1 h2 h3 h4=> ?_
   rw[hF];exact cont (by rw[hk];intro _ h;cases h) p ⟨st.le,by rw[hk];(intro h;exact absurd h (by decide)),fun _=>rfl⟩ v w' G' h1 h2 h3 h4
  |eff=>
   rw[hk]at hok;have hw:=Ax (S:=⟨(r i).e,(s p).H,S0.n⟩) hlook hok.1;rw[Rf hw,<-hF];have hh:(r i).h=(s p).H:=by rw[hheap.1 (by rw[hk];rfl)];exact pl.h i hio
   have hstep:=hok.2;rw[hh]at hstep;refine hstep N G a w _ _ hrel fun v w' G' h1 h2 h3 h4=> ?_
   rw[hF];exact cont (by rw[hk];intro _ h;cases h) (i+1) ⟨hio,fun _=>rfl,fun h=>absurd (by rw[hk];rfl) h⟩ v w' G' h1 h2 h3 h4
  |ext h=>exact absurd ⟨h,hk⟩ hext
  |dead=>
   obtain⟨j,ch,hj,hb⟩:=pl.dead i hio hk;exact absurd (st.up pl ho hall hb) (st.nopan j ch hj)
  |pan ch=>
   rw[hk]at hok;have hw:=Ax (S:=⟨(r i).e,(s p).H,S0.n⟩) hlook hok.1;rw[Rf hw,<-hF];have hh:(r i).h=(s p).H:=by rw[hheap.1 (by rw[hk];rfl)];exact pl.h i hio
   have hstep:=hok.2;rw[hh]at hstep;refine hstep N G a w _ _ hrel fun w' G' h2 h3 h4=> ?_
   exact⟨⟨[],(s (i+1)).H,S0.n⟩,G',hP i ch hio hk,st.rel.step h4 h2 h3 rfl st.rel.size (fun t x h=>by simp[get]at h) rfl,hf.trans h4⟩
variable {l:QR}{acc:List Rc}
theorem Run.plan(ht:Run P ro E ops S0 acc S)(hd:Bt ops (acc.reverse.map Rc.k) l=true)(hx:Au E ops acc.reverse S.H l):∃s,s 0=S0/\Plan P ro E ops S0 S s (fun i=>(acc.reverse[i]?).getD ⟨[],[],.u,.skip⟩):=by
 obtain⟨s,h0,h1,h2⟩:=ht.trace;simp only[Bt,Qk]at hd;obtain⟨hlen,hd⟩:=hd;have hlen:=Qi hlen;simp only[Rh,SV,SX]at hlen;have hd:=BL hd;simp only[SX]at hd
 have key:∀i o,ops[i]? =some o->∃q,acc.reverse[i]? =some q/\(∀t x,get q.e t=some x->t∈looks ops o/\get (s i).env t=some x)/\q.h=(s i).H/\(s i).n=S0.n/\(s (i+1)).env=AW o.dst q.x (s i).env/\(s (i+1)).n=S0.n/\q.ok P ro E ops S0.n o (s (i+1)).H:=by
  intro i o ho;obtain⟨o',q,k1,k2,k3⟩:=h2 i (by rw[hlen];exact(Qp.1 ho).1);have:o'=o:=by simp[ho]at k1;exact k1.symm
  subst this;exact⟨q,k2,k3⟩
 have hk:∀i,i<ops.size->(acc.reverse.map Rc.k)[i]? =some (acc.reverse[i]?.getD ⟨[],[],.u,.skip⟩).k:=by
  intro i hi;obtain⟨q,k2,_⟩:=key i ops[i] sm;rw[RX,k2];rfl
 have hat:∀i,i<=ops.size->hAt acc.reverse S.H i=(s i).H:=by
  intro i hi;rcases Nat.eq_or_lt_of_le hi with rfl|hlt
  .rw[hAt,Rn (by simp[hlen]),<-hlen,h1]
  .obtain⟨q,k2,k3,k4,_⟩:=key i ops[i] sm;rw[hAt,k2,<-k4]
 have hD:∀i o,ops[i]? =some o->_:=fun i o ho=>by
  have:=hd i (Qp.1 ho).1;simp only[Array.getElem?_toList,ho,Qk]at this;exact this
 have kEff:∀i,i<ops.size->(acc.reverse[i]?.getD ⟨[],[],.u,.skip⟩).k.El=true->KY (acc.reverse.map Rc.k)[i]? =true:=fun i hi h=>by rw[hk i hi];exact h
 have kQ:∀i,i<ops.size->(acc.reverse[i]?.getD ⟨[],[],.u,.skip⟩).k= .quiet->Kb (acc.reverse.map Rc.k)[i]? =true:=fun i hi h=>by rw[hk i hi,h];rfl
 refine⟨s,h0,h0,by rw[<-hlen,h1],fun i o ho=> ?_,fun i hi=> ?_,fun i o ho=> ?_,fun i hi=> ?_,fun i o ho=> ?_,fun i o ho e he hb=> ?_,fun i o ho t ht j q hq hqd=> ?_,fun i j o q d ho hq hod hqd=> ?_,fun i j hi hj hik hjk=> ?_,fun i k o ho hkn hik hkk=> ?_,fun i hi hik=> ?_⟩
 .obtain⟨q,k2,k3,_⟩:=key i o ho;rw[k2];exact k3
 .obtain⟨q,k2,k3,k4,_⟩:=key i ops[i] sm;rw[k2];exact k4
 .obtain⟨q,k2,k3,k4,k5,k6,_⟩:=key i o ho;rw[k2];exact k6
 .rcases Nat.eq_or_lt_of_le hi with rfl|hlt
  .cases hz:ops.size with
   |zero=>rw[h0]
   |succ m=>
    obtain⟨q,k2,k3,k4,k5,k6,k7,_⟩:=key m ops[m] sm;exact k7
  .obtain⟨q,k2,k3,k4,k5,_⟩:=key i ops[i] sm;exact k5
 .obtain⟨q,k2,k3,k4,k5,k6,k7,k8⟩:=key i o ho;rw[k2];exact k8
 .have:=(hD i o ho).1.1.1.1.1;rw[TA]at this;have:=this e (by simpa using he);rw[hb]at this;simpa[S9]using this
 .have:=(hD i o ho).1.1.1.1.2;rw[TA]at this;have:=BL (this t ht) j (by simpa using(Qp.1 hq).1);have hdi:HG ops j t=true:=by simp[HG,hq,hqd]
  rw[hdi]at this;simp only[Bool.not_true,Bool.false_or,Bool.or_eq_true]at this;rcases this with(h|h)|h
  .exact .inl (Qi h)
  .exact .inr (.inl h)
  .exact .inr (.inr h)
 .have:=(hD i o ho).1.1.1.2;rw[hod]at this;have:=BL this j (by simpa using(Qp.1 hq).1);have hdi:HG ops j d=true:=by simp[HG,hq,hqd]
  rw[hdi]at this;simp only[Bool.not_true,Bool.or_false]at this;exact(Qi this).symm
 .have:=(hD i ops[i] sm).1.1.2;rw[kEff i hi hik]at this;simp only[Bool.not_true,Bool.false_or]at this;have:=BL this j hj;rw[kEff j om hjk]at this;simpa using this
 .have hi:i<ops.size:=(Qp.1 ho).1;have:=(hD i o ho).1.2;rw[kQ i hi hik]at this;simp only[Bool.not_true,Bool.false_or]at this;have:=BL this k (by simpa using hkn);rw[kEff k hkn hkk]at this;simp only[Bool.not_true,Bool.false_or,Bool.or_eq_true,Qk,S9]at this;rcases this with(h|h)|h
  .exact .inl h
  .exact .inr (.inl h)
  .right;right;obtain⟨q,k2,_⟩:=key i o ho;obtain⟨c,c1,c2⟩:=GT (i:=i) (k:=k) (o:=o) (r:=q) (by simpa using ho) k2 hx h;refine⟨c,?_,c2⟩;show Fl E (acc.reverse[i]?.getD _).e _ o.op=some (c,(acc.reverse[i]?.getD _).x);rw[k2];simp only[Option.getD_some];rw[<-c1]
   congr 1
   by_cases hki:k<i
   .have hb:Nat.blt k i=true:=by simpa[S9]using hki
    rw[hb];simp only[SG,Rf hki];exact(hat k om).symm
   .have hb:Nat.blt k i=false:=by
     cases h:Nat.blt k i with
     |false=>rfl
     |true=>rw[S9]at h;exact absurd h hki
    rw[hb];simp only[Ry,SY,Rw hki];exact(hat (k+1) om).symm
 .have:=(hD i ops[i] sm).2;rw[hk i hi,hik]at this;simp only[Mq,Bool.not_true,Bool.false_or]at this;obtain⟨j,hj,h3⟩:=HD this;simp only[Qk,SX]at h3 hj;rw[hk j hj]at h3
  cases hkj:(acc.reverse[j]?.getD ⟨[],[],.u,.skip⟩).k with
  |pan ch=>exact⟨j,ch,hkj,h3.2⟩
  |_=>rw[hkj]at h3;simp[Mr]at h3
theorem N1(h:Mz (acc.reverse.map Rc.k)=true)(i:Nat)(ch:R4):(acc.reverse[i]?.getD ⟨[],[],.u,.skip⟩).k≠ .pan ch:=by
 cases hi:acc.reverse[i]? with
 |none=>simp
 |some q=>
  intro e;simp only[Option.getD_some]at e;have hm:q.k∈acc.reverse.map Rc.k:=List.mem_map.2 ⟨q,Ro hi,rfl⟩;have:=(TA.1 h) _ hm;rw[e]at this;cases this
theorem LV(h:Mz (acc.reverse.map Rc.k)=true)(i:Nat)(x:RE):(acc.reverse[i]?.getD ⟨[],[],.u,.skip⟩).k≠ .ext x:=by
 cases hi:acc.reverse[i]? with
 |none=>simp
 |some q=>
  intro e;simp only[Option.getD_some]at e;have hm:q.k∈acc.reverse.map Rc.k:=List.mem_map.2 ⟨q,Ro hi,rfl⟩;have:=(TA.1 h) _ hm;rw[e]at this;cases this
def GC(P:Program)(ro:Qt)(ops:R0)(S:St)(Q:Exit->St->Prop):Prop:=
 ∀N G a w,Rel ro N S G a w->wpAnyIn (FE (rl G ro)) 0 P .any ops (Post ro N G w Q) ops.size (Array.replicate ops.size false) a {w with drawn:=w.drawn+1}
theorem B5.init(pl:Plan P ro E ops S0 S s r){G:Gh}{a:Act}{w:World}(hr:Rel ro N S0 G a w):B5 ro ops S0 s r N (Array.replicate ops.size false) 0 G a {w with drawn:=w.drawn+1}/\BE G w G {w with drawn:=w.drawn+1}:=by
 have hg:AD G {w with drawn:=w.drawn+1}:=⟨fun id b hb=>(hr.rel.blk id b hb).Gz (DN.refl G) (fun _ _ _ _=>rfl) rfl,hr.rel.inj,fun b k v hv=>hr.rel.mem b k v hv,hr.rel.sep,hr.rel.st,hr.rel.mny⟩;have hf:BE G w G {w with drawn:=w.drawn+1}:=⟨rfl,rfl,rfl,Qn _,fun b hb ho=>⟨rfl,ho⟩,fun b o v hv=> .inl hv,DN.refl G⟩;refine⟨⟨sm,fun i o ho hl=> ?_,RN _,fun k hk hkk=> ?_,fun k ch hkc hl=> ?_,?_,fun j o t ho hd hl=> ?_,fun t x hx hno=> ?_⟩,hf⟩
 .have:i<ops.size:=(Qp.1 ho).1;rw[Array.getElem?_replicate,Rf this]at hl;cases hl
 .rw[Array.getElem?_replicate,Rf hk];simp
 .rw[Array.getElem?_replicate]at hl;split at hl<;>cases hl
 .have h:=hr.step hf (S':=⟨[],S0.H,S0.n⟩) hr.heap hg rfl hr.size (fun t x h=>by simp[get]at h) rfl;rw[pl.s0];exact h
 .have:j<ops.size:=(Qp.1 ho).1;rw[Array.getElem?_replicate,Rf this]at hl;cases hl
 .exact hr.env t x hx
theorem HA(pl:Plan P ro E ops S0 S s r)(hE:Ai P E)(hN:∀i h,(r i).k≠ .ext h)(hQ:(∀i ch,i<ops.size->(r i).k≠ .pan ch)->Q .normal S)(hP:∀i ch,i<ops.size->(r i).k= .pan ch->Q (.panic ch) ⟨[],(s (i+1)).H,S0.n⟩):GC P ro ops S0 Q:=by
 intro N G a w hr;obtain⟨h1,h2⟩:=B5.init pl hr;exact B5.run pl hE hQ hP (fun h hf=>CH hr h hf) (X:=fun _=>False) (fun _ _ _ _ _ _ i h _ _ _ _ _ hk=>absurd hk (hN i h)) _ _ 0 G a _ (fun _ h=>h.elim) (by simp[List.countP_replicate]) h1 h2
theorem GD(hE:Ai P E)(ht:Run P ro E ops S0 acc S)(hd:Dl ops (acc.reverse.map Rc.k) l=true)(hx:Au E ops acc.reverse S.H l)(hQ:Q .normal S):GC P ro ops S0 Q:=by
 simp only[Dl,Qk]at hd;obtain⟨s,_,pl⟩:=ht.plan hd.2 hx;exact HA pl hE (LV hd.1) (fun _=>hQ) fun i ch _ h=>absurd h (N1 hd.1 i ch)
variable {id:Nat}
theorem Nj(hm:P.follows .mixedOrders=true)(hE:Ai P E)(ht:Run P ro E ops S0 acc S)(hd:Dl ops (acc.reverse.map Rc.k) l=true)(hx:Au E ops acc.reverse S.H l)(hQ:Q .normal S):W P ro (.region id ops true) S0 Q:=by
 intro N G a w hr;exact wpIn_region_any hm (GD hE ht hd hx hQ N G a w hr)
def CR:List Kd->Option (Nat×R4)
 |[]=>none
 | .pan ch::r=>if r.any Kd.El then none else some (0,ch)
 | .ext _::_=>none
 |_::r=>match CR r with
  |some (i,ch)=>some (i+1,ch)
  |none=>none
theorem It:∀{ks:List Kd}{i:Nat}{ch:R4},CR ks=some (i,ch)->ks[i]? =some (.pan ch)/\(∀j k,i<j->ks[j]? =some k->k.El≠true)/\(∀j ch',ks[j]? =some (.pan ch')->j=i)
 |[],i,ch,h=>by simp[CR]at h
 |k::r,i,ch,h=>by
  have rec_:(match CR r with|some (i,ch)=>some (i+1,ch)|none=>none)=some (i,ch)->(∀c,k≠ .pan c)->(k::r)[i]? =some (.pan ch)/\(∀(j:Nat)(q:Kd),i<j->(k::r)[j]? =some q->q.El≠true)/\(∀j ch',(k::r)[j]? =some (.pan ch')->j=i):=by
   intro h hk;split at h
   .rename_i i' ch' hp;simp only[Qj,Qo]at h;obtain⟨rfl,rfl⟩:=h;obtain⟨h1,h2,h3⟩:=It hp;refine⟨by simpa using h1,fun j q hj hq=> ?_,fun j c hc=> ?_⟩
    .cases j with
     |zero=>omega
     |succ j=>exact h2 j q om (by simpa using hq)
    .cases j with
     |zero=>simp at hc;exact absurd hc (hk c)
     |succ j=>rw[h3 j c (by simpa using hc)]
   .cases h
  cases k with
  |pan c=>
   simp only[CR]at h;split at h
   .cases h
   .rename_i hany;simp only[Qj,Qo]at h;obtain⟨rfl,rfl⟩:=h;have hno:∀(j:Nat)(q:Kd),r[j]? =some q->q.El≠true:=fun j q hq he=>hany (List.any_eq_true.2 ⟨q,Ro hq,he⟩)
    refine⟨rfl,fun j q hj hq=> ?_,fun j c' hc=> ?_⟩
    .cases j with
     |zero=>omega
     |succ j=>exact hno j q (by simpa using hq)
    .cases j with
     |zero=>rfl
     |succ j=>exact absurd (show Kd.El (.pan c')=true from rfl) (hno j _ (by simpa using hc))
  |ext c=>simp[CR]at h
  |_=>exact rec_ h (by intro c e;cases e)
theorem HR:∀{ks:List Kd}{i:Nat}{ch:R4},CR ks=some (i,ch)->∀(j:Nat)(x:RE),ks[j]?≠some (.ext x)
 |[],i,ch,h=>by simp[CR]at h
 |k::r,i,ch,h=>by
  have rec_:(match CR r with|some (i,ch)=>some (i+1,ch)|none=>none)=some (i,ch)->(∀c,k≠ .ext c)->∀(j:Nat)(x:RE),(k::r)[j]?≠some (.ext x):=by
   intro h hk j x e;split at h
   .rename_i i' ch' hp
    cases j with
    |zero=>simp at e;exact hk x e
    |succ j=>exact HR hp j x (by simpa using e)
   .cases h
  cases k with
  |pan c=>
   simp only[CR]at h;split at h
   .cases h
   .rename_i hany;intro j x e
    cases j with
    |zero=>simp at e
    |succ j=>exact hany (List.any_eq_true.2 ⟨_,Ro (by simpa using e),rfl⟩)
  |ext c=>simp[CR]at h
  |_=>exact rec_ h (by intro c e;cases e)
variable {ch:R4}
theorem IP{i0:Nat}(hE:Ai P E)(ht:Run P ro E ops S0 acc S)(hd:Bt ops (acc.reverse.map Rc.k) l=true)(hx:Au E ops acc.reverse S.H l)(hp:CR (acc.reverse.map Rc.k)=some (i0,ch))(hQ:Q (.panic ch) ⟨[],S.H,S.n⟩):GC P ro ops S0 Q:=by
 obtain⟨s,hs0,pl⟩:=ht.plan hd hx;obtain⟨p1,p2,p3⟩:=It hp;have hn:S.n=S0.n:=by rw[<-pl.sn];exact pl.n _ (Qn _)
 have hlen:acc.length=ops.size:=by
  simp only[Bt,Qk]at hd;have:=Qi hd.1;simpa using this
 have hi0:i0<ops.size:=by
  have:=(Qh.1 p1).1;simpa[hlen]using this
 have hkd:∀i,i<ops.size->(acc.reverse.map Rc.k)[i]? =some (acc.reverse[i]?.getD ⟨[],[],.u,.skip⟩).k:=fun i hi=>by
  have hil:i<acc.reverse.length:=by simp[hlen];exact hi
  rw[RX,Qm hil];rfl
 refine HA pl hE (fun i x h=> ?_) (fun hno=>absurd ?_ (hno i0 ch hi0)) fun i ch' hi hk=> ?_
 .rcases RJ i ops.size with hi|hi
  .have:=hkd i hi;rw[h]at this;exact HR hp i x this
  .rw[Rn (by simp[hlen];exact hi)]at h;cases h
 .have:=hkd i0 hi0;rw[p1]at this;exact(Option.some.inj this).symm
 .have e:=hkd i hi;rw[hk]at e;have:=p3 i ch' e;subst this;rw[p1]at e;cases e;rw[pl.By (i:=i+1) (j:=ops.size) hi (Qn _) fun k h1 h2=>p2 k _ om (hkd k h2),pl.sn,<-hn];exact hQ
def Wd(P:Program)(ro:Qt)(E:Nat->Option AK)(ops:R0)(S0:St)(A:Prop)(acc:List Rc)(rest:R1)(S:St):Prop:=
 ∀Sr,Run P ro E ops S0 acc Sr->Sr.H=S.H->Sr.n=S.n->(∀t x,get S.env t=some x->get Sr.env t=some x)->(∀k:Nat,rest[k]? =ops[acc.length+k]?)->A
variable {A:Prop}{acc:List Rc}{rest:R1}{o:Oper}
theorem D7(E:Nat->Option AK)(h:Wd P ro E ops S (W P ro (.region id ops true) S Q) [] ops.toList S):W P ro (.region id ops true) S Q:=
 h S .nil rfl rfl (fun _ _ h=>h) (fun k=>sm)
variable {x:AV}{H':RE}
theorem Ck{k:Kd}(hok:(⟨B7 (looks ops o) S.env,S.H,x,k⟩:Rc).ok P ro E ops S.n o H')(hk:Wd P ro E ops S0 A (⟨B7 (looks ops o) S.env,S.H,x,k⟩::acc) rest ⟨AW o.dst x S.env,H',S.n⟩):Wd P ro E ops S0 A acc (o::rest) S:=by
 intro Sr ht hH hn he hr;have ho:ops.toList[acc.length]? =some o:=by have:=hr 0;simpa using this.symm
 refine hk ⟨AW o.dst x Sr.env,H',Sr.n⟩ (.snoc (o:=o) (r:=⟨B7 (looks ops o) S.env,S.H,x,k⟩) ht ho (fun t y hy=> ?_) hH.symm (hn▸hok)) rfl hn (fun t y hy=> ?_) (fun i=> ?_)
 .obtain⟨h1,h2⟩:=Cg hy;exact⟨h1,he t y h2⟩
 .cases hd:o.dst with
  |none=>rw[hd]at hy;exact he t y hy
  |some d=>
   rw[hd]at hy;simp only[AW,get]at hy|-;split at hy
   .rename_i hb;rw[Rf hb];exact hy
   .rename_i hb;rw[Rw hb];exact he t y hy
 .have:=hr (i+1);simp only[List.getElem?_cons_succ]at this;rw[this];simp only[Qz]
  congr 1;omega
variable {c:Bool}
theorem Oj(hE:Ai P E)(hg:A4 ops (B7 (looks ops o) S.env) o=some true)(h:∀H,Fl E (B7 (looks ops o) S.env) H o.op=some (c,x))(hd:AA o.dst S.n=true)(hc:c=true)(hk:Wd P ro E ops S0 A (⟨B7 (looks ops o) S.env,S.H,x,.any⟩::acc) rest ⟨AW o.dst x S.env,S.H,S.n⟩):Wd P ro E ops S0 A acc (o::rest) S:=
 Ck (x:=x) (k:=.any) (H':=S.H) ⟨hd,hg,fun H=>Bi.step (S:=⟨B7 (looks ops o) S.env,H,S.n⟩) (JX (S:=⟨B7 (looks ops o) S.env,H,S.n⟩) hE (h H) hc) (Dp (h H)),rfl⟩ hk
theorem Wd_q(hg:A4 ops (B7 (looks ops o) S.env) o=some true)(h:Fl E (B7 (looks ops o) S.env) S.H o.op=some (c,x))(hd:AA o.dst S.n=true)(hc:c=true)(hk:Wd P ro E ops S0 A (⟨B7 (looks ops o) S.env,S.H,x,.quiet⟩::acc) rest ⟨AW o.dst x S.env,S.H,S.n⟩):Wd P ro E ops S0 A acc (o::rest) S:=
 Ck (x:=x) (k:=.quiet) (H':=S.H) ⟨hd,hg,⟨c,h,hc⟩,rfl⟩ hk
theorem Nn(hg:A4 ops (B7 (looks ops o) S.env) o=some false)(hd:AA o.dst S.n=true)
  (hk:Wd P ro E ops S0 A (⟨B7 (looks ops o) S.env,S.H,.d (.tup []),.skip⟩::acc) rest ⟨AW o.dst (.d (.tup [])) S.env,S.H,S.n⟩):Wd P ro E ops S0 A acc (o::rest) S:=
 Ck (x:=.d (.tup [])) (k:=.skip) (H':=S.H) ⟨hd,hg,rfl,rfl⟩ hk
theorem PZ{g:Nat}{xs:R8}{ds:R6}{q:D}(hg:A4 ops (B7 (looks ops o) S.env) o=some true)(h:Ab (B7 (looks ops o) S.env) o.op=some (g,xs))(hd:AA o.dst S.n=true)(hF:Go.Gar.Fn P g ds q)(hx:Gw xs ds)
  (hk:Wd P ro E ops S0 A (⟨B7 (looks ops o) S.env,S.H,.d q,.any⟩::acc) rest ⟨AW o.dst (.d q) S.env,S.H,S.n⟩):Wd P ro E ops S0 A acc (o::rest) S:=
 Ck (x:=.d q) (k:=.any) (H':=S.H) ⟨hd,hg,fun H=>Lx (S:=⟨B7 (looks ops o) S.env,H,S.n⟩) h (hF.toT hx H),rfl⟩ hk
theorem Wd_T{g:Nat}{xs:R8}(hg:A4 ops (B7 (looks ops o) S.env) o=some true)(h:Ab (B7 (looks ops o) S.env) o.op=some (g,xs))(hd:AA o.dst S.n=true)(hT:Bv P g xs S.H fun y H=>y=x/\H=H')(hk:Wd P ro E ops S0 A (⟨B7 (looks ops o) S.env,S.H,x,.eff⟩::acc) rest ⟨AW o.dst x S.env,H',S.n⟩):Wd P ro E ops S0 A acc (o::rest) S:=
 Ck (x:=x) (k:=.eff) (H':=H') ⟨hd,hg,Lx (S:=⟨B7 (looks ops o) S.env,S.H,S.n⟩) h hT⟩ hk
theorem Wd_a(hE:Ai P E){f:Nat->AV}{b:A2}(hg:A4 ops (B7 (looks ops o) S.env) o=some true)(h:Ny E (B7 (looks ops o) S.env) S.H o.op=some (c,f,b))(hd:AA o.dst S.n=true)(hc:c=true)(hk:Wd P ro E ops S0 A (⟨B7 (looks ops o) S.env,S.H,f S.H.length,.eff⟩::acc) rest ⟨AW o.dst (f S.H.length) S.env,S.H++[b],S.n⟩):Wd P ro E ops S0 A acc (o::rest) S:=
 Ck (x:=f S.H.length) (k:=.eff) (H':=S.H++[b]) ⟨hd,hg,Bi.step (S:=⟨B7 (looks ops o) S.env,S.H,S.n⟩) (MP (S:=⟨B7 (looks ops o) S.env,S.H,S.n⟩) hE h hc) (FQ h)⟩ hk
theorem Pb(hE:Ai P E){q:D}(hg:A4 ops (B7 (looks ops o) S.env) o=some true)(h:GL E (B7 (looks ops o) S.env) S.H o.op=some (c,q))(hd:AA o.dst S.n=true)(hc:c=true)(hk:Wd P ro E ops S0 A (⟨B7 (looks ops o) S.env,S.H,.sl S.H.length (AI q) (AU q),.eff⟩::acc) rest ⟨AW o.dst (.sl S.H.length (AI q) (AU q)) S.env,S.H++[.a q],S.n⟩):Wd P ro E ops S0 A acc (o::rest) S:=
 Ck (x:=.sl S.H.length (AI q) (AU q)) (k:=.eff) (H':=S.H++[.a q]) ⟨hd,hg,Bi.step (S:=⟨B7 (looks ops o) S.env,S.H,S.n⟩) (KO (S:=⟨B7 (looks ops o) S.env,S.H,S.n⟩) hE h hc) (EX h)⟩ hk
theorem Wd_w(hE:Ai P E)(hg:A4 ops (B7 (looks ops o) S.env) o=some true)(h:Ox E (B7 (looks ops o) S.env) S.H o.op=some (c,x,H'))(hd:AA o.dst S.n=true)(hc:c=true)(hk:Wd P ro E ops S0 A (⟨B7 (looks ops o) S.env,S.H,x,.eff⟩::acc) rest ⟨AW o.dst x S.env,H',S.n⟩):Wd P ro E ops S0 A acc (o::rest) S:=
 Ck (x:=x) (k:=.eff) (H':=H') ⟨hd,hg,Bi.step (S:=⟨B7 (looks ops o) S.env,S.H,S.n⟩) (Md (S:=⟨B7 (looks ops o) S.env,S.H,S.n⟩) hE h hc) (FR h)⟩ hk
theorem JF{env:R9}(h:∀t x,get env t=some x->get S.env t=some x)(k:Wd P ro E ops S0 A acc rest ⟨env,S.H,S.n⟩):Wd P ro E ops S0 A acc rest S:=
 fun Sr ht hH hn he hr=>k Sr ht hH hn (fun t x hx=>he t x (h t x hx)) hr
theorem M3{d:Nat}{b:Bool}(hg:LQ ops o=some d)(hb:get S.env d=some (.d (.b b)))
  (ht:b=true->Wd P ro E ops S0 A acc (o::rest) ⟨(d,.d (.b true))::S.env,S.H,S.n⟩) (hf:b=false->Wd P ro E ops S0 A acc (o::rest) ⟨(d,.d (.b false))::S.env,S.H,S.n⟩):Wd P ro E ops S0 A acc (o::rest) S:=by
 cases b with
 |true=>exact JF (Ei hb) (ht rfl)
 |false=>exact JF (Ei hb) (hf rfl)
theorem Hc{c:Code}{Q':Exit->St->Prop}(h:W P ro c S0 Q')(hq:∀e S',Q' e S'->Q e S'\/∃env,(∀t x,get env t=some x->get S'.env t=some x)/\Q e ⟨env,S'.H,S'.n⟩):W P ro c S0 Q:=by
 intro N G a w r;refine wpIn_mono (h N G a w r) ?_;rintro e a' w' ⟨S',G',q,r',k⟩;rcases hq e S' q with q|⟨env,hs,q⟩
 .exact⟨S',G',q,r',k⟩
 .exact⟨_,G',q,r'.Hh hs,k⟩
theorem Ol(hg:A4 ops (B7 (looks ops o) S.env) o=some true)(hX:Lw P ro o ⟨B7 (looks ops o) S.env,S.H,S.n⟩ ch H')(hd:AA o.dst S.n=true)(hk:Wd P ro E ops S0 A (⟨B7 (looks ops o) S.env,S.H,.u,.pan ch⟩::acc) rest ⟨AW o.dst .u S.env,H',S.n⟩):Wd P ro E ops S0 A acc (o::rest) S:=
 Ck (x:=.u) (k:=.pan ch) (H':=H') ⟨hd,hg,hX⟩ hk
theorem Nl(hd:AA o.dst S.n=true)
  (hk:Wd P ro E ops S0 A (⟨B7 (looks ops o) S.env,S.H,.u,.dead⟩::acc) rest ⟨AW o.dst .u S.env,S.H,S.n⟩):Wd P ro E ops S0 A acc (o::rest) S:=
 Ck (x:=.u) (k:=.dead) (H':=S.H) ⟨hd,rfl⟩ hk
theorem Nm(l:QR){i0:Nat}(hm:P.follows .mixedOrders=true)(hE:Ai P E)(hp:CR (acc.reverse.map Rc.k)=some (i0,ch))(hd:Bt ops (acc.reverse.map Rc.k) l=true)(hx:Au E ops acc.reverse S.H l)(hQ:Q (.panic ch) ⟨[],S.H,S.n⟩):Wd P ro E ops S0 (W P ro (.region id ops true) S0 Q) acc [] S:=by
 intro Sr ht hH hn he hr N G a w hrel;exact wpIn_region_any hm (IP hE ht hd (by rw[hH];exact hx) hp (by rw[hH,hn];exact hQ) N G a w hrel)
theorem Oi(l:QR)(hm:P.follows .mixedOrders=true)(hE:Ai P E)(hd:Dl ops (acc.reverse.map Rc.k) l=true)(hx:Au E ops acc.reverse S.H l)(hQ:Q .normal S):Wd P ro E ops S0 (W P ro (.region id ops true) S0 Q) acc [] S:=by
 intro Sr ht hH hn he hr;refine Hc (Q':=fun e S'=>e= .normal/\S'=Sr) (Nj hm hE ht hd (by rw[hH];exact hx) ⟨rfl,rfl⟩) ?_;rintro e S' ⟨rfl,rfl⟩;refine .inr ⟨S.env,he,?_⟩;rw[hH,hn];exact hQ
end
end Go.Gar
namespace Go.Gar
section
variable {P:Program}{ro:Qt}{ops:R0}{i:Nat}{rest:R1}{S S0:St}{Q:Exit->St->Prop}{o:Oper}{E:Nat->Option AK}{A:Prop}{acc:List Rc}
variable {es:List (R6)}{n:Int}{e:R6}
theorem Mo(hn:0<=n)(he:es[n.toNat]? =some e):Hv n es.length=true/\es.getD n.toNat []=e:=by
 have hlt:=(Qh.1 he).1;refine⟨Bd.2 ⟨hn,om⟩,?_⟩;rw[Qy,he];rfl
def Pu:Op->Bool
 | .indexAddr _ _ _=>true
 |_=>false
theorem BM(_:Pu o.op=true)(k:Wl P ro ops i (o::rest) S Q):Wl P ro ops i (o::rest) S Q:=k
theorem DR(_:Pu o.op=true)(k:Wd P ro E ops S0 A acc (o::rest) S):Wd P ro E ops S0 A acc (o::rest) S:=k
variable {b:Bool}
theorem CM{a:Bool}(h:a=true)(k:b=true):(a&&b)=true:=by rw[h,k];rfl
theorem Ag{α:Type}{f:α->R6}{xs:List α}{k:Nat}{x:α}(h:xs[k]? =some x):(xs.map f)[((k:Nat):Int).toNat]? =some (f x):=by
 simp[h]
theorem Pk(hE:Ai P E)(hg:A4 ops S.env o=some true)(h:Fl E S.env S.H o.op=some (Hv n es.length&&b,.dp (es.getD n.toNat [])))(hd:AA o.dst S.n=true)(hb:b=true)(hn:0<=n)(he:es[n.toNat]? =some e)(k:Wl P ro ops (i+1) rest ⟨AW o.dst (.dp e) S.env,S.H,S.n⟩ Q):Wl P ro ops i (o::rest) S Q:=by
 obtain⟨h1,h2⟩:=Mo hn he;exact On hE hg h hd (by rw[h1,hb];rfl) (by rw[h2];exact k)
theorem Pe(hE:Ai P E)(hg:A4 ops (B7 (looks ops o) S.env) o=some true)(h:∀H,Fl E (B7 (looks ops o) S.env) H o.op=some (Hv n es.length&&b,.dp (es.getD n.toNat [])))(hd:AA o.dst S.n=true)(hb:b=true)(hn:0<=n)(he:es[n.toNat]? =some e)(k:Wd P ro E ops S0 A (⟨B7 (looks ops o) S.env,S.H,.dp e,.any⟩::acc) rest ⟨AW o.dst (.dp e) S.env,S.H,S.n⟩):Wd P ro E ops S0 A acc (o::rest) S:=by
 obtain⟨h1,h2⟩:=Mo hn he;exact Oj hE hg (fun H=>by rw[<-h2];exact h H) hd (by rw[h1,hb];rfl) k
theorem MG:∀ds:R6,Gw (ds.map .d) ds
 |[]=>by simp[Gw,BY]
 |d::ds=>by
  have:=MG ds;simp only[Gw]at this|-;simp only[Ru,BY];exact⟨d,ds,rfl,by simp[Bg],this⟩
theorem Pg{g:Nat}{ds:R6}{r:D}(hF:Go.Gar.Fn P g ds r)(hg:A4 ops S.env o=some true)(h:Ab S.env o.op=some (g,ds.map .d))(hd:AA o.dst S.n=true)
  (k:Wl P ro ops (i+1) rest ⟨AW o.dst (.d r) S.env,S.H,S.n⟩ Q):Wl P ro ops i (o::rest) S Q:=
 Pf hg h hd hF (MG ds) k
theorem Pa{g:Nat}{ds:R6}{q:D}(hF:Go.Gar.Fn P g ds q)(hg:A4 ops (B7 (looks ops o) S.env) o=some true)(h:Ab (B7 (looks ops o) S.env) o.op=some (g,ds.map .d))(hd:AA o.dst S.n=true)
  (hk:Wd P ro E ops S0 A (⟨B7 (looks ops o) S.env,S.H,.d q,.any⟩::acc) rest ⟨AW o.dst (.d q) S.env,S.H,S.n⟩):Wd P ro E ops S0 A acc (o::rest) S:=
 PZ hg h hd hF (MG ds) hk
end
end Go.Gar
namespace Go.Gar
theorem A6.congr{G G' K K':Gh}{id:Nat}{b b':A2}(h:A6 G G' id b b')(e:K.ρ id=G.ρ id)(e':K'.ρ id=G'.ρ id):A6 K K' id b b':=by
 cases b<;>cases b'<;>simp only[A6]at h|-<;>simp_all
end Go.Gar
namespace Go.Gar
section
variable {P:Program}{ro:Qt}{ops:R0}{i:Nat}{rest:R1}{S:St}{Q:Exit->St->Prop}{o:Oper}
def YT(P:Program)(id:Nat)(args:R8)(H:RE)(R:AV->RE->Prop):Prop:=
 ∀G w l N (vs:R2),G.H=H->AD G w->G.ρ id=some (l,N)->AH G args vs.toList->
  ∃f tmps asg body,(Instr.yield l vs).run P w= .ok (.round l f tmps asg body) w/\
   RoundIn Fence.wide 0 P l f tmps asg body w fun e w'=>∃v r G',e= .returned v/\R r G'.H/\RV G' r v/\AD G' w'/\BE G w G' w'
variable {R:AV->RE->Prop}
theorem YT.mono{id:Nat}{args:R8}{H:RE}{R':AV->RE->Prop}(h:YT P id args H R)(hr:∀x H,R x H->R' x H):YT P id args H R':=
 fun G w l N vs h1 h2 h3 h4=>by
  obtain⟨f,t,a,b,k1,k2⟩:=h G w l N vs h1 h2 h3 h4;exact⟨f,t,a,b,k1,k2.mono fun _ _ ⟨v,r,G',e,q,rest⟩=>⟨v,r,G',e,hr _ _ q,rest⟩⟩
theorem run_yield{c:Call}{fo:Operand}(hc:c.callee= .value fo){a:Act}{l:Nat}(hf:a.eval fo= .func (.yield l) #[] #[])(ho:o.op= .call c)(w:World):
  (execOp a.eval o).run P w=(Instr.yield l (c.args.map a.eval)).run P w:=by
 unfold execOp;simp only[ho,resolve,hc,hf,Deferred.ofValue,Qr,Qu,Ql,invoke];simp
def Eb(env:R9)(op:Op):Option (Nat×R8):=
 match callOf op with
 |some (f,l)=>match Bh env f,EA env l with
  |some (.yl id),some xs=>some (id,xs)
  |_,_=>none
 |none=>none
theorem Wl_y{id:Nat}{xs:R8}{r0:Lp}(hg:A4 ops S.env o=some true)(h:Eb S.env o.op=some (id,xs))(hd:AA o.dst S.n=true)(hlp:S.H[id]? =some (.lp r0))(hT:YT P id xs S.H R)(k:∀r H',R r H'->Wl P ro ops (i+1) rest ⟨AW o.dst r S.env,H',S.n⟩ Q):Wl P ro ops i (o::rest) S Q:=by
 unfold Eb at h;split at h
 .rename_i fo al hcl;obtain⟨c,ho,hc,hl⟩:=HE hcl;subst hl;split at h
  .rename_i id' ys hf hxs;simp only[Qj,Qo]at h;obtain⟨rfl,rfl⟩:=h;intro hops N G a w r;have ho':=I3 hops;simp only[Qz,TL,wpOpsIn,ho'];rw[Rf (Ax r.env hg)];refine⟨fun _ _=>trivial,?_⟩;have hfv:=AB r.rel.st r.env hf;simp only[RV]at hfv;obtain⟨_,blk,hb,hp⟩:=hfv;rw[r.heap,hlp]at hb;cases hb;obtain⟨l,N',hρ,hv⟩:=hp;obtain⟨f,tm,ag,bd,k1,k2⟩:=hT G w l N' (c.args.map a.eval) r.heap r.rel hρ (by simpa using BI r.rel.st r.env hxs);rw[Oper.semAt_eq _ _ _ (fun c e=>by rw[ho]at e;cases e),run_yield hc hv ho w,k1];simp only[Oper.uponIn];refine⟨CC _,?_⟩;have hops':=Ir hops;have k2':RoundIn (FE (rl G ro)) 0 P l f tm ag bd w _:=k2;refine k2'.mono ?_;rintro e w' ⟨v,x,G',rfl,hR,hv',hr',hfr⟩;obtain⟨e1,e2,e3⟩:=Fv (r.env.mono hfr.gle) r.size hd hv';have r':Rel ro N ⟨AW o.dst x S.env,G'.H,S.n⟩ G' (a.put o.dst v) w':=r.step hfr rfl hr' rfl e2 e1 e3;have hk:=k x G'.H hR hops' N G' _ w' r';rw[CH r r' hfr]at hk;exact Am (fun _ _ _ p=>p.trans hfr) _ _ _ hk
  .cases h
 .cases h
end
end Go.Gar
namespace Go.Gar
section
variable {P:Program}
def Lp.lo(r:Lp)(tmps:R2)(df:Nat×FuncId):Loop:={state:=r.state,pending:=r.pending,fn:=df.2,tmps:=tmps,params:=r.params,assign:=r.assign,body:=r.body,defers:=df.1}
def Lp.at_(r:Lp)(s:LoopState)(p:Option Code):Lp:={r with state:=s,pending:=p}
variable {w:World}{l:Nat}
theorem CP{r:Loop}(h:w.heap[l]? =some (.loop r)):(Instr.getLoop l).run P w= .ok r w:=by
 simp[Instr.getLoop,getObj,Sem.run,h,Qr]
theorem EM{o:Obj}{p:Loop}(h:w.heap[l]? =some (.loop p)):(setObj l o).run P w= .ok () (w.setB l o):=by
 simp[setObj,Sem.run,h,World.setB]
variable {id:Nat}
theorem Jj{G:Gh}{N:Nat}{df:Nat×FuncId}{r:Lp}{tmps:R2}(h:AD G w)(hid:G.H[id]? =some (.lp r))(hρ:G.ρ id=some (l,N))(hw:w.heap[l]? =some (.loop (r.lo tmps df)))(hsz:tmps.size=r.n)(henv:Cj G r.env tmps)(s:LoopState)(p:Option Code):
  AD (G.put id (.lp (r.at_ s p))) (w.setB l (.loop ((r.at_ s p).lo tmps df)))/\BE G w (G.put id (.lp (r.at_ s p))) (w.setB l (.loop ((r.at_ s p).lo tmps df))):=by
 have hs:A6 G (G.put id (.lp (r.at_ s p))) id (.lp r) (.lp (r.at_ s p)):=by simp[A6,Lp.at_,Gh.put]
 refine Ko h hid rfl rfl hρ hs ⟨l,N,df,tmps,hρ,HU _ _ _ (Qp.1 hw).1,hsz,henv.mono (Fw hid hs)⟩
def Iu:QQ->R8->R9->R9
 |t::ts,x::xs,env=>Iu ts xs ((t,x)::env)
 |_,_,env=>env
theorem Kl{G:Gh}:∀{ts:QQ}{xs:R8}{vs:Qf}{env:R9}{tmps:R2},Cj G env tmps->AH G xs vs->(∀t∈ts,t<tmps.size)->
  Cj G (Iu ts xs env) ((ts.zip vs).foldl (fun tmps p=>tmps.setIfInBounds p.1 p.2) tmps)/\((ts.zip vs).foldl (fun tmps p=>tmps.setIfInBounds p.1 p.2) tmps).size=tmps.size
 |[],xs,vs,env,tmps,he,_,_=>by cases xs<;>simpa[Iu]using he
 |t::ts,[],vs,env,tmps,he,hr,_=>by simp only[AH]at hr;subst hr;simpa[Iu]using he
 |t::ts,x::xs,vs,env,tmps,he,hr,hlt=>by
  simp only[AH]at hr;obtain⟨v,r,rfl,h1,h2⟩:=hr
  have he':Cj G ((t,x)::env) (tmps.setIfInBounds t v):=by
   intro u y hy;simp only[get]at hy;split at hy
   .rename_i hb;cases hy;have:=Qi hb;subst this;exact⟨v,RP (hlt _ sm),h1⟩
   .rename_i hb;obtain⟨z,hz,hzr⟩:=he u y hy;exact⟨z,by rw[RU (fun e=>by subst e;simp at hb)];exact hz,hzr⟩
  obtain⟨k1,k2⟩:=Kl (ts:=ts) (tmps:=tmps.setIfInBounds t v) he' h2 (fun u hu=>by simpa using hlt u (by simp[hu]));exact⟨by simpa[Iu]using k1,by simpa using k2⟩
def Ms:Exit->Option (Option Code)
 | .normal=>some none
 | .ret=>some (some .ret)
 | .exit i=>some (some (.exit i))
 | .goto l=>some (some (.goto l))
 |_=>none
def Fy:Option Code->LoopState
 |none=> .ready
 |some _=> .done
def Od(id n:Nat)(R:AV->RE->Prop)(e:Exit)(S:St):Prop:=
 ∃j,Ms e=some j/\∃S'',A3 S S''/\n<=S''.H.length/\id<S''.H.length/\∃r,S''.H[id]? =some (.lp r)/\R (.d (.b j.isNone)) (S''.H.set id (.lp (r.at_ (Fy j) j)))
def QAsg(P:Program)(id n:Nat)(body:Code)(R:AV->RE->Prop):Exit->St->Prop
 | .normal,S=>∃r,S.H[id]? =some (.lp r)/\r.state= .ready/\W P (some id) body ⟨S.env,S.H.set id (.lp (r.at_ .busy r.pending)),S.n⟩ (Od id n R)
 |_,_=>False
theorem Jr{N:NB}{S:St}{G:Gh}{a:Act}(h:Rel (some id) N S G a w){r:Lp}(hr:S.H[id]? =some (.lp r)):∃l M df tmps,G.ρ id=some (l,M)/\w.heap[l]? =some (.loop (r.lo tmps df))/\tmps.size=r.n/\Cj G r.env tmps:=
 h.rel.blk id (.lp r) (by rw[h.heap];exact hr)
theorem Nr{r0:Lp}{H:RE}{args:R8}{R:AV->RE->Prop}(hid:H[id]? =some (.lp r0))(hready:r0.state= .ready)(hlen:args.length=r0.params.size)(hps:∀t∈r0.params.toList,t<r0.n)(hb:W P (some id) r0.assign ⟨Iu r0.params.toList args r0.env,H,r0.n⟩ (QAsg P id H.length r0.body R)):YT P id args H R:=by
 intro G w l N vs hG hr hρ hargs;obtain⟨l',N',df,tmps,hρ',hw,hsz,henv⟩:=hr.blk id _ (by rw[hG];exact hid);rw[hρ]at hρ';cases hρ';have hl:vs.size=r0.params.size:=by have:=AH.EJ hargs;simp at this;omega
 have hw':w.heap[l]? =some (.loop (r0.lo tmps df)):=hw;refine⟨df.2,(r0.params.zip vs).foldl (fun tmps (p:Nat×Value)=>tmps.setIfInBounds p.1 p.2) tmps,r0.assign,r0.body,?_,?_⟩
 .rw[Instr.yield];simp only[Qr,CP hw',Ql];rw[Rw (by simp[Lp.lo,hl])];rfl
 .obtain⟨p1,p2⟩:=Kl (ts:=r0.params.toList) henv hargs (fun t ht=>by rw[hsz];exact hps t ht)
  have etm:((r0.params.zip vs).foldl (fun tmps (p:Nat×Value)=>tmps.setIfInBounds p.1 p.2) tmps)=((r0.params.toList.zip vs.toList).foldl (fun tmps p=>tmps.setIfInBounds p.1 p.2) tmps):=by
   rw[<-Array.foldl_toList];simp
  have hrl:∀{G:Gh}{M:Nat},G.ρ id=some (l,M)->rl G (some id)=some l:=fun h=>by simp[rl,h]
  refine roundIn_of_wpIn trivial ?_
  have P5:Rel (some id) ⟨w.heap.size,[]⟩ ⟨Iu r0.params.toList args r0.env,H,r0.n⟩ G {tmps:=(r0.params.zip vs).foldl (fun tmps (p:Nat×Value)=>tmps.setIfInBounds p.1 p.2) tmps,defers:=[]} w:=by
   refine⟨hG,hr,?_,?_,⟨Qn _,[],rfl,List.nodup_nil,fun _ h=>by cases h⟩,fun i hi=> ?_⟩
   .show Array.size _=_;rw[etm,p2,hsz]
   .show Cj G _ _;rw[etm];exact p1
   .cases hi;exact⟨r0,l,N,hid,hρ⟩
  have h1:=hb ⟨w.heap.size,[]⟩ G _ w P5;rw[hrl hρ]at h1;refine wpIn_mono (F:=FE (some l)) h1 ?_;rintro e a' w1 ⟨S',G',q,r',k⟩
  cases e with
  |normal=>
   obtain⟨r,h2,h3,hW⟩:=q;obtain⟨l2,M,df2,tmps2,g1,g2,g3,g4⟩:=Jr r' h2
   have hl2:l2=l:=by
    obtain⟨b',hb',hs⟩:=k.gle.blk id _ (by rw[hG];exact hid);rw[r'.heap,h2]at hb';cases hb';simp only[A6]at hs;rw[hs.1,hρ]at g1;cases g1;rfl
   subst hl2;obtain⟨u1,u2⟩:=Jj r'.rel (by rw[r'.heap];exact h2) g1 g2 g3 g4 .busy r.pending;refine⟨w1.setB l2 (.loop ((r.at_ .busy r.pending).lo tmps2 df2)),?_,?_⟩
   .rw[Instr.beginRound];simp only[Qr,CP g2,Ql];rw[EM g2];simp only[Ql,Lp.lo,h3];rfl
   .have rel2:Rel (some id) ⟨w.heap.size,[]⟩ ⟨S'.env,S'.H.set id (.lp (r.at_ .busy r.pending)),S'.n⟩ (G'.put id (.lp (r.at_ .busy r.pending))) a' (w1.setB l2 (.loop ((r.at_ .busy r.pending).lo tmps2 df2))):=
     r'.step u2 (by show G'.H.set id _=_;rw[r'.heap]) u1 rfl r'.size (r'.env.mono u2.gle) rfl
    have h4:=hW _ _ _ _ rel2;have g1':(G'.put id (.lp (r.at_ .busy r.pending))).ρ id=some (l2,M):=g1;rw[hrl g1']at h4;refine wpIn_mono (F:=FE (some l2)) h4 ?_;rintro e a3 w3 ⟨S3,G3,q3,r3,k3⟩;obtain⟨j,hj,S4,ts,hle,hidlt,rr,hrr,hR⟩:=q3;obtain⟨G4,r4,t4⟩:=ts _ _ _ _ _ r3 (fun i hi=>by cases hi;exact hidlt);obtain⟨l5,M5,df5,tmps5,f1,f2,f3,f4⟩:=Jr r4 hrr;have kk:BE G w G4 w3:=((k.trans u2).trans k3).ghost t4 (by rw[hG,r4.heap];exact hle)
    have hl5:l5=l2:=by
     obtain⟨b',hb',hs⟩:=kk.gle.blk id _ (by rw[hG];exact hid);rw[r4.heap,hrr]at hb';cases hb';simp only[A6]at hs;rw[hs.1,hρ]at f1;cases f1;rfl
    subst hl5;obtain⟨y1,y2⟩:=Jj r4.rel (by rw[r4.heap];exact hrr) f1 f2 f3 f4 (Fy j) j
    have fin:∃v w',(Instr.endRound l5 j).run P w3= .ok v w'/\∃v' r G',(Ending.returned v:Ending)= .returned v'/\R r G'.H/\RV G' r v'/\AD G' w'/\BE G w G' w':=by
     refine⟨.bool j.isNone,w3.setB l5 (.loop ((rr.at_ (Fy j) j).lo tmps5 df5)),?_,.bool j.isNone,.d (.b j.isNone),_,rfl,?_,by simp[RV,RD],y1,kk.trans y2⟩
     .rw[Instr.endRound];simp only[Qr,CP f2,Ql];rw[EM f2];simp only[Ql,Qu];cases j<;>rfl
     .show R _ (G4.H.set id _);rw[r4.heap];exact hR
    cases e<;>simp only[Ms,Qj]at hj<;>first|(cases hj;done)|(subst hj;exact fin)
  |_=>exact q.elim
end
end Go.Gar
namespace Go.Gar
section
variable {P:Program}{ro:Qt}{S:St}{Q:Exit->St->Prop}
theorem Gc(P:Program)(w:World)(o:Obj):(newObj o).run P w= .ok w.heap.size (w.alloc o):=rfl
theorem HC(w:World)(o:Obj):(w.alloc o).heap[w.heap.size]? =some o:=by
 show(w.heap.push o)[w.heap.size]? =some o;simp
theorem MM{N:NB}{G:Gh}{a:Act}{w:World}(r:Rel ro N S G a w)(fn:FuncId)(ps:Array Tmp)(asg body:Code):∃(mark:List Deferred)(wA:World)(df:Nat),
  (Instr.enterLoop fn a.tmps ps asg body (rl G ro)).run P w= .ok (wA.heap.size,mark) (wA.alloc (.loop {state:=.ready,pending:=none,fn:=fn,tmps:=a.tmps,params:=ps,assign:=asg,body:=body,defers:=df}))/\
  Rel ro N S G {a with defers:=mark++a.defers} wA/\BE G w G wA:=by
 cases ro with
 |none=>
  have hgr:=Fo (w':=w.alloc (.deferred (some []))) r.rel rfl rfl rfl sm (fun b hb=>TB w _ b hb) G.m (Mem.le_refl _) (fun _ _ _ h=> .inl h) (fun b k v hv=>by
   rw[World.cell?_alloc_lt _ _ _ (DY r.rel hv)];exact r.rel.mem b k v hv)
  have hG:({G with m:=G.m}:Gh)=G:=rfl;rw[hG]at hgr;refine⟨[{target:=.collected w.heap.size,args:=#[]}],w.alloc (.deferred (some [])),w.heap.size,?_,?_,hgr.2⟩
  .show(Instr.enterLoop fn a.tmps ps asg body none).run P w=_;unfold Instr.enterLoop;simp only[Qr,Gc,Result.andThen,Qu,World.size_alloc]
  .refine⟨r.heap,hgr.1,r.size,r.env,?_,fun id h=>by cases h⟩;obtain⟨m0,ms,m1,m2,m3⟩:=r.marks;have hlt:∀q∈ms,q<w.heap.size:=fun q hq=>(Qp.1 (m3 q hq).2.1).1
   refine⟨SC m0 sm,w.heap.size::ms,by simp[m1],Sj.2 ⟨fun h=>by have:=hlt _ h;omega,m2⟩,fun q hq=> ?_⟩;rcases Si.1 hq with rfl|hq
   .refine⟨?_,HC _ _,fun ho=>by have:=Ad r.rel ho;omega⟩;exact m0
   .obtain⟨q1,q2,q3⟩:=m3 q hq;exact⟨q1,(TB w _ q (hlt q hq)).trans q2,q3⟩
 |some id=>
  obtain⟨r0,l,M,h1,h2⟩:=r.round id rfl;obtain⟨l',M',df,tmps,g1,g2,g3,g4⟩:=Jr r h1;rw[h2]at g1;cases g1;refine⟨[],w,df.1,?_,by simpa using r,BE.refl G w⟩;have:rl G (some id)=some l:=by simp[rl,h2]
  rw[this];unfold Instr.enterLoop;simp only[Qr,CP g2,Result.andThen,Gc,Qu];rfl
variable {ps:Array Tmp}{K:AV->RE->Prop}
theorem Lz{g:Operand}{asg body:Code}{f:FuncId}{first cap:R8}(hg:Bh S.env g=some (.fn (.func f) first cap))(seq:Bv P f (first++[.yl S.H.length]++cap) (S.H++[.lp ⟨.ready,none,0,S.n,S.env,ps,asg,body⟩]) K)(k:∀x H',K x H'->∃r,H'[S.H.length]? =some (.lp r)/\(r.state== .busy)=false/\
   match r.pending with
   |none=>Q .normal ⟨S.env,H'.set S.H.length (.lp (r.at_ .exhausted r.pending)),S.n⟩
   |some c=>W P ro c ⟨S.env,H'.set S.H.length (.lp (r.at_ .exhausted r.pending)),S.n⟩ Q):W P ro (.rangeFunc g ps asg body) S Q:=by
 intro N G a w r;refine wpIn_rangeFunc fun fn _=> ?_
 obtain⟨mark,wA,df,e1,e2,e3⟩:=MM (P:=P) r fn ps asg body;let r0:Lp:=⟨.ready,none,0,S.n,S.env,ps,asg,body⟩;let w1:=wA.alloc (.loop {state:=.ready,pending:=none,fn:=fn,tmps:=a.tmps,params:=ps,assign:=asg,body:=body,defers:=df});obtain⟨o1,o2⟩:=Kj e2.rel (.loop {state:=.ready,pending:=none,fn:=fn,tmps:=a.tmps,params:=ps,assign:=asg,body:=body,defers:=df}) 0 (.lp r0) ⟨wA.heap.size,0,(df,fn),a.tmps,by simp[Gh.own],HC _ _,r.size,(e2.env.mono (E5 G wA.heap.size 0 (.lp r0)))⟩;have hGH:(G.own wA.heap.size 0 (.lp r0)).H=S.H++[.lp r0]:=by show G.H++_=_;rw[r.heap]
 have hlen:G.H.length=S.H.length:=by rw[r.heap]
 have hfv:=AB o1.st (e2.env.mono o2.gle) hg;simp only[RV]at hfv;obtain⟨p,q,hfv,hp,hq⟩:=hfv;have hfv:a.eval g= .func (.func f) p.toArray q.toArray:=hfv;obtain⟨⟨fd,hf1,hf2,hf3⟩,hseq⟩:=seq;have hbn:fd.body.isNone=false:=by cases hx:fd.body<;>simp_all
 have hres:(resolve a.eval (rangeCall g wA.heap.size) 0).run P w1= .ok {target:=.fn (.func f) q.toArray,args:=p.toArray++ #[Value.func (.yield wA.heap.size) #[] #[]]} w1:=by
  simp only[resolve,rangeCall,hfv,Deferred.ofValue,Qu];simp[Act.eval]
 refine⟨wA.heap.size,mark,w1,_,w1,f,p.toArray++ #[Value.func (.yield wA.heap.size) #[] #[]]++q.toArray,w1,e1,hres,fun _ _=>trivial,?_,CC _,?_⟩
 .simp only[invoke,callFunc,run_program,Qr,Ql,hf1,hf2,hbn,Ry,SY,Sem.run_ite,Qu]
 .have hargs:AH (G.own wA.heap.size 0 (.lp r0)) (first++[.yl S.H.length]++cap) (p.toArray++ #[Value.func (.yield wA.heap.size) #[] #[]]++q.toArray).toList:=by
   have hy:RV (G.own wA.heap.size 0 (.lp r0)) (.yl S.H.length) (.func (.yield wA.heap.size) #[] #[]):=by
    simp only[RV];refine⟨rfl,.lp r0,by rw[hGH];simp,wA.heap.size,0,by simp[Gh.own,hlen],rfl⟩
   have e:(p.toArray++ #[Value.func (.yield wA.heap.size) #[] #[]]++q.toArray:R2).toList=p++[Value.func (.yield wA.heap.size) #[] #[]]++q:=by simp
   rw[e];exact AH.app (AH.app hp (by simp only[AH];exact⟨_,[],rfl,hy,rfl⟩)) hq
  have hcall:=hseq (G.own wA.heap.size 0 (.lp r0)) w1 _ hGH o1 hargs;refine CallsIn.mono (F:=FE (rl G ro)) hcall ?_;rintro e w' ⟨v,x,G',rfl,hK,hv,hr',hfr⟩;obtain⟨rr,hrr,hnb,hk⟩:=k x G'.H hK;obtain⟨l,M,df',tmps,g1,g2,g3,g4⟩:=hr'.blk S.H.length (.lp rr) hrr
  have hl:l=wA.heap.size:=by
   obtain⟨b',hb',hs⟩:=hfr.gle.blk S.H.length (.lp r0) (by rw[hGH];simp);rw[hrr]at hb';cases hb';simp only[A6]at hs;rw[hs.1]at g1;simp only[Gh.own,hlen,SG,Qj,Qo]at g1;exact g1.1.symm
  subst hl;obtain⟨y1,y2⟩:=Jj hr' hrr g1 g2 g3 g4 .exhausted rr.pending
  have rel2:Rel ro N ⟨S.env,G'.H.set S.H.length (.lp (rr.at_ .exhausted rr.pending)),S.n⟩ (G'.put S.H.length (.lp (rr.at_ .exhausted rr.pending))) {a with defers:=mark++a.defers} (w'.setB wA.heap.size (.loop ((rr.at_ .exhausted rr.pending).lo tmps df'))):=
   e2.step ((o2.trans hfr).trans y2) rfl y1 rfl r.size (e2.env.mono ((o2.trans hfr).trans y2).gle) rfl
  refine⟨rr.pending,w'.setB wA.heap.size (.loop ((rr.at_ .exhausted rr.pending).lo tmps df')),?_,?_⟩
  .rw[Instr.endLoop];have g2':w'.heap[wA.heap.size]? =some (.loop (rr.lo tmps df')):=g2;simp only[Qr,CP g2',Ql];have hnb':((rr.lo tmps df').state==LoopState.busy)=false:=hnb;rw[hnb'];simp only[Ry,SY,Qr,Qu,Ql];rw[EM g2'];rfl
  .have kk:=(e3.trans ((o2.trans hfr).trans y2))
   cases hpend:rr.pending with
   |none=>
    rw[hpend]at hk rel2 kk;exact⟨_,_,hk,rel2,kk⟩
   |some c=>
    rw[hpend]at hk rel2 kk;have h5:=hk N _ _ _ rel2;rw[CH r rel2 kk]at h5;exact wpIn_mono h5 fun _ _ _ p=>p.trans kk
theorem Nk{g:Operand}{asg body:Code}{f:FuncId}{first cap:R8}(hg:Bh S.env g=some (.fn (.func f) first cap))(seq:∀fn,Bv P f (first++[.yl S.H.length]++cap) (S.H++[.lp ⟨.ready,none,fn,S.n,S.env,ps,asg,body⟩]) K)(k:∀x H',K x H'->∃r,H'[S.H.length]? =some (.lp r)/\(r.state== .busy)=false/\
   match r.pending with
   |none=>Q .normal ⟨S.env,H'.set S.H.length (.lp (r.at_ .exhausted r.pending)),S.n⟩
   |some c=>W P ro c ⟨S.env,H'.set S.H.length (.lp (r.at_ .exhausted r.pending)),S.n⟩ Q):W P ro (.rangeFunc g ps asg body) S Q:=Lz hg (seq 0) k
end
abbrev D.QO(n:Int):D:=.i .i64 n
abbrev AV.QF(n:Int):AV:=.d (.i .i64 n)
abbrev AV.QG(b:Bool):AV:=.d (.b b)
abbrev AV.QH(n:Int):AV:=.d (.i .u8 n)
abbrev AV.QM(l:A5):AV:=.d (.s l)
abbrev AV.QN(l:QP):AV:=.d (.is l)
theorem QI{a b:Nat}(h:Nat.ble a b=true:=by exact rfl):a<=b:=SH h
end Go.Gar
