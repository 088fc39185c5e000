/- Part 2 of a proof. Conditions: those that its theorems state. -/
import Derived.Test.YthlmmkmeoblbhaaGreatQ01
import Derived.KernelRfl
set_option linter.unusedSimpArgs false
set_option linter.unusedVariables false
set_option linter.unnecessarySimpa false
set_option maxHeartbeats 40000000
set_option maxRecDepth 4000
namespace Go.Gar
def tt(x:yv):yy:=
 match x with
 |some y=>some (true,y)
 |none=>none
def KH(env:yr):List Operand->Option (yq)
 |[]=>some []
 |o::r=>match Eo env o,KH env r with
  |some x,some l=>some (x::l)
  |_,_=>none
def gf(env:yr):Option Operand->Option (yv)
 |none=>none
 |some o=>some (Eo env o)
def uS(E:Nat->Option Bd)(H:yz)(b:Builtin)(ts:List TypeId)(xs:yq):yy:=
 match b,ts,xs with
 | .len,[t],[x]=>kz E H t x
 | .min,_,[.d (.i k a),.d (.i _ b)]=>some (true,.d (.i k (if b<a then b else a)))
 | .max,_,[.d (.i k a),.d (.i _ b)]=>some (true,.d (.i k (if a<b then b else a)))
 | .append,[t,u],[.e0,x]=>match PO E H t u x with
  |some (c,q)=>some (c,.d q)
  |none=>none
 |_,_,_=>none
def PQ(E:Nat->Option Bd)(env:yr)(H:yz)(op:Op):yy:=
 match op with
 | .move x| .assign x=>tt (Eo env x)
 | .pick c a b=>match Eo env c with
  |some (.d (.b t))=>match t with
   |true=>tt (Eo env a)
   |false=>tt (Eo env b)
  |_=>none
 | .load t a=>match Eo env a with
  |some x=>W2 E H t x
  |none=>none
 | .nilCheck a=>match Eo env a with
  |some x=>l9 H x
  |none=>none
 | .binOp op t a b _=>match Eo env a,Eo env b with
  |some x,some y=>match x,y with
   | .d p,.d q=>match fL op p q with
    |some (c,r)=>some (c,.d r)
    |none=>match op with
     | .eql=>match SL E H t x y with
      |some (c,r)=>some (c,.d (.b r))
      |none=>none
     | .neq=>match SL E H t x y with
      |some (c,r)=>some (c,.d (.b (!r)))
      |none=>none
     |_=>none
   |x,y=>match op with
    | .eql=>match SL E H t x y with
     |some (c,r)=>some (c,.d (.b r))
     |none=>none
    | .neq=>match SL E H t x y with
     |some (c,r)=>some (c,.d (.b (!r)))
     |none=>none
    |_=>none
  |_,_=>none
 | .unOp op _ a=>match Eo env a with
  |some (.d p)=>match unD op p with
   |some (c,r)=>some (c,.d r)
   |none=>none
  |_=>none
 | .convert s d a=>match Eo env a with
  |some x=>aG E H s d x
  |none=>none
 | .slice t a lo hi mx=>match Eo env a with
  |some x=>W5 E H t x (gf env lo) (gf env hi) (gf env mx)
  |none=>none
 | .fieldAddr s a f=>match Eo env a with
  |some x=>LA E H s x f
  |none=>none
 | .field t a f=>match Eo env a with
  |some x=>W0 E t x f
  |none=>none
 | .indexAddr t a i=>match Eo env a,Eo env i with
  |some x,some y=>LB E H t x y
  |_,_=>none
 | .index t a i=>match Eo env a,Eo env i with
  |some x,some y=>W1 E t x y
  |_,_=>none
 | .build t ps=>Vy E (Eo env) t ps.toList
 | .buildSlice t len ps=>match IN E (Eo env) t len ps.toList with
  |some (c,q)=>match len with
   |0=>some (c,.e0)
   |_+1=>some (c,.d q)
  |none=>none
 | .makeFunc f first cap=>match KH env first.toList,KH env cap.toList with
  |some a,some b=>some (true,.fn f a b)
  |_,_=>none
 | .extract a i=>match Eo env a with
  |some x=>PP x i
  |none=>none
 | .lookup t m k ok=>match Eo env m,Eo env k with
  |some x,some y=>W3 E H t x y ok
  |_,_=>none
 | .makeInterface t a=>match Eo env a with
  |some x=>ku E t x
  |none=>none
 | .typeAssert a _ asserted ok=>match Eo env a with
  |some x=>SK E x asserted ok
  |none=>none
 | .call c=>match c.callee with
  | .builtin b=>match KH env c.args.toList with
   |some xs=>uS E H b c.argTypes.toList xs
   |none=>none
  |_=>none
 |_=>none
theorem E6{G:Gh}{a:Act}{env:yr}(hst:sv G.m)(h:IH G env a.tmps):∀{l:List Operand}{xs:yq},KH env l=some xs->BP G xs (l.map a.eval)
 |[],xs,e=>by simp[KH]at e;subst e;simp[BP]
 |o::l,xs,e=>by
  simp only[KH]at e;split at e
  .rename_i x q h1 h2;cases e;simp only[zV,BP];exact⟨_,_,rfl,B2 hst h h1,E6 hst h h2⟩
  .cases e
theorem We{G:Gh}{a:Act}{env:yr}(hst:sv G.m)(h:IH G env a.tmps)(o:Option Operand):RS G (gf env o) (o.map a.eval):=by
 cases o with
 |none=>simp[gf,RS]
 |some o=>
  simp only[gf,Option.map_some]
  cases hx:Eo env o with
  |none=>simp[RS]
  |some x=>exact B2 hst h hx
variable {P:Program}{o:Oper}{S:St}{y:AV}{f:Act->Sem Value}
theorem Es.Jd(ho:∀a:Act,execOp a.eval o=(do pure (.value (<-f a))))(h:∀ro N G a w,Rel ro N S G a w->Yields P G w (f a) y):Es P o S y S.H:=by
 intro ro N G a w r;obtain⟨u,w',G',h1,h2,h3,h4,h5⟩:=h ro N G a w r;refine⟨.value u,w',G',?_,.inr ⟨u,rfl,h2⟩,h3.trans r.heap,h4,h5⟩;rw[ho];simp[h1]
theorem Es.F6{H':yz}(ho:∀a:Act,execOp a.eval o=(do pure (.value (<-f a))))(h:∀ro N G a w,Rel ro N S G a w->H9 P G w (f a) y H'):Es P o S y H':=by
 intro ro N G a w r;obtain⟨u,w',G',h1,h2,h3,h4,h5⟩:=h ro N G a w r;refine⟨.value u,w',G',?_,.inr ⟨u,rfl,h2⟩,h3,h4,h5⟩;rw[ho];simp[h1]
theorem Es.of_run(ho:∀a:Act,execOp a.eval o=(do pure (.value (<-f a))))(h:∀ro N G a w,Rel ro N S G a w->∃u,(f a).run P w= .ok u w/\RV G y u):Es P o S y S.H:=
 .Jd ho fun ro N G a w r=>let⟨u,h1,h2⟩:=h ro N G a w r;Yields.still r.rel h1 h2
variable {op:BinOp}{t:Nat}
theorem Iu{x y:Operand}{v u:Value}{w:World}(h:(∀a,v≠ .agg a)/\v≠ .nilIface\/(op≠ .eql/\op≠ .neq)):(eqGuard op t x y v u).run P w= .ok () w:=by
 unfold eqGuard;rcases h with⟨h1,h2⟩|⟨h1,h2⟩
 .cases op<;>first
   |(simp;done)
   |(simp only[zf];cases v<;>first|exact absurd rfl (h1 _)|exact absurd rfl h2|simp)
 .cases op<;>simp_all
theorem Xt{x y:Operand}{a b:yd}{w:World}(h:P.eqGuardType P.depth t=false):(eqGuard op t x y (.agg a) (.agg b)).run P w= .ok () w:=by
 unfold eqGuard;cases op<;>simp[h]
theorem XJ{m:Mem}{p:D}{v:Value}(hp:(∃k n,p= .i k n)\/(∃s,p= .s s))(h:RD m p v):(∀a,v≠ .agg a)/\v≠ .nilIface:=by
 rcases hp with⟨k,n,rfl⟩|⟨s,rfl⟩<;>simp only[RD]at h<;>subst h<;>simp
variable {c:Bool}
theorem Rv{p q:D}{r:D}(h:fL op p q=some (c,r)):(∃k n,p= .i k n)\/(∃s,p= .s s):=by
 unfold fL at h;split at h
 .exact .inl ⟨_,_,rfl⟩
 .exact .inr ⟨_,rfl⟩
 .cases h
variable {ps:Array (Nat×Operand)}
theorem Iv{len:Nat}(ho:o.op= .buildSlice t len ps)(ρ:Operand->Value):execOp ρ o=(do pure (.value (<-Instr.buildSlice t len (ps.map fun(i,x)=>(i,ρ x))))):=by
 unfold execOp;simp only[ho]
theorem aP(ho:o.op= .build t ps)(ρ:Operand->Value):execOp ρ o=(do pure (.value (<-Instr.build t (ps.map fun(i,x)=>(i,ρ x))))):=by
 unfold execOp;simp only[ho]
theorem FX{α:Type}{a:Array α}{l:List α}(h:a.toList=l):a=l.toArray:=by rw[<-h]
theorem Pu{P:Program}{b:Builtin}{c:Call}(hc:c.callee= .builtin b)(ho:o.op= .call c)(a:Act):execOp a.eval o=builtin b c.argTypes o.type (c.args.map fun| .const _=>true|_=>false) (c.args.map a.eval):=by
 unfold execOp;simp only[ho,resolve,hc];rfl
variable {E:Nat->Option Bd}
theorem qK(hE:CV P E){cl:Call}(ho:o.op= .call cl){b:Builtin}(hb:cl.callee= .builtin b){xs:yq}(hxs:KH S.env cl.args.toList=some xs){x:AV}(h:uS E S.H b cl.argTypes.toList xs=some (c,x))(hc:c=true):Es P o S x S.H:=by
 subst hc;unfold uS at h;split at h
 .rename_i t x' ht;have hty:=FX ht;refine .of_run (f:=fun a=>Builtin.len_ cl.argTypes o.type (cl.args.map a.eval)) (fun a=>by rw[Pu (P:=P) hb ho];rfl) fun ro N G a w r=> ?_
  have:=E6 r.rel.st r.env hxs;simp only[BP]at this;obtain⟨v,q,e,h1,rfl⟩:=this;have e2:cl.args.map a.eval= #[v]:=FX (by simpa using e);obtain⟨u,hu,hr⟩:=l8 (ty:=o.type) hE (w:=w) (by rw[r.heap];exact h) rfl h1;exact⟨u,by rw[e2,hty];exact hu,hr⟩
 .rename_i k p k' q;cases h;refine .of_run (f:=fun a=>Builtin.min_ cl.argTypes o.type (cl.args.map a.eval)) (fun a=>by rw[Pu (P:=P) hb ho];rfl) fun ro N G a w r=> ?_
  have:=E6 r.rel.st r.env hxs;simp only[BP,RV,RD]at this;obtain⟨v,l,e,h1,v',l',e',h2,h3⟩:=this;subst h1;subst e';subst h2;subst h3;have e2:cl.args.map a.eval= #[.int k p,.int k' q]:=FX (by simpa using e);refine⟨.int k (if q<p then q else p),?_,by simp[RV,RD]⟩;rw[e2];simp[Builtin.min_,Builtin.min2]
 .rename_i k p k' q;cases h;refine .of_run (f:=fun a=>Builtin.max_ cl.argTypes o.type (cl.args.map a.eval)) (fun a=>by rw[Pu (P:=P) hb ho];rfl) fun ro N G a w r=> ?_
  have:=E6 r.rel.st r.env hxs;simp only[BP,RV,RD]at this;obtain⟨v,l,e,h1,v',l',e',h2,h3⟩:=this;subst h1;subst e';subst h2;subst h3;have e2:cl.args.map a.eval= #[.int k p,.int k' q]:=FX (by simpa using e);refine⟨.int k (if p<q then q else p),?_,by simp[RV,RD]⟩;rw[e2];simp[Builtin.max_,Builtin.max2]
 .rename_i t u x' ht;have hty:=FX ht;split at h
  .rename_i c' q hq;simp only[yh,zL]at h;obtain⟨hc,rfl⟩:=h;refine .Jd (f:=fun a=>Builtin.append_ cl.argTypes o.type (cl.args.map a.eval)) (fun a=>by rw[Pu (P:=P) hb ho];rfl) fun ro N G a w r=> ?_
   have:=E6 r.rel.st r.env hxs;simp only[BP]at this;obtain⟨v,l,e,h1,v',l',e',h2,h3⟩:=this;subst e';subst h3;have e2:cl.args.map a.eval= #[v,v']:=FX (by simpa using e);have hy:=fI (ty:=o.type) hE r.rel (by rw[r.heap];exact hq) hc h1 h2;obtain⟨u,w',G',y1,y2⟩:=hy;exact⟨u,w',G',by rw[e2,hty];exact y1,y2⟩
  .cases h
 .cases h
theorem PR(hE:CV P E){x:AV}(h:PQ E S.env S.H o.op=some (c,x))(hc:c=true):Es P o S x S.H:=by
 subst hc;obtain⟨dst,op,ty,pos,after,guard⟩:=o;simp only at h
 have ttok:∀{p:Operand},tt (Eo S.env p)=some (true,x)->Eo S.env p=some x:=by
  intro p hp;unfold tt at hp;split at hp
  .rename_i y hy;cases hp;exact hy
  .cases hp
 cases op<;>simp only[PQ]at h<;>try(cases h;done)
 case move p=>
  exact .still fun ro N G a w r=>⟨_,by simp[execOp],B2 r.rel.st r.env (ttok h)⟩
 case assign p=>
  exact .still fun ro N G a w r=>⟨_,by simp[execOp],B2 r.rel.st r.env (ttok h)⟩
 case pick p q s=>
  split at h
  .rename_i t ht;split at h
   .refine .still fun ro N G a w r=>⟨a.eval q,?_,B2 r.rel.st r.env (ttok h)⟩;have:=B2 r.rel.st r.env ht
    simp only[RV,RD]at this;simp[execOp,this,asBool]
   .refine .still fun ro N G a w r=>⟨a.eval s,?_,B2 r.rel.st r.env (ttok h)⟩;have:=B2 r.rel.st r.env ht
    simp only[RV,RD]at this;simp[execOp,this,asBool]
  .cases h
 case load t p=>
  split at h
  .rename_i y hy;exact .of_run (f:=fun a=>Instr.loadAt t (a.eval p)) (fun _=>rfl) fun ro N G a w r=>Ud hE r.rel (by rw[r.heap];exact h) rfl (B2 r.rel.st r.env hy)
  .cases h
 case nilCheck p=>
  split at h
  .rename_i y hy;exact .still fun ro N G a w r=>lA (by rw[r.heap];exact h) rfl (p:=p) rfl (B2 r.rel.st r.env hy)
  .cases h
 case binOp op t p q yt=>
  have eqcase:∀{y z:AV}{rr:Bool},Eo S.env p=some y->Eo S.env q=some z->SL E S.H t y z=some (true,rr)->(op= .eql/\x= .d (.b rr)\/op= .neq/\x= .d (.b (!rr)))->Es P ⟨dst,.binOp op t p q yt,ty,pos,after,guard⟩ S x S.H:=by
   intro y z rr hy hz he hop;refine .of_run (f:=fun a=>do eqGuard op t p q (a.eval p) (a.eval q);binOp op t (a.eval p) (a.eval q)) (fun _=>rfl) fun ro N G a w r=> ?_
   obtain⟨g1,g2,g3,g4,g5,g6⟩:=ko hE (w:=w) (by rw[r.heap];exact he) rfl (B2 r.rel.st r.env hy) (B2 r.rel.st r.env hz)
   have hg:(eqGuard op t p q (a.eval p) (a.eval q)).run P w= .ok () w:=by
    rcases g6 with g6|⟨va,ua,e1,e2,e3⟩
    .exact Iu (P:=P) (op:=op) (t:=t) (x:=p) (y:=q) (v:=a.eval p) (u:=a.eval q) (w:=w) (.inl g6)
    .rw[e1,e2];exact Xt e3
   have hb:∀op',(op'= .eql\/op'= .neq)->binOp op' t (a.eval p) (a.eval q)=(match op' with| .eql=>do pure (.bool (<-Op.equal t (a.eval p) (a.eval q)))|_=>do pure (.bool (!(<-Op.equal t (a.eval p) (a.eval q))))):=by
    intro op' ho;generalize a.eval p=v1 at *;generalize a.eval q=v2 at*
    rcases ho with rfl|rfl<;>cases v1<;>first
     |exact absurd rfl (g2 _ _)
     |exact absurd rfl (g3 _ _)
     |exact absurd rfl (g4 _)
     |exact absurd rfl (g5 _ _ _)
     |rfl
   rcases hop with⟨rfl,rfl⟩|⟨rfl,rfl⟩
   .exact⟨.bool rr,by simp only[zf,hg,zQ];rw[hb .eql (.inl rfl)];simp[g1],by simp[RV,RD]⟩
   .exact⟨.bool (!rr),by simp only[zf,hg,zQ];rw[hb .neq (.inr rfl)];simp[g1],by simp[RV,RD]⟩
  split at h
  .rename_i y z hy hz;split at h
   .rename_i p' q';split at h
    .rename_i c' r' hb;simp only[yh,zL]at h;obtain⟨hc,rfl⟩:=h;refine .of_run (f:=fun a=>do eqGuard op t p q (a.eval p) (a.eval q);binOp op t (a.eval p) (a.eval q)) (fun _=>rfl) fun ro N G a w r=> ?_
     have hp:=B2 r.rel.st r.env hy;have hq:=B2 r.rel.st r.env hz;simp only[RV]at hp hq;obtain⟨v,hv,hr⟩:=q9 (P:=P) (t:=t) hb hc hp hq w;have hg:=Iu (P:=P) (op:=op) (t:=t) (x:=p) (y:=q) (v:=a.eval p) (u:=a.eval q) (w:=w) (.inl (XJ (Rv hb) hp));exact⟨v,by simp only[zf,hg,zQ,hv],by simpa only[RV]using hr⟩
    .split at h
     .split at h
      .rename_i cc rr he;cases h;exact eqcase hy hz he (.inl ⟨rfl,rfl⟩)
      .cases h
     .split at h
      .rename_i cc rr he;cases h;exact eqcase hy hz he (.inr ⟨rfl,rfl⟩)
      .cases h
     .cases h
   .split at h
    .split at h
     .rename_i cc rr he;cases h;exact eqcase hy hz he (.inl ⟨rfl,rfl⟩)
     .cases h
    .split at h
     .rename_i cc rr he;cases h;exact eqcase hy hz he (.inr ⟨rfl,rfl⟩)
     .cases h
    .cases h
  .cases h
 case unOp op t p=>
  split at h
  .rename_i p' hy;split at h
   .rename_i c' r' hu;simp only[yh,zL]at h;obtain⟨hc,rfl⟩:=h;refine .of_run (f:=fun a=>Op.unary op (a.eval p)) (fun _=>rfl) fun ro N G a w r=> ?_
    have hp:=B2 r.rel.st r.env hy;simp only[RV]at hp;obtain⟨v,hv,hr⟩:=vN (P:=P) hu hc hp w;exact⟨v,hv,by simpa only[RV]using hr⟩
   .cases h
  .cases h
 case convert s d p=>
  split at h
  .rename_i y hy;exact .Jd (f:=fun a=>convert s d (a.eval p)) (fun _=>rfl) fun ro N G a w r=>fV hE r.rel (by rw[r.heap];exact h) rfl (B2 r.rel.st r.env hy)
  .cases h
 case slice t p lo hi mx=>
  split at h
  .rename_i y hy;exact .of_run (f:=fun a=>Instr.sliceAt t (a.eval p) (lo.map a.eval) (hi.map a.eval) (mx.map a.eval)) (fun _=>rfl) fun ro N G a w r=>aM hE (by rw[r.heap];exact h) rfl r.rel (B2 r.rel.st r.env hy) (We r.rel.st r.env lo) (We r.rel.st r.env hi) (We r.rel.st r.env mx)
  .cases h
 case fieldAddr s p f=>
  split at h
  .rename_i y hy;exact .of_run (f:=fun a=>Instr.fieldAt s (a.eval p) f) (fun _=>rfl) fun ro N G a w r=>SN hE (by rw[r.heap];exact h) rfl (B2 r.rel.st r.env hy)
  .cases h
 case field t p f=>
  split at h
  .rename_i y hy;exact .of_run (f:=fun a=>Instr.field t (a.eval p) f) (fun _=>rfl) fun ro N G a w r=>aH hE h (B2 r.rel.st r.env hy)
  .cases h
 case indexAddr t p q=>
  split at h
  .rename_i y z hy hz;exact .of_run (f:=fun a=>Instr.indexAt t (a.eval p) (a.eval q)) (fun _=>rfl) fun ro N G a w r=>SO hE (by rw[r.heap];exact h) rfl (B2 r.rel.st r.env hy) (B2 r.rel.st r.env hz)
  .cases h
 case index t p q=>
  split at h
  .rename_i y z hy hz;exact .of_run (f:=fun a=>Instr.index t (a.eval p) (a.eval q)) (fun _=>rfl) fun ro N G a w r=>aI hE h rfl (B2 r.rel.st r.env hy) (B2 r.rel.st r.env hz)
  .cases h
 case build t ps=>
  exact .of_run (f:=fun a=>Instr.build t (Zb a.eval ps)) (fun a=>aP rfl a.eval) fun ro N G a w r=>aF hE (fun o x hx=>B2 r.rel.st r.env hx) h rfl
 case buildSlice t len ps=>
  split at h
  .rename_i c' q hq
   cases len with
   |zero=>
    simp only[yh,zL]at h;obtain⟨hc,rfl⟩:=h;exact .Jd (f:=fun a=>Instr.buildSlice t 0 (Zb a.eval ps)) (fun a=>Iv rfl a.eval) fun ro N G a w r=>fM hE r.rel (fun o x hx=>B2 r.rel.st r.env hx) hq hc
   |succ n=>
    simp only[yh,zL]at h;obtain⟨hc,rfl⟩:=h;exact .Jd (f:=fun a=>Instr.buildSlice t (n+1) (Zb a.eval ps)) (fun a=>Iv rfl a.eval) fun ro N G a w r=>Xf hE r.rel (fun o x hx=>B2 r.rel.st r.env hx) hq hc
  .cases h
 case makeFunc f first cap=>
  split at h
  .rename_i y z hy hz;cases h;refine .of_run (f:=fun a=>Instr.makeFunc f (first.map a.eval) (cap.map a.eval)) (fun _=>rfl) fun ro N G a w r=>⟨_,by simp only[Instr.makeFunc,zk];rfl,?_⟩
   simp only[RV];exact⟨first.toList.map a.eval,cap.toList.map a.eval,by congr 1<;>(apply Array.ext';simp),E6 r.rel.st r.env hy,E6 r.rel.st r.env hz⟩
  .cases h
 case lookup t m k ok=>
  split at h
  .rename_i y z hy hz;exact .of_run (f:=fun a=>Instr.lookup t (a.eval m) (a.eval k) ok) (fun _=>rfl) fun ro N G a w r=>fW hE r.rel (by rw[r.heap];exact h) rfl (B2 r.rel.st r.env hy) (B2 r.rel.st r.env hz)
  .cases h
 case makeInterface t p=>
  split at h
  .rename_i y hy;exact .of_run (f:=fun a=>Instr.makeInterface t (a.eval p)) (fun _=>rfl) fun ro N G a w r=>kw hE h rfl (B2 r.rel.st r.env hy)
  .cases h
 case typeAssert p xt asserted ok=>
  split at h
  .rename_i y hy;exact .of_run (f:=fun a=>Instr.typeAssert (a.eval p) xt asserted ok) (fun _=>rfl) fun ro N G a w r=>Xu hE h rfl (B2 r.rel.st r.env hy)
  .cases h
 case extract p i=>
  split at h
  .rename_i y hy;exact .of_run (f:=fun a=>Instr.extract (a.eval p) i) (fun _=>rfl) fun ro N G a w r=>Vz h (B2 r.rel.st r.env hy)
  .cases h
 case call c=>
  split at h
  .rename_i b hb;split at h
   .rename_i xs hxs;exact qK hE rfl hb hxs h rfl
   .cases h
  .cases h
end Go.Gar
namespace Go.Gar
def pI(E:Nat->Option Bd)(env:yr)(H:yz)(op:Op):Option (Bool×(Nat->AV)×AF):=
 match op with
 | .alloc t=>match Vw E t with
  |some cs=>some (true,fun id=> .ptr id 0 cs.length,.c cs)
  |none=>none
 | .box t a=>match Eo env a with
  |some x=>match ki E t x with
   |some cs=>some (true,fun id=> .ptr id 0 cs.length,.c cs)
   |none=>none
  |none=>none
 | .makeSlice t l c=>match Eo env l,Eo env c with
  |some x,some y=>match aJ E t x y with
   |some (cc,q)=>some (cc,fun id=> .sl id (B3 q) (Bt q),.a q)
   |none=>none
  |_,_=>none
 | .makeMap _ r=>match r with
  |none=>some (true,fun id=> .mp id,.m [])
  |some _=>none
 |_=>none
variable {P:Program}{E:Nat->Option Bd}{S:St}{o:Oper}{c:Bool}
theorem aB(hE:CV P E){f:Nat->AV}{b:AF}(h:pI E S.env S.H o.op=some (c,f,b))(hc:c=true):Es P o S (f S.H.length) (S.H++[b]):=by
 subst hc;obtain⟨dst,op,ty,pos,after,guard⟩:=o;simp only at h;cases op<;>simp only[pI]at h<;>try(cases h;done)
 case alloc t=>
  split at h
  .rename_i cs hcs;cases h
   exact .F6 (f:=fun a=>Instr.alloc t true (.tuple #[])) (fun _=>rfl) fun ro N G a w r=>by
    have:=aD hE r.rel hcs;rw[r.heap]at this;exact this
  .cases h
 case box t p=>
  split at h
  .rename_i x hx;split at h
   .rename_i cs hcs;cases h
    exact .F6 (f:=fun a=>Instr.box t (a.eval p)) (fun _=>rfl) fun ro N G a w r=>by
     have:=kj (P:=P) r.rel hcs (B2 r.rel.st r.env hx);rw[r.heap]at this;exact this
   .cases h
  .cases h
 case makeSlice t l c=>
  split at h
  .rename_i x y hx hy;split at h
   .rename_i cc q hq;simp only[yh,zL]at h;obtain⟨hc,rfl,rfl⟩:=h
    exact .F6 (f:=fun a=>Instr.makeSlice t (a.eval l) (a.eval c)) (fun _=>rfl) fun ro N G a w r=>by
     have:=fX hE r.rel hq hc (B2 r.rel.st r.env hx) (B2 r.rel.st r.env hy);rw[r.heap]at this;exact this
   .cases h
  .cases h
 case makeMap t p=>
  cases p with
  |none=>
   cases h
   exact .F6 (f:=fun a=>Instr.makeMap t none) (fun _=>rfl) fun ro N G a w r=>by
    have:=ah (P:=P) r.rel t;rw[r.heap]at this;exact this
  |some q=>cases h
def SJ(E:Nat->Option Bd)(env:yr)(H:yz)(op:Op):Option (Bool×D):=
 match op with
 | .call c=>match c.callee,c.argTypes.toList with
  | .builtin .append,[t,u]=>match KH env c.args.toList with
   |some [.e0,x]=>PO E H t u x
   |_=>none
  |_,_=>none
 | .buildSlice t len ps=>IN E (Eo env) t len ps.toList
 |_=>none
theorem dM(hE:CV P E){q:D}(h:SJ E S.env S.H o.op=some (c,q))(hc:c=true):Es P o S (.sl S.H.length (B3 q) (Bt q)) (S.H++[.a q]):=by
 subst hc;unfold SJ at h;split at h
 .rename_i cl ho;split at h
  .rename_i t u hb ht;have hty:=FX ht;split at h
   .rename_i x hxs;refine .F6 (f:=fun a=>Builtin.append_ cl.argTypes o.type (cl.args.map a.eval)) (fun a=>by rw[Pu (P:=P) hb ho];rfl) fun ro N G a w r=> ?_
    have:=E6 r.rel.st r.env hxs;simp only[BP]at this;obtain⟨v,l,e,h1,v',l',e',h2,h3⟩:=this;subst e';subst h3;have e2:cl.args.map a.eval= #[v,v']:=FX (by simpa using e);have hy:=kF (ty:=o.type) hE r.rel (by rw[r.heap];exact h) rfl h1 h2;rw[e2,hty];rw[r.heap]at hy;exact hy
   .cases h
  .cases h
 .rename_i t len ps ho;refine .F6 (f:=fun a=>Instr.buildSlice t len (Zb a.eval ps)) (fun a=>Iv ho a.eval) fun ro N G a w r=> ?_
  have:=Zs hE r.rel (fun o x hx=>B2 r.rel.st r.env hx) h rfl;rw[r.heap]at this;exact this
 .cases h
def tE(E:Nat->Option Bd)(env:yr)(H:yz)(op:Op):Option (Bool×AV×yz):=
 match op with
 | .store t a x=>match Eo env a,Eo env x with
  |some p,some v=>match W6 E H t p v with
   |some (c,H')=>some (c,.u,H')
   |none=>none
  |_,_=>none
 | .insert t m k v| .mapUpdate t m k v=>match Eo env m,Eo env k,Eo env v with
  |some x,some y,some z=>match kx E H t x y z with
   |some (c,H')=>some (c,.u,H')
   |none=>none
  |_,_,_=>none
 | .call c=>match c.callee,c.argTypes.toList with
  | .builtin .append,[t,u]=>match KH env c.args.toList with
   |some [.sl id n sz,x]=>match aE E H t u id n x with
    |some (c,r)=>match setH id (.a r) H with
     |some H'=>some (c,.sl id (B3 r) sz,H')
     |none=>none
    |none=>none
   |_=>none
  |_,_=>none
 |_=>none
theorem aO(hE:CV P E){x:AV}{H':yz}(h:tE E S.env S.H o.op=some (c,x,H'))(hc:c=true):Es P o S x H':=by
 subst hc;unfold tE at h;split at h
 .rename_i t p v ho;split at h
  .rename_i y z hy hz;split at h
   .rename_i c' q hq;simp only[yh,zL]at h;obtain⟨hc,rfl,rfl⟩:=h;intro ro N G a w r;obtain⟨w',G',h1,h2,h3,h4⟩:=aN hE r.rel (by rw[r.heap];exact hq) hc (B2 r.rel.st r.env hy) (B2 r.rel.st r.env hz);refine⟨.skip,w',G',?_,.inl ⟨rfl,rfl⟩,h2,h3,h4⟩;unfold execOp;simp only[ho,zf,h1,zQ,zk]
   .cases h
  .cases h
 .rename_i t m k v ho;split at h
  .rename_i x' y z hx hy hz;split at h
   .rename_i c' q hq;simp only[yh,zL]at h;obtain⟨hc,rfl,rfl⟩:=h;intro ro N G a w r;obtain⟨w',G',h1,h2,h3,h4⟩:=Xv hE r.rel (by rw[r.heap];exact hq) hc (B2 r.rel.st r.env hx) (B2 r.rel.st r.env hy) (B2 r.rel.st r.env hz);refine⟨.skip,w',G',?_,.inl ⟨rfl,rfl⟩,h2,h3,h4⟩;unfold execOp;simp only[ho,zf,h1,zQ,zk]
   .cases h
  .cases h
 .rename_i t m k v ho;split at h
  .rename_i x' y z hx hy hz;split at h
   .rename_i c' q hq;simp only[yh,zL]at h;obtain⟨hc,rfl,rfl⟩:=h;intro ro N G a w r;obtain⟨w',G',h1,h2,h3,h4⟩:=Xv hE r.rel (by rw[r.heap];exact hq) hc (B2 r.rel.st r.env hx) (B2 r.rel.st r.env hy) (B2 r.rel.st r.env hz);refine⟨.skip,w',G',?_,.inl ⟨rfl,rfl⟩,h2,h3,h4⟩;unfold execOp;simp only[ho,zf,h1,zQ,zk]
   .cases h
  .cases h
 .rename_i cl ho;split at h
  .rename_i t u hb ht;have hty:=FX ht;split at h
   .rename_i id n sz x' hxs;split at h
    .rename_i c' q hq;split at h
     .rename_i H2 hset;simp only[yh,zL]at h;obtain⟨hc,rfl,rfl⟩:=h;obtain⟨_,rfl⟩:=J7 hset;refine .F6 (f:=fun a=>Builtin.append_ cl.argTypes o.type (cl.args.map a.eval)) (fun a=>by rw[Pu (P:=P) hb ho];rfl) fun ro N G a w r=> ?_
      have:=E6 r.rel.st r.env hxs;simp only[BP]at this;obtain⟨v,l,e,h1,v',l',e',h2,h3⟩:=this;subst e';subst h3;have e2:cl.args.map a.eval= #[v,v']:=FX (by simpa using e);have hy:=pw (ty:=o.type) hE r.rel (by rw[r.heap];exact hq) hc h1 h2;rw[e2,hty];rw[r.heap]at hy;exact hy
     .cases h
    .cases h
   .cases h
  .cases h
 .cases h
def Bm(dst:Option Tmp)(x:AV)(env:yr):yr:=
 match dst with
 |some d=>(d,x)::env
 |none=>env
def Au(dst:Option Tmp)(n:Nat):Bool:=
 match dst with
 |some d=>Nat.blt d n
 |none=>true
def AX(ops:ya)(env:yr)(o:Oper):Option Bool:=
 match o.guard with
 |none=>some true
 |some (j,want)=>match ops.toList[j]? with
  |some p=>match p.dst with
   |some d=>match get env d with
    |some (.d (.b b))=>some (match want with|true=>b|false=> !b)
    |some (.d (.tup []))=>some false
    |_=>none
   |none=>none
  |none=>none
def Wl(P:Program)(ro:yW)(ops:ya)(i:Nat)(rest:yb)(S:St)(Q:Exit->St->Prop):Prop:=
 (∀k:Nat,rest[k]? =ops[i+k]?)->∀N G a w,Rel ro N S G a w->wpOpsIn (Kv (rl G ro)) 0 P ops (Post ro N G w Q) (List.range' i rest.length) a w
section
variable {P:Program}{ro:yW}{ops:ya}{i:Nat}{rest:yb}{S:St}{Q:Exit->St->Prop}{o:Oper}
theorem L3{id:Nat}(h:Wl P ro ops 0 ops.toList S Q):W P ro (.region id ops false) S Q:=by
 intro N G a w r;refine wpIn_region ?_;have:=h (fun k=>sm) N G a w r;rw[List.range_eq_range'];simpa using this
theorem ju(h:Q .normal S):Wl P ro ops i [] S Q:=by
 intro _ N G a w r;simp only[zI,List.range'_zero,wpOpsIn];exact⟨S,G,h,r,D4.refl G w⟩
theorem BZ{F:Fence}{n:Nat}{Q Q':Exit->Act->World->Prop}(hq:∀e a w,Q e a w->Q' e a w):∀(l:BK)(a:Act)(w:World),wpOpsIn F n P ops Q l a w->wpOpsIn F n P ops Q' l a w
 |[],a,w,h=>hq _ _ _ h
 |i::l,a,w,h=>by
  simp only[wpOpsIn]at h|-;split
  .rename_i ho;simp only[ho]at h;exact BZ hq l a w h
  .rename_i o ho;simp only[ho]at h;split
   .rename_i hw;rw[zN hw]at h;obtain⟨h1,h2⟩:=h;refine⟨h1,?_⟩;generalize(o.semAt F.round a.eval).run P w=r at*
    cases r with
    |ok x w'=>
     cases x<;>simp only[Oper.uponIn]at h2|-<;>
      first
       |exact BZ hq l _ _ h2
       |exact⟨h2.1,CallsIn.mono h2.2 (fun e w'' he=>by
        cases e with
        |returned v=>exact BZ hq l _ _ he
        |panicked c=>exact hq _ _ _ he
        |outgrown=>obtain⟨a0,w0,h0⟩:=he;exact⟨a0,w0,hq _ _ _ h0⟩)⟩
       |exact⟨h2.1,RowsIn.mono h2.2 (fun _ _ he=>BZ hq l _ _ he)⟩
       |exact⟨h2.1,RoundIn.mono h2.2 (fun e w'' he=>by
        cases e with
        |returned v=>exact BZ hq l _ _ he
        |panicked c=>exact hq _ _ _ he
        |outgrown=>obtain⟨a0,w0,h0⟩:=he;exact⟨a0,w0,hq _ _ _ h0⟩)⟩
    |halt x w'=>
     cases x<;>simp only[Oper.uponIn]at h2|-<;>exact hq _ _ _ h2
   .rename_i hw;rw[zO hw]at h;exact⟨h.1,BZ hq l _ _ h.2⟩
theorem CH{G:Gh}{a:Act}(h:IH G S.env a.tmps){b:Bool}(hg:AX ops S.env o=some b):Region.wanted o (yielded ops a.tmps)=b:=by
 unfold AX at hg;unfold Region.wanted;split at hg
 .rename_i hn;cases hg;rw[hn]
 .rename_i j want hn;rw[hn];split at hg
  .rename_i p hp;split at hg
   .rename_i d hd;split at hg
    .rename_i q hq;cases hg;obtain⟨v,hv,hr⟩:=h d _ hq;simp only[RV,RD]at hr;subst hr
     have:yielded ops a.tmps j=some q:=by
      have hp':ops[j]? =some p:=by simpa using hp
      simp[yielded,hp',hd,hv]
     simp only[this];cases want<;>cases q<;>rfl
    .rename_i hq;cases hg;obtain⟨v,hv,hr⟩:=h d _ hq;simp only[RV,RD,Eb]at hr;obtain⟨vs,rfl,rfl⟩:=hr
     have:yielded ops a.tmps j=none:=by
      have hp':ops[j]? =some p:=by simpa using hp
      simp[yielded,hp',hd,hv]
     simp only[this];rfl
    .cases hg
   .cases hg
  .cases hg
theorem HE{G:Gh}{a:Act}(h:IH G S.env a.tmps)(hs:a.tmps.size=S.n){dst:Option Tmp}(hd:Au dst S.n=true){x:AV}{v:Value}(hx:RV G x v):IH G (Bm dst x S.env) (a.put dst v).tmps/\(a.put dst v).tmps.size=S.n/\(a.put dst v).defers=a.defers:=by
 cases dst with
 |none=>exact⟨h,hs,rfl⟩
 |some d=>
  simp only[Au,q0k]at hd;refine⟨fun t y hy=> ?_,by simp[Act.put,hs],rfl⟩;simp only[Bm,get]at hy;split at hy
  .rename_i hb;cases hy;have:=zH hb;subst this;exact⟨v,by simp only[Act.put];exact q0K (by rw[hs];exact hd),hx⟩
  .rename_i hb;obtain⟨u,hu,hr⟩:=h t y hy
   have hne:d≠t:=by
    intro e;subst e;simp at hb
   exact⟨u,by simp only[Act.put];rw[q0P hne];exact hu,hr⟩
theorem Q8{x:AV}{H':yz}(hg:AX ops S.env o=some true)(hop:Es P o S x H')(hnd:∀c,o.op≠ .defer c)(hd:Au o.dst S.n=true)
  (k:Wl P ro ops (i+1) rest ⟨Bm o.dst x S.env,H',S.n⟩ Q):Wl P ro ops i (o::rest) S Q:=by
 intro hops N G a w r;have ho:ops[i]? =some o:=by have:=hops 0;simpa using this.symm
 simp only[yu,q0h,wpOpsIn,ho];rw[zN (CH r.env hg)];obtain⟨res,w',G',h1,h2,h3,h4,h5⟩:=hop ro N G a w r;refine⟨fun _ _=>trivial,?_⟩;rw[q1K _ _ _ hnd,h1];have hops':∀k:Nat,rest[k]? =ops[i+1+k]?:=fun k=>by have:=hops (k+1);simp at this;rw[this];congr 1;omega
 have fin:∀v,RV G' x v->wpOpsIn (Kv (rl G ro)) 0 P ops (Post ro N G w Q) (List.range' (i+1) rest.length) (a.put o.dst v) w':=by
  intro v hv;obtain⟨e1,e2,e3⟩:=HE (r.env.mono h5.gle) r.size hd hv
  have r':Rel ro N ⟨Bm o.dst x S.env,H',S.n⟩ G' (a.put o.dst v) w':=⟨h3,h4,e2,e1,r.marks.QH h5 e3,fun id hid=>by
   obtain⟨q,l,M,q1,q2⟩:=r.round id hid;rw[<-r.heap]at q1;obtain⟨b',hb',hs⟩:=h5.gle.blk id _ q1;rw[h3]at hb';cases b'<;>simp only[Ap]at hs
   exact⟨_,l,M,hb',hs.1.trans q2⟩⟩
  have hk:=k hops' N G' _ w' r';rw[GT r r' h5]at hk;exact BZ (fun _ _ _ p=>p.trans h5) _ _ _ hk
 rcases h2 with⟨rfl,rfl⟩|⟨v,rfl,hv⟩
 .simp only[Oper.uponIn];exact fin undef (by simp[RV])
 .simp only[Oper.uponIn];exact fin v hv
end
end Go.Gar
namespace Go.Gar
section
variable {P:Program}{ro:yW}{ops:ya}{i:Nat}{rest:yb}{S:St}{Q:Exit->St->Prop}{o:Oper}{E:Nat->Option Bd}
def Qs:Op->Bool
 | .defer _=>true
 |_=>false
theorem V6{o:Oper}(h:Qs o.op=false):∀c,o.op≠ .defer c:=fun c e=>by rw[e]at h;cases h
variable {env:yr}{H:yz}{op:Op}
theorem LC{r:Bool×AV}(h:PQ E env H op=some r):∀c,op≠ .defer c:=fun c e=>by subst e;cases h
theorem QC{r:Bool×(Nat->AV)×AF}(h:pI E env H op=some r):∀c,op≠ .defer c:=fun c e=>by subst e;cases h
theorem Nt{r:Bool×D}(h:SJ E env H op=some r):∀c,op≠ .defer c:=fun c e=>by subst e;cases h
theorem QD{r:Bool×AV×yz}(h:tE E env H op=some r):∀c,op≠ .defer c:=fun c e=>by subst e;cases h
variable {x:AV}{c:Bool}
theorem u5(hE:CV P E)(hg:AX ops S.env o=some true)(h:PQ E S.env S.H o.op=some (c,x))(hd:Au o.dst S.n=true)(hc:c=true)(k:Wl P ro ops (i+1) rest ⟨Bm o.dst x S.env,S.H,S.n⟩ Q):Wl P ro ops i (o::rest) S Q:=
 Q8 hg (PR hE h hc) (LC h) hd k
theorem Wl_a(hE:CV P E){f:Nat->AV}{b:AF}(hg:AX ops S.env o=some true)(h:pI E S.env S.H o.op=some (c,f,b))(hd:Au o.dst S.n=true)(hc:c=true)(k:Wl P ro ops (i+1) rest ⟨Bm o.dst (f S.H.length) S.env,S.H++[b],S.n⟩ Q):Wl P ro ops i (o::rest) S Q:=
 Q8 hg (aB hE h hc) (QC h) hd k
theorem wc(hE:CV P E){q:D}(hg:AX ops S.env o=some true)(h:SJ E S.env S.H o.op=some (c,q))(hd:Au o.dst S.n=true)(hc:c=true)(k:Wl P ro ops (i+1) rest ⟨Bm o.dst (.sl S.H.length (B3 q) (Bt q)) S.env,S.H++[.a q],S.n⟩ Q):Wl P ro ops i (o::rest) S Q:=
 Q8 hg (dM hE h hc) (Nt h) hd k
theorem Wl_w(hE:CV P E){H':yz}(hg:AX ops S.env o=some true)(h:tE E S.env S.H o.op=some (c,x,H'))(hd:Au o.dst S.n=true)(hc:c=true)(k:Wl P ro ops (i+1) rest ⟨Bm o.dst x S.env,H',S.n⟩ Q):Wl P ro ops i (o::rest) S Q:=
 Q8 hg (aO hE h hc) (QD h) hd k
variable {G:Gh}{a:Act}
theorem Rel.SH{N:NB}{w:World}(r:Rel ro N S G a w)(h:∀t x,get env t=some x->get S.env t=some x):Rel ro N ⟨env,S.H,S.n⟩ G a w:=
 ⟨r.heap,r.rel,r.size,fun t x hx=>r.env t x (h t x hx),r.marks,r.round⟩
theorem Zi(h:∀t x,get env t=some x->get S.env t=some x)(k:Wl P ro ops i rest ⟨env,S.H,S.n⟩ Q):Wl P ro ops i rest S Q:=
 fun hops N G a w r=>k hops N G a w (r.SH h)
theorem O7{d:Nat}(h:get env d=some x):∀t y,get ((d,x)::env) t=some y->get env t=some y:=by
 intro t y hy;simp only[get]at hy;split at hy
 .rename_i hb;have:=zH hb;subst this;cases hy;exact h
 .exact hy
def fw(ops:ya)(o:Oper):yW:=
 match o.guard with
 |some (j,_)=>match ops.toList[j]? with
  |some p=>p.dst
  |none=>none
 |none=>none
theorem jw{d:Nat}{b:Bool}(hg:fw ops o=some d)(hb:get S.env d=some (.d (.b b)))
  (ht:b=true->Wl P ro ops i (o::rest) ⟨(d,.d (.b true))::S.env,S.H,S.n⟩ Q) (hf:b=false->Wl P ro ops i (o::rest) ⟨(d,.d (.b false))::S.env,S.H,S.n⟩ Q):Wl P ro ops i (o::rest) S Q:=by
 cases b with
 |true=>exact Zi (O7 hb) (ht rfl)
 |false=>exact Zi (O7 hb) (hf rfl)
theorem Rel.step{N:NB}{G':Gh}{a':Act}{w w':World}{S':St}(r:Rel ro N S G a w)(h:D4 G w G' w')(hH:G'.H=S'.H)(hr:B9 G' w')(hn:S'.n=S.n)(hs:a'.tmps.size=S.n)(he:IH G' S'.env a'.tmps)(hd:a'.defers=a.defers):Rel ro N S' G' a' w':=
 ⟨hH,hr,by rw[hs,hn],he,r.marks.QH h hd,fun id hid=>by
  obtain⟨q,l,M,q1,q2⟩:=r.round id hid;rw[<-r.heap]at q1;obtain⟨b',hb',hs⟩:=h.gle.blk id _ q1;rw[hH]at hb';cases b'<;>simp only[Ap]at hs
  exact⟨_,l,M,hb',hs.1.trans q2⟩⟩
theorem pp(hg:AX ops S.env o=some false)(hd:Au o.dst S.n=true)(k:Wl P ro ops (i+1) rest ⟨Bm o.dst (.d (.tup [])) S.env,S.H,S.n⟩ Q):Wl P ro ops i (o::rest) S Q:=by
 intro hops N G a w r;have ho:ops[i]? =some o:=by have:=hops 0;simpa using this.symm
 simp only[yu,q0h,wpOpsIn,ho];have hw:=CH r.env hg;rw[zO (by rw[hw];simp)];refine⟨fun _ _=>trivial,?_⟩;have hops':∀k:Nat,rest[k]? =ops[i+1+k]?:=fun k=>by have:=hops (k+1);simp at this;rw[this];congr 1;omega
 obtain⟨e1,e2,e3⟩:=HE r.env r.size hd (x:=.d (.tup [])) (v:=undef) (by simp only[RV,RD];exact⟨[],rfl,by simp[Eb]⟩);exact k hops' N G _ w (r.step (D4.refl G w) r.heap r.rel rfl e2 e1 e3)
def HK(P:Program)(f:FuncId):Prop:=∃fn, P.funcs[f]? =some fn/\(fn.name== "runtime.NumGoroutine")=false/\fn.body.isSome=true
def JO(P:Program)(f:FuncId)(args:yq)(H:yz)(R:AV->yz->Prop):Prop:=
 HK P f/\∀G w (vs:yd),G.H=H->B9 G w->BP G args vs.toList->
  CallsIn Fence.wide 0 P f vs w fun e w'=>∃v r G',e= .returned v/\R r G'.H/\RV G' r v/\B9 G' w'/\D4 G w G' w'
variable {R:AV->yz->Prop}
theorem JO.mono{f:FuncId}{args:yq}{R':AV->yz->Prop}(h:JO P f args H R)(hr:∀x H,R x H->R' x H):JO P f args H R':=
 ⟨h.1,fun G w vs h1 h2 h3=>(h.2 G w vs h1 h2 h3).mono fun _ _ ⟨v,r,G',e,q,rest⟩=>⟨v,r,G',e,hr _ _ q,rest⟩⟩
theorem La{f g:FuncId}{c:Call}{fo:Operand}(hc:c.callee= .value fo){first cap:yd}(hf:a.eval fo= .func (.func g) first cap)(hcall:HK P g)(ho:o.op= .call c)(w:World):
  (execOp a.eval o).run P w= .ok (.enter g (first++c.args.map a.eval++cap)) w:=by
 obtain⟨fn,h1,h2,h3⟩:=hcall;have hb:fn.body.isNone=false:=by cases hx:fn.body<;>simp_all
 unfold execOp;simp only[ho,resolve,hc,hf,Deferred.ofValue,zf,zk,zQ,invoke,callFunc,run_program,h1,h2,hb,q0F,zo,Sem.run_ite]
theorem BP.app:∀{xs ys:yq}{vs us:y6},BP G xs vs->BP G ys us->BP G (xs++ys) (vs++us)
 |[],ys,vs,us,h,k=>by simp only[BP]at h;subst h;exact k
 |x::xs,ys,vs,us,h,k=>by
  simp only[BP]at h;obtain⟨v,r,rfl,h1,h2⟩:=h;simp only[zA,BP];exact⟨v,r++us,rfl,h1,BP.app h2 k⟩
theorem Qj{first xs cap:yq}{p q:y6}{l:Array Operand}{ev:Operand->Value}(hp:BP G first p)(h1:BP G xs (l.toList.map ev))(hq:BP G cap q):BP G (first++xs++cap) (p.toArray++l.map ev++q.toArray).toList:=by
 have e:(p.toArray++l.map ev++q.toArray).toList=p++l.toList.map ev++q:=by simp
 rw[e];exact(hp.app h1).app hq
theorem IY{ops:ya}{i:Nat}{o:Oper}{rest:yb}(h:∀k:Nat,(o::rest)[k]? =ops[i+k]?):ops[i]? =some o:=by have:=h 0;simpa using this.symm
theorem HV{ops:ya}{i:Nat}{o:Oper}{rest:yb}(h:∀k:Nat,(o::rest)[k]? =ops[i+k]?):∀k:Nat,rest[k]? =ops[i+1+k]?:=fun k=>by have:=h (k+1);simp at this;rw[this];congr 1;omega
theorem js{c:Call}{fo:Operand}{g:FuncId}{first cap xs:yq}(ho:o.op= .call c)(hc:c.callee= .value fo)(hg:AX ops S.env o=some true)(hf:Eo S.env fo=some (.fn (.func g) first cap))(hxs:KH S.env c.args.toList=some xs)(hd:Au o.dst S.n=true)(hT:JO P g (first++xs++cap) S.H R)(k:∀r H',R r H'->Wl P ro ops (i+1) rest ⟨Bm o.dst r S.env,H',S.n⟩ Q):Wl P ro ops i (o::rest) S Q:=by
 intro hops N G a w r;have ho':=IY hops;simp only[yu,q0h,wpOpsIn,ho'];rw[zN (CH r.env hg)];refine⟨fun _ _=>trivial,?_⟩;have hfv:=B2 r.rel.st r.env hf;simp only[RV]at hfv;obtain⟨p,q,hfv,hp,hq⟩:=hfv;have hrun:=La (P:=P) (f:=g) hc hfv hT.1 ho w;rw[q1K _ _ _ (fun c e=>by rw[ho]at e;cases e),hrun];simp only[Oper.uponIn];refine⟨Gl _,?_⟩;have hops':=HV hops;have hargs:=Qj hp (E6 r.rel.st r.env hxs) hq;have hcall:=hT.2 G w _ r.heap r.rel hargs;have hcall':CallsIn (Kv (rl G ro)) 0 P g (p.toArray++c.args.map a.eval++q.toArray) w _:=hcall;refine hcall'.mono ?_;rintro e w' ⟨v,x,G',rfl,hR,hv,hr',hfr⟩;obtain⟨e1,e2,e3⟩:=HE (r.env.mono hfr.gle) r.size hd hv;have r':Rel ro N ⟨Bm o.dst x S.env,G'.H,S.n⟩ G' (a.put o.dst v) w':=r.step hfr rfl hr' rfl e2 e1 e3;have hk:=k x G'.H hR hops' N G' _ w' r';rw[GT r r' hfr]at hk;exact BZ (fun _ _ _ p=>p.trans hfr) _ _ _ hk
end
end Go.Gar
namespace Go.Gar
section
variable {P:Program}{ro:yW}{S:St}{Q:Exit->St->Prop}{E:Nat->Option Bd}
variable {w:World}
theorem Wv{r:Nat}{o:Obj}(h:w.heap[r]? =some (.deferred (some []))):(Instr.takeDeferred r).run P w= .ok [] {w with heap:=w.heap.setIfInBounds r (.deferred none)}:=by
 simp only[Instr.takeDeferred,getObj,setObj,zf];simp[Sem.run,h]
structure fC (ms:BK) (w w':World):Prop where
 os:w'.os=w.os
 tape:w'.tape=w.tape
 output:w'.output=w.output
 size:w'.heap.size=w.heap.size
 other:∀b,b∉ms->w'.heap[b]? =w.heap[b]?
 at_:∀b,b∈ms->∃o,w'.heap[b]? =some (.deferred o)
theorem HB{F:Fence}{n:Nat}{fn:Func}{tmps:yd}{R:Ending->World->Prop}{base:List Deferred}{u:FrameMode}(hu:u≠ .run):∀(ms:BK)(w:World),ms.Nodup->(∀r∈ms,w.heap[r]? =some (.deferred (some [])))->
  (∀w',fC ms w w'->LeavesInM F n P fn tmps R base u w')->LeavesInM F n P fn tmps R (ms.map (fun r=>{target:=.collected r,args:=#[]})++base) u w
 |[],w,_,_,h=>by
  simp only[zh,zK];exact h w ⟨rfl,rfl,rfl,rfl,fun _ _=>rfl,fun _ h=>by cases h⟩
 |r::ms,w,hn,hm,h=>by
  simp only[zV,zA,LeavesInM];have hr:=hm r sm;have hlt:r<w.heap.size:=(zZ.1 hr).1;obtain⟨hnr,hn'⟩:=List.nodup_cons.1 hn;refine⟨hu,.inl ⟨r,_,rfl,Wv (o:=.deferred none) hr,HB hu ms _ hn' (fun q hq=> ?_) (fun w' ht=>h w' ?_)⟩⟩
  .have:r≠q:=fun e=>hnr (e▸hq);show(w.heap.setIfInBounds r (.deferred none))[q]? =_
   rw[q0P this];exact hm q (by simp[hq])
  .refine⟨ht.os,ht.tape,ht.output,by rw[ht.size];simp,fun b hb=> ?_,fun b hb=> ?_⟩
   .rw[q0C,not_or]at hb;rw[ht.other b hb.2];show(w.heap.setIfInBounds r (.deferred none))[b]? =_;rw[q0P (Ne.symm hb.1)]
   .rcases q0C.1 hb with rfl|hb
    .by_cases hbm:b∈ms
     .exact ht.at_ b hbm
     .refine⟨none,?_⟩;rw[ht.other b hbm];show(w.heap.setIfInBounds b (.deferred none))[b]? =_;rw[q0K hlt]
    .exact ht.at_ b hb
variable {fn:Func}{tmps:yd}{R:Ending->World->Prop}
theorem WR{F:Fence}{n:Nat}(ms:BK)(w:World)(hn:ms.Nodup)(hm:∀r∈ms,w.heap[r]? =some (.deferred (some [])))(h:∀w',fC ms w w'->∃v,(results fn tmps).run P w'= .ok v w'/\R (.returned v) w'):LeavesInM F n P fn tmps R (ms.map (fun r=>{target:=.collected r,args:=#[]})++[]) .returning w:=
 HB sm ms w hn hm fun w' ht=>by simpa only[LeavesInM,LeavesIn]using h w' ht
variable {G:Gh}
theorem U0{w':World}{ms:BK}(h:B9 G w)(t:fC ms w w')(hm:∀r∈ms,w.heap[r]? =some (.deferred (some []))/\¬Own G r):B9 G w' where
 blk id b hb:=(h.blk id b hb).QH (Iq.refl G) (fun q N hl hρ=>t.other q fun hq=>(hm q hq).2 (.inl ⟨id,N,b,hb,hl,hρ⟩)) rfl (fun rs e c hc=>t.other c fun hq=>(hm c hq).2 (.inr ⟨id,rs,by rw[<-e];exact hb,hc⟩))
 inj:=h.inj
 mny:=h.mny
 mem b k v hv:=by
  have hc:=h.mem b k v hv
  have hne:b∉ms:=fun hb=>by
   rw[World.cell?]at hc;simp[(hm b hb).1]at hc
  rw[World.cell?_of_block (w:=w) (t.other b hne)];exact hc
 sep:=h.sep
 st:=h.st
def res1(tmps:yd):ResultVar->Sem Value
 | .tmp t=>pure (tmps.getD t undef)
 | .cell a t=>do loadVar t (<-asAddr (tmps.getD a undef))
theorem bY(fn:Func)(tmps:yd):results fn tmps=(do let vs <-fn.results.mapM (res1 tmps);pure (if h:vs.size=1 then vs[0]else .tuple vs)):=by
 unfold results
 congr 1
def W4(E:Nat->Option Bd)(env:yr)(H:yz):ResultVar->yy
 | .tmp t=>tt (get env t)
 | .cell a t=>match get env a with
  |some (.ptr id off cnt)=>W2 E H t (.ptr id off cnt)
  |_=>none
def PS(E:Nat->Option Bd)(env:yr)(H:yz):List ResultVar->Option (Bool×yq)
 |[]=>some (true,[])
 |r::l=>match W4 E env H r,PS E env H l with
  |some (c,x),some (d,xs)=>some (c&&d,x::xs)
  |_,_=>none
def E2(E:Nat->Option Bd)(env:yr)(H:yz)(rs:List ResultVar):yy:=
 match PS E env H rs with
 |some (c,[x])=>some (c,x)
 |some (c,xs)=>some (c,.tup xs)
 |none=>none
variable {env:yr}
theorem fZ(hE:CV P E)(hr:B9 G w)(he:IH G env tmps){r:ResultVar}{c:Bool}{x:AV}(h:W4 E env G.H r=some (c,x))(hc:c=true):
  ∃v,(res1 tmps r).run P w= .ok v w/\RV G x v:=by
 subst hc
 cases r with
 |tmp t=>
  simp only[W4,tt]at h;split at h
  .rename_i y hy;cases h;obtain⟨v,hv,hrv⟩:=he t _ hy;exact⟨v,by simp[res1,hv],hrv⟩
  .cases h
 |cell a t=>
  simp only[W4]at h;split at h
  .rename_i id off cnt hy;obtain⟨v,hv,hrv⟩:=he a _ hy;obtain⟨u,hu,hru⟩:=Ud hE hr h rfl hrv
   have hp:∃q,v= .pointer (some q):=by
    cases v with
    |pointer q=>
     cases q with
     |none=>simp[Instr.loadAt,Instr.sureAddr]at hu
     |some q=>exact⟨q,rfl⟩
    |_=>simp[Instr.loadAt,Instr.sureAddr]at hu
   obtain⟨q,rfl⟩:=hp;simp only[Instr.loadAt,Instr.sureAddr,zf,zk,zQ]at hu;exact⟨u,by simp[res1,hv,asAddr,hu],hru⟩
  .cases h
theorem Ue(hE:CV P E){G:Gh}{w:World}(hr:B9 G w){env:yr}{tmps:yd}(he:IH G env tmps):∀{rs:List ResultVar}{c:Bool}{xs:yq},PS E env G.H rs=some (c,xs)->c=true->
  ∃vs:y6,(rs.mapM (res1 tmps)).run P w= .ok vs w/\BP G xs vs
 |[],c,xs,h,_=>by
  simp[PS]at h;obtain⟨_,rfl⟩:=h;exact⟨[],sm,by simp[BP]⟩
 |r::rs,c,xs,h,hc=>by
  simp only[PS]at h;split at h
  .rename_i c1 x d ys h1 h2;simp only[yh,zL]at h;obtain⟨h3,rfl⟩:=h;rw[<-h3]at hc;simp only[yU]at hc;obtain⟨v,hv,hrv⟩:=fZ hE hr he h1 hc.1;obtain⟨vs,hvs,hrs⟩:=Ue hE hr he h2 hc.2;refine⟨v::vs,?_,by simp only[BP];exact⟨v,vs,rfl,hrv,hrs⟩⟩;rw[List.mapM_cons];simp only[zf,hv,zQ,hvs,zk]
  .cases h
theorem Xx(hE:CV P E)(hr:B9 G w)(he:IH G env tmps){c:Bool}{x:AV}(h:E2 E env G.H fn.results.toList=some (c,x))(hc:c=true):
  ∃v,(results fn tmps).run P w= .ok v w/\RV G x v:=by
 unfold E2 at h
 have key:∀{xs:yq}{c':Bool},PS E env G.H fn.results.toList=some (c',xs)->c'=true->∃vs:y6,BP G xs vs/\(results fn tmps).run P w= .ok (if h:vs.toArray.size=1 then vs.toArray[0]else .tuple vs.toArray) w:=by
  intro xs c' h1 h2;obtain⟨vs,hvs,hrs⟩:=Ue hE hr he h1 h2;refine⟨vs,hrs,?_⟩;rw[bY];simp only[zf];rw[Array.mapM_eq_mapM_toList];simp only[Sem.run_map,hvs,zQ,zk]
 split at h
 .rename_i c' y h1;simp only[yh,zL]at h;obtain⟨rfl,rfl⟩:=h;obtain⟨vs,h2,h3⟩:=key h1 hc;simp only[BP]at h2;obtain⟨v,r,rfl,h4,rfl⟩:=h2;exact⟨v,by rw[h3];simp,h4⟩
 .rename_i c' xs hne h1;simp only[yh,zL]at h;obtain⟨rfl,rfl⟩:=h;obtain⟨vs,h2,h3⟩:=key h1 hc;have hl:=BP.NG h2
  have:vs.toArray.size≠1:=by
   intro e
   cases xs with
   |nil=>simp at hl;simp[hl]at e
   |cons x r=>
    cases r with
    |nil=>exact hne x rfl
    |cons y r=>simp at hl;simp[hl]at e
  refine⟨.tuple vs.toArray,by rw[h3,dif_neg this],?_⟩;simp only[RV];exact⟨vs,rfl,h2⟩
 .cases h
def P9(K:St->Prop):Exit->St->Prop
 | .ret,S=>K S
 | .normal,S=>K S
 |_,_=>False
def Fp:Nat->yq->yr
 |_,[]=>[]
 |n,x::r=>(n,x)::Fp (n+1) r
theorem Ub:∀{l:yq}{n t:Nat}{x:AV},get (Fp n l) t=some x->n<=t/\l[t-n]? =some x
 |[],n,t,x,h=>by simp[Fp,get]at h
 |y::l,n,t,x,h=>by
  simp only[Fp,get]at h;split at h
  .rename_i hb;have:=zH hb;subst this;cases h;simp
  .obtain⟨h1,h2⟩:=Ub h;refine⟨om,?_⟩;rw[show t-n=(t-(n+1))+1 by omega];simpa using h2
def su(K:St->Prop)(KP:ym->St->Prop):Exit->St->Prop
 | .ret,S=>K S
 | .normal,S=>K S
 | .panic ch,S=>KP ch S
 |_,_=>False
theorem pQ{K:St->Prop}{KP:ym->St->Prop}:∀e S,P9 K e S->su K KP e S:=by
 intro e S h;cases e<;>first|exact h|exact h.elim
variable {args:yq}{H:yz}{vs:yd}
theorem oJ(hG:G.H=H)(hr:B9 G w)(hargs:BP G args vs.toList)(hn:args.length<=fn.ntmps):
  Rel none ⟨w.heap.size,[]⟩ ⟨Fp 0 args,H,fn.ntmps⟩ G {tmps:=vs++Array.replicate (fn.ntmps-vs.size) undef,defers:=[]} w:=by
 have hl:vs.size=args.length:=by have:=BP.NG hargs;simpa using this
 refine⟨hG,hr,by simp;omega,fun t x hx=> ?_,⟨yV _,[],rfl,List.nodup_nil,fun _ h=>by cases h⟩,fun _ h=>by cases h⟩;obtain⟨_,h2⟩:=Ub hx;rw[Nat.sub_zero]at h2;obtain⟨v,hv,hrv⟩:=(Dn.1 hargs).2 t x h2;have hlt:t<vs.size:=by simpa using(yZ.1 hv).1
 exact⟨v,by rw[q1a hlt];simpa using hv,hrv⟩
variable {f:FuncId}{c:Code}{K:AV->yz->Prop}
theorem UW(hE:CV P E)(hf:P.funcs[f]? =some fn)(hb:fn.body=some c)(hn:args.length<=fn.ntmps){KP:ym->yz->Prop}(h:W P none c ⟨Fp 0 args,H,fn.ntmps⟩ (su (fun S'=>∃cc x,E2 E S'.env S'.H fn.results.toList=some (cc,x)/\cc=true/\K x S'.H) fun ch S'=>KP ch S'.H))(hG:G.H=H)(hr:B9 G w)(hargs:BP G args vs.toList)(hR:∀(x:AV)(v:Value)(G':Gh)(w1 w':World)(ms:BK),K x G'.H->RV G' x v->B9 G' w1->B9 G' w'->D4 G w G' w1->fC ms w1 w'->(∀r∈ms,w.heap.size<=r)->R (.returned v) w')(hP:∀(ch:ym)(G':Gh)(w1 w':World)(ms:BK),KP ch G'.H->B9 G' w1->B9 G' w'->D4 G w G' w1->fC ms w1 w'->(∀r∈ms,w.heap.size<=r)->R (.panicked ch) w'):
  CallsIn Fence.wide 0 P f vs w R:=by
 refine callsIn_of_wp_marks hf hb trivial ?_;have r0:=oJ (fn:=fn) hG hr hargs hn;have hw:=h ⟨w.heap.size,[]⟩ G _ w r0;refine q1O hw ?_;rintro e a' w1 ⟨S',G',q,r',k⟩
 have fin:(∃cc x,E2 E S'.env S'.H fn.results.toList=some (cc,x)/\cc=true/\K x S'.H)->LeavesInM Fence.wide 0 P fn a'.tmps R a'.defers .returning w1:=by
  rintro⟨cc,x,h1,h2,h3⟩;obtain⟨_,ms,m1,m2,m3⟩:=r'.marks;rw[m1];refine WR ms w1 m2 (fun r hr=>(m3 r hr).2.1) (fun w' ht=> ?_);have hr2:=U0 r'.rel ht (fun r hr=>(m3 r hr).2);obtain⟨v,hv,hrv⟩:=Xx hE hr2 r'.env (fn:=fn) (by rw[r'.heap];exact h1) h2;exact⟨v,hv,hR x v G' w1 w' ms (by rw[r'.heap];exact h3) hrv r'.rel hr2 k ht (fun r hr=>(m3 r hr).1)⟩
 cases e with
 |normal|ret=>exact fin q
 |panic ch=>
  obtain⟨_,ms,m1,m2,m3⟩:=r'.marks;show LeavesInM Fence.wide 0 P fn a'.tmps R a'.defers (.panicking ch) w1;rw[m1];refine HB sm ms w1 m2 (fun r hr=>(m3 r hr).2.1) (fun w' ht=> ?_);have hr2:=U0 r'.rel ht (fun r hr=>(m3 r hr).2);simp only[LeavesInM,LeavesIn];exact hP ch G' w1 w' ms (by rw[r'.heap];exact q) r'.rel hr2 k ht (fun r hr=>(m3 r hr).1)
 |_=>exact q.elim
theorem Xe(hE:CV P E)(hf:P.funcs[f]? =some fn)(hb:fn.body=some c)(hn:args.length<=fn.ntmps)(h:W P none c ⟨Fp 0 args,H,fn.ntmps⟩ (P9 fun S'=>∃cc x,E2 E S'.env S'.H fn.results.toList=some (cc,x)/\cc=true/\K x S'.H))(hG:G.H=H)(hr:B9 G w)(hargs:BP G args vs.toList)(hR:∀(x:AV)(v:Value)(G':Gh)(w1 w':World)(ms:BK),K x G'.H->RV G' x v->B9 G' w1->B9 G' w'->D4 G w G' w1->fC ms w1 w'->(∀r∈ms,w.heap.size<=r)->R (.returned v) w'):
  CallsIn Fence.wide 0 P f vs w R:=
 UW (KP:=fun _ _=>False) hE hf hb hn (h.mono pQ) hG hr hargs hR fun _ _ _ _ _ hk=>hk.elim
theorem jb(hE:CV P E)(hf:P.funcs[f]? =some fn)(hb:fn.body=some c)(hname:(fn.name== "runtime.NumGoroutine")=false)(hn:args.length<=fn.ntmps){R:AV->yz->Prop}(h:W P none c ⟨Fp 0 args,H,fn.ntmps⟩ (P9 fun S'=>∃cc x,E2 E S'.env S'.H fn.results.toList=some (cc,x)/\cc=true/\R x S'.H)):JO P f args H R:=by
 refine⟨⟨fn,hf,hname,by rw[hb];rfl⟩,fun G w vs hG hr hargs=>Xe hE hf hb hn h hG hr hargs ?_⟩;intro x v G' w1 w' ms hK hv h1 h2 hfr ht hms;refine⟨v,x,G',rfl,hK,hv,h2,⟨ht.os.trans hfr.os,ht.tape.trans hfr.tape,ht.output.trans hfr.output,by rw[ht.size];exact hfr.size,fun b hb ho=> ?_,hfr.memNew,hfr.gle⟩⟩;obtain⟨k1,k2⟩:=hfr.keep b hb ho;exact⟨(ht.other b fun hm=>by have:=hms b hm;omega).trans k1,k2⟩
def Q4(m:Mem)(w:World):Prop:=∀b k v,m b k=some v->w.cell? ⟨b,k,none⟩=some v
def Fn(P:Program)(f:FuncId)(ds:yo)(r:D):Prop:=
 HK P f/\∀(m:Mem)(w:World)(vs:yd),Q4 m w->sv m->Eb m ds vs.toList->
  CallsIn Fence.wide 0 P f vs w fun e w'=>∃v m',e= .returned v/\RD m' r v/\m.le m'/\Q4 m' w'/\(∀b k v,m' b k=some v->m b k=some v\/w.heap.size<=b)/\
   w'.os=w.os/\w'.tape=w.tape/\w'.output=w.output/\w.heap.size<=w'.heap.size/\∀b,b<w.heap.size->w'.heap[b]? =w.heap[b]?
mutual
def D5(H:yz):AV->D->Prop
 | .d x,r=>r=x
 | .e0,r=>B8 r=true/\B3 r=0/\Aq r
 | .sl id n _,r=>H[id]? =some (.a r)/\n=B3 r
 | .ag xs,r=>∃l,r= .agg l/\Ea H xs l
 | .tup xs,r=>∃l,r= .tup l/\Ea H xs l
 |_,_=>False
def Ea(H:yz):yq->yo->Prop
 |[],l=>l=[]
 |x::xs,l=>∃y r,l=y::r/\D5 H x y/\Ea H xs r
end
mutual
theorem WC{G:Gh}{w:World}(hr:B9 G w){m:Mem}(hm:G.m.le m)(hown:∀b k v,Own G b->w.cell? ⟨b,k,none⟩=some v->m b k=some v):∀{x:AV}{d:D}{v:Value},D5 G.H x d->RV G x v->RD m d v
 | .d x,d,v,h,r=>by
  simp only[D5]at h;simp only[RV]at r;subst h;exact r.mono hm
 | .e0,d,v,h,r=>by
  simp only[D5]at h;simp only[RV]at r;obtain⟨a,rfl⟩:=r;exact(Ek h.1).2 ⟨a,0,by rw[h.2.1],om,h.2.2,.inl h.2.1⟩
 | .sl id n sz,d,v,h,r=>by
  simp only[D5]at h;obtain⟨h1,h2⟩:=h;simp only[RV]at r;obtain⟨_,blk,hb,hp⟩:=r;rw[h1]at hb;cases hb;obtain⟨g1,g2,g3⟩:=hp;obtain⟨k1,k2,k3⟩:=hr.blk id _ h1;rcases g3 h2 with⟨g4,a,rfl⟩|⟨b,N,cap,g4,rfl,g6,_⟩
  .exact(Ek k1).2 ⟨a,0,by rw[<-h2,g4],om,k2,.inl om⟩
  .rcases k3 with⟨k3,k4⟩|⟨b',N',vs,T,k4,k5,k6,k7⟩
   .exact(Ek k1).2 ⟨_,cap,by rw[<-h2],om,k2,.inl k3⟩
   .rw[g4]at k4;cases k4;refine(Ek k1).2 ⟨_,cap,by rw[<-h2],om,k2,.inr ⟨b,0,rfl,fun k d hd=> ?_⟩⟩;obtain⟨u,hu,h1c,hru⟩:=k7 k d hd;refine⟨u,?_,h1c,hru.mono hm⟩;rw[q0M];exact hown b k u (.inl ⟨id,N,_,h1,rfl,g4⟩) (by rw[DT k5];exact hu)
 | .ag _,_,_,h,r| .tup _,_,_,h,r=>by
  simp only[D5]at h;simp only[RV]at r;obtain⟨l,rfl,hl⟩:=h;obtain⟨vs,rfl,hvs⟩:=r;simp only[RD];exact⟨vs,rfl,WE hr hm hown hl hvs⟩
 | .u,_,_,h,_=>by simp[D5]at h
 | .ptr _ _ _,_,_,h,_=>by simp[D5]at h
 | .bs _ _ _ _ _,_,_,h,_=>by simp[D5]at h
 | .ep _ _ _ _ _,_,_,h,_=>by simp[D5]at h
 | .fn _ _ _,_,_,h,_=>by simp[D5]at h
 | .yl _,_,_,h,_=>by simp[D5]at h
 | .dp _,_,_,h,_=>by simp[D5]at h
 | .mp _,_,_,h,_=>by simp[D5]at h
theorem WE{G:Gh}{w:World}(hr:B9 G w){m:Mem}(hm:G.m.le m)(hown:∀b k v,Own G b->w.cell? ⟨b,k,none⟩=some v->m b k=some v):∀{xs:yq}{ds:yo}{vs:y6},Ea G.H xs ds->BP G xs vs->Eb m ds vs
 |[],ds,vs,h,r=>by
  simp only[Ea]at h;simp only[BP]at r;subst h;subst r;simp[Eb]
 |x::xs,ds,vs,h,r=>by
  simp only[Ea]at h;simp only[BP]at r;obtain⟨y,q,rfl,h1,h2⟩:=h;obtain⟨v,u,rfl,r1,r2⟩:=r;simp only[Eb];exact⟨v,u,rfl,WC hr hm hown h1 r1,WE hr hm hown h2 r2⟩
end
variable {ds:yo}
theorem pO(hE:CV P E)(hf:P.funcs[f]? =some fn)(hb:fn.body=some c)(hname:(fn.name== "runtime.NumGoroutine")=false){r:D}(hn:ds.length<=fn.ntmps)(h:W P none c ⟨Fp 0 (ds.map .d),[],fn.ntmps⟩ (P9 fun S'=>∃cc x,E2 E S'.env S'.H fn.results.toList=some (cc,x)/\cc=true/\D5 S'.H x r)):Fn P f ds r:=by
 refine⟨⟨fn,hf,hname,by rw[hb];rfl⟩,fun m w vs hm hst hargs=> ?_⟩;let G:Gh:={ρ:=fun _=>none,H:=[],m:=m};have hr:B9 G w:=⟨fun id b hb=>by simp[G]at hb,fun id id' p q b N N' hp=>by simp[G]at hp,hm,fun b ho=>absurd ho R2,hst,Yf⟩;have hno:∀b,¬Own G b:=fun b=>R2
 refine Xe (G:=G) (K:=fun x H=>D5 H x r) hE hf hb (by simpa using hn) h rfl hr (Q5.2 hargs) ?_;intro x v G' w1 w' ms hK hv h1 h2 hfr ht hms
 let m':Mem:=fun b k=>match G'.m b k with
  |some v=>some v
  |none=>if w.heap.size<=b then w'.cell? ⟨b,k,none⟩else none
 have hle:G'.m.le m':=fun b k v hv=>by simp only[m',hv]
 have hmem:Q4 m' w':=by
  intro b k v hv;simp only[m']at hv;split at hv
  .rename_i u hu;cases hv;exact h2.mem b k _ hu
  .split at hv
   .exact hv
   .cases hv
 refine⟨v,m',rfl,WC h2 hle ?_ hK hv,Mem.le_trans hfr.gle.mem hle,hmem,?_,ht.os.trans hfr.os,ht.tape.trans hfr.tape,ht.output.trans hfr.output,by rw[ht.size];exact hfr.size,fun b hb=> ?_⟩
 .intro b k v ho hc
  have hge:w.heap.size<=b:=by
   rcases q0A b w.heap.size with hlt|hge
   .exact absurd ho (hfr.keep b hlt (hno b)).2
   .exact hge
  simp only[m',h2.sep b ho k,zN hge,hc]
 .intro b k v hv;simp only[m']at hv;split at hv
  .rename_i u hu;cases hv;rcases hfr.memNew b k _ hu with h3|h3|h3
   .exact .inl h3
   .exact absurd h3 (hno b)
   .exact .inr h3
  .split at hv
   .rename_i hge;exact .inr hge
   .cases hv
 .exact(ht.other b fun hm=>by have:=hms b hm;omega).trans (hfr.keep b hb (hno b)).1
def RQ:yq->yo->Prop:=Ea []
mutual
theorem py{G:Gh}:∀{x:AV}{d:D}{v:Value},D5 [] x d->RV G x v->RD G.m d v
 | .d x,d,v,h,r=>by
  simp only[D5]at h;simp only[RV]at r;subst h;exact r
 | .e0,d,v,h,r=>by
  simp only[D5]at h;simp only[RV]at r;obtain⟨a,rfl⟩:=r;exact(Ek h.1).2 ⟨a,0,by rw[h.2.1],om,h.2.2,.inl h.2.1⟩
 | .sl id n sz,d,v,h,r=>by simp[D5]at h
 | .ag _,_,_,h,r| .tup _,_,_,h,r=>by
  simp only[D5]at h;simp only[RV]at r;obtain⟨l,rfl,hl⟩:=h;obtain⟨vs,rfl,hvs⟩:=r;simp only[RD];exact⟨vs,rfl,Vl hl hvs⟩
 | .u,_,_,h,_=>by simp[D5]at h
 | .ptr _ _ _,_,_,h,_=>by simp[D5]at h
 | .bs _ _ _ _ _,_,_,h,_=>by simp[D5]at h
 | .ep _ _ _ _ _,_,_,h,_=>by simp[D5]at h
 | .fn _ _ _,_,_,h,_=>by simp[D5]at h
 | .yl _,_,_,h,_=>by simp[D5]at h
 | .dp _,_,_,h,_=>by simp[D5]at h
 | .mp _,_,_,h,_=>by simp[D5]at h
theorem Vl{G:Gh}:∀{xs:yq}{ds:yo}{vs:y6},Ea [] xs ds->BP G xs vs->Eb G.m ds vs
 |[],ds,vs,h,r=>by
  simp only[Ea]at h;simp only[BP]at r;subst h;subst r;simp[Eb]
 |x::xs,ds,vs,h,r=>by
  simp only[Ea]at h;simp only[BP]at r;obtain⟨y,q,rfl,h1,h2⟩:=h;obtain⟨v,u,rfl,r1,r2⟩:=r;simp only[Eb];exact⟨v,u,rfl,py h1 r1,Vl h2 r2⟩
end
theorem Zn{xs:yq}(h:RQ xs ds){vs:y6}(r:BP G xs vs):Eb G.m ds vs:=Vl h r
theorem Fn.vt{r:D}(h:Fn P f ds r){xs:yq}(hx:RQ xs ds)(H:yz):JO P f xs H fun x H'=>x= .d r/\H'=H:=by
 refine⟨h.1,fun G w vs hG hr hargs=>(h.2 G.m w vs hr.mem hr.st (Zn hx hargs)).mono ?_⟩;rintro e w' ⟨v,m',rfl,h1,h2,h3,h4,h5,h6,h7,h8,h9⟩;obtain⟨k1,k2⟩:=K8 hr h5 h6 h7 h8 h9 m' h2 h4 h3;exact⟨v,.d r,{G with m:=m'},rfl,⟨rfl,hG⟩,by simpa only[RV]using h1,k1,k2⟩
end
end Go.Gar
namespace Go.Gar
section
variable {P:Program}{ro:yW}{ops:ya}{i:Nat}{rest:yb}{S:St}{Q:Exit->St->Prop}{o:Oper}
def callOf(op:Op):Option (Operand×List Operand):=
 match op with
 | .call c=>match c.callee with
  | .value f=>some (f,c.args.toList)
  |_=>none
 |_=>none
theorem PI{op:Op}{f:Operand}{l:List Operand}(h:callOf op=some (f,l)):∃c:Call,op= .call c/\c.callee= .value f/\c.args.toList=l:=by
 unfold callOf at h;split at h
 .rename_i c;split at h
  .rename_i g hg;cases h;exact⟨c,rfl,hg,rfl⟩
  .cases h
 .cases h
def Cp(env:yr)(op:Op):Option (Nat×yq):=
 match callOf op with
 |some (f,l)=>match Eo env f,KH env l with
  |some (.fn (.func g) first cap),some xs=>match first,cap with
   |[],[]=>some (g,xs)
   |_,_=>some (g,first++xs++cap)
  |_,_=>none
 |none=>none
variable {g:Nat}{xs:yq}
theorem Lu{env:yr}{op:Op}(h:Cp env op=some (g,xs)):∃c f first ys cap,op= .call c/\c.callee= .value f/\Eo env f=some (.fn (.func g) first cap)/\KH env c.args.toList=some ys/\first++ys++cap=xs:=by
 unfold Cp at h;split at h
 .rename_i f l hcl;obtain⟨c,ho,hc,rfl⟩:=PI hcl;split at h
  .rename_i g' first cap ys hf hxs
   refine⟨c,f,first,ys,cap,ho,hc,?_,hxs,?_⟩<;>(split at h<;>cases h<;>first|exact hf|simp)
  .cases h
 .cases h
theorem pm{R:AV->yz->Prop}(hg:AX ops S.env o=some true)(h:Cp S.env o.op=some (g,xs))(hd:Au o.dst S.n=true)(hT:JO P g xs S.H R)(k:∀r H',R r H'->Wl P ro ops (i+1) rest ⟨Bm o.dst r S.env,H',S.n⟩ Q):Wl P ro ops i (o::rest) S Q:=by
 obtain⟨c,f,first,ys,cap,ho,hc,hf,hxs,rfl⟩:=Lu h;exact js ho hc hg hf hxs hd hT k
theorem wX{ds:yo}{r:D}(hg:AX ops S.env o=some true)(h:Cp S.env o.op=some (g,xs))(hd:Au o.dst S.n=true)(hF:Fn P g ds r)(hx:RQ xs ds)(k:Wl P ro ops (i+1) rest ⟨Bm o.dst (.d r) S.env,S.H,S.n⟩ Q):Wl P ro ops i (o::rest) S Q:=
 pm hg h hd (hF.vt hx S.H) fun x H' ⟨h1,h2⟩=>by subst h1;subst h2;exact k
end
inductive Tr where
 |l
 |n (a:Tr) (k:Nat) (v:Bd) (b:Tr)
def Tr.get:Tr->Nat->Option Bd
 | .l,_=>none
 | .n a k v b,t=>match Nat.beq t k with
  |true=>some v
  |false=>match Nat.blt t k with
   |true=>a.get t
   |false=>b.get t
def Tr.vq:Tr->List (Nat×Bd)
 | .l=>[]
 | .n a k v b=>a.vq++(k,v)::b.vq
theorem Tr.get_mem:∀{T:Tr}{t:Nat}{v:Bd},T.get t=some v->(t,v)∈T.vq
 | .l,t,v,h=>by simp[Tr.get]at h
 | .n a k u b,t,v,h=>by
  simp only[Tr.get]at h;simp only[Tr.vq,q04,q0C];split at h
  .rename_i hb;cases h;have:=zH hb;subst this;exact .inr (.inl rfl)
  .split at h
   .exact .inl (Tr.get_mem h)
   .exact .inr (.inr (Tr.get_mem h))
theorem Tr.ok{P:Program}{T:Tr}(h:T.vq.map (fun p=>Gp P p.1)=T.vq.map fun p=>some p.2):CV P T.get:=by
 intro t i hi;have hm:=Tr.get_mem hi;obtain⟨k,hk,he⟩:=q0d.1 hm;have:=congrArg (·[k]?) h;simp only[q03,yj hk,Option.map_some,yh]at this;rw[he]at this;exact this
end Go.Gar
namespace Go.Gar
section
variable {P:Program}{ro:yW}{ops:ya}{S:St}{Q:Exit->St->Prop}{o:Oper}{E:Nat->Option Bd}
def Rh(P:Program)(ro:yW)(o:Oper)(S:St)(x:AV)(H':yz):Prop:=
 ∀N G a w (K:Act->World->Prop)(R:Exit->Act->World->Prop),Rel ro N S G a w->
  (∀v w' G',RV G' x v->G'.H=H'->B9 G' w'->D4 G w G' w'->K (a.put o.dst v) w')->o.wpIn (Kv (rl G ro)) 0 P a w K R
variable {x:AV}{H':yz}
theorem Es.step(hop:Es P o S x H')(hnd:∀c,o.op≠ .defer c):Rh P ro o S x H':=by
 intro N G a w K R r hK;obtain⟨res,w',G',h1,h2,h3,h4,h5⟩:=hop ro N G a w r;refine⟨fun _ _=>trivial,?_⟩;rw[q1K _ _ _ hnd,h1];rcases h2 with⟨rfl,rfl⟩|⟨v,rfl,hv⟩
 .exact hK undef w' G' (by simp[RV]) h3 h4 h5
 .exact hK v w' G' hv h3 h4 h5
theorem fO{c:Call}{fo:Operand}{g:FuncId}{first cap xs:yq}(ho:o.op= .call c)(hc:c.callee= .value fo)(hf:Eo S.env fo=some (.fn (.func g) first cap))(hxs:KH S.env c.args.toList=some xs)(hT:JO P g (first++xs++cap) S.H fun y H=>y=x/\H=H'):Rh P ro o S x H':=by
 intro N G a w K R r hK;refine⟨fun _ _=>trivial,?_⟩;have hfv:=B2 r.rel.st r.env hf;simp only[RV]at hfv;obtain⟨p,q,hfv,hp,hq⟩:=hfv;have hrun:=La (P:=P) (f:=g) hc hfv hT.1 ho w;rw[q1K _ _ _ (fun c e=>by rw[ho]at e;cases e),hrun];simp only[Oper.uponIn];refine⟨Gl _,?_⟩;have hargs:=Qj hp (E6 r.rel.st r.env hxs) hq;have hcall:=hT.2 G w _ r.heap r.rel hargs;have hcall':CallsIn (Kv (rl G ro)) 0 P g (p.toArray++c.args.map a.eval++q.toArray) w _:=hcall;refine hcall'.mono ?_;rintro e w' ⟨v,y,G',rfl,⟨rfl,hH⟩,hv,hr',hfr⟩;exact hK v w' G' hv hH hr' hfr
theorem jj{g:Nat}{xs:yq}(h:Cp S.env o.op=some (g,xs))(hT:JO P g xs S.H fun y H=>y=x/\H=H'):Rh P ro o S x H':=by
 obtain⟨c,f,first,ys,cap,ho,hc,hf,hxs,rfl⟩:=Lu h;exact fO ho hc hf hxs hT
def P4:Operand->BK
 | .tmp t=>[t]
 |_=>[]
def mS:List Operand->BK
 |[]=>[]
 |x::r=>P4 x++mS r
def xx:Option Operand->BK
 |some x=>P4 x
 |none=>[]
def mR:Op->BK
 | .move x| .assign x| .box _ x| .load _ x| .nilCheck x| .unOp _ _ x| .convert _ _ x| .sliceToArrayPointer _ x| .makeInterface _ x
 | .makeChan _ x| .fieldAddr _ x _| .field _ x _| .range _ x| .next x _| .entry x| .typeAssert x _ _ _| .extract x _| .panic x| .recv _ x _=>P4 x
 | .pick c a b=>P4 c++P4 a++P4 b
 | .build _ ps| .buildSlice _ _ ps=>mS (ps.toList.map (·.2))
 | .store _ a v| .binOp _ _ a v _| .makeSlice _ a v| .indexAddr _ a v| .index _ a v| .lookup _ a v _| .mapEntry _ a v| .send a v=>P4 a++P4 v
 | .makeFunc _ first captured=>mS first.toList++mS captured.toList
 | .makeMap _ r=>xx r
 | .slice _ x l h m=>P4 x++xx l++xx h++xx m
 | .mapUpdate _ m k v| .entryStore _ m k v| .insert _ m k v=>P4 m++P4 k++P4 v
 | .call c=>(match c.callee with| .value f=>P4 f| .invoke r _=>P4 r| .builtin _=>[])++mS c.args.toList
 |_=>[]
def ZZ(ops:ya)(o:Oper):BK:=
 match o.guard with
 |some (j,_)=>match ops.toList[j]? with
  |some p=>match p.dst with
   |some d=>[d]
   |none=>[]
  |none=>[]
 |none=>[]
def looks(ops:ya)(o:Oper):BK:=ZZ ops o++mR o.op
def FO:BK->yr->yr
 |[],_=>[]
 |t::r,env=>match get env t with
  |some x=>(t,x)::FO r env
  |none=>FO r env
theorem KO:∀{l:BK}{env:yr}{t:Nat}{x:AV},get (FO l env) t=some x->t∈l/\get env t=some x
 |[],env,t,x,h=>by simp[FO,get]at h
 |s::r,env,t,x,h=>by
  simp only[FO]at h;split at h
  .rename_i y hy;simp only[get]at h;split at h
   .rename_i hb;have:=zH hb;subst this;cases h;exact⟨sm,hy⟩
   .obtain⟨h1,h2⟩:=KO h;exact⟨by simp[h1],h2⟩
  .obtain⟨h1,h2⟩:=KO h;exact⟨by simp[h1],h2⟩
inductive Kd where
 |skip|any|quiet|eff
 |pan (ch:ym)
 |dead
 |ext (h:yz)
def Kd.QK:Kd->Bool
 | .eff| .pan _| .ext _=>true
 |_=>false
def ji(P:Program)(ro:yW)(o:Oper)(S:St)(ch:ym)(H':yz):Prop:=
 ∀N G a w (K:Act->World->Prop)(R:Exit->Act->World->Prop),Rel ro N S G a w->
  (∀w' G',G'.H=H'->B9 G' w'->D4 G w G' w'->R (.panic ch) a w')->o.wpIn (Kv (rl G ro)) 0 P a w K R
structure Rc where
 e:yr
 h:yz
 x:AV
 k:Kd
def Rc.ok(P:Program)(ro:yW)(E:Nat->Option Bd)(ops:ya)(n:Nat)(o:Oper)(r:Rc)(h':yz):Prop:=
 Au o.dst n=true/\
 match r.k with
 | .skip=>AX ops r.e o=some false/\r.x= .d (.tup [])/\h'=r.h
 | .any=>AX ops r.e o=some true/\(∀H,Rh P ro o ⟨r.e,H,n⟩ r.x H)/\h'=r.h
 | .quiet=>AX ops r.e o=some true/\(∃c,PQ E r.e r.h o.op=some (c,r.x)/\c=true)/\h'=r.h
 | .eff=>AX ops r.e o=some true/\Rh P ro o ⟨r.e,r.h,n⟩ r.x h'
 | .pan ch=>AX ops r.e o=some true/\ji P ro o ⟨r.e,r.h,n⟩ ch h'
 | .dead=>h'=r.h
 | .ext h=>AX ops r.e o=some true/\h'=h
inductive Run (P:Program) (ro:yW) (E:Nat->Option Bd) (ops:ya) (S0:St):List Rc->St->Prop
 |nil:Run P ro E ops S0 [] S0
 |snoc {acc:List Rc} {S:St} {o:Oper} {r:Rc} {h':yz} (ht:Run P ro E ops S0 acc S) (ho:ops.toList[acc.length]? =some o) (he:∀t x,get r.e t=some x->t∈looks ops o/\get S.env t=some x) (hh:r.h=S.H)
  (hok:r.ok P ro E ops S.n o h'):Run P ro E ops S0 (r::acc) ⟨Bm o.dst r.x S.env,h',S.n⟩
theorem Run.trace{S0:St}{acc:List Rc}{S:St}(h:Run P ro E ops S0 acc S):∃s:Nat->St,s 0=S0/\s acc.length=S/\∀i,i<acc.length->∃o r,ops.toList[i]? =some o/\acc.reverse[i]? =some r/\
  (∀t x,get r.e t=some x->t∈looks ops o/\get (s i).env t=some x)/\r.h=(s i).H/\(s i).n=S0.n/\(s (i+1)).env=Bm o.dst r.x (s i).env/\(s (i+1)).n=S0.n/\r.ok P ro E ops S0.n o (s (i+1)).H:=by
 induction h with
 |nil=>exact⟨fun _=>S0,rfl,rfl,fun i h=>by simp at h⟩
 | @snoc acc S o r h' ht ho he hh hok ih=>
  obtain⟨s,h0,h1,h2⟩:=ih
  have hn:S.n=S0.n:=by
   cases hl:acc.length with
   |zero=>rw[hl]at h1;rw[<-h1,h0]
   |succ k=>
    obtain⟨_,_,_,_,_,_,_,_,h3,_⟩:=h2 k om;rw[<-h1,hl,h3]
  refine⟨fun i=>if i<=acc.length then s i else⟨Bm o.dst r.x S.env,h',S.n⟩,by simp[h0],by show(if acc.length+1<=acc.length then _ else _)=_;rw[zO om],fun i hi=> ?_⟩;rcases q0A i acc.length with hlt|hge
  .obtain⟨o',r',k1,k2,k3,k4,k5,k6,k7,k8⟩:=h2 i hlt;refine⟨o',r',k1,?_,?_⟩
   .rw[List.reverse_cons,zW (by simpa using hlt)];exact k2
   .have e1:i<=acc.length:=om
    have e2:i+1<=acc.length:=hlt;simp only[e1,e2,zx];exact⟨k3,k4,k5,k6,k7,k8⟩
  .have:i=acc.length:=by simp at hi;omega
   subst this;refine⟨o,r,ho,by rw[List.reverse_cons,zl sm];simp,?_⟩;have e2:¬(acc.length+1<=acc.length):=om
   simp only[yV,zx,e2,zo,h1];exact⟨he,hh,hn,trivial,hn,hn▸hok⟩
def U8(acc:BK):List Edge->Nat
 |[]=>0
 |e::r=>if Region.binds .any e then Nat.lor (Nat.lor (2^e.on) (acc.getD e.on 0)) (U8 acc r)else U8 acc r
def Qa:yb->BK->BK
 |[],acc=>acc
 |o::l,acc=>Qa l (acc++[U8 acc o.after.toList])
def UU(ops:ya)(i:Nat):Nat:=(Qa ops.toList []).getD i 0
theorem XY:∀(l:yb)(acc:BK),(Qa l acc).length=acc.length+l.length/\(∀i,i<acc.length->(Qa l acc)[i]? =acc[i]?)/\
  ∀i o,l[i]? =some o->(Qa l acc)[acc.length+i]? =some (U8 ((Qa l acc).take (acc.length+i)) o.after.toList)
 |[],acc=>⟨by simp[Qa],fun i _=>by simp[Qa],fun i o h=>by simp at h⟩
 |o::l,acc=>by
  obtain⟨h1,h2,h3⟩:=XY l (acc++[U8 acc o.after.toList])
  have htake:(Qa l (acc++[U8 acc o.after.toList])).take acc.length=acc:=by
   apply List.ext_getElem?;intro i;rcases q0A i acc.length with hlt|hge
   .rw[List.getElem?_take_of_lt hlt,h2 i (by simp;omega),zW hlt]
   .rw[q0R (by simp;omega),q0R hge]
  refine⟨by simp only[Qa,h1,yw,yu,zI];omega,fun i hi=> ?_,fun i p hp=> ?_⟩
  .simp only[Qa];rw[h2 i (by simp;omega),zW hi]
  .simp only[Qa]
   cases i with
   |zero=>
    simp at hp;subst hp;rw[q1B,htake,h2 _ sm,zl sm];simp
   |succ i=>
    have:=h3 i p (by simpa using hp);simp only[yw,yu,zI]at this;rw[show acc.length+(i+1)=acc.length+(0+1)+i by omega];exact this
theorem Rp{acc:BK}{j:Nat}:∀{l:List Edge},(U8 acc l).testBit j=true->∃e∈l,Region.binds .any e=true/\(e.on=j\/(acc.getD e.on 0).testBit j=true)
 |[],h=>by simp[U8]at h
 |e::r,h=>by
  simp only[U8]at h;split at h
  .rename_i hb;change (((2^e.on|||acc.getD e.on 0)|||U8 acc r)).testBit j=true at h;rw[Nat.testBit_or,Nat.testBit_or,Nat.testBit_two_pow]at h;simp only[q0G,yc]at h;rcases h with(h|h)|h
   .exact⟨e,sm,hb,.inl h⟩
   .exact⟨e,sm,hb,.inr h⟩
   .obtain⟨e',h1,h2⟩:=Rp h;exact⟨e',by simp[h1],h2⟩
  .obtain⟨e',h1,h2⟩:=Rp h;exact⟨e',by simp[h1],h2⟩
theorem dB{i j:Nat}{o:Oper}(ho:ops.toList[i]? =some o)(h:(UU ops i).testBit j=true):∃e∈o.after.toList,Region.binds .any e=true/\(e.on=j\/e.on<i/\(UU ops e.on).testBit j=true):=by
 obtain⟨_,_,h3⟩:=XY ops.toList [];have h4:=h3 i o ho;simp only[zI,q0M]at h4;unfold UU at h;rw[zJ,h4,q1T]at h;obtain⟨e,he,hb,hj⟩:=Rp h;refine⟨e,he,hb,hj.imp_right fun hj=> ?_⟩;rcases q0A e.on i with hlt|hge
 .refine⟨hlt,?_⟩;rw[zJ,List.getElem?_take_of_lt hlt]at hj;unfold UU;rw[zJ];exact hj
 .rw[zJ,q0R (by simp;omega)]at hj;simp at hj
def XU:Nat->(Nat->Bool)->Bool
 |0,_=>true
 |n+1,p=>p n&&XU n p
theorem I6{p:Nat->Bool}:∀{n:Nat},XU n p=true->∀i,i<n->p i=true
 |0,_,i,h=>by omega
 |n+1,h,i,hi=>by
  simp only[XU,yU]at h;rcases q0A i n with hlt|hge
  .exact I6 h.2 i hlt
  .have:i=n:=om
   subst this;exact h.1
def kD:Nat->(Nat->Bool)->Bool
 |0,_=>false
 |n+1,p=>p n||kD n p
theorem UV{p:Nat->Bool}:∀{n:Nat},kD n p=true->∃i,i<n/\p i=true
 |0,h=>by simp[kD]at h
 |n+1,h=>by
  simp only[kD,q0G]at h;rcases h with h|h
  .exact⟨n,om,h⟩
  .obtain⟨i,h1,h2⟩:=UV h;exact⟨i,om,h2⟩
def da:Option Kd->Bool
 |some k=>k.QK
 |none=>false
def m8:Option Kd->Bool
 |some (.pan _)=>true
 |_=>false
def m7:Option Kd->Bool
 |some .dead=>true
 |_=>false
def mh(ks:List Kd):Bool:=ks.all fun k=>match k with
 | .pan _| .dead| .ext _=>false
 |_=>true
def dc:Option Kd->Bool
 |some .quiet=>true
 |_=>false
def Ua(ops:ya)(j t:Nat):Bool:=
 match ops.toList[j]? with
 |some o=>match o.dst with
  |some d=>Nat.beq d t
  |none=>false
 |none=>false
def OB(i k:Nat):y4->Bool
 |[]=>false
 |p::r=>(Nat.beq p.1 i&&Nat.beq p.2 k)||OB i k r
def It(ops:ya)(ks:List Kd)(l:y4):Bool:=
 Nat.beq ks.length ops.toList.length&&
 XU ops.toList.length fun i=>match ops.toList[i]? with
  |none=>false
  |some o=>
   (o.after.toList.all fun e=> !Region.binds .any e||Nat.blt e.on i)&&
   ((looks ops o).all fun t=>XU ops.toList.length fun j=> !Ua ops j t||Nat.beq j i||(UU ops i).testBit j||(UU ops j).testBit i)&&
   (match o.dst with
    |some d=>XU ops.toList.length fun j=>Nat.beq j i|| !Ua ops j d
    |none=>true)&&
   (!da ks[i]? ||XU i fun j=> !da ks[j]? ||(UU ops i).testBit j)&&
   (!dc ks[i]? ||XU ops.toList.length fun k=> !da ks[k]? ||(Nat.blt k i&&(UU ops i).testBit k)||(Nat.blt i k&&(UU ops k).testBit i)||OB i k l)&&
   (!m7 ks[i]? ||kD ops.toList.length fun j=>m8 ks[j]? &&(UU ops i).testBit j)
def L9(ops:ya)(ks:List Kd)(l:y4):Bool:=mh ks&&It ops ks l
def hAt(rs:List Rc)(Hf:yz)(i:Nat):yz:=
 match rs[i]? with
 |some r=>r.h
 |none=>Hf
def EE(E:Nat->Option Bd)(ops:ya)(rs:List Rc)(Hf:yz):y4->Prop
 |[]=>True
 |p::l=>(match ops.toList[p.1]?,rs[p.1]? with
  |some o,some r=>∃c,PQ E r.e (hAt rs Hf (if Nat.blt p.2 p.1 then p.2 else p.2+1)) o.op=some (c,r.x)/\c=true
  |_,_=>False)/\EE E ops rs Hf l
theorem SR{rs:List Rc}{Hf:yz}{i k:Nat}{o:Oper}{r:Rc}(ho:ops.toList[i]? =some o)(hr:rs[i]? =some r):∀{l:y4},EE E ops rs Hf l->OB i k l=true->
  ∃c,PQ E r.e (hAt rs Hf (if Nat.blt k i then k else k+1)) o.op=some (c,r.x)/\c=true
 |[],_,h=>by simp[OB]at h
 |p::l,hx,h=>by
  simp only[EE]at hx;simp only[OB,q0G,yU]at h;rcases h with⟨h1,h2⟩|h
  .have h1:=zH h1;have h2:=zH h2;obtain⟨p1,p2⟩:=p;simp only at h1 h2;subst h1;subst h2;simp only[ho,hr]at hx;exact hx.1
  .exact SR ho hr hx.2 h
end
end Go.Gar
namespace Go.Gar
section
variable {P:Program}{ro:yW}{ops:ya}{S0 S:St}{Q:Exit->St->Prop}{E:Nat->Option Bd}
structure Plan (P:Program) (ro:yW) (E:Nat->Option Bd) (ops:ya) (S0 S:St) (s:Nat->St) (r:Nat->Rc):Prop where
 s0:s 0=S0
 sn:s ops.size=S
 e:∀(i:Nat)(o:Oper),ops[i]? =some o->∀t x,get (r i).e t=some x->t∈looks ops o/\get (s i).env t=some x
 h:∀i,i<ops.size->(r i).h=(s i).H
 env:∀(i:Nat)(o:Oper),ops[i]? =some o->(s (i+1)).env=Bm o.dst (r i).x (s i).env
 n:∀i,i<=ops.size->(s i).n=S0.n
 ok:∀(i:Nat)(o:Oper),ops[i]? =some o->(r i).ok P ro E ops S0.n o (s (i+1)).H
 back:∀(i:Nat)(o:Oper),ops[i]? =some o->∀e∈o.after,Region.binds .any e=true->e.on<i
 look:∀(i:Nat)(o:Oper),ops[i]? =some o->∀t∈looks ops o,∀(j:Nat)(p:Oper),ops[j]? =some p->p.dst=some t->j=i\/(UU ops i).testBit j=true\/(UU ops j).testBit i=true
 uniq:∀(i j:Nat)(o p:Oper)(d:Nat),ops[i]? =some o->ops[j]? =some p->o.dst=some d->p.dst=some d->i=j
 effs:∀i j,i<ops.size->j<i->(r i).k.QK=true->(r j).k.QK=true->(UU ops i).testBit j=true
 quiet:∀(i k:Nat)(o:Oper),ops[i]? =some o->k<ops.size->(r i).k= .quiet->(r k).k.QK=true->(k<i/\(UU ops i).testBit k=true)\/(i<k/\(UU ops k).testBit i=true)\/
  ∃c,PQ E (r i).e (if k<i then(s k).H else(s (k+1)).H) o.op=some (c,(r i).x)/\c=true
 dead:∀i,i<ops.size->(r i).k= .dead->∃j ch,(r j).k= .pan ch/\(UU ops i).testBit j=true
variable {s:Nat->St}{r:Nat->Rc}
theorem Plan.kC(p:Plan P ro E ops S0 S s r):∀{i j:Nat},i<ops.size->(UU ops i).testBit j=true->j<i:=by
 intro i
 induction i using Nat.strongRecOn with
 |_ i ih=>
  intro j hi h;have ho:ops.toList[i]? =some ops[i]:=by simp[hi]
  obtain⟨e,he,hb,hj⟩:=dB ho h;have hlt:=p.back i ops[i] (by simp[hi]) e (by simpa using he) hb;rcases hj with rfl|⟨_,hj⟩
  .exact hlt
  .have:=ih e.on hlt om hj;omega
variable {i:Nat}
theorem Plan.Fs(p:Plan P ro E ops S0 S s r):∀{j:Nat},i<=j->j<=ops.size->(∀k,i<=k->k<j->(r k).k.QK≠true)->(s i).H=(s j).H:=by
 intro j
 induction j with
 |zero=>intro hi _ _;have:i=0:=om
        subst this;rfl
 |succ j ih=>
  intro hi hj hk;rcases q0A j i with hlt|hge
  .have:i=j+1:=om
   subst this;rfl
  .rw[ih hge om fun k h1 h2=>hk k h1 om];have hok:=p.ok j ops[j] sm;have hne:=hk j hge om;have hh:=p.h j om;obtain⟨_,hok⟩:=hok
   cases hkd:(r j).k with
   |skip|any|quiet=>rw[hkd]at hok;rw[hok.2.2,hh]
   |eff|pan ch|ext h=>exact absurd (by rw[hkd];rfl) hne
   |dead=>rw[hkd]at hok;rw[hok,hh]
theorem Plan.dK(p:Plan P ro E ops S0 S s r){t:Nat}{x:AV}:∀{i:Nat},i<=ops.size->get (s i).env t=some x->
  (∃(j:Nat)(o:Oper),j<i/\ops[j]? =some o/\o.dst=some t/\x=(r j).x)\/(get S0.env t=some x/\∀(j:Nat)(o:Oper),j<i->ops[j]? =some o->o.dst≠some t):=by
 intro i
 induction i with
 |zero=>intro _ h;rw[p.s0]at h;exact .inr ⟨h,fun j o hj=>om⟩
 |succ i ih=>
  intro hi h;have ho:ops[i]? =some ops[i]:=by simp
  rw[p.env i _ ho]at h
  have rec_:get (s i).env t=some x->ops[i].dst≠some t->(∃(j:Nat)(o:Oper),j<i+1/\ops[j]? =some o/\o.dst=some t/\x=(r j).x)\/(get S0.env t=some x/\∀(j:Nat)(o:Oper),j<i+1->ops[j]? =some o->o.dst≠some t):=by
   intro h hne;rcases ih om h with⟨j,o,h1,h2,h3,h4⟩|⟨h1,h2⟩
   .exact q0w ⟨j,o,om,h2,h3,h4⟩
   .refine q0D ⟨h1,fun j o hj hjo=> ?_⟩;rcases q0A j i with hlt|hge
    .exact h2 j o hlt hjo
    .have:j=i:=om
     subst this;rw[ho]at hjo;cases hjo;exact hne
  cases hd:ops[i].dst with
  |none=>
   rw[hd]at h;exact rec_ h (by rw[hd];simp)
  |some d=>
   rw[hd]at h;simp only[Bm,get]at h;split at h
   .rename_i hb;cases h;have:=zH hb;subst this;exact .inl ⟨i,_,om,ho,hd,rfl⟩
   .rename_i hb;exact rec_ h (by rw[hd];intro e;cases e;simp at hb)
structure Fl (ro:yW) (ops:ya) (S0:St) (s:Nat->St) (r:Nat->Rc) (N:NB) (listed:yn) (p:Nat) (G:Gh) (a:Act) (w:World):Prop where
 size:listed.size=ops.size
 closed:∀(i:Nat)(o:Oper),ops[i]? =some o->listed[i]? =some true->∀e∈o.after,Region.binds .any e=true->listed[e.on]? =some true
 le:p<=ops.size
 eff:∀k,k<ops.size->(r k).k.QK=true->(listed[k]? =some true↔k<p)
 nopan:∀k ch,(r k).k= .pan ch->listed[k]?≠some true
 rel:Rel ro N ⟨[],(s p).H,S0.n⟩ G a w
 env1:∀(j:Nat)(o:Oper)(t:Nat),ops[j]? =some o->o.dst=some t->listed[j]? =some true->∃v,a.tmps[t]? =some v/\RV G (r j).x v
 env0:∀t x,get S0.env t=some x->(∀(j:Nat)(o:Oper),ops[j]? =some o->o.dst=some t->listed[j]?≠some true)->∃v,a.tmps[t]? =some v/\RV G x v
variable {N:NB}{p:Nat}{listed:yn}{G:Gh}{a:Act}{w:World}
theorem Fl.up(st:Fl ro ops S0 s r N listed p G a w)(pl:Plan P ro E ops S0 S s r):∀{i:Nat}{o:Oper},ops[i]? =some o->(∀e∈o.after,Region.binds .any e=true->listed[e.on]? =some true)->
  ∀{j:Nat},(UU ops i).testBit j=true->listed[j]? =some true:=by
 intro i
 induction i using Nat.strongRecOn with
 |_ i ih=>
  intro o ho hall j hj;obtain⟨e,he,hb,hj⟩:=dB (i:=i) (by simpa using ho) hj;have hle:=hall e (by simpa using he) hb;rcases hj with rfl|⟨hlt,hj⟩
  .exact hle
  .have hlt':e.on<ops.size:=by have:=(zZ.1 ho).1;omega
   exact ih e.on hlt (o:=ops[e.on]) (by simp[hlt']) (st.closed _ _ (by simp[hlt']) hle) hj
theorem Fl.look(st:Fl ro ops S0 s r N listed p G a w)(pl:Plan P ro E ops S0 S s r){o:Oper}(ho:ops[i]? =some o)(hun:listed[i]?≠some true)(hall:∀e∈o.after,Region.binds .any e=true->listed[e.on]? =some true):
  IH G (r i).e a.tmps:=by
 have hi:i<ops.size:=(zZ.1 ho).1;intro t x hx;obtain⟨hl,hx⟩:=pl.e i o ho t x hx;rcases pl.dK (Nat.le_of_lt hi) hx with⟨j,q,hlt,hq,hd,rfl⟩|⟨h0,hno⟩
 .refine st.env1 j q t hq hd ?_;rcases pl.look i o ho t hl j q hq hd with rfl|h|h
  .omega
  .exact st.up pl ho hall h
  .have:=pl.kC om h;omega
 .refine st.env0 t x h0 fun j q hq hd hlj=> ?_;have hj:j<ops.size:=(zZ.1 hq).1
  rcases q0A j i with hlt|hge
  .exact hno j q hlt hq hd
  .rcases pl.look i o ho t hl j q hq hd with rfl|h|h
   .exact hun hlj
   .have:=pl.kC hi h;omega
   .exact hun (st.up pl hq (st.closed j q hq hlj) h)
theorem Dk(hs:listed.size=ops.size):i∈Region.ready .any ops listed↔listed[i]? =some false/\∃o,ops[i]? =some o/\∀e∈o.after,Region.binds .any e=true->listed[e.on]? =some true:=by
 rw[mem_ready]
 have h1:listed.getD i true=false↔listed[i]? =some false:=by
  rw[Array.getD_eq_getD_getElem?];cases listed[i]? <;>simp
 have h2:∀k,listed.getD k false=true↔listed[k]? =some true:=fun k=>by
  rw[Array.getD_eq_getD_getElem?];cases listed[k]? <;>simp
 simp only[h1,h2]
theorem Zk(pl:Plan P ro E ops S0 S s r)(hs:listed.size=ops.size)(h:Region.ready .any ops listed=[]):∀i,i<ops.size->listed[i]? =some true:=by
 intro i
 induction i using Nat.strongRecOn with
 |_ i ih=>
  intro hi;have ho:ops[i]? =some ops[i]:=by simp
  cases hl:listed[i]? with
  |none=>simp at hl;omega
  |some b=>
   cases b with
   |true=>rfl
   |false=>
    have:i∈Region.ready .any ops listed:=(Dk hs).2 ⟨hl,_,ho,fun e he hb=>by
     have:=pl.back i _ ho e he hb
     exact ih e.on this om⟩
    rw[h]at this;cases this
theorem Fl.ub(st:Fl ro ops S0 s r N listed p G a w)(pl:Plan P ro E ops S0 S s r){o:Oper}(ho:ops[i]? =some o)(hun:listed[i]?≠some true)(hall:∀e∈o.after,Region.binds .any e=true->listed[e.on]? =some true):
  ((r i).k.QK=true->(s p).H=(s i).H)/\((r i).k= .quiet->∃c,PQ E (r i).e (s p).H o.op=some (c,(r i).x)/\c=true):=by
 have hi:i<ops.size:=(zZ.1 ho).1;constructor
 .intro hk
  have hpi:p<=i:=by
   rcases q0A i p with h|h
   .exact absurd ((st.eff i hi hk).2 h) hun
   .exact h
  refine pl.Fs hpi (Nat.le_of_lt hi) fun k h1 h2 h3=> ?_;have:=(st.eff k om h3).1 (st.up pl ho hall (pl.effs i k hi h2 hk h3))
  omega
 .intro hk
  have hbase:∃c,PQ E (r i).e (s i).H o.op=some (c,(r i).x)/\c=true:=by
   have:=(pl.ok i o ho).2;rw[hk]at this;rw[<-pl.h i hi];exact this.2.1
  rcases q0A i p with hlt|hge
  ·
   by_cases hex:∃k,i<k/\k<p/\(r k).k.QK=true/\∀q,k<q->q<p->(r q).k.QK≠true
   .obtain⟨k,h1,h2,h3,h4⟩:=hex;have hkl:=(st.eff k (by have:=st.le;omega) h3).2 h2;rw[<-pl.Fs (i:=k+1) (j:=p) h2 st.le fun q a b=>h4 q a b];rcases pl.quiet i k o ho (by have:=st.le;omega) hk h3 with⟨h,_⟩|⟨_,h⟩|h
    .omega
    .have hkn:k<ops.size:=by have:=st.le;omega
     exact absurd (st.up pl (o:=ops[k]) (by simp[hkn]) (st.closed k _ (by simp[hkn]) hkl) h) hun
    .rw[zO om]at h;exact h
   .have hno:∀d q,q+d=p->i<q->(r q).k.QK≠true\/p<=q:=by
     intro d
     induction d using Nat.strongRecOn with
     |_ d ih=>
      intro q hq hiq;rcases q0x d with h0|hpos
      .right;omega
      .left;intro hkq;refine hex ⟨q,hiq,om,hkq,fun q' h1 h2=> ?_⟩;rcases ih (p-q') om q' om om with h|h
       .exact h
       .omega
    rw[<-pl.Fs (i:=i) (j:=p) (Nat.le_of_lt hlt) st.le fun k h1 h2=> ?_]
    .exact hbase
    .rcases Nat.eq_or_lt_of_le h1 with rfl|h1
     .rw[hk];decide
     .rcases hno (p-k) k om h1 with h|h
      .exact h
      .omega
  ·
   by_cases hex:∃k,p<=k/\k<i/\(r k).k.QK=true/\∀q,p<=q->q<k->(r q).k.QK≠true
   .obtain⟨k,h1,h2,h3,h4⟩:=hex;have hkl:listed[k]?≠some true:=fun h=>by have:=(st.eff k om h3).1 h;omega
    rw[pl.Fs (i:=p) (j:=k) h1 om h4];rcases pl.quiet i k o ho om hk h3 with⟨_,h⟩|⟨h,_⟩|h
    .exact absurd (st.up pl ho hall h) hkl
    .omega
    .rw[zN h2]at h;exact h
   .have hno:∀q,p<=q->q<i->(r q).k.QK≠true:=by
     intro q
     induction q using Nat.strongRecOn with
     |_ q ih=>
      intro h1 h2 h3;exact hex ⟨q,h1,h2,h3,fun q' a b=>ih q' b a om⟩
    rw[pl.Fs (i:=p) (j:=i) hge (Nat.le_of_lt hi) hno];exact hbase
end
end Go.Gar
namespace Go.Gar
section
variable {P:Program}{ro:yW}{ops:ya}{S0 S:St}{Q:Exit->St->Prop}{E:Nat->Option Bd}{s:Nat->St}{r:Nat->Rc}
variable {N:NB}{p:Nat}{listed:yn}{G:Gh}{a:Act}{w:World}
theorem GV{i k:Nat}(hi:i<listed.size):(listed.setIfInBounds i true)[k]? =some true↔k=i\/listed[k]? =some true:=by
 by_cases h:i=k
 .subst h;rw[q0K hi];simp
 .rw[q0P h];simp[Ne.symm h]
variable {o:Oper}{v:Value}
theorem eM{t:Nat}(h:o.dst≠some t):(a.put o.dst v).tmps[t]? =a.tmps[t]?:=by
 cases hd:o.dst with
 |none=>rfl
 |some d=>
  rw[hd]at h;simp only[Act.put];rw[q0P fun e=>h (by rw[e])]
theorem Yu:(a.put o.dst v).defers=a.defers:=by
 cases hd:o.dst<;>rfl
theorem nO:(a.put o.dst v).tmps.size=a.tmps.size:=by
 cases hd:o.dst<;>simp[Act.put]
theorem Fl.next(st:Fl ro ops S0 s r N listed p G a w)(pl:Plan P ro E ops S0 S s r){i:Nat}(ho:ops[i]? =some o)(hun:listed[i]? =some false)(hall:∀e∈o.after,Region.binds .any e=true->listed[e.on]? =some true)(hnp:∀ch,(r i).k≠ .pan ch){p':Nat}(hp:p'<=ops.size/\((r i).k.QK=true->p'=i+1)/\((r i).k.QK≠true->p'=p)){G':Gh}{w':World}(hv:RV G' (r i).x v)(hH:G'.H=(s p').H)(hr:B9 G' w')(hfr:D4 G w G' w'):Fl ro ops S0 s r N (listed.setIfInBounds i true) p' G' (a.put o.dst v) w':=by
 have hi:i<ops.size:=(zZ.1 ho).1;have hil:i<listed.size:=by rw[st.size];exact hi
 have hd:=(pl.ok i o ho).1;refine⟨by simp[st.size],fun k q hq hk e he hb=> ?_,hp.1,fun k hk hkk=> ?_,fun k ch hkc=> ?_,?_,fun j q t hq hqd hj=> ?_,fun t x hx hno=> ?_⟩
 .rw[GV hil]at hk|-;rcases hk with rfl|hk
  .rw[ho]at hq;cases hq;exact .inr (hall e he hb)
  .exact .inr (st.closed k q hq hk e he hb)
 .rw[GV hil]
  by_cases hie:(r i).k.QK=true
  .rw[hp.2.1 hie];constructor
   .rintro(rfl|h)
    .omega
    .have hkp:=(st.eff k hk hkk).1 h;rcases q0A i k with hlt|hge
     .have:=pl.effs k i hk hlt hkk hie;have hkl:=st.up pl (o:=ops[k]) (by simp[hk]) (st.closed k _ (by simp[hk]) h) this;rw[hun]at hkl;cases hkl
     .omega
   .intro h;rcases q0A k i with hlt|hge
    .exact .inr (st.up pl ho hall (pl.effs i k hi hlt hie hkk))
    .exact .inl om
  .rw[hp.2.2 hie,<-st.eff k hk hkk];constructor
   .rintro(rfl|h)
    .exact absurd hkk hie
    .exact h
   .exact .inr
 .rw[Ne,GV hil];rintro(rfl|h)
  .exact hnp ch hkc
  .exact st.nopan k ch hkc h
 .exact st.rel.step hfr hH hr rfl (by rw[nO];exact st.rel.size) (fun t x h=>by simp[get]at h) Yu
 .rw[GV hil]at hj
  by_cases hji:j=i
  .subst hji;rw[ho]at hq;cases hq;rw[hqd]at hd|-;simp only[Au,q0k]at hd;exact⟨v,by simp only[Act.put];exact q0K (by rw[st.rel.size];exact hd),hv⟩
  .obtain⟨u,hu,hru⟩:=st.env1 j q t hq hqd (hj.resolve_left hji);refine⟨u,?_,hru.mono hfr.gle⟩;rw[eM fun h=>hji (pl.uniq j i q o t hq ho hqd h)];exact hu
 .have hne:o.dst≠some t:=fun h=>hno i o ho h ((GV hil).2 (.inl rfl));obtain⟨u,hu,hru⟩:=st.env0 t x hx fun j q hq hqd hj=>hno j q hq hqd ((GV hil).2 (.inr hj))
  exact⟨u,by rw[eM hne];exact hu,hru.mono hfr.gle⟩
theorem Fl.run(pl:Plan P ro E ops S0 S s r)(hE:CV P E)(hQ:(∀i ch,i<ops.size->(r i).k≠ .pan ch)->Q .normal S)(hP:∀i ch,i<ops.size->(r i).k= .pan ch->Q (.panic ch) ⟨[],(s (i+1)).H,S0.n⟩){G0:Gh}{w0:World}(hrl:∀{G:Gh}{w:World}{H:yz}{a:Act},Rel ro N ⟨[],H,S0.n⟩ G a w->D4 G0 w0 G w->rl G ro=rl G0 ro)
  {X:Nat->Prop} (hX:∀(fuel:Nat)(listed:yn)(p:Nat)(G:Gh)(a:Act)(w:World)(i:Nat)(h:yz),listed.toList.countP (fun b=> !b)<=fuel+1->(∀j,X j->listed[j]? =some true)->Fl ro ops S0 s r N listed p G a w->D4 G0 w0 G w->i∈Region.ready .any ops listed->(r i).k= .ext h->
   wpOpIn (Kv (rl G0 ro)) 0 P ops (Post ro N G0 w0 Q) i (wpAnyIn (Kv (rl G0 ro)) 0 P .any ops (Post ro N G0 w0 Q) fuel (listed.setIfInBounds i true)) a w):
  ∀(fuel:Nat)(listed:yn)(p:Nat)(G:Gh)(a:Act)(w:World),(∀j,X j->listed[j]? =some true)->listed.toList.countP (fun b=> !b)<=fuel->
  Fl ro ops S0 s r N listed p G a w->D4 G0 w0 G w->wpAnyIn (Kv (rl G0 ro)) 0 P .any ops (Post ro N G0 w0 Q) fuel listed a w:=by
 intro fuel
 have done:∀(listed:yn)(p:Nat)(G:Gh)(a:Act)(w:World),Fl ro ops S0 s r N listed p G a w->D4 G0 w0 G w->(∀i,i<ops.size->listed[i]? =some true)->Post ro N G0 w0 Q .normal a w:=by
  intro listed p G a w st hf hall;refine⟨S,G,hQ (fun i ch hi hk=>st.nopan i ch hk (hall i hi)),⟨?_,st.rel.rel,?_,fun t x hx=> ?_,st.rel.marks,fun id hid=> ?_⟩,hf⟩
  .rw[<-pl.sn,<-pl.Fs st.le (yV _) fun k h1 h2 h3=> ?_]
   .exact st.rel.heap
   .have:=(st.eff k h2 h3).1 (hall k h2);omega
  .rw[<-pl.sn,pl.n _ (yV _)];exact st.rel.size
  .rw[<-pl.sn]at hx;rcases pl.dK (yV _) hx with⟨j,q,hlt,hq,hd,rfl⟩|⟨h0,hno⟩
   .exact st.env1 j q t hq hd (hall j hlt)
   .exact st.env0 t x h0 fun j q hq hd _=>hno j q (zZ.1 hq).1 hq hd
  .have:=st.rel.round id hid;simp only at this;rw[<-pl.sn,<-pl.Fs st.le (yV _) fun k h1 h2 h3=> ?_]
   .exact this
   .have:=(st.eff k h2 h3).1 (hall k h2);omega
 induction fuel with
 |zero=>
  intro listed p G a w _ hc st hf
  have hall:∀i,i<ops.size->listed[i]? =some true:=by
   intro i hi;have h0:listed.toList.countP (fun b=> !b)=0:=om
   rw[List.countP_eq_zero]at h0;have hil:i<listed.size:=by rw[st.size];exact hi
   have:=h0 listed[i] sm;rw[Array.getElem?_eq_getElem hil];simpa using this
  refine⟨?_,done listed p G a w st hf hall⟩
  cases hr:Region.ready .any ops listed with
  |nil=>rfl
  |cons i l=>
   have:i∈Region.ready .any ops listed:=by rw[hr];simp
   rw[Dk st.size]at this;obtain⟨h1,o,h2,_⟩:=this;rw[hall i (zZ.1 h2).1]at h1;cases h1
 |succ fuel ih=>
  intro listed p G a w hXl hc st hf;refine⟨fun hr=>done listed p G a w st hf (Zk pl st.size hr),fun i hi=> ?_⟩
  by_cases hext:∃h,(r i).k= .ext h
  .obtain⟨h,hext⟩:=hext;exact hX fuel listed p G a w i h hc hXl st hf hi hext
  obtain⟨hun,o,ho,hall⟩:=(Dk st.size).1 hi;have hun':listed[i]?≠some true:=by rw[hun];simp
  have hio:i<ops.size:=(zZ.1 ho).1;have hil:i<listed.size:=by rw[st.size];exact hio
  have hlook:=st.look pl ho hun' hall;have hheap:=st.ub pl ho hun' hall;have hok:=(pl.ok i o ho).2
  have hcount:(listed.setIfInBounds i true).toList.countP (fun b=> !b)<=fuel:=by
   have hl:listed.toList[i]'(by simpa using hil)=false:=by
    have:=zZ.1 hun;obtain⟨h,e⟩:=this;simpa using e
   have:(listed.setIfInBounds i true).toList=listed.toList.set i true:=by simp
   rw[this,List.countP_set (by simpa using hil),hl];simp only[Bool.not_false,zx,q1Y,q0F,zo];have hpos:0<listed.toList.countP (fun b=> !b):=List.countP_pos_iff.2 ⟨false,by rw[<-hl];exact q0a _,rfl⟩;have hc':List.countP (fun b=> !b) listed.toList<=fuel+1:=hc;omega
  have hrel:Rel ro N ⟨(r i).e,(s p).H,S0.n⟩ G a w:=⟨st.rel.heap,st.rel.rel,st.rel.size,hlook,st.rel.marks,st.rel.round⟩
  have cont:(∀ch,(r i).k≠ .pan ch)->∀p',p'<=ops.size/\((r i).k.QK=true->p'=i+1)/\((r i).k.QK≠true->p'=p)->∀v w' G',RV G' (r i).x v->G'.H=(s p').H->B9 G' w'->D4 G w G' w'->wpAnyIn (Kv (rl G0 ro)) 0 P .any ops (Post ro N G0 w0 Q) fuel (listed.setIfInBounds i true) (a.put o.dst v) w':=by
   intro hnp p' hp' v w' G' hv hH hr hfr;exact ih _ p' G' _ w' (fun j hj=>(GV hil).2 (.inr (hXl j hj))) hcount (st.next pl ho hun hall hnp hp' hv hH hr hfr) (hf.trans hfr)
  have hF:rl G ro=rl G0 ro:=hrl st.rel hf;unfold wpOpIn;simp only[ho]
  cases hk:(r i).k with
  |skip=>
   rw[hk]at hok;have hw:=CH (S:=⟨(r i).e,(s p).H,S0.n⟩) hlook hok.1;rw[zO (by rw[hw];simp)];refine⟨fun _ _=>trivial,cont (by rw[hk];intro _ h;cases h) p ⟨st.le,by rw[hk];(intro h;exact absurd h (by decide)),fun _=>rfl⟩ undef w G (by rw[hok.2.1];simp only[RV,RD];exact⟨[],rfl,by simp[Eb]⟩) st.rel.heap st.rel.rel (D4.refl G w)⟩
  |any=>
   rw[hk]at hok;have hw:=CH (S:=⟨(r i).e,(s p).H,S0.n⟩) hlook hok.1;rw[zN hw,<-hF];refine hok.2.1 (s p).H N G a w _ _ hrel fun v w' G' h1 h2 h3 h4=> ?_
   rw[hF];exact cont (by rw[hk];intro _ h;cases h) p ⟨st.le,by rw[hk];(intro h;exact absurd h (by decide)),fun _=>rfl⟩ v w' G' h1 h2 h3 h4
  |quiet=>
   rw[hk]at hok;have hw:=CH (S:=⟨(r i).e,(s p).H,S0.n⟩) hlook hok.1;rw[zN hw,<-hF];obtain⟨c,hc1,hc2⟩:=hheap.2 hk;refine Es.step (S:=⟨(r i).e,(s p).H,S0.n⟩) (PR (S:=⟨(r i).e,(s p).H,S0.n⟩) hE hc1 hc2) (LC hc1) N G a w _ _ hrel fun v w' G' h1 h2 h3 h4=> ?_
   rw[hF];exact cont (by rw[hk];intro _ h;cases h) p ⟨st.le,by rw[hk];(intro h;exact absurd h (by decide)),fun _=>rfl⟩ v w' G' h1 h2 h3 h4
  |eff=>
   rw[hk]at hok;have hw:=CH (S:=⟨(r i).e,(s p).H,S0.n⟩) hlook hok.1;rw[zN hw,<-hF];have hh:(r i).h=(s p).H:=by rw[hheap.1 (by rw[hk];rfl)];exact pl.h i hio
   have hstep:=hok.2;rw[hh]at hstep;refine hstep N G a w _ _ hrel fun v w' G' h1 h2 h3 h4=> ?_
   rw[hF];exact cont (by rw[hk];intro _ h;cases h) (i+1) ⟨hio,fun _=>rfl,fun h=>absurd (by rw[hk];rfl) h⟩ v w' G' h1 h2 h3 h4
  |ext h=>exact absurd ⟨h,hk⟩ hext
  |dead=>
   obtain⟨j,ch,hj,hb⟩:=pl.dead i hio hk;exact absurd (st.up pl ho hall hb) (st.nopan j ch hj)
  |pan ch=>
   rw[hk]at hok;have hw:=CH (S:=⟨(r i).e,(s p).H,S0.n⟩) hlook hok.1;rw[zN hw,<-hF];have hh:(r i).h=(s p).H:=by rw[hheap.1 (by rw[hk];rfl)];exact pl.h i hio
   have hstep:=hok.2;rw[hh]at hstep;refine hstep N G a w _ _ hrel fun w' G' h2 h3 h4=> ?_
   exact⟨⟨[],(s (i+1)).H,S0.n⟩,G',hP i ch hio hk,st.rel.step h4 h2 h3 rfl st.rel.size (fun t x h=>by simp[get]at h) rfl,hf.trans h4⟩
variable {l:y4}{acc:List Rc}
theorem Run.plan(ht:Run P ro E ops S0 acc S)(hd:It ops (acc.reverse.map Rc.k) l=true)(hx:EE E ops acc.reverse S.H l):∃s,s 0=S0/\Plan P ro E ops S0 S s (fun i=>(acc.reverse[i]?).getD ⟨[],[],.u,.skip⟩):=by
 obtain⟨s,h0,h1,h2⟩:=ht.trace;simp only[It,yU]at hd;obtain⟨hlen,hd⟩:=hd;have hlen:=zH hlen;simp only[zY,List.length_reverse,q0v]at hlen;have hd:=I6 hd;simp only[q0v]at hd
 have key:∀i o,ops[i]? =some o->∃q,acc.reverse[i]? =some q/\(∀t x,get q.e t=some x->t∈looks ops o/\get (s i).env t=some x)/\q.h=(s i).H/\(s i).n=S0.n/\(s (i+1)).env=Bm o.dst q.x (s i).env/\(s (i+1)).n=S0.n/\q.ok P ro E ops S0.n o (s (i+1)).H:=by
  intro i o ho;obtain⟨o',q,k1,k2,k3⟩:=h2 i (by rw[hlen];exact(zZ.1 ho).1);have:o'=o:=by simp[ho]at k1;exact k1.symm
  subst this;exact⟨q,k2,k3⟩
 have hk:∀i,i<ops.size->(acc.reverse.map Rc.k)[i]? =some (acc.reverse[i]?.getD ⟨[],[],.u,.skip⟩).k:=by
  intro i hi;obtain⟨q,k2,_⟩:=key i ops[i] sm;rw[q03,k2];rfl
 have hat:∀i,i<=ops.size->hAt acc.reverse S.H i=(s i).H:=by
  intro i hi;rcases Nat.eq_or_lt_of_le hi with rfl|hlt
  .rw[hAt,q0R (by simp[hlen]),<-hlen,h1]
  .obtain⟨q,k2,k3,k4,_⟩:=key i ops[i] sm;rw[hAt,k2,<-k4]
 have hD:∀i o,ops[i]? =some o->_:=fun i o ho=>by
  have:=hd i (zZ.1 ho).1;simp only[Array.getElem?_toList,ho,yU]at this;exact this
 have kEff:∀i,i<ops.size->(acc.reverse[i]?.getD ⟨[],[],.u,.skip⟩).k.QK=true->da (acc.reverse.map Rc.k)[i]? =true:=fun i hi h=>by rw[hk i hi];exact h
 have kQ:∀i,i<ops.size->(acc.reverse[i]?.getD ⟨[],[],.u,.skip⟩).k= .quiet->dc (acc.reverse.map Rc.k)[i]? =true:=fun i hi h=>by rw[hk i hi,h];rfl
 refine⟨s,h0,h0,by rw[<-hlen,h1],fun i o ho=> ?_,fun i hi=> ?_,fun i o ho=> ?_,fun i hi=> ?_,fun i o ho=> ?_,fun i o ho e he hb=> ?_,fun i o ho t ht j q hq hqd=> ?_,fun i j o q d ho hq hod hqd=> ?_,fun i j hi hj hik hjk=> ?_,fun i k o ho hkn hik hkk=> ?_,fun i hi hik=> ?_⟩
 .obtain⟨q,k2,k3,_⟩:=key i o ho;rw[k2];exact k3
 .obtain⟨q,k2,k3,k4,_⟩:=key i ops[i] sm;rw[k2];exact k4
 .obtain⟨q,k2,k3,k4,k5,k6,_⟩:=key i o ho;rw[k2];exact k6
 .rcases Nat.eq_or_lt_of_le hi with rfl|hlt
  .cases hz:ops.size with
   |zero=>rw[h0]
   |succ m=>
    obtain⟨q,k2,k3,k4,k5,k6,k7,_⟩:=key m ops[m] sm;exact k7
  .obtain⟨q,k2,k3,k4,k5,_⟩:=key i ops[i] sm;exact k5
 .obtain⟨q,k2,k3,k4,k5,k6,k7,k8⟩:=key i o ho;rw[k2];exact k8
 .have:=(hD i o ho).1.1.1.1.1;rw[q0I]at this;have:=this e (by simpa using he);rw[hb]at this;simpa[q0k]using this
 .have:=(hD i o ho).1.1.1.1.2;rw[q0I]at this;have:=I6 (this t ht) j (by simpa using(zZ.1 hq).1);have hdi:Ua ops j t=true:=by simp[Ua,hq,hqd]
  rw[hdi]at this;simp only[q1Y,q0N,q0G]at this;rcases this with(h|h)|h
  .exact .inl (zH h)
  .exact .inr (.inl h)
  .exact .inr (.inr h)
 .have:=(hD i o ho).1.1.1.2;rw[hod]at this;have:=I6 this j (by simpa using(zZ.1 hq).1);have hdi:Ua ops j d=true:=by simp[Ua,hq,hqd]
  rw[hdi]at this;simp only[q1Y,Bool.or_false]at this;exact(zH this).symm
 .have:=(hD i ops[i] sm).1.1.2;rw[kEff i hi hik]at this;simp only[q1Y,q0N]at this;have:=I6 this j hj;rw[kEff j om hjk]at this;simpa using this
 .have hi:i<ops.size:=(zZ.1 ho).1;have:=(hD i o ho).1.2;rw[kQ i hi hik]at this;simp only[q1Y,q0N]at this;have:=I6 this k (by simpa using hkn);rw[kEff k hkn hkk]at this;simp only[q1Y,q0N,q0G,yU,q0k]at this;rcases this with(h|h)|h
  .exact .inl h
  .exact .inr (.inl h)
  .right;right;obtain⟨q,k2,_⟩:=key i o ho;obtain⟨c,c1,c2⟩:=SR (i:=i) (k:=k) (o:=o) (r:=q) (by simpa using ho) k2 hx h;refine⟨c,?_,c2⟩;show PQ E (acc.reverse[i]?.getD _).e _ o.op=some (c,(acc.reverse[i]?.getD _).x);rw[k2];simp only[q1T];rw[<-c1]
   congr 1
   by_cases hki:k<i
   .have hb:Nat.blt k i=true:=by simpa[q0k]using hki
    rw[hb];simp only[zx,zN hki];exact(hat k om).symm
   .have hb:Nat.blt k i=false:=by
     cases h:Nat.blt k i with
     |false=>rfl
     |true=>rw[q0k]at h;exact absurd h hki
    rw[hb];simp only[q0F,zo,zO hki];exact(hat (k+1) om).symm
 .have:=(hD i ops[i] sm).2;rw[hk i hi,hik]at this;simp only[m7,q1Y,q0N]at this;obtain⟨j,hj,h3⟩:=UV this;simp only[yU,q0v]at h3 hj;rw[hk j hj]at h3
  cases hkj:(acc.reverse[j]?.getD ⟨[],[],.u,.skip⟩).k with
  |pan ch=>exact⟨j,ch,hkj,h3.2⟩
  |_=>rw[hkj]at h3;simp[m8]at h3
theorem mi(h:mh (acc.reverse.map Rc.k)=true)(i:Nat)(ch:ym):(acc.reverse[i]?.getD ⟨[],[],.u,.skip⟩).k≠ .pan ch:=by
 cases hi:acc.reverse[i]? with
 |none=>simp
 |some q=>
  intro e;simp only[q1T]at e;have hm:q.k∈acc.reverse.map Rc.k:=q0q.2 ⟨q,zM hi,rfl⟩;have:=(q0I.1 h) _ hm;rw[e]at this;cases this
theorem gQ(h:mh (acc.reverse.map Rc.k)=true)(i:Nat)(x:yz):(acc.reverse[i]?.getD ⟨[],[],.u,.skip⟩).k≠ .ext x:=by
 cases hi:acc.reverse[i]? with
 |none=>simp
 |some q=>
  intro e;simp only[q1T]at e;have hm:q.k∈acc.reverse.map Rc.k:=q0q.2 ⟨q,zM hi,rfl⟩;have:=(q0I.1 h) _ hm;rw[e]at this;cases this
def PC(P:Program)(ro:yW)(ops:ya)(S:St)(Q:Exit->St->Prop):Prop:=
 ∀N G a w,Rel ro N S G a w->wpAnyIn (Kv (rl G ro)) 0 P .any ops (Post ro N G w Q) ops.size (Array.replicate ops.size false) a {w with drawn:=w.drawn+1}
theorem Fl.init(pl:Plan P ro E ops S0 S s r){G:Gh}{a:Act}{w:World}(hr:Rel ro N S0 G a w):Fl ro ops S0 s r N (Array.replicate ops.size false) 0 G a {w with drawn:=w.drawn+1}/\D4 G w G {w with drawn:=w.drawn+1}:=by
 have hg:B9 G {w with drawn:=w.drawn+1}:=⟨fun id b hb=>(hr.rel.blk id b hb).QH (Iq.refl G) (fun _ _ _ _=>rfl) rfl,hr.rel.inj,fun b k v hv=>hr.rel.mem b k v hv,hr.rel.sep,hr.rel.st,hr.rel.mny⟩;have hf:D4 G w G {w with drawn:=w.drawn+1}:=⟨rfl,rfl,rfl,yV _,fun b hb ho=>⟨rfl,ho⟩,fun b o v hv=> .inl hv,Iq.refl G⟩;refine⟨⟨sm,fun i o ho hl=> ?_,yx _,fun k hk hkk=> ?_,fun k ch hkc hl=> ?_,?_,fun j o t ho hd hl=> ?_,fun t x hx hno=> ?_⟩,hf⟩
 .have:i<ops.size:=(zZ.1 ho).1;rw[Array.getElem?_replicate,zN this]at hl;cases hl
 .rw[Array.getElem?_replicate,zN hk];simp
 .rw[Array.getElem?_replicate]at hl;split at hl<;>cases hl
 .have h:=hr.step hf (S':=⟨[],S0.H,S0.n⟩) hr.heap hg rfl hr.size (fun t x h=>by simp[get]at h) rfl;rw[pl.s0];exact h
 .have:j<ops.size:=(zZ.1 ho).1;rw[Array.getElem?_replicate,zN this]at hl;cases hl
 .exact hr.env t x hx
theorem UQ(pl:Plan P ro E ops S0 S s r)(hE:CV P E)(hN:∀i h,(r i).k≠ .ext h)(hQ:(∀i ch,i<ops.size->(r i).k≠ .pan ch)->Q .normal S)(hP:∀i ch,i<ops.size->(r i).k= .pan ch->Q (.panic ch) ⟨[],(s (i+1)).H,S0.n⟩):PC P ro ops S0 Q:=by
 intro N G a w hr;obtain⟨h1,h2⟩:=Fl.init pl hr;exact Fl.run pl hE hQ hP (fun h hf=>GT hr h hf) (X:=fun _=>False) (fun _ _ _ _ _ _ i h _ _ _ _ _ hk=>absurd hk (hN i h)) _ _ 0 G a _ (fun _ h=>h.elim) (by simp[List.countP_replicate]) h1 h2
theorem Rj(hE:CV P E)(ht:Run P ro E ops S0 acc S)(hd:L9 ops (acc.reverse.map Rc.k) l=true)(hx:EE E ops acc.reverse S.H l)(hQ:Q .normal S):PC P ro ops S0 Q:=by
 simp only[L9,yU]at hd;obtain⟨s,_,pl⟩:=ht.plan hd.2 hx;exact UQ pl hE (gQ hd.1) (fun _=>hQ) fun i ch _ h=>absurd h (mi hd.1 i ch)
variable {id:Nat}
theorem pZ(hm:P.follows .mixedOrders=true)(hE:CV P E)(ht:Run P ro E ops S0 acc S)(hd:L9 ops (acc.reverse.map Rc.k) l=true)(hx:EE E ops acc.reverse S.H l)(hQ:Q .normal S):W P ro (.region id ops true) S0 Q:=by
 intro N G a w hr;exact wpIn_region_any hm (Rj hE ht hd hx hQ N G a w hr)
def HX:List Kd->Option (Nat×ym)
 |[]=>none
 | .pan ch::r=>if r.any Kd.QK then none else some (0,ch)
 | .ext _::_=>none
 |_::r=>match HX r with
  |some (i,ch)=>some (i+1,ch)
  |none=>none
theorem Yl:∀{ks:List Kd}{i:Nat}{ch:ym},HX ks=some (i,ch)->ks[i]? =some (.pan ch)/\(∀j k,i<j->ks[j]? =some k->k.QK≠true)/\(∀j ch',ks[j]? =some (.pan ch')->j=i)
 |[],i,ch,h=>by simp[HX]at h
 |k::r,i,ch,h=>by
  have rec_:(match HX r with|some (i,ch)=>some (i+1,ch)|none=>none)=some (i,ch)->(∀c,k≠ .pan c)->(k::r)[i]? =some (.pan ch)/\(∀(j:Nat)(q:Kd),i<j->(k::r)[j]? =some q->q.QK≠true)/\(∀j ch',(k::r)[j]? =some (.pan ch')->j=i):=by
   intro h hk;split at h
   .rename_i i' ch' hp;simp only[yh,zL]at h;obtain⟨rfl,rfl⟩:=h;obtain⟨h1,h2,h3⟩:=Yl hp;refine⟨by simpa using h1,fun j q hj hq=> ?_,fun j c hc=> ?_⟩
    .cases j with
     |zero=>omega
     |succ j=>exact h2 j q om (by simpa using hq)
    .cases j with
     |zero=>simp at hc;exact absurd hc (hk c)
     |succ j=>rw[h3 j c (by simpa using hc)]
   .cases h
  cases k with
  |pan c=>
   simp only[HX]at h;split at h
   .cases h
   .rename_i hany;simp only[yh,zL]at h;obtain⟨rfl,rfl⟩:=h;have hno:∀(j:Nat)(q:Kd),r[j]? =some q->q.QK≠true:=fun j q hq he=>hany (q1E.2 ⟨q,zM hq,he⟩)
    refine⟨rfl,fun j q hj hq=> ?_,fun j c' hc=> ?_⟩
    .cases j with
     |zero=>omega
     |succ j=>exact hno j q (by simpa using hq)
    .cases j with
     |zero=>rfl
     |succ j=>exact absurd (show Kd.QK (.pan c')=true from rfl) (hno j _ (by simpa using hc))
  |ext c=>simp[HX]at h
  |_=>exact rec_ h (by intro c e;cases e)
theorem VG:∀{ks:List Kd}{i:Nat}{ch:ym},HX ks=some (i,ch)->∀(j:Nat)(x:yz),ks[j]?≠some (.ext x)
 |[],i,ch,h=>by simp[HX]at h
 |k::r,i,ch,h=>by
  have rec_:(match HX r with|some (i,ch)=>some (i+1,ch)|none=>none)=some (i,ch)->(∀c,k≠ .ext c)->∀(j:Nat)(x:yz),(k::r)[j]?≠some (.ext x):=by
   intro h hk j x e;split at h
   .rename_i i' ch' hp
    cases j with
    |zero=>simp at e;exact hk x e
    |succ j=>exact VG hp j x (by simpa using e)
   .cases h
  cases k with
  |pan c=>
   simp only[HX]at h;split at h
   .cases h
   .rename_i hany;intro j x e
    cases j with
    |zero=>simp at e
    |succ j=>exact hany (q1E.2 ⟨_,zM (by simpa using e),rfl⟩)
  |ext c=>simp[HX]at h
  |_=>exact rec_ h (by intro c e;cases e)
variable {ch:ym}
theorem XP{i0:Nat}(hE:CV P E)(ht:Run P ro E ops S0 acc S)(hd:It ops (acc.reverse.map Rc.k) l=true)(hx:EE E ops acc.reverse S.H l)(hp:HX (acc.reverse.map Rc.k)=some (i0,ch))(hQ:Q (.panic ch) ⟨[],S.H,S.n⟩):PC P ro ops S0 Q:=by
 obtain⟨s,hs0,pl⟩:=ht.plan hd hx;obtain⟨p1,p2,p3⟩:=Yl hp;have hn:S.n=S0.n:=by rw[<-pl.sn];exact pl.n _ (yV _)
 have hlen:acc.length=ops.size:=by
  simp only[It,yU]at hd;have:=zH hd.1;simpa using this
 have hi0:i0<ops.size:=by
  have:=(yZ.1 p1).1;simpa[hlen]using this
 have hkd:∀i,i<ops.size->(acc.reverse.map Rc.k)[i]? =some (acc.reverse[i]?.getD ⟨[],[],.u,.skip⟩).k:=fun i hi=>by
  have hil:i<acc.reverse.length:=by simp[hlen];exact hi
  rw[q03,yj hil];rfl
 refine UQ pl hE (fun i x h=> ?_) (fun hno=>absurd ?_ (hno i0 ch hi0)) fun i ch' hi hk=> ?_
 .rcases q0A i ops.size with hi|hi
  .have:=hkd i hi;rw[h]at this;exact VG hp i x this
  .rw[q0R (by simp[hlen];exact hi)]at h;cases h
 .have:=hkd i0 hi0;rw[p1]at this;exact(Option.some.inj this).symm
 .have e:=hkd i hi;rw[hk]at e;have:=p3 i ch' e;subst this;rw[p1]at e;cases e;rw[pl.Fs (i:=i+1) (j:=ops.size) hi (yV _) fun k h1 h2=>p2 k _ om (hkd k h2),pl.sn,<-hn];exact hQ
def Wd(P:Program)(ro:yW)(E:Nat->Option Bd)(ops:ya)(S0:St)(A:Prop)(acc:List Rc)(rest:yb)(S:St):Prop:=
 ∀Sr,Run P ro E ops S0 acc Sr->Sr.H=S.H->Sr.n=S.n->(∀t x,get S.env t=some x->get Sr.env t=some x)->(∀k:Nat,rest[k]? =ops[acc.length+k]?)->A
variable {A:Prop}{acc:List Rc}{rest:yb}{o:Oper}
theorem sx(E:Nat->Option Bd)(h:Wd P ro E ops S (W P ro (.region id ops true) S Q) [] ops.toList S):W P ro (.region id ops true) S Q:=
 h S .nil rfl rfl (fun _ _ h=>h) (fun k=>sm)
variable {x:AV}{H':yz}
theorem Kb{k:Kd}(hok:(⟨FO (looks ops o) S.env,S.H,x,k⟩:Rc).ok P ro E ops S.n o H')(hk:Wd P ro E ops S0 A (⟨FO (looks ops o) S.env,S.H,x,k⟩::acc) rest ⟨Bm o.dst x S.env,H',S.n⟩):Wd P ro E ops S0 A acc (o::rest) S:=by
 intro Sr ht hH hn he hr;have ho:ops.toList[acc.length]? =some o:=by have:=hr 0;simpa using this.symm
 refine hk ⟨Bm o.dst x Sr.env,H',Sr.n⟩ (.snoc (o:=o) (r:=⟨FO (looks ops o) S.env,S.H,x,k⟩) ht ho (fun t y hy=> ?_) hH.symm (hn▸hok)) rfl hn (fun t y hy=> ?_) (fun i=> ?_)
 .obtain⟨h1,h2⟩:=KO hy;exact⟨h1,he t y h2⟩
 .cases hd:o.dst with
  |none=>rw[hd]at hy;exact he t y hy
  |some d=>
   rw[hd]at hy;simp only[Bm,get]at hy|-;split at hy
   .rename_i hb;rw[zN hb];exact hy
   .rename_i hb;rw[zO hb];exact he t y hy
 .have:=hr (i+1);simp only[q1G]at this;rw[this];simp only[yu]
  congr 1;omega
variable {c:Bool}
theorem tq(hE:CV P E)(hg:AX ops (FO (looks ops o) S.env) o=some true)(h:∀H,PQ E (FO (looks ops o) S.env) H o.op=some (c,x))(hd:Au o.dst S.n=true)(hc:c=true)(hk:Wd P ro E ops S0 A (⟨FO (looks ops o) S.env,S.H,x,.any⟩::acc) rest ⟨Bm o.dst x S.env,S.H,S.n⟩):Wd P ro E ops S0 A acc (o::rest) S:=
 Kb (x:=x) (k:=.any) (H':=S.H) ⟨hd,hg,fun H=>Es.step (S:=⟨FO (looks ops o) S.env,H,S.n⟩) (PR (S:=⟨FO (looks ops o) S.env,H,S.n⟩) hE (h H) hc) (LC (h H)),rfl⟩ hk
theorem Wd_q(hg:AX ops (FO (looks ops o) S.env) o=some true)(h:PQ E (FO (looks ops o) S.env) S.H o.op=some (c,x))(hd:Au o.dst S.n=true)(hc:c=true)(hk:Wd P ro E ops S0 A (⟨FO (looks ops o) S.env,S.H,x,.quiet⟩::acc) rest ⟨Bm o.dst x S.env,S.H,S.n⟩):Wd P ro E ops S0 A acc (o::rest) S:=
 Kb (x:=x) (k:=.quiet) (H':=S.H) ⟨hd,hg,⟨c,h,hc⟩,rfl⟩ hk
theorem pj(hg:AX ops (FO (looks ops o) S.env) o=some false)(hd:Au o.dst S.n=true)
  (hk:Wd P ro E ops S0 A (⟨FO (looks ops o) S.env,S.H,.d (.tup []),.skip⟩::acc) rest ⟨Bm o.dst (.d (.tup [])) S.env,S.H,S.n⟩):Wd P ro E ops S0 A acc (o::rest) S:=
 Kb (x:=.d (.tup [])) (k:=.skip) (H':=S.H) ⟨hd,hg,rfl,rfl⟩ hk
theorem wR{g:Nat}{xs:yq}{ds:yo}{q:D}(hg:AX ops (FO (looks ops o) S.env) o=some true)(h:Cp (FO (looks ops o) S.env) o.op=some (g,xs))(hd:Au o.dst S.n=true)(hF:Go.Gar.Fn P g ds q)(hx:RQ xs ds)
  (hk:Wd P ro E ops S0 A (⟨FO (looks ops o) S.env,S.H,.d q,.any⟩::acc) rest ⟨Bm o.dst (.d q) S.env,S.H,S.n⟩):Wd P ro E ops S0 A acc (o::rest) S:=
 Kb (x:=.d q) (k:=.any) (H':=S.H) ⟨hd,hg,fun H=>jj (S:=⟨FO (looks ops o) S.env,H,S.n⟩) h (hF.vt hx H),rfl⟩ hk
theorem Wd_T{g:Nat}{xs:yq}(hg:AX ops (FO (looks ops o) S.env) o=some true)(h:Cp (FO (looks ops o) S.env) o.op=some (g,xs))(hd:Au o.dst S.n=true)(hT:JO P g xs S.H fun y H=>y=x/\H=H')(hk:Wd P ro E ops S0 A (⟨FO (looks ops o) S.env,S.H,x,.eff⟩::acc) rest ⟨Bm o.dst x S.env,H',S.n⟩):Wd P ro E ops S0 A acc (o::rest) S:=
 Kb (x:=x) (k:=.eff) (H':=H') ⟨hd,hg,jj (S:=⟨FO (looks ops o) S.env,S.H,S.n⟩) h hT⟩ hk
theorem Wd_a(hE:CV P E){f:Nat->AV}{b:AF}(hg:AX ops (FO (looks ops o) S.env) o=some true)(h:pI E (FO (looks ops o) S.env) S.H o.op=some (c,f,b))(hd:Au o.dst S.n=true)(hc:c=true)(hk:Wd P ro E ops S0 A (⟨FO (looks ops o) S.env,S.H,f S.H.length,.eff⟩::acc) rest ⟨Bm o.dst (f S.H.length) S.env,S.H++[b],S.n⟩):Wd P ro E ops S0 A acc (o::rest) S:=
 Kb (x:=f S.H.length) (k:=.eff) (H':=S.H++[b]) ⟨hd,hg,Es.step (S:=⟨FO (looks ops o) S.env,S.H,S.n⟩) (aB (S:=⟨FO (looks ops o) S.env,S.H,S.n⟩) hE h hc) (QC h)⟩ hk
theorem wT(hE:CV P E){q:D}(hg:AX ops (FO (looks ops o) S.env) o=some true)(h:SJ E (FO (looks ops o) S.env) S.H o.op=some (c,q))(hd:Au o.dst S.n=true)(hc:c=true)(hk:Wd P ro E ops S0 A (⟨FO (looks ops o) S.env,S.H,.sl S.H.length (B3 q) (Bt q),.eff⟩::acc) rest ⟨Bm o.dst (.sl S.H.length (B3 q) (Bt q)) S.env,S.H++[.a q],S.n⟩):Wd P ro E ops S0 A acc (o::rest) S:=
 Kb (x:=.sl S.H.length (B3 q) (Bt q)) (k:=.eff) (H':=S.H++[.a q]) ⟨hd,hg,Es.step (S:=⟨FO (looks ops o) S.env,S.H,S.n⟩) (dM (S:=⟨FO (looks ops o) S.env,S.H,S.n⟩) hE h hc) (Nt h)⟩ hk
theorem Wd_w(hE:CV P E)(hg:AX ops (FO (looks ops o) S.env) o=some true)(h:tE E (FO (looks ops o) S.env) S.H o.op=some (c,x,H'))(hd:Au o.dst S.n=true)(hc:c=true)(hk:Wd P ro E ops S0 A (⟨FO (looks ops o) S.env,S.H,x,.eff⟩::acc) rest ⟨Bm o.dst x S.env,H',S.n⟩):Wd P ro E ops S0 A acc (o::rest) S:=
 Kb (x:=x) (k:=.eff) (H':=H') ⟨hd,hg,Es.step (S:=⟨FO (looks ops o) S.env,S.H,S.n⟩) (aO (S:=⟨FO (looks ops o) S.env,S.H,S.n⟩) hE h hc) (QD h)⟩ hk
theorem Zg{env:yr}(h:∀t x,get env t=some x->get S.env t=some x)(k:Wd P ro E ops S0 A acc rest ⟨env,S.H,S.n⟩):Wd P ro E ops S0 A acc rest S:=
 fun Sr ht hH hn he hr=>k Sr ht hH hn (fun t x hx=>he t x (h t x hx)) hr
theorem jr{d:Nat}{b:Bool}(hg:fw ops o=some d)(hb:get S.env d=some (.d (.b b)))
  (ht:b=true->Wd P ro E ops S0 A acc (o::rest) ⟨(d,.d (.b true))::S.env,S.H,S.n⟩) (hf:b=false->Wd P ro E ops S0 A acc (o::rest) ⟨(d,.d (.b false))::S.env,S.H,S.n⟩):Wd P ro E ops S0 A acc (o::rest) S:=by
 cases b with
 |true=>exact Zg (O7 hb) (ht rfl)
 |false=>exact Zg (O7 hb) (hf rfl)
theorem pa{c:Code}{Q':Exit->St->Prop}(h:W P ro c S0 Q')(hq:∀e S',Q' e S'->Q e S'\/∃env,(∀t x,get env t=some x->get S'.env t=some x)/\Q e ⟨env,S'.H,S'.n⟩):W P ro c S0 Q:=by
 intro N G a w r;refine q1O (h N G a w r) ?_;rintro e a' w' ⟨S',G',q,r',k⟩;rcases hq e S' q with q|⟨env,hs,q⟩
 .exact⟨S',G',q,r',k⟩
 .exact⟨_,G',q,r'.SH hs,k⟩
theorem tx(hg:AX ops (FO (looks ops o) S.env) o=some true)(hX:ji P ro o ⟨FO (looks ops o) S.env,S.H,S.n⟩ ch H')(hd:Au o.dst S.n=true)(hk:Wd P ro E ops S0 A (⟨FO (looks ops o) S.env,S.H,.u,.pan ch⟩::acc) rest ⟨Bm o.dst .u S.env,H',S.n⟩):Wd P ro E ops S0 A acc (o::rest) S:=
 Kb (x:=.u) (k:=.pan ch) (H':=H') ⟨hd,hg,hX⟩ hk
theorem pf(hd:Au o.dst S.n=true)
  (hk:Wd P ro E ops S0 A (⟨FO (looks ops o) S.env,S.H,.u,.dead⟩::acc) rest ⟨Bm o.dst .u S.env,S.H,S.n⟩):Wd P ro E ops S0 A acc (o::rest) S:=
 Kb (x:=.u) (k:=.dead) (H':=S.H) ⟨hd,rfl⟩ hk
theorem pi(l:y4){i0:Nat}(hm:P.follows .mixedOrders=true)(hE:CV P E)(hp:HX (acc.reverse.map Rc.k)=some (i0,ch))(hd:It ops (acc.reverse.map Rc.k) l=true)(hx:EE E ops acc.reverse S.H l)(hQ:Q (.panic ch) ⟨[],S.H,S.n⟩):Wd P ro E ops S0 (W P ro (.region id ops true) S0 Q) acc [] S:=by
 intro Sr ht hH hn he hr N G a w hrel;exact wpIn_region_any hm (XP hE ht hd (by rw[hH];exact hx) hp (by rw[hH,hn];exact hQ) N G a w hrel)
theorem tp(l:y4)(hm:P.follows .mixedOrders=true)(hE:CV P E)(hd:L9 ops (acc.reverse.map Rc.k) l=true)(hx:EE E ops acc.reverse S.H l)(hQ:Q .normal S):Wd P ro E ops S0 (W P ro (.region id ops true) S0 Q) acc [] S:=by
 intro Sr ht hH hn he hr;refine pa (Q':=fun e S'=>e= .normal/\S'=Sr) (pZ hm hE ht hd (by rw[hH];exact hx) ⟨rfl,rfl⟩) ?_;rintro e S' ⟨rfl,rfl⟩;refine .inr ⟨S.env,he,?_⟩;rw[hH,hn];exact hQ
end
end Go.Gar
namespace Go.Gar
section
variable {P:Program}{ro:yW}{ops:ya}{i:Nat}{rest:yb}{S S0:St}{Q:Exit->St->Prop}{o:Oper}{E:Nat->Option Bd}{A:Prop}{acc:List Rc}
variable {es:List (yo)}{n:Int}{e:yo}
theorem lz(hn:0<=n)(he:es[n.toNat]? =some e):Um n es.length=true/\es.getD n.toNat []=e:=by
 have hlt:=(yZ.1 he).1;refine⟨Em.2 ⟨hn,om⟩,?_⟩;rw[zJ,he];rfl
def xA:Op->Bool
 | .indexAddr _ _ _=>true
 |_=>false
theorem cw(_:xA o.op=true)(k:Wl P ro ops i (o::rest) S Q):Wl P ro ops i (o::rest) S Q:=k
theorem pg(_:xA o.op=true)(k:Wd P ro E ops S0 A acc (o::rest) S):Wd P ro E ops S0 A acc (o::rest) S:=k
variable {b:Bool}
theorem PD{a:Bool}(h:a=true)(k:b=true):(a&&b)=true:=by rw[h,k];rfl
theorem Hj{α:Type}{f:α->yo}{xs:List α}{k:Nat}{x:α}(h:xs[k]? =some x):(xs.map f)[((k:Nat):Int).toNat]? =some (f x):=by
 simp[h]
theorem we(hE:CV P E)(hg:AX ops S.env o=some true)(h:PQ E S.env S.H o.op=some (Um n es.length&&b,.dp (es.getD n.toNat [])))(hd:Au o.dst S.n=true)(hb:b=true)(hn:0<=n)(he:es[n.toNat]? =some e)(k:Wl P ro ops (i+1) rest ⟨Bm o.dst (.dp e) S.env,S.H,S.n⟩ Q):Wl P ro ops i (o::rest) S Q:=by
 obtain⟨h1,h2⟩:=lz hn he;exact u5 hE hg h hd (by rw[h1,hb];rfl) (by rw[h2];exact k)
theorem wV(hE:CV P E)(hg:AX ops (FO (looks ops o) S.env) o=some true)(h:∀H,PQ E (FO (looks ops o) S.env) H o.op=some (Um n es.length&&b,.dp (es.getD n.toNat [])))(hd:Au o.dst S.n=true)(hb:b=true)(hn:0<=n)(he:es[n.toNat]? =some e)(k:Wd P ro E ops S0 A (⟨FO (looks ops o) S.env,S.H,.dp e,.any⟩::acc) rest ⟨Bm o.dst (.dp e) S.env,S.H,S.n⟩):Wd P ro E ops S0 A acc (o::rest) S:=by
 obtain⟨h1,h2⟩:=lz hn he;exact tq hE hg (fun H=>by rw[<-h2];exact h H) hd (by rw[h1,hb];rfl) k
theorem dD:∀ds:yo,RQ (ds.map .d) ds
 |[]=>by simp[RQ,Ea]
 |d::ds=>by
  have:=dD ds;simp only[RQ]at this|-;simp only[zV,Ea];exact⟨d,ds,rfl,by simp[D5],this⟩
theorem wY{g:Nat}{ds:yo}{r:D}(hF:Go.Gar.Fn P g ds r)(hg:AX ops S.env o=some true)(h:Cp S.env o.op=some (g,ds.map .d))(hd:Au o.dst S.n=true)
  (k:Wl P ro ops (i+1) rest ⟨Bm o.dst (.d r) S.env,S.H,S.n⟩ Q):Wl P ro ops i (o::rest) S Q:=
 wX hg h hd hF (dD ds) k
theorem wS{g:Nat}{ds:yo}{q:D}(hF:Go.Gar.Fn P g ds q)(hg:AX ops (FO (looks ops o) S.env) o=some true)(h:Cp (FO (looks ops o) S.env) o.op=some (g,ds.map .d))(hd:Au o.dst S.n=true)
  (hk:Wd P ro E ops S0 A (⟨FO (looks ops o) S.env,S.H,.d q,.any⟩::acc) rest ⟨Bm o.dst (.d q) S.env,S.H,S.n⟩):Wd P ro E ops S0 A acc (o::rest) S:=
 wR hg h hd hF (dD ds) hk
end
end Go.Gar
namespace Go.Gar
theorem Ap.congr{G G' K K':Gh}{id:Nat}{b b':AF}(h:Ap G G' id b b')(e:K.ρ id=G.ρ id)(e':K'.ρ id=G'.ρ id):Ap K K' id b b':=by
 cases b<;>cases b'<;>simp only[Ap]at h|-<;>simp_all
theorem J8:∀(H L:yz),C0 H (H++L)
 |[],L=>by simp[C0]
 |b::H,L=>by exact yg (q0D rfl) (J8 H L)
theorem Y5{G G':Gh}{w w':World}{H L:yz}(hG:G.H=H++L)(hr:B9 G w)(hf:D4 (G.cut H) w G' w')(h':B9 G' w')(hl:G'.H.length=H.length):
  ∃G'',G''.H=G'.H++L/\B9 G'' w'/\D4 G w G'' w'/\Iq G' G'':=by
 let K:Gh:=⟨fun id=>if id<H.length then G'.ρ id else G.ρ id,G'.H++L,G'.m⟩;have k1:∀id,id<H.length->K.ρ id=G'.ρ id:=fun id h=>by simp[K,h]
 have k2:∀id,¬id<H.length->K.ρ id=G.ρ id:=fun id h=>by simp[K,h]
 have kH:K.H=G'.H++L:=rfl
 have low:∀id b,K.H[id]? =some b->id<H.length->G'.H[id]? =some b:=fun id b hb hlt=>by
  rw[kH,zW om]at hb;exact hb
 have high:∀id b,K.H[id]? =some b->¬id<H.length->G.H[id]? =some b:=fun id b hb hge=>by
  rw[kH,zl om,hl]at hb;rw[hG,zl om];exact hb
 have hs:C0 H G.H:=by rw[hG];exact J8 H L
 have g1:Iq G' K:=⟨fun id b hb=>⟨b,by rw[kH,zW (yZ.1 hb).1];exact hb,(Ap.refl G' id b).congr rfl (k1 id (by have:=(yZ.1 hb).1;omega))⟩,Mem.le_refl _⟩
 have g2:Iq G K:=by
  refine⟨fun id b hb=> ?_,hf.gle.mem⟩
  by_cases hlt:id<H.length
  .have hb0:(G.cut H).H[id]? =some b:=by
    rw[hG,zW hlt]at hb;exact hb
   obtain⟨b',hb',hstep⟩:=hf.gle.blk id b hb0;exact⟨b',by rw[kH,zW om];exact hb',hstep.congr rfl (k1 id hlt)⟩
  .refine⟨b,?_,(Ap.refl G id b).congr rfl (k2 id hlt)⟩;rw[hG,zl om]at hb;rw[kH,zl om,hl];exact hb
 have far:∀id b N q,¬id<H.length->G.H[id]? =some q->q.live=true->G.ρ id=some (b,N)->b<w.heap.size/\¬Own (G.cut H) b:=by
  intro id b N q hge hq hlv hρ;refine⟨Bq hr (.inl ⟨id,N,q,hq,hlv,hρ⟩),?_⟩;rintro(⟨id',N',q',hq',hlv',hρ'⟩|⟨id',rs,hq',hc⟩)
  case inr=>
   refine((hr.mny id' rs ?_).2 b hc).1 ⟨id,N,q,hq,hlv,hρ⟩;have:id'<H.length:=(yZ.1 hq').1;rw[hG,zW this];exact hq'
  have hq'':G.H[id']? =some q':=by
   have:id'<H.length:=(yZ.1 hq').1;rw[hG,zW this];exact hq'
  have:=hr.inj id id' q q' b N N' hq hq'' hlv hlv' hρ hρ';have:id'<H.length:=(yZ.1 hq').1;omega
 have farS:∀(id:Nat)(rs:List (Option (Nat×Nat×AT)))(b:Nat),¬id<H.length->G.H[id]? =some (.many rs)->b∈rS rs->b<w.heap.size/\¬Own (G.cut H) b:=by
  intro id rs b hge hq hc;refine⟨Bq hr (.inr ⟨id,rs,hq,hc⟩),?_⟩
  have back:∀{j:Nat}{x:AF},H[j]? =some x->j<H.length/\G.H[j]? =some x:=fun{j x} hj=>by
   have:j<H.length:=(yZ.1 hj).1;exact⟨this,by rw[hG,zW this];exact hj⟩
  rintro(⟨id',N',q',hq',hlv',hρ'⟩|⟨id',rs',hq',hc'⟩)
  .exact((hr.mny id rs hq).2 b hc).1 ⟨id',N',q',(back hq').2,hlv',hρ'⟩
  .have:=((hr.mny id rs hq).2 b hc).2 id' rs' (back hq').2 hc';have:=(back hq').1;omega
 have ownK:∀b,Own K b->Own G' b\/(Own G b/\b<w.heap.size/\¬Own (G.cut H) b):=by
  rintro b (⟨id,N,q,hq,hlv,hρ⟩|⟨id,rs,hq,hc⟩)
  case inr=>
   by_cases hlt:id<H.length
   .exact .inl (.inr ⟨id,rs,low id _ hq hlt,hc⟩)
   .exact .inr ⟨.inr ⟨id,rs,high id _ hq hlt,hc⟩,farS id rs b hlt (high id _ hq hlt) hc⟩
  by_cases hlt:id<H.length
  .exact .inl (.inl ⟨id,N,q,low id q hq hlt,hlv,by rw[<-k1 id hlt];exact hρ⟩)
  .have hρ':G.ρ id=some (b,N):=by rw[<-k2 id hlt];exact hρ
   exact .inr ⟨.inl ⟨id,N,q,high id q hq hlt,hlv,hρ'⟩,far id b N q hlt (high id q hq hlt) hlv hρ'⟩
 refine⟨K,rfl,⟨fun id b hb=> ?_,fun id id' p q b N N' hp hq lp lq r1 r2=> ?_,h'.mem,fun b hb k=> ?_,h'.st,fun id rs hid=> ?_⟩,⟨hf.os,hf.tape,hf.output,hf.size,fun b hb ho=> ?_,fun b k v hv=> ?_,g2⟩,g1⟩
 .by_cases hlt:id<H.length
  .exact(h'.blk id b (low id b hb hlt)).QH g1 (fun _ _ _ _=>rfl) (k1 id hlt)
  .refine(hr.blk id b (high id b hb hlt)).QH g2 (fun q N hlv hρ=> ?_) (k2 id hlt) (fun rs e c hc=>by
    subst e;obtain⟨h1,h2⟩:=farS id rs c hlt (high id _ hb hlt) hc
    exact(hf.keep c h1 h2).1)
   obtain⟨h1,h2⟩:=far id q N b hlt (high id b hb hlt) hlv hρ;exact(hf.keep q h1 h2).1
 .by_cases h1:id<H.length
  .rw[k1 id h1]at r1
   by_cases h2:id'<H.length
   .rw[k1 id' h2]at r2;exact h'.inj id id' p q b N N' (low id p hp h1) (low id' q hq h2) lp lq r1 r2
   .rw[k2 id' h2]at r2;obtain⟨f1,f2⟩:=far id' b N' q h2 (high id' q hq h2) lq r2;exact absurd (.inl ⟨id,N,p,low id p hp h1,lp,r1⟩) (hf.keep b f1 f2).2
  .rw[k2 id h1]at r1
   by_cases h2:id'<H.length
   .rw[k1 id' h2]at r2;obtain⟨f1,f2⟩:=far id b N p h1 (high id p hp h1) lp r1;exact absurd (.inl ⟨id',N',q,low id' q hq h2,lq,r2⟩) (hf.keep b f1 f2).2
   .rw[k2 id' h2]at r2;exact hr.inj id id' p q b N N' (high id p hp h1) (high id' q hq h2) lp lq r1 r2
 .rcases ownK b hb with h|⟨h1,h2,h3⟩
  .exact h'.sep b h k
  .cases hm:G'.m b k with
   |none=>rfl
   |some v=>
    rcases hf.memNew b k v hm with h|h|h
    .have:=hr.sep b h1 k;rw[show G.m b k=some v from h]at this;cases this
    .exact absurd h h3
    .omega
 .by_cases hlt:id<H.length
  .have hi:=low id _ hid hlt;obtain⟨m1,m2⟩:=h'.mny id rs hi;refine⟨m1,fun b hb=>⟨?_,fun id' rs' hid' hb'=> ?_⟩⟩
   .rintro⟨j,N,q,hq,lq,hρ⟩
    by_cases hj:j<H.length
    .exact(m2 b hb).1 ⟨j,N,q,low j q hq hj,lq,by rw[<-k1 j hj];exact hρ⟩
    .obtain⟨f1,f2⟩:=far j b N q hj (high j q hq hj) lq (by rw[<-k2 j hj];exact hρ);exact(hf.keep b f1 f2).2 (.inr ⟨id,rs,hi,hb⟩)
   .by_cases hj:id'<H.length
    .exact(m2 b hb).2 id' rs' (low id' _ hid' hj) hb'
    .obtain⟨f1,f2⟩:=farS id' rs' b hj (high id' _ hid' hj) hb';exact absurd (.inr ⟨id,rs,hi,hb⟩) (hf.keep b f1 f2).2
  .have hi:=high id _ hid hlt;obtain⟨m1,m2⟩:=hr.mny id rs hi;refine⟨m1,fun b hb=> ?_⟩;obtain⟨f1,f2⟩:=farS id rs b hlt hi hb;refine⟨?_,fun id' rs' hid' hb'=> ?_⟩
   .rintro⟨j,N,q,hq,lq,hρ⟩
    by_cases hj:j<H.length
    .exact(hf.keep b f1 f2).2 (.inl ⟨j,N,q,low j q hq hj,lq,by rw[<-k1 j hj];exact hρ⟩)
    .exact(m2 b hb).1 ⟨j,N,q,high j q hq hj,lq,by rw[<-k2 j hj];exact hρ⟩
   .by_cases hj:id'<H.length
    .exact absurd (.inr ⟨id',rs',low id' _ hid' hj,hb'⟩) (hf.keep b f1 f2).2
    .exact(m2 b hb).2 id' rs' (high id' _ hid' hj) hb'
 .have hc:¬Own (G.cut H) b:=fun h=>ho (OR hs h);obtain⟨h1,h2⟩:=hf.keep b hb hc
  refine⟨h1,fun h=> ?_⟩;rcases ownK b h with h|⟨h,_⟩
  .exact h2 h
  .exact ho h
 .rcases hf.memNew b k v hv with h|h|h
  .exact .inl h
  .exact .inr (.inl (OR hs h))
  .exact .inr (.inr h)
end Go.Gar
namespace Go.Gar
section
variable {P:Program}{ro:yW}{ops:ya}{i:Nat}{rest:yb}{S:St}{Q:Exit->St->Prop}{o:Oper}
def YT(P:Program)(id:Nat)(args:yq)(H:yz)(R:AV->yz->Prop):Prop:=
 ∀G w l N (vs:yd),G.H=H->B9 G w->G.ρ id=some (l,N)->BP G args vs.toList->
  ∃f tmps asg body,(Instr.yield l vs).run P w= .ok (.round l f tmps asg body) w/\
   RoundIn Fence.wide 0 P l f tmps asg body w fun e w'=>∃v r G',e= .returned v/\R r G'.H/\RV G' r v/\B9 G' w'/\D4 G w G' w'
variable {id:Nat}{args:yq}{H:yz}{R:AV->yz->Prop}
theorem YT.mono{R':AV->yz->Prop}(h:YT P id args H R)(hr:∀x H,R x H->R' x H):YT P id args H R':=
 fun G w l N vs h1 h2 h3 h4=>by
  obtain⟨f,t,a,b,k1,k2⟩:=h G w l N vs h1 h2 h3 h4;exact⟨f,t,a,b,k1,k2.mono fun _ _ ⟨v,r,G',e,q,rest⟩=>⟨v,r,G',e,hr _ _ q,rest⟩⟩
theorem YT.frame{L:yz}(h:YT P id args H R)(hi:id<H.length)(ho:Ai H.length H=true)(ha:AV.oks H.length args=true)(hl:∀r H',R r H'->H'.length=H.length):
  YT P id args (H++L) fun r H''=>∃H',R r H'/\H''=H'++L:=by
 intro G w l N vs hG hr hρ hargs;have hs:C0 H G.H:=by rw[hG];exact J8 H L
 obtain⟨f,t,a,b,k1,k2⟩:=h (G.cut H) w l N vs rfl (hr.cut hs ho) hρ (hargs.cut hs ha);refine⟨f,t,a,b,k1,k2.mono ?_⟩;rintro e w' ⟨v,r,G',rfl,hR,hv,hr',hfr⟩;obtain⟨G'',q1,q2,q3,q4⟩:=Y5 hG hr hfr hr' (hl r _ hR);exact⟨v,r,G'',rfl,⟨G'.H,hR,q1⟩,hv.mono q4,q2,q3⟩
theorem JO.frame{f:FuncId}{L:yz}(h:JO P f args H R)(ho:Ai H.length H=true)(ha:AV.oks H.length args=true)(hl:∀r H',R r H'->H'.length=H.length):
  JO P f args (H++L) fun r H''=>∃H',R r H'/\H''=H'++L:=by
 refine⟨h.1,fun G w vs hG hr hargs=> ?_⟩;have hs:C0 H G.H:=by rw[hG];exact J8 H L
 refine(h.2 (G.cut H) w vs rfl (hr.cut hs ho) (hargs.cut hs ha)).mono ?_;rintro e w' ⟨v,r,G',rfl,hR,hv,hr',hfr⟩;obtain⟨G'',q1,q2,q3,q4⟩:=Y5 hG hr hfr hr' (hl r _ hR);exact⟨v,r,G'',rfl,⟨G'.H,hR,q1⟩,hv.mono q4,q2,q3⟩
theorem run_yield{c:Call}{fo:Operand}(hc:c.callee= .value fo){a:Act}{l:Nat}(hf:a.eval fo= .func (.yield l) #[] #[])(ho:o.op= .call c)(w:World):
  (execOp a.eval o).run P w=(Instr.yield l (c.args.map a.eval)).run P w:=by
 unfold execOp;simp only[ho,resolve,hc,hf,Deferred.ofValue,zf,zk,zQ,invoke];simp
def Nw(env:yr)(op:Op):Option (Nat×yq):=
 match callOf op with
 |some (f,l)=>match Eo env f,KH env l with
  |some (.yl id),some xs=>some (id,xs)
  |_,_=>none
 |none=>none
theorem Wl_y{xs:yq}{r0:Lp}(hg:AX ops S.env o=some true)(h:Nw S.env o.op=some (id,xs))(hd:Au o.dst S.n=true)(hlp:S.H[id]? =some (.lp r0))(hT:YT P id xs S.H R)(k:∀r H',R r H'->Wl P ro ops (i+1) rest ⟨Bm o.dst r S.env,H',S.n⟩ Q):Wl P ro ops i (o::rest) S Q:=by
 unfold Nw at h;split at h
 .rename_i fo al hcl;obtain⟨c,ho,hc,hl⟩:=PI hcl;subst hl;split at h
  .rename_i id' ys hf hxs;simp only[yh,zL]at h;obtain⟨rfl,rfl⟩:=h;intro hops N G a w r;have ho':=IY hops;simp only[yu,q0h,wpOpsIn,ho'];rw[zN (CH r.env hg)];refine⟨fun _ _=>trivial,?_⟩;have hfv:=B2 r.rel.st r.env hf;simp only[RV]at hfv;obtain⟨_,blk,hb,hp⟩:=hfv;rw[r.heap,hlp]at hb;cases hb;obtain⟨l,N',hρ,hv⟩:=hp;obtain⟨f,tm,ag,bd,k1,k2⟩:=hT G w l N' (c.args.map a.eval) r.heap r.rel hρ (by simpa using E6 r.rel.st r.env hxs);rw[q1K _ _ _ (fun c e=>by rw[ho]at e;cases e),run_yield hc hv ho w,k1];simp only[Oper.uponIn];refine⟨Gl _,?_⟩;have hops':=HV hops;have k2':RoundIn (Kv (rl G ro)) 0 P l f tm ag bd w _:=k2;refine k2'.mono ?_;rintro e w' ⟨v,x,G',rfl,hR,hv',hr',hfr⟩;obtain⟨e1,e2,e3⟩:=HE (r.env.mono hfr.gle) r.size hd hv';have r':Rel ro N ⟨Bm o.dst x S.env,G'.H,S.n⟩ G' (a.put o.dst v) w':=r.step hfr rfl hr' rfl e2 e1 e3;have hk:=k x G'.H hR hops' N G' _ w' r';rw[GT r r' hfr]at hk;exact BZ (fun _ _ _ p=>p.trans hfr) _ _ _ hk
  .cases h
 .cases h
end
end Go.Gar
namespace Go.Gar
section
variable {P:Program}
def Lp.lo(r:Lp)(tmps:yd)(df:Nat×FuncId):Loop:={state:=r.state,pending:=r.pending,fn:=df.2,tmps:=tmps,params:=r.params,assign:=r.assign,body:=r.body,defers:=df.1}
def Lp.at_(r:Lp)(s:LoopState)(p:Option Code):Lp:={r with state:=s,pending:=p}
variable {w:World}{l:Nat}
theorem HN{r:Loop}(h:w.heap[l]? =some (.loop r)):(Instr.getLoop l).run P w= .ok r w:=by
 simp[Instr.getLoop,getObj,Sem.run,h,zf]
theorem NZ{o:Obj}{p:Loop}(h:w.heap[l]? =some (.loop p)):(setObj l o).run P w= .ok () (w.setB l o):=by
 simp[setObj,Sem.run,h,World.setB]
variable {id:Nat}
theorem af{G:Gh}{N:Nat}{df:Nat×FuncId}{r:Lp}{tmps:yd}(h:B9 G w)(hid:G.H[id]? =some (.lp r))(hρ:G.ρ id=some (l,N))(hw:w.heap[l]? =some (.loop (r.lo tmps df)))(hsz:tmps.size=r.n)(henv:IH G r.env tmps)(s:LoopState)(p:Option Code):
  B9 (G.put id (.lp (r.at_ s p))) (w.setB l (.loop ((r.at_ s p).lo tmps df)))/\D4 G w (G.put id (.lp (r.at_ s p))) (w.setB l (.loop ((r.at_ s p).lo tmps df))):=by
 have hs:Ap G (G.put id (.lp (r.at_ s p))) id (.lp r) (.lp (r.at_ s p)):=by simp[Ap,Lp.at_,Gh.put]
 refine eL h hid rfl rfl hρ hs ⟨l,N,df,tmps,hρ,VT _ _ _ (zZ.1 hw).1,hsz,henv.mono (R5 hid hs)⟩
def Ym:BK->yq->yr->yr
 |t::ts,x::xs,env=>Ym ts xs ((t,x)::env)
 |_,_,env=>env
theorem eI{G:Gh}:∀{ts:BK}{xs:yq}{vs:y6}{env:yr}{tmps:yd},IH G env tmps->BP G xs vs->(∀t∈ts,t<tmps.size)->
  IH G (Ym ts xs env) ((ts.zip vs).foldl (fun tmps p=>tmps.setIfInBounds p.1 p.2) tmps)/\((ts.zip vs).foldl (fun tmps p=>tmps.setIfInBounds p.1 p.2) tmps).size=tmps.size
 |[],xs,vs,env,tmps,he,_,_=>by cases xs<;>simpa[Ym]using he
 |t::ts,[],vs,env,tmps,he,hr,_=>by simp only[BP]at hr;subst hr;simpa[Ym]using he
 |t::ts,x::xs,vs,env,tmps,he,hr,hlt=>by
  simp only[BP]at hr;obtain⟨v,r,rfl,h1,h2⟩:=hr
  have he':IH G ((t,x)::env) (tmps.setIfInBounds t v):=by
   intro u y hy;simp only[get]at hy;split at hy
   .rename_i hb;cases hy;have:=zH hb;subst this;exact⟨v,q0K (hlt _ sm),h1⟩
   .rename_i hb;obtain⟨z,hz,hzr⟩:=he u y hy;exact⟨z,by rw[q0P (fun e=>by subst e;simp at hb)];exact hz,hzr⟩
  obtain⟨k1,k2⟩:=eI (ts:=ts) (tmps:=tmps.setIfInBounds t v) he' h2 (fun u hu=>by simpa using hlt u (by simp[hu]));exact⟨by simpa[Ym]using k1,by simpa using k2⟩
def mI:Exit->Option (Option Code)
 | .normal=>some none
 | .ret=>some (some .ret)
 | .exit i=>some (some (.exit i))
 | .goto l=>some (some (.goto l))
 |_=>none
def R8:Option Code->LoopState
 |none=> .ready
 |some _=> .done
def tX(id n:Nat)(R:AV->yz->Prop)(e:Exit)(S:St):Prop:=
 ∃j,mI e=some j/\∃S'',A5 S S''/\n<=S''.H.length/\id<S''.H.length/\∃r,S''.H[id]? =some (.lp r)/\R (.d (.b j.isNone)) (S''.H.set id (.lp (r.at_ (R8 j) j)))
def QAsg(P:Program)(id n:Nat)(body:Code)(R:AV->yz->Prop):Exit->St->Prop
 | .normal,S=>∃r,S.H[id]? =some (.lp r)/\r.state= .ready/\W P (some id) body ⟨S.env,S.H.set id (.lp (r.at_ .busy r.pending)),S.n⟩ (tX id n R)
 |_,_=>False
theorem bX{N:NB}{S:St}{G:Gh}{a:Act}(h:Rel (some id) N S G a w){r:Lp}(hr:S.H[id]? =some (.lp r)):∃l M df tmps,G.ρ id=some (l,M)/\w.heap[l]? =some (.loop (r.lo tmps df))/\tmps.size=r.n/\IH G r.env tmps:=
 h.rel.blk id (.lp r) (by rw[h.heap];exact hr)
theorem pv{r0:Lp}{H:yz}{args:yq}{R:AV->yz->Prop}(hid:H[id]? =some (.lp r0))(hready:r0.state= .ready)(hlen:args.length=r0.params.size)(hps:∀t∈r0.params.toList,t<r0.n)(hb:W P (some id) r0.assign ⟨Ym r0.params.toList args r0.env,H,r0.n⟩ (QAsg P id H.length r0.body R)):YT P id args H R:=by
 intro G w l N vs hG hr hρ hargs;obtain⟨l',N',df,tmps,hρ',hw,hsz,henv⟩:=hr.blk id _ (by rw[hG];exact hid);rw[hρ]at hρ';cases hρ';have hl:vs.size=r0.params.size:=by have:=BP.NG hargs;simp at this;omega
 have hw':w.heap[l]? =some (.loop (r0.lo tmps df)):=hw;refine⟨df.2,(r0.params.zip vs).foldl (fun tmps (p:Nat×Value)=>tmps.setIfInBounds p.1 p.2) tmps,r0.assign,r0.body,?_,?_⟩
 .rw[Instr.yield];simp only[zf,HN hw',zQ];rw[zO (by simp[Lp.lo,hl])];rfl
 .obtain⟨p1,p2⟩:=eI (ts:=r0.params.toList) henv hargs (fun t ht=>by rw[hsz];exact hps t ht)
  have etm:((r0.params.zip vs).foldl (fun tmps (p:Nat×Value)=>tmps.setIfInBounds p.1 p.2) tmps)=((r0.params.toList.zip vs.toList).foldl (fun tmps p=>tmps.setIfInBounds p.1 p.2) tmps):=by
   rw[<-Array.foldl_toList];simp
  have hrl:∀{G:Gh}{M:Nat},G.ρ id=some (l,M)->rl G (some id)=some l:=fun h=>by simp[rl,h]
  refine roundIn_of_wpIn trivial ?_
  have oJ:Rel (some id) ⟨w.heap.size,[]⟩ ⟨Ym r0.params.toList args r0.env,H,r0.n⟩ G {tmps:=(r0.params.zip vs).foldl (fun tmps (p:Nat×Value)=>tmps.setIfInBounds p.1 p.2) tmps,defers:=[]} w:=by
   refine⟨hG,hr,?_,?_,⟨yV _,[],rfl,List.nodup_nil,fun _ h=>by cases h⟩,fun i hi=> ?_⟩
   .show Array.size _=_;rw[etm,p2,hsz]
   .show IH G _ _;rw[etm];exact p1
   .cases hi;exact⟨r0,l,N,hid,hρ⟩
  have h1:=hb ⟨w.heap.size,[]⟩ G _ w oJ;rw[hrl hρ]at h1;refine q1O (F:=Kv (some l)) h1 ?_;rintro e a' w1 ⟨S',G',q,r',k⟩
  cases e with
  |normal=>
   obtain⟨r,h2,h3,hW⟩:=q;obtain⟨l2,M,df2,tmps2,g1,g2,g3,g4⟩:=bX r' h2
   have hl2:l2=l:=by
    obtain⟨b',hb',hs⟩:=k.gle.blk id _ (by rw[hG];exact hid);rw[r'.heap,h2]at hb';cases hb';simp only[Ap]at hs;rw[hs.1,hρ]at g1;cases g1;rfl
   subst hl2;obtain⟨u1,u2⟩:=af r'.rel (by rw[r'.heap];exact h2) g1 g2 g3 g4 .busy r.pending;refine⟨w1.setB l2 (.loop ((r.at_ .busy r.pending).lo tmps2 df2)),?_,?_⟩
   .rw[Instr.beginRound];simp only[zf,HN g2,zQ];rw[NZ g2];simp only[zQ,Lp.lo,h3];rfl
   .have rel2:Rel (some id) ⟨w.heap.size,[]⟩ ⟨S'.env,S'.H.set id (.lp (r.at_ .busy r.pending)),S'.n⟩ (G'.put id (.lp (r.at_ .busy r.pending))) a' (w1.setB l2 (.loop ((r.at_ .busy r.pending).lo tmps2 df2))):=
     r'.step u2 (by show G'.H.set id _=_;rw[r'.heap]) u1 rfl r'.size (r'.env.mono u2.gle) rfl
    have h4:=hW _ _ _ _ rel2;have g1':(G'.put id (.lp (r.at_ .busy r.pending))).ρ id=some (l2,M):=g1;rw[hrl g1']at h4;refine q1O (F:=Kv (some l2)) h4 ?_;rintro e a3 w3 ⟨S3,G3,q3,r3,k3⟩;obtain⟨j,hj,S4,ts,hle,hidlt,rr,hrr,hR⟩:=q3;obtain⟨G4,r4,t4⟩:=ts _ _ _ _ _ r3 (fun i hi=>by cases hi;exact hidlt);obtain⟨l5,M5,df5,tmps5,f1,f2,f3,f4⟩:=bX r4 hrr;have kk:D4 G w G4 w3:=((k.trans u2).trans k3).ghost t4 (by rw[hG,r4.heap];exact hle)
    have hl5:l5=l2:=by
     obtain⟨b',hb',hs⟩:=kk.gle.blk id _ (by rw[hG];exact hid);rw[r4.heap,hrr]at hb';cases hb';simp only[Ap]at hs;rw[hs.1,hρ]at f1;cases f1;rfl
    subst hl5;obtain⟨y1,y2⟩:=af r4.rel (by rw[r4.heap];exact hrr) f1 f2 f3 f4 (R8 j) j
    have fin:∃v w',(Instr.endRound l5 j).run P w3= .ok v w'/\∃v' r G',(Ending.returned v:Ending)= .returned v'/\R r G'.H/\RV G' r v'/\B9 G' w'/\D4 G w G' w':=by
     refine⟨.bool j.isNone,w3.setB l5 (.loop ((rr.at_ (R8 j) j).lo tmps5 df5)),?_,.bool j.isNone,.d (.b j.isNone),_,rfl,?_,by simp[RV,RD],y1,kk.trans y2⟩
     .rw[Instr.endRound];simp only[zf,HN f2,zQ];rw[NZ f2];simp only[zQ,zk];cases j<;>rfl
     .show R _ (G4.H.set id _);rw[r4.heap];exact hR
    cases e<;>simp only[mI,yh]at hj<;>first|(cases hj;done)|(subst hj;exact fin)
  |_=>exact q.elim
end
end Go.Gar
namespace Go.Gar
section
variable {P:Program}{ro:yW}{S:St}{Q:Exit->St->Prop}
theorem T6(P:Program)(w:World)(o:Obj):(newObj o).run P w= .ok w.heap.size (w.alloc o):=rfl
theorem US(w:World)(o:Obj):(w.alloc o).heap[w.heap.size]? =some o:=by
 show(w.heap.push o)[w.heap.size]? =some o;simp
theorem ke{N:NB}{G:Gh}{a:Act}{w:World}(r:Rel ro N S G a w)(fn:FuncId)(ps:Array Tmp)(asg body:Code):∃(mark:List Deferred)(wA:World)(df:Nat),
  (Instr.enterLoop fn a.tmps ps asg body (rl G ro)).run P w= .ok (wA.heap.size,mark) (wA.alloc (.loop {state:=.ready,pending:=none,fn:=fn,tmps:=a.tmps,params:=ps,assign:=asg,body:=body,defers:=df}))/\
  Rel ro N S G {a with defers:=mark++a.defers} wA/\D4 G w G wA:=by
 cases ro with
 |none=>
  have hgr:=K8 (w':=w.alloc (.deferred (some []))) r.rel rfl rfl rfl sm (fun b hb=>q1U w _ b hb) G.m (Mem.le_refl _) (fun _ _ _ h=> .inl h) (fun b k v hv=>by
   rw[World.cell?_alloc_lt _ _ _ (IX r.rel hv)];exact r.rel.mem b k v hv)
  have hG:({G with m:=G.m}:Gh)=G:=rfl;rw[hG]at hgr;refine⟨[{target:=.collected w.heap.size,args:=#[]}],w.alloc (.deferred (some [])),w.heap.size,?_,?_,hgr.2⟩
  .show(Instr.enterLoop fn a.tmps ps asg body none).run P w=_;unfold Instr.enterLoop;simp only[zf,T6,Result.andThen,zk,World.size_alloc]
  .refine⟨r.heap,hgr.1,r.size,r.env,?_,fun id h=>by cases h⟩;obtain⟨m0,ms,m1,m2,m3⟩:=r.marks;have hlt:∀q∈ms,q<w.heap.size:=fun q hq=>(zZ.1 (m3 q hq).2.1).1
   refine⟨q0E m0 sm,w.heap.size::ms,by simp[m1],List.nodup_cons.2 ⟨fun h=>by have:=hlt _ h;omega,m2⟩,fun q hq=> ?_⟩;rcases q0C.1 hq with rfl|hq
   .refine⟨?_,US _ _,fun ho=>by have:=Bq r.rel ho;omega⟩;exact m0
   .obtain⟨q1,q2,q3⟩:=m3 q hq;exact⟨q1,(q1U w _ q (hlt q hq)).trans q2,q3⟩
 |some id=>
  obtain⟨r0,l,M,h1,h2⟩:=r.round id rfl;obtain⟨l',M',df,tmps,g1,g2,g3,g4⟩:=bX r h1;rw[h2]at g1;cases g1;refine⟨[],w,df.1,?_,by simpa using r,D4.refl G w⟩;have:rl G (some id)=some l:=by simp[rl,h2]
  rw[this];unfold Instr.enterLoop;simp only[zf,HN g2,Result.andThen,T6,zk];rfl
variable {ps:Array Tmp}{K:AV->yz->Prop}
theorem jn{g:Operand}{asg body:Code}{f:FuncId}{first cap:yq}(hg:Eo S.env g=some (.fn (.func f) first cap))(seq:JO P f (first++[.yl S.H.length]++cap) (S.H++[.lp ⟨.ready,none,0,S.n,S.env,ps,asg,body⟩]) K)(k:∀x H',K x H'->∃r,H'[S.H.length]? =some (.lp r)/\(r.state== .busy)=false/\
   match r.pending with
   |none=>Q .normal ⟨S.env,H'.set S.H.length (.lp (r.at_ .exhausted r.pending)),S.n⟩
   |some c=>W P ro c ⟨S.env,H'.set S.H.length (.lp (r.at_ .exhausted r.pending)),S.n⟩ Q):W P ro (.rangeFunc g ps asg body) S Q:=by
 intro N G a w r;refine wpIn_rangeFunc fun fn _=> ?_
 obtain⟨mark,wA,df,e1,e2,e3⟩:=ke (P:=P) r fn ps asg body;let r0:Lp:=⟨.ready,none,0,S.n,S.env,ps,asg,body⟩;let w1:=wA.alloc (.loop {state:=.ready,pending:=none,fn:=fn,tmps:=a.tmps,params:=ps,assign:=asg,body:=body,defers:=df});obtain⟨o1,o2⟩:=eE e2.rel (.loop {state:=.ready,pending:=none,fn:=fn,tmps:=a.tmps,params:=ps,assign:=asg,body:=body,defers:=df}) 0 (.lp r0) ⟨wA.heap.size,0,(df,fn),a.tmps,by simp[Gh.own],US _ _,r.size,(e2.env.mono (M6 G wA.heap.size 0 (.lp r0)))⟩;have hGH:(G.own wA.heap.size 0 (.lp r0)).H=S.H++[.lp r0]:=by show G.H++_=_;rw[r.heap]
 have hlen:G.H.length=S.H.length:=by rw[r.heap]
 have hfv:=B2 o1.st (e2.env.mono o2.gle) hg;simp only[RV]at hfv;obtain⟨p,q,hfv,hp,hq⟩:=hfv;have hfv:a.eval g= .func (.func f) p.toArray q.toArray:=hfv;obtain⟨⟨fd,hf1,hf2,hf3⟩,hseq⟩:=seq;have hbn:fd.body.isNone=false:=by cases hx:fd.body<;>simp_all
 have hres:(resolve a.eval (rangeCall g wA.heap.size) 0).run P w1= .ok {target:=.fn (.func f) q.toArray,args:=p.toArray++ #[Value.func (.yield wA.heap.size) #[] #[]]} w1:=by
  simp only[resolve,rangeCall,hfv,Deferred.ofValue,zk];simp[Act.eval]
 refine⟨wA.heap.size,mark,w1,_,w1,f,p.toArray++ #[Value.func (.yield wA.heap.size) #[] #[]]++q.toArray,w1,e1,hres,fun _ _=>trivial,?_,Gl _,?_⟩
 .simp only[invoke,callFunc,run_program,zf,zQ,hf1,hf2,hbn,q0F,zo,Sem.run_ite,zk]
 .have hargs:BP (G.own wA.heap.size 0 (.lp r0)) (first++[.yl S.H.length]++cap) (p.toArray++ #[Value.func (.yield wA.heap.size) #[] #[]]++q.toArray).toList:=by
   have hy:RV (G.own wA.heap.size 0 (.lp r0)) (.yl S.H.length) (.func (.yield wA.heap.size) #[] #[]):=by
    simp only[RV];refine⟨rfl,.lp r0,by rw[hGH];simp,wA.heap.size,0,by simp[Gh.own,hlen],rfl⟩
   have e:(p.toArray++ #[Value.func (.yield wA.heap.size) #[] #[]]++q.toArray:yd).toList=p++[Value.func (.yield wA.heap.size) #[] #[]]++q:=by simp
   rw[e];exact BP.app (BP.app hp (by simp only[BP];exact⟨_,[],rfl,hy,rfl⟩)) hq
  have hcall:=hseq (G.own wA.heap.size 0 (.lp r0)) w1 _ hGH o1 hargs;refine CallsIn.mono (F:=Kv (rl G ro)) hcall ?_;rintro e w' ⟨v,x,G',rfl,hK,hv,hr',hfr⟩;obtain⟨rr,hrr,hnb,hk⟩:=k x G'.H hK;obtain⟨l,M,df',tmps,g1,g2,g3,g4⟩:=hr'.blk S.H.length (.lp rr) hrr
  have hl:l=wA.heap.size:=by
   obtain⟨b',hb',hs⟩:=hfr.gle.blk S.H.length (.lp r0) (by rw[hGH];simp);rw[hrr]at hb';cases hb';simp only[Ap]at hs;rw[hs.1]at g1;simp only[Gh.own,hlen,zx,yh,zL]at g1;exact g1.1.symm
  subst hl;obtain⟨y1,y2⟩:=af hr' hrr g1 g2 g3 g4 .exhausted rr.pending
  have rel2:Rel ro N ⟨S.env,G'.H.set S.H.length (.lp (rr.at_ .exhausted rr.pending)),S.n⟩ (G'.put S.H.length (.lp (rr.at_ .exhausted rr.pending))) {a with defers:=mark++a.defers} (w'.setB wA.heap.size (.loop ((rr.at_ .exhausted rr.pending).lo tmps df'))):=
   e2.step ((o2.trans hfr).trans y2) rfl y1 rfl r.size (e2.env.mono ((o2.trans hfr).trans y2).gle) rfl
  refine⟨rr.pending,w'.setB wA.heap.size (.loop ((rr.at_ .exhausted rr.pending).lo tmps df')),?_,?_⟩
  .rw[Instr.endLoop];have g2':w'.heap[wA.heap.size]? =some (.loop (rr.lo tmps df')):=g2;simp only[zf,HN g2',zQ];have hnb':((rr.lo tmps df').state==LoopState.busy)=false:=hnb;rw[hnb'];simp only[q0F,zo,zf,zk,zQ];rw[NZ g2'];rfl
  .have kk:=(e3.trans ((o2.trans hfr).trans y2))
   cases hpend:rr.pending with
   |none=>
    rw[hpend]at hk rel2 kk;exact⟨_,_,hk,rel2,kk⟩
   |some c=>
    rw[hpend]at hk rel2 kk;have h5:=hk N _ _ _ rel2;rw[GT r rel2 kk]at h5;exact q1O h5 fun _ _ _ p=>p.trans kk
theorem pc{g:Operand}{asg body:Code}{f:FuncId}{first cap:yq}(hg:Eo S.env g=some (.fn (.func f) first cap))(seq:∀fn,JO P f (first++[.yl S.H.length]++cap) (S.H++[.lp ⟨.ready,none,fn,S.n,S.env,ps,asg,body⟩]) K)(k:∀x H',K x H'->∃r,H'[S.H.length]? =some (.lp r)/\(r.state== .busy)=false/\
   match r.pending with
   |none=>Q .normal ⟨S.env,H'.set S.H.length (.lp (r.at_ .exhausted r.pending)),S.n⟩
   |some c=>W P ro c ⟨S.env,H'.set S.H.length (.lp (r.at_ .exhausted r.pending)),S.n⟩ Q):W P ro (.rangeFunc g ps asg body) S Q:=jn hg (seq 0) k
end
abbrev D.yE(n:Int):D:=.i .i64 n
abbrev AV.y5(n:Int):AV:=.d (.i .i64 n)
abbrev AV.y7(b:Bool):AV:=.d (.b b)
abbrev AV.y8(n:Int):AV:=.d (.i .u8 n)
abbrev AV.yC(l:AT):AV:=.d (.s l)
abbrev AV.yD(l:Ao):AV:=.d (.is l)
theorem y9{a b:Nat}(h:Nat.ble a b=true:=by exact rfl):a<=b:=q0X h
end Go.Gar
