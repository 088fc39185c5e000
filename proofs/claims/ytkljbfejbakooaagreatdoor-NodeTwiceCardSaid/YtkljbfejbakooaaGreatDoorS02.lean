/- Part 2 of a proof. Conditions: those that its theorems state. -/
import Derived.Test.YtkljbfejbakooaaGreatDoorS01
import Derived.KernelRfl
set_option linter.unusedSimpArgs false
set_option linter.unusedVariables false
set_option linter.unnecessarySimpa false
set_option maxHeartbeats 40000000
set_option maxRecDepth 4000
namespace Go.Gar
def tt(x:Option AV):Option (Bool×AV):=
 match x with
 |some y=>some (true,y)
 |none=>none
def Gk(env:List (Nat×AV)):List Operand->Option (List AV)
 |[]=>some []
 |o::r=>match CH env o,Gk env r with
  |some x,some l=>some (x::l)
  |_,_=>none
def ZP(env:List (Nat×AV)):Option Operand->Option (Option AV)
 |none=>none
 |some o=>some (CH env o)
def lN(E:Nat->Option Ao)(H:List A3)(b:Builtin)(ts:List TypeId)(xs:List AV):Option (Bool×AV):=
 match b,ts,xs with
 | .len,[t],[x]=>bz E H t x
 | .min,_,[.d (.i k a),.d (.i _ b)]=>some (true,.d (.i k (if b<a then b else a)))
 | .max,_,[.d (.i k a),.d (.i _ b)]=>some (true,.d (.i k (if a<b then b else a)))
 | .append,[t,u],[.e0,x]=>match MK E H t u x with
  |some (c,q)=>some (c,.d q)
  |none=>none
 |_,_,_=>none
def Hu(E:Nat->Option Ao)(env:List (Nat×AV))(H:List A3)(op:Op):Option (Bool×AV):=
 match op with
 | .move x| .assign x=>tt (CH env x)
 | .pick c a b=>match CH env c with
  |some (.d (.b t))=>match t with
   |true=>tt (CH env a)
   |false=>tt (CH env b)
  |_=>none
 | .load t a=>match CH env a with
  |some x=>OW E H t x
  |none=>none
 | .nilCheck a=>match CH env a with
  |some x=>X1 H x
  |none=>none
 | .binOp op t a b _=>match CH env a,CH env b with
  |some x,some y=>match x,y with
   | .d p,.d q=>match YV op p q with
    |some (c,r)=>some (c,.d r)
    |none=>match op with
     | .eql=>match OT E H t x y with
      |some (c,r)=>some (c,.d (.b r))
      |none=>none
     | .neq=>match OT E H t x y with
      |some (c,r)=>some (c,.d (.b (!r)))
      |none=>none
     |_=>none
   |x,y=>match op with
    | .eql=>match OT E H t x y with
     |some (c,r)=>some (c,.d (.b r))
     |none=>none
    | .neq=>match OT E H t x y with
     |some (c,r)=>some (c,.d (.b (!r)))
     |none=>none
    |_=>none
  |_,_=>none
 | .unOp op _ a=>match CH env a with
  |some (.d p)=>match unD op p with
   |some (c,r)=>some (c,.d r)
   |none=>none
  |_=>none
 | .convert s d a=>match CH env a with
  |some x=>VB E H s d x
  |none=>none
 | .slice t a lo hi mx=>match CH env a with
  |some x=>RG E t x (ZP env lo) (ZP env hi) (ZP env mx)
  |none=>none
 | .fieldAddr s a f=>match CH env a with
  |some x=>Gq E H s x f
  |none=>none
 | .field t a f=>match CH env a with
  |some x=>Nh E t x f
  |none=>none
 | .indexAddr t a i=>match CH env a,CH env i with
  |some x,some y=>Gr E H t x y
  |_,_=>none
 | .index t a i=>match CH env a,CH env i with
  |some x,some y=>Ni E t x y
  |_,_=>none
 | .build t ps=>R9 E (CH env) t ps.toList
 | .buildSlice t len ps=>match GQ E (CH env) t len ps.toList with
  |some (c,q)=>match len with
   |0=>some (c,.e0)
   |_+1=>some (c,.d q)
  |none=>none
 | .makeFunc f first cap=>match Gk env first.toList,Gk env cap.toList with
  |some a,some b=>some (true,.fn f a b)
  |_,_=>none
 | .extract a i=>match CH env a with
  |some x=>JV x i
  |none=>none
 | .lookup t m k ok=>match CH env m,CH env k with
  |some x,some y=>RB E H t x y ok
  |_,_=>none
 | .makeInterface t a=>match CH env a with
  |some x=>bu E t x
  |none=>none
 | .typeAssert a _ asserted ok=>match CH env a with
  |some x=>OS E x asserted ok
  |none=>none
 | .call c=>match c.callee with
  | .builtin b=>match Gk env c.args.toList with
   |some xs=>lN E H b c.argTypes.toList xs
   |none=>none
  |_=>none
 |_=>none
theorem CY{G:Gh}{a:Act}{env:List (Nat×AV)}(hst:fv G.m)(h:Fi G env a.tmps):∀{l:List Operand}{xs:List AV},Gk env l=some xs->Al G xs (l.map a.eval)
 |[],xs,e=>by simp[Gk]at e;subst e;simp[Al]
 |o::l,xs,e=>by
  simp only[Gk]at e;split at e
  .rename_i x q h1 h2;cases e;simp only[sO,Al];exact⟨_,_,rfl,AL hst h h1,CY hst h h2⟩
  .cases e
theorem Rw{G:Gh}{a:Act}{env:List (Nat×AV)}(hst:fv G.m)(h:Fi G env a.tmps)(o:Option Operand):O0 G (ZP env o) (o.map a.eval):=by
 cases o with
 |none=>simp[ZP,O0]
 |some o=>
  simp only[ZP,Option.map_some]
  cases hx:CH env o with
  |none=>simp[O0]
  |some x=>exact AL hst h hx
variable {P:Program}{o:Oper}{S:St}{y:AV}{f:Act->Sem Value}
theorem D2.Hc(ho:∀a:Act,execOp a.eval o=(do pure (.value (<-f a))))(h:∀ro N G a w,Rel ro N S G a w->Yields P G w (f a) y):D2 P o S y S.H:=by
 intro ro N G a w r;obtain⟨u,w',G',h1,h2,h3,h4,h5⟩:=h ro N G a w r;refine⟨.value u,w',G',?_,.inr ⟨u,rfl,h2⟩,h3.trans r.heap,h4,h5⟩;rw[ho];simp[h1]
theorem D2.DW{H':List A3}(ho:∀a:Act,execOp a.eval o=(do pure (.value (<-f a))))(h:∀ro N G a w,Rel ro N S G a w->F4 P G w (f a) y H'):D2 P o S y H':=by
 intro ro N G a w r;obtain⟨u,w',G',h1,h2,h3,h4,h5⟩:=h ro N G a w r;refine⟨.value u,w',G',?_,.inr ⟨u,rfl,h2⟩,h3,h4,h5⟩;rw[ho];simp[h1]
theorem D2.of_run(ho:∀a:Act,execOp a.eval o=(do pure (.value (<-f a))))(h:∀ro N G a w,Rel ro N S G a w->∃u,(f a).run P w= .ok u w/\RV G y u):D2 P o S y S.H:=
 .Hc ho fun ro N G a w r=>let⟨u,h1,h2⟩:=h ro N G a w r;Yields.still r.rel h1 h2
variable {op:BinOp}{t:Nat}
theorem Gn{x y:Operand}{v u:Value}{w:World}(h:(∀a,v≠ .agg a)/\v≠ .nilIface\/(op≠ .eql/\op≠ .neq)):(eqGuard op t x y v u).run P w= .ok () w:=by
 unfold eqGuard;rcases h with⟨h1,h2⟩|⟨h1,h2⟩
 .cases op<;>first
   |(simp;done)
   |(simp only[qc];cases v<;>first|exact absurd rfl (h1 _)|exact absurd rfl h2|simp)
 .cases op<;>simp_all
theorem TN{x y:Operand}{a b:Array Value}{w:World}(h:P.eqGuardType P.depth t=false):(eqGuard op t x y (.agg a) (.agg b)).run P w= .ok () w:=by
 unfold eqGuard;cases op<;>simp[h]
theorem Su{m:Mem}{p:D}{v:Value}(hp:(∃k n,p= .i k n)\/(∃s,p= .s s))(h:RD m p v):(∀a,v≠ .agg a)/\v≠ .nilIface:=by
 rcases hp with⟨k,n,rfl⟩|⟨s,rfl⟩<;>simp only[RD]at h<;>subst h<;>simp
variable {c:Bool}
theorem OE{p q:D}{r:D}(h:YV op p q=some (c,r)):(∃k n,p= .i k n)\/(∃s,p= .s s):=by
 unfold YV at h;split at h
 .exact .inl ⟨_,_,rfl⟩
 .exact .inr ⟨_,rfl⟩
 .cases h
variable {ps:Array (Nat×Operand)}
theorem Gt{len:Nat}(ho:o.op= .buildSlice t len ps)(ρ:Operand->Value):execOp ρ o=(do pure (.value (<-Instr.buildSlice t len (ps.map fun(i,x)=>(i,ρ x))))):=by
 unfold execOp;simp only[ho]
theorem VI(ho:o.op= .build t ps)(ρ:Operand->Value):execOp ρ o=(do pure (.value (<-Instr.build t (ps.map fun(i,x)=>(i,ρ x))))):=by
 unfold execOp;simp only[ho]
theorem E1{α:Type}{a:Array α}{l:List α}(h:a.toList=l):a=l.toArray:=by rw[<-h]
theorem Mk{P:Program}{b:Builtin}{c:Call}(hc:c.callee= .builtin b)(ho:o.op= .call c)(a:Act):execOp a.eval o=builtin b c.argTypes o.type (c.args.map fun| .const _=>true|_=>false) (c.args.map a.eval):=by
 unfold execOp;simp only[ho,resolve,hc];rfl
variable {E:Nat->Option Ao}
theorem gb(hE:BN P E){cl:Call}(ho:o.op= .call cl){b:Builtin}(hb:cl.callee= .builtin b){xs:List AV}(hxs:Gk S.env cl.args.toList=some xs){x:AV}(h:lN E S.H b cl.argTypes.toList xs=some (c,x))(hc:c=true):D2 P o S x S.H:=by
 subst hc;unfold lN at h;split at h
 .rename_i t x' ht;have hty:=E1 ht;refine .of_run (f:=fun a=>Builtin.len_ cl.argTypes o.type (cl.args.map a.eval)) (fun a=>by rw[Mk (P:=P) hb ho];rfl) fun ro N G a w r=> ?_
  have:=CY r.rel.st r.env hxs;simp only[Al]at this;obtain⟨v,q,e,h1,rfl⟩:=this;have e2:cl.args.map a.eval= #[v]:=E1 (by simpa using e);obtain⟨u,hu,hr⟩:=cA (ty:=o.type) hE (w:=w) (by rw[r.heap];exact h) rfl h1;exact⟨u,by rw[e2,hty];exact hu,hr⟩
 .rename_i k p k' q;cases h;refine .of_run (f:=fun a=>Builtin.min_ cl.argTypes o.type (cl.args.map a.eval)) (fun a=>by rw[Mk (P:=P) hb ho];rfl) fun ro N G a w r=> ?_
  have:=CY r.rel.st r.env hxs;simp only[Al,RV,RD]at this;obtain⟨v,l,e,h1,v',l',e',h2,h3⟩:=this;subst h1;subst e';subst h2;subst h3;have e2:cl.args.map a.eval= #[.int k p,.int k' q]:=E1 (by simpa using e);refine⟨.int k (if q<p then q else p),?_,by simp[RV,RD]⟩;rw[e2];simp[Builtin.min_,Builtin.min2]
 .rename_i k p k' q;cases h;refine .of_run (f:=fun a=>Builtin.max_ cl.argTypes o.type (cl.args.map a.eval)) (fun a=>by rw[Mk (P:=P) hb ho];rfl) fun ro N G a w r=> ?_
  have:=CY r.rel.st r.env hxs;simp only[Al,RV,RD]at this;obtain⟨v,l,e,h1,v',l',e',h2,h3⟩:=this;subst h1;subst e';subst h2;subst h3;have e2:cl.args.map a.eval= #[.int k p,.int k' q]:=E1 (by simpa using e);refine⟨.int k (if p<q then q else p),?_,by simp[RV,RD]⟩;rw[e2];simp[Builtin.max_,Builtin.max2]
 .rename_i t u x' ht;have hty:=E1 ht;split at h
  .rename_i c' q hq;simp only[qI,qR]at h;obtain⟨hc,rfl⟩:=h;refine .Hc (f:=fun a=>Builtin.append_ cl.argTypes o.type (cl.args.map a.eval)) (fun a=>by rw[Mk (P:=P) hb ho];rfl) fun ro N G a w r=> ?_
   have:=CY r.rel.st r.env hxs;simp only[Al]at this;obtain⟨v,l,e,h1,v',l',e',h2,h3⟩:=this;subst e';subst h3;have e2:cl.args.map a.eval= #[v,v']:=E1 (by simpa using e);have hy:=YO (ty:=o.type) hE r.rel (by rw[r.heap];exact hq) hc h1 h2;obtain⟨u,w',G',y1,y2⟩:=hy;exact⟨u,w',G',by rw[e2,hty];exact y1,y2⟩
  .cases h
 .cases h
theorem Hv(hE:BN P E){x:AV}(h:Hu E S.env S.H o.op=some (c,x))(hc:c=true):D2 P o S x S.H:=by
 subst hc;obtain⟨dst,op,ty,pos,after,guard⟩:=o;simp only at h
 have ttok:∀{p:Operand},tt (CH S.env p)=some (true,x)->CH S.env p=some x:=by
  intro p hp;unfold tt at hp;split at hp
  .rename_i y hy;cases hp;exact hy
  .cases hp
 cases op<;>simp only[Hu]at h<;>try(cases h;done)
 case move p=>
  exact .still fun ro N G a w r=>⟨_,by simp[execOp],AL r.rel.st r.env (ttok h)⟩
 case assign p=>
  exact .still fun ro N G a w r=>⟨_,by simp[execOp],AL r.rel.st r.env (ttok h)⟩
 case pick p q s=>
  split at h
  .rename_i t ht;split at h
   .refine .still fun ro N G a w r=>⟨a.eval q,?_,AL r.rel.st r.env (ttok h)⟩;have:=AL r.rel.st r.env ht
    simp only[RV,RD]at this;simp[execOp,this,asBool]
   .refine .still fun ro N G a w r=>⟨a.eval s,?_,AL r.rel.st r.env (ttok h)⟩;have:=AL r.rel.st r.env ht
    simp only[RV,RD]at this;simp[execOp,this,asBool]
  .cases h
 case load t p=>
  split at h
  .rename_i y hy;exact .of_run (f:=fun a=>Instr.loadAt t (a.eval p)) (fun _=>rfl) fun ro N G a w r=>Q4 hE r.rel (by rw[r.heap];exact h) rfl (AL r.rel.st r.env hy)
  .cases h
 case nilCheck p=>
  split at h
  .rename_i y hy;exact .still fun ro N G a w r=>cF (by rw[r.heap];exact h) rfl (p:=p) rfl (AL r.rel.st r.env hy)
  .cases h
 case binOp op t p q yt=>
  have eqcase:∀{y z:AV}{rr:Bool},CH S.env p=some y->CH S.env q=some z->OT E S.H t y z=some (true,rr)->(op= .eql/\x= .d (.b rr)\/op= .neq/\x= .d (.b (!rr)))->D2 P ⟨dst,.binOp op t p q yt,ty,pos,after,guard⟩ S x S.H:=by
   intro y z rr hy hz he hop;refine .of_run (f:=fun a=>do eqGuard op t p q (a.eval p) (a.eval q);binOp op t (a.eval p) (a.eval q)) (fun _=>rfl) fun ro N G a w r=> ?_
   obtain⟨g1,g2,g3,g4,g5,g6⟩:=br hE (w:=w) (by rw[r.heap];exact he) rfl (AL r.rel.st r.env hy) (AL r.rel.st r.env hz)
   have hg:(eqGuard op t p q (a.eval p) (a.eval q)).run P w= .ok () w:=by
    rcases g6 with g6|⟨va,ua,e1,e2,e3⟩
    .exact Gn (P:=P) (op:=op) (t:=t) (x:=p) (y:=q) (v:=a.eval p) (u:=a.eval q) (w:=w) (.inl g6)
    .rw[e1,e2];exact TN e3
   have hb:∀op',(op'= .eql\/op'= .neq)->binOp op' t (a.eval p) (a.eval q)=(match op' with| .eql=>do pure (.bool (<-Op.equal t (a.eval p) (a.eval q)))|_=>do pure (.bool (!(<-Op.equal t (a.eval p) (a.eval q))))):=by
    intro op' ho;generalize a.eval p=v1 at *;generalize a.eval q=v2 at*
    rcases ho with rfl|rfl<;>cases v1<;>first
     |exact absurd rfl (g2 _ _)
     |exact absurd rfl (g3 _ _)
     |exact absurd rfl (g4 _)
     |exact absurd rfl (g5 _ _ _)
     |rfl
   rcases hop with⟨rfl,rfl⟩|⟨rfl,rfl⟩
   .exact⟨.bool rr,by simp only[qc,hg,qU];rw[hb .eql (.inl rfl)];simp[g1],by simp[RV,RD]⟩
   .exact⟨.bool (!rr),by simp only[qc,hg,qU];rw[hb .neq (.inr rfl)];simp[g1],by simp[RV,RD]⟩
  split at h
  .rename_i y z hy hz;split at h
   .rename_i p' q';split at h
    .rename_i c' r' hb;simp only[qI,qR]at h;obtain⟨hc,rfl⟩:=h;refine .of_run (f:=fun a=>do eqGuard op t p q (a.eval p) (a.eval q);binOp op t (a.eval p) (a.eval q)) (fun _=>rfl) fun ro N G a w r=> ?_
     have hp:=AL r.rel.st r.env hy;have hq:=AL r.rel.st r.env hz;simp only[RV]at hp hq;obtain⟨v,hv,hr⟩:=gQ (P:=P) (t:=t) hb hc hp hq w;have hg:=Gn (P:=P) (op:=op) (t:=t) (x:=p) (y:=q) (v:=a.eval p) (u:=a.eval q) (w:=w) (.inl (Su (OE hb) hp));exact⟨v,by simp only[qc,hg,qU,hv],by simpa only[RV]using hr⟩
    .split at h
     .split at h
      .rename_i cc rr he;cases h;exact eqcase hy hz he (.inl ⟨rfl,rfl⟩)
      .cases h
     .split at h
      .rename_i cc rr he;cases h;exact eqcase hy hz he (.inr ⟨rfl,rfl⟩)
      .cases h
     .cases h
   .split at h
    .split at h
     .rename_i cc rr he;cases h;exact eqcase hy hz he (.inl ⟨rfl,rfl⟩)
     .cases h
    .split at h
     .rename_i cc rr he;cases h;exact eqcase hy hz he (.inr ⟨rfl,rfl⟩)
     .cases h
    .cases h
  .cases h
 case unOp op t p=>
  split at h
  .rename_i p' hy;split at h
   .rename_i c' r' hu;simp only[qI,qR]at h;obtain⟨hc,rfl⟩:=h;refine .of_run (f:=fun a=>Op.unary op (a.eval p)) (fun _=>rfl) fun ro N G a w r=> ?_
    have hp:=AL r.rel.st r.env hy;simp only[RV]at hp;obtain⟨v,hv,hr⟩:=nD (P:=P) hu hc hp w;exact⟨v,hv,by simpa only[RV]using hr⟩
   .cases h
  .cases h
 case convert s d p=>
  split at h
  .rename_i y hy;exact .Hc (f:=fun a=>convert s d (a.eval p)) (fun _=>rfl) fun ro N G a w r=>Yt hE r.rel (by rw[r.heap];exact h) rfl (AL r.rel.st r.env hy)
  .cases h
 case slice t p lo hi mx=>
  split at h
  .rename_i y hy;exact .of_run (f:=fun a=>Instr.sliceAt t (a.eval p) (lo.map a.eval) (hi.map a.eval) (mx.map a.eval)) (fun _=>rfl) fun ro N G a w r=>VG hE h rfl (AL r.rel.st r.env hy) (Rw r.rel.st r.env lo) (Rw r.rel.st r.env hi) (Rw r.rel.st r.env mx)
  .cases h
 case fieldAddr s p f=>
  split at h
  .rename_i y hy;exact .of_run (f:=fun a=>Instr.fieldAt s (a.eval p) f) (fun _=>rfl) fun ro N G a w r=>OU hE (by rw[r.heap];exact h) rfl (AL r.rel.st r.env hy)
  .cases h
 case field t p f=>
  split at h
  .rename_i y hy;exact .of_run (f:=fun a=>Instr.field t (a.eval p) f) (fun _=>rfl) fun ro N G a w r=>VC hE h (AL r.rel.st r.env hy)
  .cases h
 case indexAddr t p q=>
  split at h
  .rename_i y z hy hz;exact .of_run (f:=fun a=>Instr.indexAt t (a.eval p) (a.eval q)) (fun _=>rfl) fun ro N G a w r=>OV hE (by rw[r.heap];exact h) rfl (AL r.rel.st r.env hy) (AL r.rel.st r.env hz)
  .cases h
 case index t p q=>
  split at h
  .rename_i y z hy hz;exact .of_run (f:=fun a=>Instr.index t (a.eval p) (a.eval q)) (fun _=>rfl) fun ro N G a w r=>VD hE h rfl (AL r.rel.st r.env hy) (AL r.rel.st r.env hz)
  .cases h
 case build t ps=>
  exact .of_run (f:=fun a=>Instr.build t (Up a.eval ps)) (fun a=>VI rfl a.eval) fun ro N G a w r=>VA hE (fun o x hx=>AL r.rel.st r.env hx) h rfl
 case buildSlice t len ps=>
  split at h
  .rename_i c' q hq
   cases len with
   |zero=>
    simp only[qI,qR]at h;obtain⟨hc,rfl⟩:=h;exact .Hc (f:=fun a=>Instr.buildSlice t 0 (Up a.eval ps)) (fun a=>Gt rfl a.eval) fun ro N G a w r=>YW hE r.rel (fun o x hx=>AL r.rel.st r.env hx) hq hc
   |succ n=>
    simp only[qI,qR]at h;obtain⟨hc,rfl⟩:=h;exact .Hc (f:=fun a=>Instr.buildSlice t (n+1) (Up a.eval ps)) (fun a=>Gt rfl a.eval) fun ro N G a w r=>TC hE r.rel (fun o x hx=>AL r.rel.st r.env hx) hq hc
  .cases h
 case makeFunc f first cap=>
  split at h
  .rename_i y z hy hz;cases h;refine .of_run (f:=fun a=>Instr.makeFunc f (first.map a.eval) (cap.map a.eval)) (fun _=>rfl) fun ro N G a w r=>⟨_,by simp only[Instr.makeFunc,qh];rfl,?_⟩
   simp only[RV];exact⟨first.toList.map a.eval,cap.toList.map a.eval,by congr 1<;>(apply Array.ext';simp),CY r.rel.st r.env hy,CY r.rel.st r.env hz⟩
  .cases h
 case lookup t m k ok=>
  split at h
  .rename_i y z hy hz;exact .of_run (f:=fun a=>Instr.lookup t (a.eval m) (a.eval k) ok) (fun _=>rfl) fun ro N G a w r=>Yu hE r.rel (by rw[r.heap];exact h) rfl (AL r.rel.st r.env hy) (AL r.rel.st r.env hz)
  .cases h
 case makeInterface t p=>
  split at h
  .rename_i y hy;exact .of_run (f:=fun a=>Instr.makeInterface t (a.eval p)) (fun _=>rfl) fun ro N G a w r=>bv hE h rfl (AL r.rel.st r.env hy)
  .cases h
 case typeAssert p xt asserted ok=>
  split at h
  .rename_i y hy;exact .of_run (f:=fun a=>Instr.typeAssert (a.eval p) xt asserted ok) (fun _=>rfl) fun ro N G a w r=>TO hE h rfl (AL r.rel.st r.env hy)
  .cases h
 case extract p i=>
  split at h
  .rename_i y hy;exact .of_run (f:=fun a=>Instr.extract (a.eval p) i) (fun _=>rfl) fun ro N G a w r=>RA h (AL r.rel.st r.env hy)
  .cases h
 case call c=>
  split at h
  .rename_i b hb;split at h
   .rename_i xs hxs;exact gb hE rfl hb hxs h rfl
   .cases h
  .cases h
end Go.Gar
namespace Go.Gar
def aU(E:Nat->Option Ao)(env:List (Nat×AV))(H:List A3)(op:Op):Option (Bool×(Nat->AV)×A3):=
 match op with
 | .alloc t=>match R8 E t with
  |some cs=>some (true,fun id=> .ptr id 0 cs.length,.c cs)
  |none=>none
 | .box t a=>match CH env a with
  |some x=>match bp E t x with
   |some cs=>some (true,fun id=> .ptr id 0 cs.length,.c cs)
   |none=>none
  |none=>none
 | .makeSlice t l c=>match CH env l,CH env c with
  |some x,some y=>match VE E t x y with
   |some (cc,q)=>some (cc,fun id=> .sl id (AP q) (B9 q),.a q)
   |none=>none
  |_,_=>none
 | .makeMap _ r=>match r with
  |none=>some (true,fun id=> .mp id,.m [])
  |some _=>none
 |_=>none
variable {P:Program}{E:Nat->Option Ao}{S:St}{o:Oper}{c:Bool}
theorem OR(hE:BN P E){f:Nat->AV}{b:A3}(h:aU E S.env S.H o.op=some (c,f,b))(hc:c=true):D2 P o S (f S.H.length) (S.H++[b]):=by
 subst hc;obtain⟨dst,op,ty,pos,after,guard⟩:=o;simp only at h;cases op<;>simp only[aU]at h<;>try(cases h;done)
 case alloc t=>
  split at h
  .rename_i cs hcs;cases h
   exact .DW (f:=fun a=>Instr.alloc t true (.tuple #[])) (fun _=>rfl) fun ro N G a w r=>by
    have:=V8 hE r.rel hcs;rw[r.heap]at this;exact this
  .cases h
 case box t p=>
  split at h
  .rename_i x hx;split at h
   .rename_i cs hcs;cases h
    exact .DW (f:=fun a=>Instr.box t (a.eval p)) (fun _=>rfl) fun ro N G a w r=>by
     have:=bq (P:=P) r.rel hcs (AL r.rel.st r.env hx);rw[r.heap]at this;exact this
   .cases h
  .cases h
 case makeSlice t l c=>
  split at h
  .rename_i x y hx hy;split at h
   .rename_i cc q hq;simp only[qI,qR]at h;obtain⟨hc,rfl,rfl⟩:=h
    exact .DW (f:=fun a=>Instr.makeSlice t (a.eval l) (a.eval c)) (fun _=>rfl) fun ro N G a w r=>by
     have:=Yv hE r.rel hq hc (AL r.rel.st r.env hx) (AL r.rel.st r.env hy);rw[r.heap]at this;exact this
   .cases h
  .cases h
 case makeMap t p=>
  cases p with
  |none=>
   cases h
   exact .DW (f:=fun a=>Instr.makeMap t none) (fun _=>rfl) fun ro N G a w r=>by
    have:=VY (P:=P) r.rel t;rw[r.heap]at this;exact this
  |some q=>cases h
def MJ(E:Nat->Option Ao)(env:List (Nat×AV))(H:List A3)(op:Op):Option (Bool×D):=
 match op with
 | .call c=>match c.callee,c.argTypes.toList with
  | .builtin .append,[t,u]=>match Gk env c.args.toList with
   |some [.e0,x]=>MK E H t u x
   |_=>none
  |_,_=>none
 | .buildSlice t len ps=>GQ E (CH env) t len ps.toList
 |_=>none
theorem R7(hE:BN P E){q:D}(h:MJ E S.env S.H o.op=some (c,q))(hc:c=true):D2 P o S (.sl S.H.length (AP q) (B9 q)) (S.H++[.a q]):=by
 subst hc;unfold MJ at h;split at h
 .rename_i cl ho;split at h
  .rename_i t u hb ht;have hty:=E1 ht;split at h
   .rename_i x hxs;refine .DW (f:=fun a=>Builtin.append_ cl.argTypes o.type (cl.args.map a.eval)) (fun a=>by rw[Mk (P:=P) hb ho];rfl) fun ro N G a w r=> ?_
    have:=CY r.rel.st r.env hxs;simp only[Al]at this;obtain⟨v,l,e,h1,v',l',e',h2,h3⟩:=this;subst e';subst h3;have e2:cl.args.map a.eval= #[v,v']:=E1 (by simpa using e);have hy:=bM (ty:=o.type) hE r.rel (by rw[r.heap];exact h) rfl h1 h2;rw[e2,hty];rw[r.heap]at hy;exact hy
   .cases h
  .cases h
 .rename_i t len ps ho;refine .DW (f:=fun a=>Instr.buildSlice t len (Up a.eval ps)) (fun a=>Gt ho a.eval) fun ro N G a w r=> ?_
  have:=V3 hE r.rel (fun o x hx=>AL r.rel.st r.env hx) h rfl;rw[r.heap]at this;exact this
 .cases h
def fZ(E:Nat->Option Ao)(env:List (Nat×AV))(H:List A3)(op:Op):Option (Bool×AV×List A3):=
 match op with
 | .store t a x=>match CH env a,CH env x with
  |some p,some v=>match RH E H t p v with
   |some (c,H')=>some (c,.u,H')
   |none=>none
  |_,_=>none
 | .insert t m k v| .mapUpdate t m k v=>match CH env m,CH env k,CH env v with
  |some x,some y,some z=>match bw E H t x y z with
   |some (c,H')=>some (c,.u,H')
   |none=>none
  |_,_,_=>none
 | .call c=>match c.callee,c.argTypes.toList with
  | .builtin .append,[t,u]=>match Gk env c.args.toList with
   |some [.sl id n sz,x]=>match V9 E H t u id n x with
    |some (c,r)=>match setH id (.a r) H with
     |some H'=>some (c,.sl id (AP r) sz,H')
     |none=>none
    |none=>none
   |_=>none
  |_,_=>none
 |_=>none
theorem OX(hE:BN P E){x:AV}{H':List A3}(h:fZ E S.env S.H o.op=some (c,x,H'))(hc:c=true):D2 P o S x H':=by
 subst hc;unfold fZ at h;split at h
 .rename_i t p v ho;split at h
  .rename_i y z hy hz;split at h
   .rename_i c' q hq;simp only[qI,qR]at h;obtain⟨hc,rfl,rfl⟩:=h;intro ro N G a w r;obtain⟨w',G',h1,h2,h3,h4⟩:=VH hE r.rel (by rw[r.heap];exact hq) hc (AL r.rel.st r.env hy) (AL r.rel.st r.env hz);refine⟨.skip,w',G',?_,.inl ⟨rfl,rfl⟩,h2,h3,h4⟩;unfold execOp;simp only[ho,qc,h1,qU,qh]
   .cases h
  .cases h
 .rename_i t m k v ho;split at h
  .rename_i x' y z hx hy hz;split at h
   .rename_i c' q hq;simp only[qI,qR]at h;obtain⟨hc,rfl,rfl⟩:=h;intro ro N G a w r;obtain⟨w',G',h1,h2,h3,h4⟩:=TS hE r.rel (by rw[r.heap];exact hq) hc (AL r.rel.st r.env hx) (AL r.rel.st r.env hy) (AL r.rel.st r.env hz);refine⟨.skip,w',G',?_,.inl ⟨rfl,rfl⟩,h2,h3,h4⟩;unfold execOp;simp only[ho,qc,h1,qU,qh]
   .cases h
  .cases h
 .rename_i t m k v ho;split at h
  .rename_i x' y z hx hy hz;split at h
   .rename_i c' q hq;simp only[qI,qR]at h;obtain⟨hc,rfl,rfl⟩:=h;intro ro N G a w r;obtain⟨w',G',h1,h2,h3,h4⟩:=TS hE r.rel (by rw[r.heap];exact hq) hc (AL r.rel.st r.env hx) (AL r.rel.st r.env hy) (AL r.rel.st r.env hz);refine⟨.skip,w',G',?_,.inl ⟨rfl,rfl⟩,h2,h3,h4⟩;unfold execOp;simp only[ho,qc,h1,qU,qh]
   .cases h
  .cases h
 .rename_i cl ho;split at h
  .rename_i t u hb ht;have hty:=E1 ht;split at h
   .rename_i id n sz x' hxs;split at h
    .rename_i c' q hq;split at h
     .rename_i H2 hset;simp only[qI,qR]at h;obtain⟨hc,rfl,rfl⟩:=h;obtain⟨_,rfl⟩:=Jm hset;refine .DW (f:=fun a=>Builtin.append_ cl.argTypes o.type (cl.args.map a.eval)) (fun a=>by rw[Mk (P:=P) hb ho];rfl) fun ro N G a w r=> ?_
      have:=CY r.rel.st r.env hxs;simp only[Al]at this;obtain⟨v,l,e,h1,v',l',e',h2,h3⟩:=this;subst e';subst h3;have e2:cl.args.map a.eval= #[v,v']:=E1 (by simpa using e);have hy:=gL (ty:=o.type) hE r.rel (by rw[r.heap];exact hq) hc h1 h2;rw[e2,hty];rw[r.heap]at hy;exact hy
     .cases h
    .cases h
   .cases h
  .cases h
 .cases h
def Ap(dst:Option Tmp)(x:AV)(env:List (Nat×AV)):List (Nat×AV):=
 match dst with
 |some d=>(d,x)::env
 |none=>env
def AE(dst:Option Tmp)(n:Nat):Bool:=
 match dst with
 |some d=>Nat.blt d n
 |none=>true
def A8(ops:Array Oper)(env:List (Nat×AV))(o:Oper):Option Bool:=
 match o.guard with
 |none=>some true
 |some (j,want)=>match ops.toList[j]? with
  |some p=>match p.dst with
   |some d=>match get env d with
    |some (.d (.b b))=>some (match want with|true=>b|false=> !b)
    |some (.d (.tup []))=>some false
    |_=>none
   |none=>none
  |none=>none
def Wl(P:Program)(ro:Option Nat)(ops:Array Oper)(i:Nat)(rest:List Oper)(S:St)(Q:Exit->St->Prop):Prop:=
 (∀k:Nat,rest[k]? =ops[i+k]?)->∀N G a w,Rel ro N S G a w->wpOpsIn (It (rl G ro)) 0 P ops (Post ro N G w Q) (List.range' i rest.length) a w
section
variable {P:Program}{ro:Option Nat}{ops:Array Oper}{i:Nat}{rest:List Oper}{S:St}{Q:Exit->St->Prop}{o:Oper}
theorem Dz{id:Nat}(h:Wl P ro ops 0 ops.toList S Q):W P ro (.region id ops false) S Q:=by
 intro N G a w r;refine wpIn_region ?_;have:=h (fun k=>sm) N G a w r;rw[List.range_eq_range'];simpa using this
theorem Qq(h:Q .normal S):Wl P ro ops i [] S Q:=by
 intro _ N G a w r;simp only[qy,List.range'_zero,wpOpsIn];exact⟨S,G,h,r,C4.refl G w⟩
theorem Ay{F:Fence}{n:Nat}{Q Q':Exit->Act->World->Prop}(hq:∀e a w,Q e a w->Q' e a w):∀(l:List Nat)(a:Act)(w:World),wpOpsIn F n P ops Q l a w->wpOpsIn F n P ops Q' l a w
 |[],a,w,h=>hq _ _ _ h
 |i::l,a,w,h=>by
  simp only[wpOpsIn]at h|-;split
  .rename_i ho;simp only[ho]at h;exact Ay hq l a w h
  .rename_i o ho;simp only[ho]at h;split
   .rename_i hw;rw[if_pos hw]at h;obtain⟨h1,h2⟩:=h;refine⟨h1,?_⟩;generalize(o.semAt F.round a.eval).run P w=r at*
    cases r with
    |ok x w'=>
     cases x<;>simp only[Oper.uponIn]at h2|-<;>
      first
       |exact Ay hq l _ _ h2
       |exact⟨h2.1,CallsIn.mono h2.2 (fun e w'' he=>by
        cases e with
        |returned v=>exact Ay hq l _ _ he
        |panicked c=>exact hq _ _ _ he
        |outgrown=>obtain⟨a0,w0,h0⟩:=he;exact⟨a0,w0,hq _ _ _ h0⟩)⟩
       |exact⟨h2.1,RowsIn.mono h2.2 (fun _ _ he=>Ay hq l _ _ he)⟩
       |exact⟨h2.1,RoundIn.mono h2.2 (fun e w'' he=>by
        cases e with
        |returned v=>exact Ay hq l _ _ he
        |panicked c=>exact hq _ _ _ he
        |outgrown=>obtain⟨a0,w0,h0⟩:=he;exact⟨a0,w0,hq _ _ _ h0⟩)⟩
    |halt x w'=>
     cases x<;>simp only[Oper.uponIn]at h2|-<;>exact hq _ _ _ h2
   .rename_i hw;rw[if_neg hw]at h;exact⟨h.1,Ay hq l _ _ h.2⟩
theorem BL{G:Gh}{a:Act}(h:Fi G S.env a.tmps){b:Bool}(hg:A8 ops S.env o=some b):Region.wanted o (yielded ops a.tmps)=b:=by
 unfold A8 at hg;unfold Region.wanted;split at hg
 .rename_i hn;cases hg;rw[hn]
 .rename_i j want hn;rw[hn];split at hg
  .rename_i p hp;split at hg
   .rename_i d hd;split at hg
    .rename_i q hq;cases hg;obtain⟨v,hv,hr⟩:=h d _ hq;simp only[RV,RD]at hr;subst hr
     have:yielded ops a.tmps j=some q:=by
      have hp':ops[j]? =some p:=by simpa using hp
      simp[yielded,hp',hd,hv]
     simp only[this];cases want<;>cases q<;>rfl
    .rename_i hq;cases hg;obtain⟨v,hv,hr⟩:=h d _ hq;simp only[RV,RD,DC]at hr;obtain⟨vs,rfl,rfl⟩:=hr
     have:yielded ops a.tmps j=none:=by
      have hp':ops[j]? =some p:=by simpa using hp
      simp[yielded,hp',hd,hv]
     simp only[this];rfl
    .cases hg
   .cases hg
  .cases hg
theorem F9{G:Gh}{a:Act}(h:Fi G S.env a.tmps)(hs:a.tmps.size=S.n){dst:Option Tmp}(hd:AE dst S.n=true){x:AV}{v:Value}(hx:RV G x v):Fi G (Ap dst x S.env) (a.put dst v).tmps/\(a.put dst v).tmps.size=S.n/\(a.put dst v).defers=a.defers:=by
 cases dst with
 |none=>exact⟨h,hs,rfl⟩
 |some d=>
  simp only[AE,tX]at hd;refine⟨fun t y hy=> ?_,by simp[Act.put,hs],rfl⟩;simp only[Ap,get]at hy;split at hy
  .rename_i hb;cases hy;have:=qL hb;subst this;exact⟨v,by simp only[Act.put];exact rW (by rw[hs];exact hd),hx⟩
  .rename_i hb;obtain⟨u,hu,hr⟩:=h t y hy
   have hne:d≠t:=by
    intro e;subst e;simp at hb
   exact⟨u,by simp only[Act.put];rw[ru hne];exact hu,hr⟩
theorem L1{x:AV}{H':List A3}(hg:A8 ops S.env o=some true)(hop:D2 P o S x H')(hnd:∀c,o.op≠ .defer c)(hd:AE o.dst S.n=true)
  (k:Wl P ro ops (i+1) rest ⟨Ap o.dst x S.env,H',S.n⟩ Q):Wl P ro ops i (o::rest) S Q:=by
 intro hops N G a w r;have ho:ops[i]? =some o:=by have:=hops 0;simpa using this.symm
 simp only[qY,tH,wpOpsIn,ho];rw[if_pos (BL r.env hg)];obtain⟨res,w',G',h1,h2,h3,h4,h5⟩:=hop ro N G a w r;refine⟨fun _ _=>trivial,?_⟩;rw[uh _ _ _ hnd,h1];have hops':∀k:Nat,rest[k]? =ops[i+1+k]?:=fun k=>by have:=hops (k+1);simp at this;rw[this];congr 1;omega
 have fin:∀v,RV G' x v->wpOpsIn (It (rl G ro)) 0 P ops (Post ro N G w Q) (List.range' (i+1) rest.length) (a.put o.dst v) w':=by
  intro v hv;obtain⟨e1,e2,e3⟩:=F9 (r.env.mono h5.gle) r.size hd hv
  have r':Rel ro N ⟨Ap o.dst x S.env,H',S.n⟩ G' (a.put o.dst v) w':=⟨h3,h4,e2,e1,r.marks.Nm h5 e3,fun id hid=>by
   obtain⟨q,l,M,q1,q2⟩:=r.round id hid;rw[<-r.heap]at q1;obtain⟨b',hb',hs⟩:=h5.gle.blk id _ q1;rw[h3]at hb';cases b'<;>simp only[AI]at hs
   exact⟨_,l,M,hb',hs.1.trans q2⟩⟩
  have hk:=k hops' N G' _ w' r';rw[Ev r r' h5]at hk;exact Ay (fun _ _ _ p=>p.trans h5) _ _ _ hk
 rcases h2 with⟨rfl,rfl⟩|⟨v,rfl,hv⟩
 .simp only[Oper.uponIn];exact fin undef (by simp[RV])
 .simp only[Oper.uponIn];exact fin v hv
end
end Go.Gar
namespace Go.Gar
section
variable {P:Program}{ro:Option Nat}{ops:Array Oper}{i:Nat}{rest:List Oper}{S:St}{Q:Exit->St->Prop}{o:Oper}{E:Nat->Option Ao}
def Nn:Op->Bool
 | .defer _=>true
 |_=>false
theorem QK{o:Oper}(h:Nn o.op=false):∀c,o.op≠ .defer c:=fun c e=>by rw[e]at h;cases h
variable {env:List (Nat×AV)}{H:List A3}{op:Op}
theorem FG{r:Bool×AV}(h:Hu E env H op=some r):∀c,op≠ .defer c:=fun c e=>by subst e;cases h
theorem Gp{r:Bool×(Nat->AV)×A3}(h:aU E env H op=some r):∀c,op≠ .defer c:=fun c e=>by subst e;cases h
theorem Ht{r:Bool×D}(h:MJ E env H op=some r):∀c,op≠ .defer c:=fun c e=>by subst e;cases h
theorem Gs{r:Bool×AV×List A3}(h:fZ E env H op=some r):∀c,op≠ .defer c:=fun c e=>by subst e;cases h
variable {x:AV}{c:Bool}
theorem kj(hE:BN P E)(hg:A8 ops S.env o=some true)(h:Hu E S.env S.H o.op=some (c,x))(hd:AE o.dst S.n=true)(hc:c=true)(k:Wl P ro ops (i+1) rest ⟨Ap o.dst x S.env,S.H,S.n⟩ Q):Wl P ro ops i (o::rest) S Q:=
 L1 hg (Hv hE h hc) (FG h) hd k
theorem Wl_a(hE:BN P E){f:Nat->AV}{b:A3}(hg:A8 ops S.env o=some true)(h:aU E S.env S.H o.op=some (c,f,b))(hd:AE o.dst S.n=true)(hc:c=true)(k:Wl P ro ops (i+1) rest ⟨Ap o.dst (f S.H.length) S.env,S.H++[b],S.n⟩ Q):Wl P ro ops i (o::rest) S Q:=
 L1 hg (OR hE h hc) (Gp h) hd k
theorem oM(hE:BN P E){q:D}(hg:A8 ops S.env o=some true)(h:MJ E S.env S.H o.op=some (c,q))(hd:AE o.dst S.n=true)(hc:c=true)(k:Wl P ro ops (i+1) rest ⟨Ap o.dst (.sl S.H.length (AP q) (B9 q)) S.env,S.H++[.a q],S.n⟩ Q):Wl P ro ops i (o::rest) S Q:=
 L1 hg (R7 hE h hc) (Ht h) hd k
theorem Wl_w(hE:BN P E){H':List A3}(hg:A8 ops S.env o=some true)(h:fZ E S.env S.H o.op=some (c,x,H'))(hd:AE o.dst S.n=true)(hc:c=true)(k:Wl P ro ops (i+1) rest ⟨Ap o.dst x S.env,H',S.n⟩ Q):Wl P ro ops i (o::rest) S Q:=
 L1 hg (OX hE h hc) (Gs h) hd k
variable {G:Gh}{a:Act}
theorem Rel.OQ{N:NB}{w:World}(r:Rel ro N S G a w)(h:∀t x,get env t=some x->get S.env t=some x):Rel ro N ⟨env,S.H,S.n⟩ G a w:=
 ⟨r.heap,r.rel,r.size,fun t x hx=>r.env t x (h t x hx),r.marks,r.round⟩
theorem Uv(h:∀t x,get env t=some x->get S.env t=some x)(k:Wl P ro ops i rest ⟨env,S.H,S.n⟩ Q):Wl P ro ops i rest S Q:=
 fun hops N G a w r=>k hops N G a w (r.OQ h)
theorem LK{d:Nat}(h:get env d=some x):∀t y,get ((d,x)::env) t=some y->get env t=some y:=by
 intro t y hy;simp only[get]at hy;split at hy
 .rename_i hb;have:=qL hb;subst this;cases hy;exact h
 .exact hy
def Z1(ops:Array Oper)(o:Oper):Option Nat:=
 match o.guard with
 |some (j,_)=>match ops.toList[j]? with
  |some p=>p.dst
  |none=>none
 |none=>none
theorem bE{d:Nat}{b:Bool}(hg:Z1 ops o=some d)(hb:get S.env d=some (.d (.b b)))
  (ht:b=true->Wl P ro ops i (o::rest) ⟨(d,.d (.b true))::S.env,S.H,S.n⟩ Q) (hf:b=false->Wl P ro ops i (o::rest) ⟨(d,.d (.b false))::S.env,S.H,S.n⟩ Q):Wl P ro ops i (o::rest) S Q:=by
 cases b with
 |true=>exact Uv (LK hb) (ht rfl)
 |false=>exact Uv (LK hb) (hf rfl)
theorem Rel.step{N:NB}{G':Gh}{a':Act}{w w':World}{S':St}(r:Rel ro N S G a w)(h:C4 G w G' w')(hH:G'.H=S'.H)(hr:AR G' w')(hn:S'.n=S.n)(hs:a'.tmps.size=S.n)(he:Fi G' S'.env a'.tmps)(hd:a'.defers=a.defers):Rel ro N S' G' a' w':=
 ⟨hH,hr,by rw[hs,hn],he,r.marks.Nm h hd,fun id hid=>by
  obtain⟨q,l,M,q1,q2⟩:=r.round id hid;rw[<-r.heap]at q1;obtain⟨b',hb',hs⟩:=h.gle.blk id _ q1;rw[hH]at hb';cases b'<;>simp only[AI]at hs
  exact⟨_,l,M,hb',hs.1.trans q2⟩⟩
theorem Wg(hg:A8 ops S.env o=some false)(hd:AE o.dst S.n=true)(k:Wl P ro ops (i+1) rest ⟨Ap o.dst (.d (.tup [])) S.env,S.H,S.n⟩ Q):Wl P ro ops i (o::rest) S Q:=by
 intro hops N G a w r;have ho:ops[i]? =some o:=by have:=hops 0;simpa using this.symm
 simp only[qY,tH,wpOpsIn,ho];have hw:=BL r.env hg;rw[if_neg (by rw[hw];simp)];refine⟨fun _ _=>trivial,?_⟩;have hops':∀k:Nat,rest[k]? =ops[i+1+k]?:=fun k=>by have:=hops (k+1);simp at this;rw[this];congr 1;omega
 obtain⟨e1,e2,e3⟩:=F9 r.env r.size hd (x:=.d (.tup [])) (v:=undef) (by simp only[RV,RD];exact⟨[],rfl,by simp[DC]⟩);exact k hops' N G _ w (r.step (C4.refl G w) r.heap r.rel rfl e2 e1 e3)
def GK(P:Program)(f:FuncId):Prop:=∃fn, P.funcs[f]? =some fn/\(fn.name== "runtime.NumGoroutine")=false/\fn.body.isSome=true
def IY(P:Program)(f:FuncId)(args:List AV)(H:List A3)(R:AV->List A3->Prop):Prop:=
 GK P f/\∀G w (vs:Array Value),G.H=H->AR G w->Al G args vs.toList->
  CallsIn Fence.wide 0 P f vs w fun e w'=>∃v r G',e= .returned v/\R r G'.H/\RV G' r v/\AR G' w'/\C4 G w G' w'
variable {R:AV->List A3->Prop}
theorem IY.mono{f:FuncId}{args:List AV}{R':AV->List A3->Prop}(h:IY P f args H R)(hr:∀x H,R x H->R' x H):IY P f args H R':=
 ⟨h.1,fun G w vs h1 h2 h3=>(h.2 G w vs h1 h2 h3).mono fun _ _ ⟨v,r,G',e,q,rest⟩=>⟨v,r,G',e,hr _ _ q,rest⟩⟩
theorem JD{f g:FuncId}{c:Call}{fo:Operand}(hc:c.callee= .value fo){first cap:Array Value}(hf:a.eval fo= .func (.func g) first cap)(hcall:GK P g)(ho:o.op= .call c)(w:World):
  (execOp a.eval o).run P w= .ok (.enter g (first++c.args.map a.eval++cap)) w:=by
 obtain⟨fn,h1,h2,h3⟩:=hcall;have hb:fn.body.isNone=false:=by cases hx:fn.body<;>simp_all
 unfold execOp;simp only[ho,resolve,hc,hf,Deferred.ofValue,qc,qh,qU,invoke,callFunc,run_program,h1,h2,hb,rD,ql,Sem.run_ite]
theorem Al.app:∀{xs ys:List AV}{vs us:List Value},Al G xs vs->Al G ys us->Al G (xs++ys) (vs++us)
 |[],ys,vs,us,h,k=>by simp only[Al]at h;subst h;exact k
 |x::xs,ys,vs,us,h,k=>by
  simp only[Al]at h;obtain⟨v,r,rfl,h1,h2⟩:=h;simp only[qV,Al];exact⟨v,r++us,rfl,h1,Al.app h2 k⟩
theorem Na{first xs cap:List AV}{p q:List Value}{l:Array Operand}{ev:Operand->Value}(hp:Al G first p)(h1:Al G xs (l.toList.map ev))(hq:Al G cap q):Al G (first++xs++cap) (p.toArray++l.map ev++q.toArray).toList:=by
 have e:(p.toArray++l.map ev++q.toArray).toList=p++l.toList.map ev++q:=by simp
 rw[e];exact(hp.app h1).app hq
theorem GV{ops:Array Oper}{i:Nat}{o:Oper}{rest:List Oper}(h:∀k:Nat,(o::rest)[k]? =ops[i+k]?):ops[i]? =some o:=by have:=h 0;simpa using this.symm
theorem FO{ops:Array Oper}{i:Nat}{o:Oper}{rest:List Oper}(h:∀k:Nat,(o::rest)[k]? =ops[i+k]?):∀k:Nat,rest[k]? =ops[i+1+k]?:=fun k=>by have:=h (k+1);simp at this;rw[this];congr 1;omega
theorem bB{c:Call}{fo:Operand}{g:FuncId}{first cap xs:List AV}(ho:o.op= .call c)(hc:c.callee= .value fo)(hg:A8 ops S.env o=some true)(hf:CH S.env fo=some (.fn (.func g) first cap))(hxs:Gk S.env c.args.toList=some xs)(hd:AE o.dst S.n=true)(hT:IY P g (first++xs++cap) S.H R)(k:∀r H',R r H'->Wl P ro ops (i+1) rest ⟨Ap o.dst r S.env,H',S.n⟩ Q):Wl P ro ops i (o::rest) S Q:=by
 intro hops N G a w r;have ho':=GV hops;simp only[qY,tH,wpOpsIn,ho'];rw[if_pos (BL r.env hg)];refine⟨fun _ _=>trivial,?_⟩;have hfv:=AL r.rel.st r.env hf;simp only[RV]at hfv;obtain⟨p,q,hfv,hp,hq⟩:=hfv;have hrun:=JD (P:=P) (f:=g) hc hfv hT.1 ho w;rw[uh _ _ _ (fun c e=>by rw[ho]at e;cases e),hrun];simp only[Oper.uponIn];refine⟨Es _,?_⟩;have hops':=FO hops;have hargs:=Na hp (CY r.rel.st r.env hxs) hq;have hcall:=hT.2 G w _ r.heap r.rel hargs;have hcall':CallsIn (It (rl G ro)) 0 P g (p.toArray++c.args.map a.eval++q.toArray) w _:=hcall;refine hcall'.mono ?_;rintro e w' ⟨v,x,G',rfl,hR,hv,hr',hfr⟩;obtain⟨e1,e2,e3⟩:=F9 (r.env.mono hfr.gle) r.size hd hv;have r':Rel ro N ⟨Ap o.dst x S.env,G'.H,S.n⟩ G' (a.put o.dst v) w':=r.step hfr rfl hr' rfl e2 e1 e3;have hk:=k x G'.H hR hops' N G' _ w' r';rw[Ev r r' hfr]at hk;exact Ay (fun _ _ _ p=>p.trans hfr) _ _ _ hk
end
end Go.Gar
namespace Go.Gar
section
variable {P:Program}{ro:Option Nat}{S:St}{Q:Exit->St->Prop}{E:Nat->Option Ao}
variable {w:World}
theorem SO{r:Nat}{o:Obj}(h:w.heap[r]? =some (.deferred (some []))):(Instr.takeDeferred r).run P w= .ok [] {w with heap:=w.heap.setIfInBounds r (.deferred none)}:=by
 simp only[Instr.takeDeferred,getObj,setObj,qc];simp[Sem.run,h]
structure YG (ms:List Nat) (w w':World):Prop where
 os:w'.os=w.os
 tape:w'.tape=w.tape
 output:w'.output=w.output
 size:w'.heap.size=w.heap.size
 other:∀b,b∉ms->w'.heap[b]? =w.heap[b]?
 at_:∀b,b∈ms->∃o,w'.heap[b]? =some (.deferred o)
theorem F8{F:Fence}{n:Nat}{fn:Func}{tmps:Array Value}{R:Ending->World->Prop}{base:List Deferred}{u:FrameMode}(hu:u≠ .run):∀(ms:List Nat)(w:World),ms.Nodup->(∀r∈ms,w.heap[r]? =some (.deferred (some [])))->
  (∀w',YG ms w w'->LeavesInM F n P fn tmps R base u w')->LeavesInM F n P fn tmps R (ms.map (fun r=>{target:=.collected r,args:=#[]})++base) u w
 |[],w,_,_,h=>by
  simp only[vF,qX];exact h w ⟨rfl,rfl,rfl,rfl,fun _ _=>rfl,fun _ h=>by cases h⟩
 |r::ms,w,hn,hm,h=>by
  simp only[sO,qV,LeavesInM];have hr:=hm r sm;have hlt:r<w.heap.size:=(qZ.1 hr).1;obtain⟨hnr,hn'⟩:=List.nodup_cons.1 hn;refine⟨hu,.inl ⟨r,_,rfl,SO (o:=.deferred none) hr,F8 hu ms _ hn' (fun q hq=> ?_) (fun w' ht=>h w' ?_)⟩⟩
  .have:r≠q:=fun e=>hnr (e▸hq);show(w.heap.setIfInBounds r (.deferred none))[q]? =_
   rw[ru this];exact hm q (by simp[hq])
  .refine⟨ht.os,ht.tape,ht.output,by rw[ht.size];simp,fun b hb=> ?_,fun b hb=> ?_⟩
   .rw[sG,not_or]at hb;rw[ht.other b hb.2];show(w.heap.setIfInBounds r (.deferred none))[b]? =_;rw[ru (Ne.symm hb.1)]
   .rcases sG.1 hb with rfl|hb
    .by_cases hbm:b∈ms
     .exact ht.at_ b hbm
     .refine⟨none,?_⟩;rw[ht.other b hbm];show(w.heap.setIfInBounds b (.deferred none))[b]? =_;rw[rW hlt]
    .exact ht.at_ b hb
variable {fn:Func}{tmps:Array Value}{R:Ending->World->Prop}
theorem Rl{F:Fence}{n:Nat}(ms:List Nat)(w:World)(hn:ms.Nodup)(hm:∀r∈ms,w.heap[r]? =some (.deferred (some [])))(h:∀w',YG ms w w'->∃v,(results fn tmps).run P w'= .ok v w'/\R (.returned v) w'):LeavesInM F n P fn tmps R (ms.map (fun r=>{target:=.collected r,args:=#[]})++[]) .returning w:=
 F8 sm ms w hn hm fun w' ht=>by simpa only[LeavesInM,LeavesIn]using h w' ht
variable {G:Gh}
theorem PQ{w':World}{ms:List Nat}(h:AR G w)(t:YG ms w w')(hm:∀r∈ms,w.heap[r]? =some (.deferred (some []))/\¬Own G r):AR G w' where
 blk id b hb:=(h.blk id b hb).Nm (HH.refl G) (fun q N hl hρ=>t.other q fun hq=>(hm q hq).2 ⟨id,N,b,hb,hl,hρ⟩) rfl
 inj:=h.inj
 mem b k v hv:=by
  have hc:=h.mem b k v hv
  have hne:b∉ms:=fun hb=>by
   rw[World.cell?]at hc;simp[(hm b hb).1]at hc
  rw[World.cell?_of_block (w:=w) (t.other b hne)];exact hc
 sep:=h.sep
 st:=h.st
def res1(tmps:Array Value):ResultVar->Sem Value
 | .tmp t=>pure (tmps.getD t undef)
 | .cell a t=>do loadVar t (<-asAddr (tmps.getD a undef))
theorem Vv(fn:Func)(tmps:Array Value):results fn tmps=(do let vs <-fn.results.mapM (res1 tmps);pure (if h:vs.size=1 then vs[0]else .tuple vs)):=by
 unfold results
 congr 1
def RE(E:Nat->Option Ao)(env:List (Nat×AV))(H:List A3):ResultVar->Option (Bool×AV)
 | .tmp t=>tt (get env t)
 | .cell a t=>match get env a with
  |some (.ptr id off cnt)=>OW E H t (.ptr id off cnt)
  |_=>none
def ML(E:Nat->Option Ao)(env:List (Nat×AV))(H:List A3):List ResultVar->Option (Bool×List AV)
 |[]=>some (true,[])
 |r::l=>match RE E env H r,ML E env H l with
  |some (c,x),some (d,xs)=>some (c&&d,x::xs)
  |_,_=>none
def CG(E:Nat->Option Ao)(env:List (Nat×AV))(H:List A3)(rs:List ResultVar):Option (Bool×AV):=
 match ML E env H rs with
 |some (c,[x])=>some (c,x)
 |some (c,xs)=>some (c,.tup xs)
 |none=>none
variable {env:List (Nat×AV)}
theorem Yy(hE:BN P E)(hr:AR G w)(he:Fi G env tmps){r:ResultVar}{c:Bool}{x:AV}(h:RE E env G.H r=some (c,x))(hc:c=true):
  ∃v,(res1 tmps r).run P w= .ok v w/\RV G x v:=by
 subst hc
 cases r with
 |tmp t=>
  simp only[RE,tt]at h;split at h
  .rename_i y hy;cases h;obtain⟨v,hv,hrv⟩:=he t _ hy;exact⟨v,by simp[res1,hv],hrv⟩
  .cases h
 |cell a t=>
  simp only[RE]at h;split at h
  .rename_i id off cnt hy;obtain⟨v,hv,hrv⟩:=he a _ hy;obtain⟨u,hu,hru⟩:=Q4 hE hr h rfl hrv
   have hp:∃q,v= .pointer (some q):=by
    cases v with
    |pointer q=>
     cases q with
     |none=>simp[Instr.loadAt,Instr.sureAddr]at hu
     |some q=>exact⟨q,rfl⟩
    |_=>simp[Instr.loadAt,Instr.sureAddr]at hu
   obtain⟨q,rfl⟩:=hp;simp only[Instr.loadAt,Instr.sureAddr,qc,qh,qU]at hu;exact⟨u,by simp[res1,hv,asAddr,hu],hru⟩
  .cases h
theorem Q5(hE:BN P E){G:Gh}{w:World}(hr:AR G w){env:List (Nat×AV)}{tmps:Array Value}(he:Fi G env tmps):∀{rs:List ResultVar}{c:Bool}{xs:List AV},ML E env G.H rs=some (c,xs)->c=true->
  ∃vs:List Value,(rs.mapM (res1 tmps)).run P w= .ok vs w/\Al G xs vs
 |[],c,xs,h,_=>by
  simp[ML]at h;obtain⟨_,rfl⟩:=h;exact⟨[],sm,by simp[Al]⟩
 |r::rs,c,xs,h,hc=>by
  simp only[ML]at h;split at h
  .rename_i c1 x d ys h1 h2;simp only[qI,qR]at h;obtain⟨h3,rfl⟩:=h;rw[<-h3]at hc;simp only[qH]at hc;obtain⟨v,hv,hrv⟩:=Yy hE hr he h1 hc.1;obtain⟨vs,hvs,hrs⟩:=Q5 hE hr he h2 hc.2;refine⟨v::vs,?_,by simp only[Al];exact⟨v,vs,rfl,hrv,hrs⟩⟩;rw[List.mapM_cons];simp only[qc,hv,qU,hvs,qh]
  .cases h
theorem TT(hE:BN P E)(hr:AR G w)(he:Fi G env tmps){c:Bool}{x:AV}(h:CG E env G.H fn.results.toList=some (c,x))(hc:c=true):
  ∃v,(results fn tmps).run P w= .ok v w/\RV G x v:=by
 unfold CG at h
 have key:∀{xs:List AV}{c':Bool},ML E env G.H fn.results.toList=some (c',xs)->c'=true->∃vs:List Value,Al G xs vs/\(results fn tmps).run P w= .ok (if h:vs.toArray.size=1 then vs.toArray[0]else .tuple vs.toArray) w:=by
  intro xs c' h1 h2;obtain⟨vs,hvs,hrs⟩:=Q5 hE hr he h1 h2;refine⟨vs,hrs,?_⟩;rw[Vv];simp only[qc];rw[Array.mapM_eq_mapM_toList];simp only[Sem.run_map,hvs,qU,qh]
 split at h
 .rename_i c' y h1;simp only[qI,qR]at h;obtain⟨rfl,rfl⟩:=h;obtain⟨vs,h2,h3⟩:=key h1 hc;simp only[Al]at h2;obtain⟨v,r,rfl,h4,rfl⟩:=h2;exact⟨v,by rw[h3];simp,h4⟩
 .rename_i c' xs hne h1;simp only[qI,qR]at h;obtain⟨rfl,rfl⟩:=h;obtain⟨vs,h2,h3⟩:=key h1 hc;have hl:=Al.KU h2
  have:vs.toArray.size≠1:=by
   intro e
   cases xs with
   |nil=>simp at hl;simp[hl]at e
   |cons x r=>
    cases r with
    |nil=>exact hne x rfl
    |cons y r=>simp at hl;simp[hl]at e
  refine⟨.tuple vs.toArray,by rw[h3,dif_neg this],?_⟩;simp only[RV];exact⟨vs,rfl,h2⟩
 .cases h
def KM(K:St->Prop):Exit->St->Prop
 | .ret,S=>K S
 | .normal,S=>K S
 |_,_=>False
def Cn:Nat->List AV->List (Nat×AV)
 |_,[]=>[]
 |n,x::r=>(n,x)::Cn (n+1) r
theorem Q2:∀{l:List AV}{n t:Nat}{x:AV},get (Cn n l) t=some x->n<=t/\l[t-n]? =some x
 |[],n,t,x,h=>by simp[Cn,get]at h
 |y::l,n,t,x,h=>by
  simp only[Cn,get]at h;split at h
  .rename_i hb;have:=qL hb;subst this;cases h;simp
  .obtain⟨h1,h2⟩:=Q2 h;refine⟨om,?_⟩;rw[show t-n=(t-(n+1))+1 by omega];simpa using h2
def jZ(K:St->Prop)(KP:List PanicEntry->St->Prop):Exit->St->Prop
 | .ret,S=>K S
 | .normal,S=>K S
 | .panic ch,S=>KP ch S
 |_,_=>False
theorem fq{K:St->Prop}{KP:List PanicEntry->St->Prop}:∀e S,KM K e S->jZ K KP e S:=by
 intro e S h;cases e<;>first|exact h|exact h.elim
variable {args:List AV}{H:List A3}{vs:Array Value}
theorem eU(hG:G.H=H)(hr:AR G w)(hargs:Al G args vs.toList)(hn:args.length<=fn.ntmps):
  Rel none ⟨w.heap.size,[]⟩ ⟨Cn 0 args,H,fn.ntmps⟩ G {tmps:=vs++Array.replicate (fn.ntmps-vs.size) undef,defers:=[]} w:=by
 have hl:vs.size=args.length:=by have:=Al.KU hargs;simpa using this
 refine⟨hG,hr,by simp;omega,fun t x hx=> ?_,⟨qG _,[],rfl,List.nodup_nil,fun _ h=>by cases h⟩,fun _ h=>by cases h⟩;obtain⟨_,h2⟩:=Q2 hx;rw[Nat.sub_zero]at h2;obtain⟨v,hv,hrv⟩:=(CO.1 hargs).2 t x h2;have hlt:t<vs.size:=by simpa using(qN.1 hv).1
 exact⟨v,by rw[Array.getElem?_append_left hlt];simpa using hv,hrv⟩
variable {f:FuncId}{c:Code}{K:AV->List A3->Prop}
theorem Py(hE:BN P E)(hf:P.funcs[f]? =some fn)(hb:fn.body=some c)(hn:args.length<=fn.ntmps){KP:List PanicEntry->List A3->Prop}(h:W P none c ⟨Cn 0 args,H,fn.ntmps⟩ (jZ (fun S'=>∃cc x,CG E S'.env S'.H fn.results.toList=some (cc,x)/\cc=true/\K x S'.H) fun ch S'=>KP ch S'.H))(hG:G.H=H)(hr:AR G w)(hargs:Al G args vs.toList)(hR:∀(x:AV)(v:Value)(G':Gh)(w1 w':World)(ms:List Nat),K x G'.H->RV G' x v->AR G' w1->AR G' w'->C4 G w G' w1->YG ms w1 w'->(∀r∈ms,w.heap.size<=r)->R (.returned v) w')(hP:∀(ch:List PanicEntry)(G':Gh)(w1 w':World)(ms:List Nat),KP ch G'.H->AR G' w1->AR G' w'->C4 G w G' w1->YG ms w1 w'->(∀r∈ms,w.heap.size<=r)->R (.panicked ch) w'):
  CallsIn Fence.wide 0 P f vs w R:=by
 refine callsIn_of_wp_marks hf hb trivial ?_;have r0:=eU (fn:=fn) hG hr hargs hn;have hw:=h ⟨w.heap.size,[]⟩ G _ w r0;refine vH hw ?_;rintro e a' w1 ⟨S',G',q,r',k⟩
 have fin:(∃cc x,CG E S'.env S'.H fn.results.toList=some (cc,x)/\cc=true/\K x S'.H)->LeavesInM Fence.wide 0 P fn a'.tmps R a'.defers .returning w1:=by
  rintro⟨cc,x,h1,h2,h3⟩;obtain⟨_,ms,m1,m2,m3⟩:=r'.marks;rw[m1];refine Rl ms w1 m2 (fun r hr=>(m3 r hr).2.1) (fun w' ht=> ?_);have hr2:=PQ r'.rel ht (fun r hr=>(m3 r hr).2);obtain⟨v,hv,hrv⟩:=TT hE hr2 r'.env (fn:=fn) (by rw[r'.heap];exact h1) h2;exact⟨v,hv,hR x v G' w1 w' ms (by rw[r'.heap];exact h3) hrv r'.rel hr2 k ht (fun r hr=>(m3 r hr).1)⟩
 cases e with
 |normal|ret=>exact fin q
 |panic ch=>
  obtain⟨_,ms,m1,m2,m3⟩:=r'.marks;show LeavesInM Fence.wide 0 P fn a'.tmps R a'.defers (.panicking ch) w1;rw[m1];refine F8 sm ms w1 m2 (fun r hr=>(m3 r hr).2.1) (fun w' ht=> ?_);have hr2:=PQ r'.rel ht (fun r hr=>(m3 r hr).2);simp only[LeavesInM,LeavesIn];exact hP ch G' w1 w' ms (by rw[r'.heap];exact q) r'.rel hr2 k ht (fun r hr=>(m3 r hr).1)
 |_=>exact q.elim
theorem OI(hE:BN P E)(hf:P.funcs[f]? =some fn)(hb:fn.body=some c)(hn:args.length<=fn.ntmps)(h:W P none c ⟨Cn 0 args,H,fn.ntmps⟩ (KM fun S'=>∃cc x,CG E S'.env S'.H fn.results.toList=some (cc,x)/\cc=true/\K x S'.H))(hG:G.H=H)(hr:AR G w)(hargs:Al G args vs.toList)(hR:∀(x:AV)(v:Value)(G':Gh)(w1 w':World)(ms:List Nat),K x G'.H->RV G' x v->AR G' w1->AR G' w'->C4 G w G' w1->YG ms w1 w'->(∀r∈ms,w.heap.size<=r)->R (.returned v) w'):
  CallsIn Fence.wide 0 P f vs w R:=
 Py (KP:=fun _ _=>False) hE hf hb hn (h.mono fq) hG hr hargs hR fun _ _ _ _ _ hk=>hk.elim
theorem So(hE:BN P E)(hf:P.funcs[f]? =some fn)(hb:fn.body=some c)(hname:(fn.name== "runtime.NumGoroutine")=false)(hn:args.length<=fn.ntmps){R:AV->List A3->Prop}(h:W P none c ⟨Cn 0 args,H,fn.ntmps⟩ (KM fun S'=>∃cc x,CG E S'.env S'.H fn.results.toList=some (cc,x)/\cc=true/\R x S'.H)):IY P f args H R:=by
 refine⟨⟨fn,hf,hname,by rw[hb];rfl⟩,fun G w vs hG hr hargs=>OI hE hf hb hn h hG hr hargs ?_⟩;intro x v G' w1 w' ms hK hv h1 h2 hfr ht hms;refine⟨v,x,G',rfl,hK,hv,h2,⟨ht.os.trans hfr.os,ht.tape.trans hfr.tape,ht.output.trans hfr.output,by rw[ht.size];exact hfr.size,fun b hb ho=> ?_,hfr.memNew,hfr.gle⟩⟩;obtain⟨k1,k2⟩:=hfr.keep b hb ho;exact⟨(ht.other b fun hm=>by have:=hms b hm;omega).trans k1,k2⟩
def Ko(m:Mem)(w:World):Prop:=∀b k v,m b k=some v->w.cell? ⟨b,k,none⟩=some v
def Fn(P:Program)(f:FuncId)(ds:List D)(r:D):Prop:=
 GK P f/\∀(m:Mem)(w:World)(vs:Array Value),Ko m w->fv m->DC m ds vs.toList->
  CallsIn Fence.wide 0 P f vs w fun e w'=>∃v m',e= .returned v/\RD m' r v/\m.le m'/\Ko m' w'/\(∀b k v,m' b k=some v->m b k=some v\/w.heap.size<=b)/\
   w'.os=w.os/\w'.tape=w.tape/\w'.output=w.output/\w.heap.size<=w'.heap.size/\∀b,b<w.heap.size->w'.heap[b]? =w.heap[b]?
mutual
def Bb(H:List A3):AV->D->Prop
 | .d x,r=>r=x
 | .e0,r=>Aj r=true/\AP r=0/\AF r
 | .sl id n _,r=>H[id]? =some (.a r)/\n=AP r
 | .ag xs,r=>∃l,r= .agg l/\CN H xs l
 | .tup xs,r=>∃l,r= .tup l/\CN H xs l
 |_,_=>False
def CN(H:List A3):List AV->List D->Prop
 |[],l=>l=[]
 |x::xs,l=>∃y r,l=y::r/\Bb H x y/\CN H xs r
end
mutual
theorem RQ{G:Gh}{w:World}(hr:AR G w){m:Mem}(hm:G.m.le m)(hown:∀b k v,Own G b->w.cell? ⟨b,k,none⟩=some v->m b k=some v):∀{x:AV}{d:D}{v:Value},Bb G.H x d->RV G x v->RD m d v
 | .d x,d,v,h,r=>by
  simp only[Bb]at h;simp only[RV]at r;subst h;exact r.mono hm
 | .e0,d,v,h,r=>by
  simp only[Bb]at h;simp only[RV]at r;obtain⟨a,rfl⟩:=r;exact(DL h.1).2 ⟨a,0,by rw[h.2.1],om,h.2.2,.inl h.2.1⟩
 | .sl id n sz,d,v,h,r=>by
  simp only[Bb]at h;obtain⟨h1,h2⟩:=h;simp only[RV]at r;obtain⟨_,blk,hb,hp⟩:=r;rw[h1]at hb;cases hb;obtain⟨g1,g2,g3⟩:=hp;obtain⟨k1,k2,k3⟩:=hr.blk id _ h1;rcases g3 h2 with⟨g4,a,rfl⟩|⟨b,N,cap,g4,rfl,g6,_⟩
  .exact(DL k1).2 ⟨a,0,by rw[<-h2,g4],om,k2,.inl om⟩
  .rcases k3 with⟨k3,k4⟩|⟨b',N',vs,T,k4,k5,k6,k7⟩
   .exact(DL k1).2 ⟨_,cap,by rw[<-h2],om,k2,.inl k3⟩
   .rw[g4]at k4;cases k4;refine(DL k1).2 ⟨_,cap,by rw[<-h2],om,k2,.inr ⟨b,0,rfl,fun k d hd=> ?_⟩⟩;obtain⟨u,hu,h1c,hru⟩:=k7 k d hd;refine⟨u,?_,h1c,hru.mono hm⟩;rw[sN];exact hown b k u ⟨id,N,_,h1,rfl,g4⟩ (by rw[DO k5];exact hu)
 | .ag _,_,_,h,r| .tup _,_,_,h,r=>by
  simp only[Bb]at h;simp only[RV]at r;obtain⟨l,rfl,hl⟩:=h;obtain⟨vs,rfl,hvs⟩:=r;simp only[RD];exact⟨vs,rfl,RR hr hm hown hl hvs⟩
 | .u,_,_,h,_=>by simp[Bb]at h
 | .ptr _ _ _,_,_,h,_=>by simp[Bb]at h
 | .bs _ _ _ _ _,_,_,h,_=>by simp[Bb]at h
 | .ep _ _ _ _ _,_,_,h,_=>by simp[Bb]at h
 | .fn _ _ _,_,_,h,_=>by simp[Bb]at h
 | .yl _,_,_,h,_=>by simp[Bb]at h
 | .dp _,_,_,h,_=>by simp[Bb]at h
 | .mp _,_,_,h,_=>by simp[Bb]at h
theorem RR{G:Gh}{w:World}(hr:AR G w){m:Mem}(hm:G.m.le m)(hown:∀b k v,Own G b->w.cell? ⟨b,k,none⟩=some v->m b k=some v):∀{xs:List AV}{ds:List D}{vs:List Value},CN G.H xs ds->Al G xs vs->DC m ds vs
 |[],ds,vs,h,r=>by
  simp only[CN]at h;simp only[Al]at r;subst h;subst r;simp[DC]
 |x::xs,ds,vs,h,r=>by
  simp only[CN]at h;simp only[Al]at r;obtain⟨y,q,rfl,h1,h2⟩:=h;obtain⟨v,u,rfl,r1,r2⟩:=r;simp only[DC];exact⟨v,u,rfl,RQ hr hm hown h1 r1,RR hr hm hown h2 r2⟩
end
variable {ds:List D}
theorem fg(hE:BN P E)(hf:P.funcs[f]? =some fn)(hb:fn.body=some c)(hname:(fn.name== "runtime.NumGoroutine")=false){r:D}(hn:ds.length<=fn.ntmps)(h:W P none c ⟨Cn 0 (ds.map .d),[],fn.ntmps⟩ (KM fun S'=>∃cc x,CG E S'.env S'.H fn.results.toList=some (cc,x)/\cc=true/\Bb S'.H x r)):Fn P f ds r:=by
 refine⟨⟨fn,hf,hname,by rw[hb];rfl⟩,fun m w vs hm hst hargs=> ?_⟩;let G:Gh:={ρ:=fun _=>none,H:=[],m:=m};have hr:AR G w:=⟨fun id b hb=>by simp[G]at hb,fun id id' p q b N N' hp=>by simp[G]at hp,hm,fun b ho=>by obtain⟨id,N,q,hq,_⟩:=ho;simp[G]at hq,hst⟩;have hno:∀b,¬Own G b:=fun b ho=>by obtain⟨id,N,q,hq,_⟩:=ho;simp[G]at hq
 refine OI (G:=G) (K:=fun x H=>Bb H x r) hE hf hb (by simpa using hn) h rfl hr (Ij.2 hargs) ?_;intro x v G' w1 w' ms hK hv h1 h2 hfr ht hms
 let m':Mem:=fun b k=>match G'.m b k with
  |some v=>some v
  |none=>if w.heap.size<=b then w'.cell? ⟨b,k,none⟩else none
 have hle:G'.m.le m':=fun b k v hv=>by simp only[m',hv]
 have hmem:Ko m' w':=by
  intro b k v hv;simp only[m']at hv;split at hv
  .rename_i u hu;cases hv;exact h2.mem b k _ hu
  .split at hv
   .exact hv
   .cases hv
 refine⟨v,m',rfl,RQ h2 hle ?_ hK hv,Mem.le_trans hfr.gle.mem hle,hmem,?_,ht.os.trans hfr.os,ht.tape.trans hfr.tape,ht.output.trans hfr.output,by rw[ht.size];exact hfr.size,fun b hb=> ?_⟩
 .intro b k v ho hc
  have hge:w.heap.size<=b:=by
   rcases rG b w.heap.size with hlt|hge
   .exact absurd ho (hfr.keep b hlt (hno b)).2
   .exact hge
  simp only[m',h2.sep b ho k,if_pos hge,hc]
 .intro b k v hv;simp only[m']at hv;split at hv
  .rename_i u hu;cases hv;rcases hfr.memNew b k _ hu with h3|h3|h3
   .exact .inl h3
   .exact absurd h3 (hno b)
   .exact .inr h3
  .split at hv
   .rename_i hge;exact .inr hge
   .cases hv
 .exact(ht.other b fun hm=>by have:=hms b hm;omega).trans (hfr.keep b hb (hno b)).1
def Ig:List AV->List D->Prop:=CN []
mutual
theorem gN{G:Gh}:∀{x:AV}{d:D}{v:Value},Bb [] x d->RV G x v->RD G.m d v
 | .d x,d,v,h,r=>by
  simp only[Bb]at h;simp only[RV]at r;subst h;exact r
 | .e0,d,v,h,r=>by
  simp only[Bb]at h;simp only[RV]at r;obtain⟨a,rfl⟩:=r;exact(DL h.1).2 ⟨a,0,by rw[h.2.1],om,h.2.2,.inl h.2.1⟩
 | .sl id n sz,d,v,h,r=>by simp[Bb]at h
 | .ag _,_,_,h,r| .tup _,_,_,h,r=>by
  simp only[Bb]at h;simp only[RV]at r;obtain⟨l,rfl,hl⟩:=h;obtain⟨vs,rfl,hvs⟩:=r;simp only[RD];exact⟨vs,rfl,Qs hl hvs⟩
 | .u,_,_,h,_=>by simp[Bb]at h
 | .ptr _ _ _,_,_,h,_=>by simp[Bb]at h
 | .bs _ _ _ _ _,_,_,h,_=>by simp[Bb]at h
 | .ep _ _ _ _ _,_,_,h,_=>by simp[Bb]at h
 | .fn _ _ _,_,_,h,_=>by simp[Bb]at h
 | .yl _,_,_,h,_=>by simp[Bb]at h
 | .dp _,_,_,h,_=>by simp[Bb]at h
 | .mp _,_,_,h,_=>by simp[Bb]at h
theorem Qs{G:Gh}:∀{xs:List AV}{ds:List D}{vs:List Value},CN [] xs ds->Al G xs vs->DC G.m ds vs
 |[],ds,vs,h,r=>by
  simp only[CN]at h;simp only[Al]at r;subst h;subst r;simp[DC]
 |x::xs,ds,vs,h,r=>by
  simp only[CN]at h;simp only[Al]at r;obtain⟨y,q,rfl,h1,h2⟩:=h;obtain⟨v,u,rfl,r1,r2⟩:=r;simp only[DC];exact⟨v,u,rfl,gN h1 r1,Qs h2 r2⟩
end
theorem OD{xs:List AV}(h:Ig xs ds){vs:List Value}(r:Al G xs vs):DC G.m ds vs:=Qs h r
theorem Fn.nq{r:D}(h:Fn P f ds r){xs:List AV}(hx:Ig xs ds)(H:List A3):IY P f xs H fun x H'=>x= .d r/\H'=H:=by
 refine⟨h.1,fun G w vs hG hr hargs=>(h.2 G.m w vs hr.mem hr.st (OD hx hargs)).mono ?_⟩;rintro e w' ⟨v,m',rfl,h1,h2,h3,h4,h5,h6,h7,h8,h9⟩;obtain⟨k1,k2⟩:=Hz hr h5 h6 h7 h8 h9 m' h2 h4 h3;exact⟨v,.d r,{G with m:=m'},rfl,⟨rfl,hG⟩,by simpa only[RV]using h1,k1,k2⟩
end
end Go.Gar
namespace Go.Gar
section
variable {P:Program}{ro:Option Nat}{ops:Array Oper}{i:Nat}{rest:List Oper}{S:St}{Q:Exit->St->Prop}{o:Oper}
def callOf(op:Op):Option (Operand×List Operand):=
 match op with
 | .call c=>match c.callee with
  | .value f=>some (f,c.args.toList)
  |_=>none
 |_=>none
theorem MF{op:Op}{f:Operand}{l:List Operand}(h:callOf op=some (f,l)):∃c:Call,op= .call c/\c.callee= .value f/\c.args.toList=l:=by
 unfold callOf at h;split at h
 .rename_i c;split at h
  .rename_i g hg;cases h;exact⟨c,rfl,hg,rfl⟩
  .cases h
 .cases h
def BE(env:List (Nat×AV))(op:Op):Option (Nat×List AV):=
 match callOf op with
 |some (f,l)=>match CH env f,Gk env l with
  |some (.fn (.func g) first cap),some xs=>match first,cap with
   |[],[]=>some (g,xs)
   |_,_=>some (g,first++xs++cap)
  |_,_=>none
 |none=>none
variable {g:Nat}{xs:List AV}
theorem JU{env:List (Nat×AV)}{op:Op}(h:BE env op=some (g,xs)):∃c f first ys cap,op= .call c/\c.callee= .value f/\CH env f=some (.fn (.func g) first cap)/\Gk env c.args.toList=some ys/\first++ys++cap=xs:=by
 unfold BE at h;split at h
 .rename_i f l hcl;obtain⟨c,ho,hc,rfl⟩:=MF hcl;split at h
  .rename_i g' first cap ys hf hxs
   refine⟨c,f,first,ys,cap,ho,hc,?_,hxs,?_⟩<;>(split at h<;>cases h<;>first|exact hf|simp)
  .cases h
 .cases h
theorem gF{R:AV->List A3->Prop}(hg:A8 ops S.env o=some true)(h:BE S.env o.op=some (g,xs))(hd:AE o.dst S.n=true)(hT:IY P g xs S.H R)(k:∀r H',R r H'->Wl P ro ops (i+1) rest ⟨Ap o.dst r S.env,H',S.n⟩ Q):Wl P ro ops i (o::rest) S Q:=by
 obtain⟨c,f,first,ys,cap,ho,hc,hf,hxs,rfl⟩:=JU h;exact bB ho hc hg hf hxs hd hT k
theorem oK{ds:List D}{r:D}(hg:A8 ops S.env o=some true)(h:BE S.env o.op=some (g,xs))(hd:AE o.dst S.n=true)(hF:Fn P g ds r)(hx:Ig xs ds)(k:Wl P ro ops (i+1) rest ⟨Ap o.dst (.d r) S.env,S.H,S.n⟩ Q):Wl P ro ops i (o::rest) S Q:=
 gF hg h hd (hF.nq hx S.H) fun x H' ⟨h1,h2⟩=>by subst h1;subst h2;exact k
end
inductive Tr where
 |l
 |n (a:Tr) (k:Nat) (v:Ao) (b:Tr)
def Tr.get:Tr->Nat->Option Ao
 | .l,_=>none
 | .n a k v b,t=>match Nat.beq t k with
  |true=>some v
  |false=>match Nat.blt t k with
   |true=>a.get t
   |false=>b.get t
def Tr.nn:Tr->List (Nat×Ao)
 | .l=>[]
 | .n a k v b=>a.nn++(k,v)::b.nn
theorem Tr.get_mem:∀{T:Tr}{t:Nat}{v:Ao},T.get t=some v->(t,v)∈T.nn
 | .l,t,v,h=>by simp[Tr.get]at h
 | .n a k u b,t,v,h=>by
  simp only[Tr.get]at h;simp only[Tr.nn,sU,sG];split at h
  .rename_i hb;cases h;have:=qL hb;subst this;exact .inr (.inl rfl)
  .split at h
   .exact .inl (Tr.get_mem h)
   .exact .inr (.inr (Tr.get_mem h))
theorem Tr.ok{P:Program}{T:Tr}(h:T.nn.map (fun p=>Et P p.1)=T.nn.map fun p=>some p.2):BN P T.get:=by
 intro t i hi;have hm:=Tr.get_mem hi;obtain⟨k,hk,he⟩:=vG.1 hm;have:=congrArg (·[k]?) h;simp only[rQ,qK hk,Option.map_some,qI]at this;rw[he]at this;exact this
end Go.Gar
namespace Go.Gar
section
variable {P:Program}{ro:Option Nat}{ops:Array Oper}{S:St}{Q:Exit->St->Prop}{o:Oper}{E:Nat->Option Ao}
def O7(P:Program)(ro:Option Nat)(o:Oper)(S:St)(x:AV)(H':List A3):Prop:=
 ∀N G a w (K:Act->World->Prop)(R:Exit->Act->World->Prop),Rel ro N S G a w->
  (∀v w' G',RV G' x v->G'.H=H'->AR G' w'->C4 G w G' w'->K (a.put o.dst v) w')->o.wpIn (It (rl G ro)) 0 P a w K R
variable {x:AV}{H':List A3}
theorem D2.step(hop:D2 P o S x H')(hnd:∀c,o.op≠ .defer c):O7 P ro o S x H':=by
 intro N G a w K R r hK;obtain⟨res,w',G',h1,h2,h3,h4,h5⟩:=hop ro N G a w r;refine⟨fun _ _=>trivial,?_⟩;rw[uh _ _ _ hnd,h1];rcases h2 with⟨rfl,rfl⟩|⟨v,rfl,hv⟩
 .exact hK undef w' G' (by simp[RV]) h3 h4 h5
 .exact hK v w' G' hv h3 h4 h5
theorem Yf{c:Call}{fo:Operand}{g:FuncId}{first cap xs:List AV}(ho:o.op= .call c)(hc:c.callee= .value fo)(hf:CH S.env fo=some (.fn (.func g) first cap))(hxs:Gk S.env c.args.toList=some xs)(hT:IY P g (first++xs++cap) S.H fun y H=>y=x/\H=H'):O7 P ro o S x H':=by
 intro N G a w K R r hK;refine⟨fun _ _=>trivial,?_⟩;have hfv:=AL r.rel.st r.env hf;simp only[RV]at hfv;obtain⟨p,q,hfv,hp,hq⟩:=hfv;have hrun:=JD (P:=P) (f:=g) hc hfv hT.1 ho w;rw[uh _ _ _ (fun c e=>by rw[ho]at e;cases e),hrun];simp only[Oper.uponIn];refine⟨Es _,?_⟩;have hargs:=Na hp (CY r.rel.st r.env hxs) hq;have hcall:=hT.2 G w _ r.heap r.rel hargs;have hcall':CallsIn (It (rl G ro)) 0 P g (p.toArray++c.args.map a.eval++q.toArray) w _:=hcall;refine hcall'.mono ?_;rintro e w' ⟨v,y,G',rfl,⟨rfl,hH⟩,hv,hr',hfr⟩;exact hK v w' G' hv hH hr' hfr
theorem O8{g:Nat}{xs:List AV}(h:BE S.env o.op=some (g,xs))(hT:IY P g xs S.H fun y H=>y=x/\H=H'):O7 P ro o S x H':=by
 obtain⟨c,f,first,ys,cap,ho,hc,hf,hxs,rfl⟩:=JU h;exact Yf ho hc hf hxs hT
def N6:Operand->List Nat
 | .tmp t=>[t]
 |_=>[]
def dT:List Operand->List Nat
 |[]=>[]
 |x::r=>N6 x++dT r
def pS:Option Operand->List Nat
 |some x=>N6 x
 |none=>[]
def mD:Op->List Nat
 | .move x| .assign x| .box _ x| .load _ x| .nilCheck x| .unOp _ _ x| .convert _ _ x| .sliceToArrayPointer _ x| .makeInterface _ x
 | .makeChan _ x| .fieldAddr _ x _| .field _ x _| .range _ x| .next x _| .entry x| .typeAssert x _ _ _| .extract x _| .panic x| .recv _ x _=>N6 x
 | .pick c a b=>N6 c++N6 a++N6 b
 | .build _ ps| .buildSlice _ _ ps=>dT (ps.toList.map (·.2))
 | .store _ a v| .binOp _ _ a v _| .makeSlice _ a v| .indexAddr _ a v| .index _ a v| .lookup _ a v _| .mapEntry _ a v| .send a v=>N6 a++N6 v
 | .makeFunc _ first captured=>dT first.toList++dT captured.toList
 | .makeMap _ r=>pS r
 | .slice _ x l h m=>N6 x++pS l++pS h++pS m
 | .mapUpdate _ m k v| .entryStore _ m k v| .insert _ m k v=>N6 m++N6 k++N6 v
 | .call c=>(match c.callee with| .value f=>N6 f| .invoke r _=>N6 r| .builtin _=>[])++dT c.args.toList
 |_=>[]
def lkG(ops:Array Oper)(o:Oper):List Nat:=
 match o.guard with
 |some (j,_)=>match ops.toList[j]? with
  |some p=>match p.dst with
   |some d=>[d]
   |none=>[]
  |none=>[]
 |none=>[]
def looks(ops:Array Oper)(o:Oper):List Nat:=lkG ops o++mD o.op
def Db:List Nat->List (Nat×AV)->List (Nat×AV)
 |[],_=>[]
 |t::r,env=>match get env t with
  |some x=>(t,x)::Db r env
  |none=>Db r env
theorem IG:∀{l:List Nat}{env:List (Nat×AV)}{t:Nat}{x:AV},get (Db l env) t=some x->t∈l/\get env t=some x
 |[],env,t,x,h=>by simp[Db,get]at h
 |s::r,env,t,x,h=>by
  simp only[Db]at h;split at h
  .rename_i y hy;simp only[get]at h;split at h
   .rename_i hb;have:=qL hb;subst this;cases h;exact⟨sm,hy⟩
   .obtain⟨h1,h2⟩:=IG h;exact⟨by simp[h1],h2⟩
  .obtain⟨h1,h2⟩:=IG h;exact⟨by simp[h1],h2⟩
inductive Kd where
 |skip|any|quiet|eff
 |pan (ch:List PanicEntry)
 |dead
def Kd.NM:Kd->Bool
 | .eff| .pan _=>true
 |_=>false
def ar(P:Program)(ro:Option Nat)(o:Oper)(S:St)(ch:List PanicEntry)(H':List A3):Prop:=
 ∀N G a w (K:Act->World->Prop)(R:Exit->Act->World->Prop),Rel ro N S G a w->
  (∀w' G',G'.H=H'->AR G' w'->C4 G w G' w'->R (.panic ch) a w')->o.wpIn (It (rl G ro)) 0 P a w K R
structure Rc where
 e:List (Nat×AV)
 h:List A3
 x:AV
 k:Kd
def Rc.ok(P:Program)(ro:Option Nat)(E:Nat->Option Ao)(ops:Array Oper)(n:Nat)(o:Oper)(r:Rc)(h':List A3):Prop:=
 AE o.dst n=true/\
 match r.k with
 | .skip=>A8 ops r.e o=some false/\r.x= .d (.tup [])/\h'=r.h
 | .any=>A8 ops r.e o=some true/\(∀H,O7 P ro o ⟨r.e,H,n⟩ r.x H)/\h'=r.h
 | .quiet=>A8 ops r.e o=some true/\(∃c,Hu E r.e r.h o.op=some (c,r.x)/\c=true)/\h'=r.h
 | .eff=>A8 ops r.e o=some true/\O7 P ro o ⟨r.e,r.h,n⟩ r.x h'
 | .pan ch=>A8 ops r.e o=some true/\ar P ro o ⟨r.e,r.h,n⟩ ch h'
 | .dead=>h'=r.h
inductive Run (P:Program) (ro:Option Nat) (E:Nat->Option Ao) (ops:Array Oper) (S0:St):List Rc->St->Prop
 |nil:Run P ro E ops S0 [] S0
 |snoc {acc:List Rc} {S:St} {o:Oper} {r:Rc} {h':List A3} (ht:Run P ro E ops S0 acc S) (ho:ops.toList[acc.length]? =some o) (he:∀t x,get r.e t=some x->t∈looks ops o/\get S.env t=some x) (hh:r.h=S.H)
  (hok:r.ok P ro E ops S.n o h'):Run P ro E ops S0 (r::acc) ⟨Ap o.dst r.x S.env,h',S.n⟩
theorem Run.trace{S0:St}{acc:List Rc}{S:St}(h:Run P ro E ops S0 acc S):∃s:Nat->St,s 0=S0/\s acc.length=S/\∀i,i<acc.length->∃o r,ops.toList[i]? =some o/\acc.reverse[i]? =some r/\
  (∀t x,get r.e t=some x->t∈looks ops o/\get (s i).env t=some x)/\r.h=(s i).H/\(s i).n=S0.n/\(s (i+1)).env=Ap o.dst r.x (s i).env/\(s (i+1)).n=S0.n/\r.ok P ro E ops S0.n o (s (i+1)).H:=by
 induction h with
 |nil=>exact⟨fun _=>S0,rfl,rfl,fun i h=>by simp at h⟩
 | @snoc acc S o r h' ht ho he hh hok ih=>
  obtain⟨s,h0,h1,h2⟩:=ih
  have hn:S.n=S0.n:=by
   cases hl:acc.length with
   |zero=>rw[hl]at h1;rw[<-h1,h0]
   |succ k=>
    obtain⟨_,_,_,_,_,_,_,_,h3,_⟩:=h2 k om;rw[<-h1,hl,h3]
  refine⟨fun i=>if i<=acc.length then s i else⟨Ap o.dst r.x S.env,h',S.n⟩,by simp[h0],by show(if acc.length+1<=acc.length then _ else _)=_;rw[if_neg om],fun i hi=> ?_⟩;rcases rG i acc.length with hlt|hge
  .obtain⟨o',r',k1,k2,k3,k4,k5,k6,k7,k8⟩:=h2 i hlt;refine⟨o',r',k1,?_,?_⟩
   .rw[List.reverse_cons,qg (by simpa using hlt)];exact k2
   .have e1:i<=acc.length:=om
    have e2:i+1<=acc.length:=hlt;simp only[e1,e2,qw];exact⟨k3,k4,k5,k6,k7,k8⟩
  .have:i=acc.length:=by simp at hi;omega
   subst this;refine⟨o,r,ho,by rw[List.reverse_cons,qp sm];simp,?_⟩;have e2:¬(acc.length+1<=acc.length):=om
   simp only[qG,qw,e2,ql,h1];exact⟨he,hh,hn,trivial,hn,hn▸hok⟩
def PX(acc:List Nat):List Edge->Nat
 |[]=>0
 |e::r=>if Region.binds .any e then Nat.lor (Nat.lor (2^e.on) (acc.getD e.on 0)) (PX acc r)else PX acc r
def NG:List Oper->List Nat->List Nat
 |[],acc=>acc
 |o::l,acc=>NG l (acc++[PX acc o.after.toList])
def PV(ops:Array Oper)(i:Nat):Nat:=(NG ops.toList []).getD i 0
theorem T8:∀(l:List Oper)(acc:List Nat),(NG l acc).length=acc.length+l.length/\(∀i,i<acc.length->(NG l acc)[i]? =acc[i]?)/\
  ∀i o,l[i]? =some o->(NG l acc)[acc.length+i]? =some (PX ((NG l acc).take (acc.length+i)) o.after.toList)
 |[],acc=>⟨by simp[NG],fun i _=>by simp[NG],fun i o h=>by simp at h⟩
 |o::l,acc=>by
  obtain⟨h1,h2,h3⟩:=T8 l (acc++[PX acc o.after.toList])
  have htake:(NG l (acc++[PX acc o.after.toList])).take acc.length=acc:=by
   apply List.ext_getElem?;intro i;rcases rG i acc.length with hlt|hge
   .rw[List.getElem?_take_of_lt hlt,h2 i (by simp;omega),qg hlt]
   .rw[tC (by simp;omega),tC hge]
  refine⟨by simp only[NG,h1,qj,qY,qy];omega,fun i hi=> ?_,fun i p hp=> ?_⟩
  .simp only[NG];rw[h2 i (by simp;omega),qg hi]
  .simp only[NG]
   cases i with
   |zero=>
    simp at hp;subst hp;rw[uz,htake,h2 _ sm,qp sm];simp
   |succ i=>
    have:=h3 i p (by simpa using hp);simp only[qj,qY,qy]at this;rw[show acc.length+(i+1)=acc.length+(0+1)+i by omega];exact this
theorem OC{acc:List Nat}{j:Nat}:∀{l:List Edge},(PX acc l).testBit j=true->∃e∈l,Region.binds .any e=true/\(e.on=j\/(acc.getD e.on 0).testBit j=true)
 |[],h=>by simp[PX]at h
 |e::r,h=>by
  simp only[PX]at h;split at h
  .rename_i hb;change (((2^e.on|||acc.getD e.on 0)|||PX acc r)).testBit j=true at h;rw[Nat.testBit_or,Nat.testBit_or,Nat.testBit_two_pow]at h;simp only[rO,qJ]at h;rcases h with(h|h)|h
   .exact⟨e,sm,hb,.inl h⟩
   .exact⟨e,sm,hb,.inr h⟩
   .obtain⟨e',h1,h2⟩:=OC h;exact⟨e',by simp[h1],h2⟩
  .obtain⟨e',h1,h2⟩:=OC h;exact⟨e',by simp[h1],h2⟩
theorem Wp{i j:Nat}{o:Oper}(ho:ops.toList[i]? =some o)(h:(PV ops i).testBit j=true):∃e∈o.after.toList,Region.binds .any e=true/\(e.on=j\/e.on<i/\(PV ops e.on).testBit j=true):=by
 obtain⟨_,_,h3⟩:=T8 ops.toList [];have h4:=h3 i o ho;simp only[qy,sN]at h4;unfold PV at h;rw[qW,h4,Option.getD_some]at h;obtain⟨e,he,hb,hj⟩:=OC h;refine⟨e,he,hb,hj.imp_right fun hj=> ?_⟩;rcases rG e.on i with hlt|hge
 .refine⟨hlt,?_⟩;rw[qW,List.getElem?_take_of_lt hlt]at hj;unfold PV;rw[qW];exact hj
 .rw[qW,tC (by simp;omega)]at hj;simp at hj
def T6:Nat->(Nat->Bool)->Bool
 |0,_=>true
 |n+1,p=>p n&&T6 n p
theorem G9{p:Nat->Bool}:∀{n:Nat},T6 n p=true->∀i,i<n->p i=true
 |0,_,i,h=>by omega
 |n+1,h,i,hi=>by
  simp only[T6,qH]at h;rcases rG i n with hlt|hge
  .exact G9 h.2 i hlt
  .have:i=n:=om
   subst this;exact h.1
def bK:Nat->(Nat->Bool)->Bool
 |0,_=>false
 |n+1,p=>p n||bK n p
theorem Pt{p:Nat->Bool}:∀{n:Nat},bK n p=true->∃i,i<n/\p i=true
 |0,h=>by simp[bK]at h
 |n+1,h=>by
  simp only[bK,rO]at h;rcases h with h|h
  .exact⟨n,om,h⟩
  .obtain⟨i,h1,h2⟩:=Pt h;exact⟨i,om,h2⟩
def To:Option Kd->Bool
 |some k=>k.NM
 |none=>false
def dE:Option Kd->Bool
 |some (.pan _)=>true
 |_=>false
def dD:Option Kd->Bool
 |some .dead=>true
 |_=>false
def jx(ks:List Kd):Bool:=ks.all fun k=>match k with
 | .pan _| .dead=>false
 |_=>true
def Rf:Option Kd->Bool
 |some .quiet=>true
 |_=>false
def Q1(ops:Array Oper)(j t:Nat):Bool:=
 match ops.toList[j]? with
 |some o=>match o.dst with
  |some d=>Nat.beq d t
  |none=>false
 |none=>false
def LP(i k:Nat):List (Nat×Nat)->Bool
 |[]=>false
 |p::r=>(Nat.beq p.1 i&&Nat.beq p.2 k)||LP i k r
def Gm(ops:Array Oper)(ks:List Kd)(l:List (Nat×Nat)):Bool:=
 Nat.beq ks.length ops.toList.length&&
 T6 ops.toList.length fun i=>match ops.toList[i]? with
  |none=>false
  |some o=>
   (o.after.toList.all fun e=> !Region.binds .any e||Nat.blt e.on i)&&
   ((looks ops o).all fun t=>T6 ops.toList.length fun j=> !Q1 ops j t||Nat.beq j i||(PV ops i).testBit j||(PV ops j).testBit i)&&
   (match o.dst with
    |some d=>T6 ops.toList.length fun j=>Nat.beq j i|| !Q1 ops j d
    |none=>true)&&
   (!To ks[i]? ||T6 i fun j=> !To ks[j]? ||(PV ops i).testBit j)&&
   (!Rf ks[i]? ||T6 ops.toList.length fun k=> !To ks[k]? ||(Nat.blt k i&&(PV ops i).testBit k)||(Nat.blt i k&&(PV ops k).testBit i)||LP i k l)&&
   (!dD ks[i]? ||bK ops.toList.length fun j=>dE ks[j]? &&(PV ops i).testBit j)
def HA(ops:Array Oper)(ks:List Kd)(l:List (Nat×Nat)):Bool:=jx ks&&Gm ops ks l
def hAt(rs:List Rc)(Hf:List A3)(i:Nat):List A3:=
 match rs[i]? with
 |some r=>r.h
 |none=>Hf
def CI(E:Nat->Option Ao)(ops:Array Oper)(rs:List Rc)(Hf:List A3):List (Nat×Nat)->Prop
 |[]=>True
 |p::l=>(match ops.toList[p.1]?,rs[p.1]? with
  |some o,some r=>∃c,Hu E r.e (hAt rs Hf (if Nat.blt p.2 p.1 then p.2 else p.2+1)) o.op=some (c,r.x)/\c=true
  |_,_=>False)/\CI E ops rs Hf l
theorem OY{rs:List Rc}{Hf:List A3}{i k:Nat}{o:Oper}{r:Rc}(ho:ops.toList[i]? =some o)(hr:rs[i]? =some r):∀{l:List (Nat×Nat)},CI E ops rs Hf l->LP i k l=true->
  ∃c,Hu E r.e (hAt rs Hf (if Nat.blt k i then k else k+1)) o.op=some (c,r.x)/\c=true
 |[],_,h=>by simp[LP]at h
 |p::l,hx,h=>by
  simp only[CI]at hx;simp only[LP,rO,qH]at h;rcases h with⟨h1,h2⟩|h
  .have h1:=qL h1;have h2:=qL h2;obtain⟨p1,p2⟩:=p;simp only at h1 h2;subst h1;subst h2;simp only[ho,hr]at hx;exact hx.1
  .exact OY ho hr hx.2 h
end
end Go.Gar
namespace Go.Gar
section
variable {P:Program}{ro:Option Nat}{ops:Array Oper}{S0 S:St}{Q:Exit->St->Prop}{E:Nat->Option Ao}
structure Plan (P:Program) (ro:Option Nat) (E:Nat->Option Ao) (ops:Array Oper) (S0 S:St) (s:Nat->St) (r:Nat->Rc):Prop where
 s0:s 0=S0
 sn:s ops.size=S
 e:∀(i:Nat)(o:Oper),ops[i]? =some o->∀t x,get (r i).e t=some x->t∈looks ops o/\get (s i).env t=some x
 h:∀i,i<ops.size->(r i).h=(s i).H
 env:∀(i:Nat)(o:Oper),ops[i]? =some o->(s (i+1)).env=Ap o.dst (r i).x (s i).env
 n:∀i,i<=ops.size->(s i).n=S0.n
 ok:∀(i:Nat)(o:Oper),ops[i]? =some o->(r i).ok P ro E ops S0.n o (s (i+1)).H
 back:∀(i:Nat)(o:Oper),ops[i]? =some o->∀e∈o.after,Region.binds .any e=true->e.on<i
 look:∀(i:Nat)(o:Oper),ops[i]? =some o->∀t∈looks ops o,∀(j:Nat)(p:Oper),ops[j]? =some p->p.dst=some t->j=i\/(PV ops i).testBit j=true\/(PV ops j).testBit i=true
 uniq:∀(i j:Nat)(o p:Oper)(d:Nat),ops[i]? =some o->ops[j]? =some p->o.dst=some d->p.dst=some d->i=j
 effs:∀i j,i<ops.size->j<i->(r i).k.NM=true->(r j).k.NM=true->(PV ops i).testBit j=true
 quiet:∀(i k:Nat)(o:Oper),ops[i]? =some o->k<ops.size->(r i).k= .quiet->(r k).k.NM=true->(k<i/\(PV ops i).testBit k=true)\/(i<k/\(PV ops k).testBit i=true)\/
  ∃c,Hu E (r i).e (if k<i then(s k).H else(s (k+1)).H) o.op=some (c,(r i).x)/\c=true
 dead:∀i,i<ops.size->(r i).k= .dead->∃j ch,(r j).k= .pan ch/\(PV ops i).testBit j=true
variable {s:Nat->St}{r:Nat->Rc}
theorem Plan.bJ(p:Plan P ro E ops S0 S s r):∀{i j:Nat},i<ops.size->(PV ops i).testBit j=true->j<i:=by
 intro i
 induction i using Nat.strongRecOn with
 |_ i ih=>
  intro j hi h;have ho:ops.toList[i]? =some ops[i]:=by simp[hi]
  obtain⟨e,he,hb,hj⟩:=Wp ho h;have hlt:=p.back i ops[i] (by simp[hi]) e (by simpa using he) hb;rcases hj with rfl|⟨_,hj⟩
  .exact hlt
  .have:=ih e.on hlt om hj;omega
variable {i:Nat}
theorem Plan.EG(p:Plan P ro E ops S0 S s r):∀{j:Nat},i<=j->j<=ops.size->(∀k,i<=k->k<j->(r k).k.NM≠true)->(s i).H=(s j).H:=by
 intro j
 induction j with
 |zero=>intro hi _ _;have:i=0:=om
        subst this;rfl
 |succ j ih=>
  intro hi hj hk;rcases rG j i with hlt|hge
  .have:i=j+1:=om
   subst this;rfl
  .rw[ih hge om fun k h1 h2=>hk k h1 om];have hok:=p.ok j ops[j] sm;have hne:=hk j hge om;have hh:=p.h j om;obtain⟨_,hok⟩:=hok
   cases hkd:(r j).k with
   |skip|any|quiet=>rw[hkd]at hok;rw[hok.2.2,hh]
   |eff|pan ch=>exact absurd (by rw[hkd];rfl) hne
   |dead=>rw[hkd]at hok;rw[hok,hh]
theorem Plan.Wv(p:Plan P ro E ops S0 S s r){t:Nat}{x:AV}:∀{i:Nat},i<=ops.size->get (s i).env t=some x->
  (∃(j:Nat)(o:Oper),j<i/\ops[j]? =some o/\o.dst=some t/\x=(r j).x)\/(get S0.env t=some x/\∀(j:Nat)(o:Oper),j<i->ops[j]? =some o->o.dst≠some t):=by
 intro i
 induction i with
 |zero=>intro _ h;rw[p.s0]at h;exact .inr ⟨h,fun j o hj=>om⟩
 |succ i ih=>
  intro hi h;have ho:ops[i]? =some ops[i]:=by simp
  rw[p.env i _ ho]at h
  have rec_:get (s i).env t=some x->ops[i].dst≠some t->(∃(j:Nat)(o:Oper),j<i+1/\ops[j]? =some o/\o.dst=some t/\x=(r j).x)\/(get S0.env t=some x/\∀(j:Nat)(o:Oper),j<i+1->ops[j]? =some o->o.dst≠some t):=by
   intro h hne;rcases ih om h with⟨j,o,h1,h2,h3,h4⟩|⟨h1,h2⟩
   .exact Or.inl ⟨j,o,om,h2,h3,h4⟩
   .refine Or.inr ⟨h1,fun j o hj hjo=> ?_⟩;rcases rG j i with hlt|hge
    .exact h2 j o hlt hjo
    .have:j=i:=om
     subst this;rw[ho]at hjo;cases hjo;exact hne
  cases hd:ops[i].dst with
  |none=>
   rw[hd]at h;exact rec_ h (by rw[hd];simp)
  |some d=>
   rw[hd]at h;simp only[Ap,get]at h;split at h
   .rename_i hb;cases h;have:=qL hb;subst this;exact .inl ⟨i,_,om,ho,hd,rfl⟩
   .rename_i hb;exact rec_ h (by rw[hd];intro e;cases e;simp at hb)
structure HM (ro:Option Nat) (ops:Array Oper) (S0:St) (s:Nat->St) (r:Nat->Rc) (N:NB) (listed:Array Bool) (p:Nat) (G:Gh) (a:Act) (w:World):Prop where
 size:listed.size=ops.size
 closed:∀(i:Nat)(o:Oper),ops[i]? =some o->listed[i]? =some true->∀e∈o.after,Region.binds .any e=true->listed[e.on]? =some true
 le:p<=ops.size
 eff:∀k,k<ops.size->(r k).k.NM=true->(listed[k]? =some true↔k<p)
 nopan:∀k ch,(r k).k= .pan ch->listed[k]?≠some true
 rel:Rel ro N ⟨[],(s p).H,S0.n⟩ G a w
 env1:∀(j:Nat)(o:Oper)(t:Nat),ops[j]? =some o->o.dst=some t->listed[j]? =some true->∃v,a.tmps[t]? =some v/\RV G (r j).x v
 env0:∀t x,get S0.env t=some x->(∀(j:Nat)(o:Oper),ops[j]? =some o->o.dst=some t->listed[j]?≠some true)->∃v,a.tmps[t]? =some v/\RV G x v
variable {N:NB}{p:Nat}{listed:Array Bool}{G:Gh}{a:Act}{w:World}
theorem HM.up(st:HM ro ops S0 s r N listed p G a w)(pl:Plan P ro E ops S0 S s r):∀{i:Nat}{o:Oper},ops[i]? =some o->(∀e∈o.after,Region.binds .any e=true->listed[e.on]? =some true)->
  ∀{j:Nat},(PV ops i).testBit j=true->listed[j]? =some true:=by
 intro i
 induction i using Nat.strongRecOn with
 |_ i ih=>
  intro o ho hall j hj;obtain⟨e,he,hb,hj⟩:=Wp (i:=i) (by simpa using ho) hj;have hle:=hall e (by simpa using he) hb;rcases hj with rfl|⟨hlt,hj⟩
  .exact hle
  .have hlt':e.on<ops.size:=by have:=(qZ.1 ho).1;omega
   exact ih e.on hlt (o:=ops[e.on]) (by simp[hlt']) (st.closed _ _ (by simp[hlt']) hle) hj
theorem HM.look(st:HM ro ops S0 s r N listed p G a w)(pl:Plan P ro E ops S0 S s r){o:Oper}(ho:ops[i]? =some o)(hun:listed[i]?≠some true)(hall:∀e∈o.after,Region.binds .any e=true->listed[e.on]? =some true):
  Fi G (r i).e a.tmps:=by
 have hi:i<ops.size:=(qZ.1 ho).1;intro t x hx;obtain⟨hl,hx⟩:=pl.e i o ho t x hx;rcases pl.Wv (Nat.le_of_lt hi) hx with⟨j,q,hlt,hq,hd,rfl⟩|⟨h0,hno⟩
 .refine st.env1 j q t hq hd ?_;rcases pl.look i o ho t hl j q hq hd with rfl|h|h
  .omega
  .exact st.up pl ho hall h
  .have:=pl.bJ om h;omega
 .refine st.env0 t x h0 fun j q hq hd hlj=> ?_;have hj:j<ops.size:=(qZ.1 hq).1
  rcases rG j i with hlt|hge
  .exact hno j q hlt hq hd
  .rcases pl.look i o ho t hl j q hq hd with rfl|h|h
   .exact hun hlj
   .have:=pl.bJ hi h;omega
   .exact hun (st.up pl hq (st.closed j q hq hlj) h)
theorem CM(hs:listed.size=ops.size):i∈Region.ready .any ops listed↔listed[i]? =some false/\∃o,ops[i]? =some o/\∀e∈o.after,Region.binds .any e=true->listed[e.on]? =some true:=by
 rw[mem_ready]
 have h1:listed.getD i true=false↔listed[i]? =some false:=by
  rw[Array.getD_eq_getD_getElem?];cases listed[i]? <;>simp
 have h2:∀k,listed.getD k false=true↔listed[k]? =some true:=fun k=>by
  rw[Array.getD_eq_getD_getElem?];cases listed[k]? <;>simp
 simp only[h1,h2]
theorem Uw(pl:Plan P ro E ops S0 S s r)(hs:listed.size=ops.size)(h:Region.ready .any ops listed=[]):∀i,i<ops.size->listed[i]? =some true:=by
 intro i
 induction i using Nat.strongRecOn with
 |_ i ih=>
  intro hi;have ho:ops[i]? =some ops[i]:=by simp
  cases hl:listed[i]? with
  |none=>simp at hl;omega
  |some b=>
   cases b with
   |true=>rfl
   |false=>
    have:i∈Region.ready .any ops listed:=(CM hs).2 ⟨hl,_,ho,fun e he hb=>by
     have:=pl.back i _ ho e he hb
     exact ih e.on this om⟩
    rw[h]at this;cases this
theorem HM.ll(st:HM ro ops S0 s r N listed p G a w)(pl:Plan P ro E ops S0 S s r){o:Oper}(ho:ops[i]? =some o)(hun:listed[i]?≠some true)(hall:∀e∈o.after,Region.binds .any e=true->listed[e.on]? =some true):
  ((r i).k.NM=true->(s p).H=(s i).H)/\((r i).k= .quiet->∃c,Hu E (r i).e (s p).H o.op=some (c,(r i).x)/\c=true):=by
 have hi:i<ops.size:=(qZ.1 ho).1;constructor
 .intro hk
  have hpi:p<=i:=by
   rcases rG i p with h|h
   .exact absurd ((st.eff i hi hk).2 h) hun
   .exact h
  refine pl.EG hpi (Nat.le_of_lt hi) fun k h1 h2 h3=> ?_;have:=(st.eff k om h3).1 (st.up pl ho hall (pl.effs i k hi h2 hk h3))
  omega
 .intro hk
  have hbase:∃c,Hu E (r i).e (s i).H o.op=some (c,(r i).x)/\c=true:=by
   have:=(pl.ok i o ho).2;rw[hk]at this;rw[<-pl.h i hi];exact this.2.1
  rcases rG i p with hlt|hge
  ·
   by_cases hex:∃k,i<k/\k<p/\(r k).k.NM=true/\∀q,k<q->q<p->(r q).k.NM≠true
   .obtain⟨k,h1,h2,h3,h4⟩:=hex;have hkl:=(st.eff k (by have:=st.le;omega) h3).2 h2;rw[<-pl.EG (i:=k+1) (j:=p) h2 st.le fun q a b=>h4 q a b];rcases pl.quiet i k o ho (by have:=st.le;omega) hk h3 with⟨h,_⟩|⟨_,h⟩|h
    .omega
    .have hkn:k<ops.size:=by have:=st.le;omega
     exact absurd (st.up pl (o:=ops[k]) (by simp[hkn]) (st.closed k _ (by simp[hkn]) hkl) h) hun
    .rw[if_neg om]at h;exact h
   .have hno:∀d q,q+d=p->i<q->(r q).k.NM≠true\/p<=q:=by
     intro d
     induction d using Nat.strongRecOn with
     |_ d ih=>
      intro q hq hiq;rcases uK d with h0|hpos
      .right;omega
      .left;intro hkq;refine hex ⟨q,hiq,om,hkq,fun q' h1 h2=> ?_⟩;rcases ih (p-q') om q' om om with h|h
       .exact h
       .omega
    rw[<-pl.EG (i:=i) (j:=p) (Nat.le_of_lt hlt) st.le fun k h1 h2=> ?_]
    .exact hbase
    .rcases Nat.eq_or_lt_of_le h1 with rfl|h1
     .rw[hk];decide
     .rcases hno (p-k) k om h1 with h|h
      .exact h
      .omega
  ·
   by_cases hex:∃k,p<=k/\k<i/\(r k).k.NM=true/\∀q,p<=q->q<k->(r q).k.NM≠true
   .obtain⟨k,h1,h2,h3,h4⟩:=hex;have hkl:listed[k]?≠some true:=fun h=>by have:=(st.eff k om h3).1 h;omega
    rw[pl.EG (i:=p) (j:=k) h1 om h4];rcases pl.quiet i k o ho om hk h3 with⟨_,h⟩|⟨h,_⟩|h
    .exact absurd (st.up pl ho hall h) hkl
    .omega
    .rw[if_pos h2]at h;exact h
   .have hno:∀q,p<=q->q<i->(r q).k.NM≠true:=by
     intro q
     induction q using Nat.strongRecOn with
     |_ q ih=>
      intro h1 h2 h3;exact hex ⟨q,h1,h2,h3,fun q' a b=>ih q' b a om⟩
    rw[pl.EG (i:=p) (j:=i) hge (Nat.le_of_lt hi) hno];exact hbase
end
end Go.Gar
namespace Go.Gar
section
variable {P:Program}{ro:Option Nat}{ops:Array Oper}{S0 S:St}{Q:Exit->St->Prop}{E:Nat->Option Ao}{s:Nat->St}{r:Nat->Rc}
variable {N:NB}{p:Nat}{listed:Array Bool}{G:Gh}{a:Act}{w:World}
theorem FB{i k:Nat}(hi:i<listed.size):(listed.setIfInBounds i true)[k]? =some true↔k=i\/listed[k]? =some true:=by
 by_cases h:i=k
 .subst h;rw[rW hi];simp
 .rw[ru h];simp[Ne.symm h]
variable {o:Oper}{v:Value}
theorem Xk{t:Nat}(h:o.dst≠some t):(a.put o.dst v).tmps[t]? =a.tmps[t]?:=by
 cases hd:o.dst with
 |none=>rfl
 |some d=>
  rw[hd]at h;simp only[Act.put];rw[ru fun e=>h (by rw[e])]
theorem UO:(a.put o.dst v).defers=a.defers:=by
 cases hd:o.dst<;>rfl
theorem eI:(a.put o.dst v).tmps.size=a.tmps.size:=by
 cases hd:o.dst<;>simp[Act.put]
theorem HM.next(st:HM ro ops S0 s r N listed p G a w)(pl:Plan P ro E ops S0 S s r){i:Nat}(ho:ops[i]? =some o)(hun:listed[i]? =some false)(hall:∀e∈o.after,Region.binds .any e=true->listed[e.on]? =some true)(hnp:∀ch,(r i).k≠ .pan ch){p':Nat}(hp:p'<=ops.size/\((r i).k.NM=true->p'=i+1)/\((r i).k.NM≠true->p'=p)){G':Gh}{w':World}(hv:RV G' (r i).x v)(hH:G'.H=(s p').H)(hr:AR G' w')(hfr:C4 G w G' w'):HM ro ops S0 s r N (listed.setIfInBounds i true) p' G' (a.put o.dst v) w':=by
 have hi:i<ops.size:=(qZ.1 ho).1;have hil:i<listed.size:=by rw[st.size];exact hi
 have hd:=(pl.ok i o ho).1;refine⟨by simp[st.size],fun k q hq hk e he hb=> ?_,hp.1,fun k hk hkk=> ?_,fun k ch hkc=> ?_,?_,fun j q t hq hqd hj=> ?_,fun t x hx hno=> ?_⟩
 .rw[FB hil]at hk|-;rcases hk with rfl|hk
  .rw[ho]at hq;cases hq;exact .inr (hall e he hb)
  .exact .inr (st.closed k q hq hk e he hb)
 .rw[FB hil]
  by_cases hie:(r i).k.NM=true
  .rw[hp.2.1 hie];constructor
   .rintro(rfl|h)
    .omega
    .have hkp:=(st.eff k hk hkk).1 h;rcases rG i k with hlt|hge
     .have:=pl.effs k i hk hlt hkk hie;have hkl:=st.up pl (o:=ops[k]) (by simp[hk]) (st.closed k _ (by simp[hk]) h) this;rw[hun]at hkl;cases hkl
     .omega
   .intro h;rcases rG k i with hlt|hge
    .exact .inr (st.up pl ho hall (pl.effs i k hi hlt hie hkk))
    .exact .inl om
  .rw[hp.2.2 hie,<-st.eff k hk hkk];constructor
   .rintro(rfl|h)
    .exact absurd hkk hie
    .exact h
   .exact .inr
 .rw[Ne,FB hil];rintro(rfl|h)
  .exact hnp ch hkc
  .exact st.nopan k ch hkc h
 .exact st.rel.step hfr hH hr rfl (by rw[eI];exact st.rel.size) (fun t x h=>by simp[get]at h) UO
 .rw[FB hil]at hj
  by_cases hji:j=i
  .subst hji;rw[ho]at hq;cases hq;rw[hqd]at hd|-;simp only[AE,tX]at hd;exact⟨v,by simp only[Act.put];exact rW (by rw[st.rel.size];exact hd),hv⟩
  .obtain⟨u,hu,hru⟩:=st.env1 j q t hq hqd (hj.resolve_left hji);refine⟨u,?_,hru.mono hfr.gle⟩;rw[Xk fun h=>hji (pl.uniq j i q o t hq ho hqd h)];exact hu
 .have hne:o.dst≠some t:=fun h=>hno i o ho h ((FB hil).2 (.inl rfl));obtain⟨u,hu,hru⟩:=st.env0 t x hx fun j q hq hqd hj=>hno j q hq hqd ((FB hil).2 (.inr hj))
  exact⟨u,by rw[Xk hne];exact hu,hru.mono hfr.gle⟩
theorem HM.run(pl:Plan P ro E ops S0 S s r)(hE:BN P E)(hQ:(∀i ch,i<ops.size->(r i).k≠ .pan ch)->Q .normal S)(hP:∀i ch,i<ops.size->(r i).k= .pan ch->Q (.panic ch) ⟨[],(s (i+1)).H,S0.n⟩){G0:Gh}{w0:World}(hrl:∀{G:Gh}{w:World}{H:List A3}{a:Act},Rel ro N ⟨[],H,S0.n⟩ G a w->C4 G0 w0 G w->rl G ro=rl G0 ro):∀(fuel:Nat)(listed:Array Bool)(p:Nat)(G:Gh)(a:Act)(w:World),listed.toList.countP (fun b=> !b)<=fuel->
  HM ro ops S0 s r N listed p G a w->C4 G0 w0 G w->wpAnyIn (It (rl G0 ro)) 0 P .any ops (Post ro N G0 w0 Q) fuel listed a w:=by
 intro fuel
 have done:∀(listed:Array Bool)(p:Nat)(G:Gh)(a:Act)(w:World),HM ro ops S0 s r N listed p G a w->C4 G0 w0 G w->(∀i,i<ops.size->listed[i]? =some true)->Post ro N G0 w0 Q .normal a w:=by
  intro listed p G a w st hf hall;refine⟨S,G,hQ (fun i ch hi hk=>st.nopan i ch hk (hall i hi)),⟨?_,st.rel.rel,?_,fun t x hx=> ?_,st.rel.marks,fun id hid=> ?_⟩,hf⟩
  .rw[<-pl.sn,<-pl.EG st.le (qG _) fun k h1 h2 h3=> ?_]
   .exact st.rel.heap
   .have:=(st.eff k h2 h3).1 (hall k h2);omega
  .rw[<-pl.sn,pl.n _ (qG _)];exact st.rel.size
  .rw[<-pl.sn]at hx;rcases pl.Wv (qG _) hx with⟨j,q,hlt,hq,hd,rfl⟩|⟨h0,hno⟩
   .exact st.env1 j q t hq hd (hall j hlt)
   .exact st.env0 t x h0 fun j q hq hd _=>hno j q (qZ.1 hq).1 hq hd
  .have:=st.rel.round id hid;simp only at this;rw[<-pl.sn,<-pl.EG st.le (qG _) fun k h1 h2 h3=> ?_]
   .exact this
   .have:=(st.eff k h2 h3).1 (hall k h2);omega
 induction fuel with
 |zero=>
  intro listed p G a w hc st hf
  have hall:∀i,i<ops.size->listed[i]? =some true:=by
   intro i hi;have h0:listed.toList.countP (fun b=> !b)=0:=om
   rw[List.countP_eq_zero]at h0;have hil:i<listed.size:=by rw[st.size];exact hi
   have:=h0 listed[i] sm;rw[Array.getElem?_eq_getElem hil];simpa using this
  refine⟨?_,done listed p G a w st hf hall⟩
  cases hr:Region.ready .any ops listed with
  |nil=>rfl
  |cons i l=>
   have:i∈Region.ready .any ops listed:=by rw[hr];simp
   rw[CM st.size]at this;obtain⟨h1,o,h2,_⟩:=this;rw[hall i (qZ.1 h2).1]at h1;cases h1
 |succ fuel ih=>
  intro listed p G a w hc st hf;refine⟨fun hr=>done listed p G a w st hf (Uw pl st.size hr),fun i hi=> ?_⟩;obtain⟨hun,o,ho,hall⟩:=(CM st.size).1 hi;have hun':listed[i]?≠some true:=by rw[hun];simp
  have hio:i<ops.size:=(qZ.1 ho).1;have hil:i<listed.size:=by rw[st.size];exact hio
  have hlook:=st.look pl ho hun' hall;have hheap:=st.ll pl ho hun' hall;have hok:=(pl.ok i o ho).2
  have hcount:(listed.setIfInBounds i true).toList.countP (fun b=> !b)<=fuel:=by
   have hl:listed.toList[i]'(by simpa using hil)=false:=by
    have:=qZ.1 hun;obtain⟨h,e⟩:=this;simpa using e
   have:(listed.setIfInBounds i true).toList=listed.toList.set i true:=by simp
   rw[this,List.countP_set (by simpa using hil),hl];simp only[Bool.not_false,qw,uS,rD,ql];have hpos:0<listed.toList.countP (fun b=> !b):=List.countP_pos_iff.2 ⟨false,by rw[<-hl];exact uV _,rfl⟩;have hc':List.countP (fun b=> !b) listed.toList<=fuel+1:=hc;omega
  have hrel:Rel ro N ⟨(r i).e,(s p).H,S0.n⟩ G a w:=⟨st.rel.heap,st.rel.rel,st.rel.size,hlook,st.rel.marks,st.rel.round⟩
  have cont:(∀ch,(r i).k≠ .pan ch)->∀p',p'<=ops.size/\((r i).k.NM=true->p'=i+1)/\((r i).k.NM≠true->p'=p)->∀v w' G',RV G' (r i).x v->G'.H=(s p').H->AR G' w'->C4 G w G' w'->wpAnyIn (It (rl G0 ro)) 0 P .any ops (Post ro N G0 w0 Q) fuel (listed.setIfInBounds i true) (a.put o.dst v) w':=by
   intro hnp p' hp' v w' G' hv hH hr hfr;exact ih _ p' G' _ w' hcount (st.next pl ho hun hall hnp hp' hv hH hr hfr) (hf.trans hfr)
  have hF:rl G ro=rl G0 ro:=hrl st.rel hf;unfold wpOpIn;simp only[ho]
  cases hk:(r i).k with
  |skip=>
   rw[hk]at hok;have hw:=BL (S:=⟨(r i).e,(s p).H,S0.n⟩) hlook hok.1;rw[if_neg (by rw[hw];simp)];refine⟨fun _ _=>trivial,cont (by rw[hk];intro _ h;cases h) p ⟨st.le,by rw[hk];(intro h;exact absurd h (by decide)),fun _=>rfl⟩ undef w G (by rw[hok.2.1];simp only[RV,RD];exact⟨[],rfl,by simp[DC]⟩) st.rel.heap st.rel.rel (C4.refl G w)⟩
  |any=>
   rw[hk]at hok;have hw:=BL (S:=⟨(r i).e,(s p).H,S0.n⟩) hlook hok.1;rw[if_pos hw,<-hF];refine hok.2.1 (s p).H N G a w _ _ hrel fun v w' G' h1 h2 h3 h4=> ?_
   rw[hF];exact cont (by rw[hk];intro _ h;cases h) p ⟨st.le,by rw[hk];(intro h;exact absurd h (by decide)),fun _=>rfl⟩ v w' G' h1 h2 h3 h4
  |quiet=>
   rw[hk]at hok;have hw:=BL (S:=⟨(r i).e,(s p).H,S0.n⟩) hlook hok.1;rw[if_pos hw,<-hF];obtain⟨c,hc1,hc2⟩:=hheap.2 hk;refine D2.step (S:=⟨(r i).e,(s p).H,S0.n⟩) (Hv (S:=⟨(r i).e,(s p).H,S0.n⟩) hE hc1 hc2) (FG hc1) N G a w _ _ hrel fun v w' G' h1 h2 h3 h4=> ?_
   rw[hF];exact cont (by rw[hk];intro _ h;cases h) p ⟨st.le,by rw[hk];(intro h;exact absurd h (by decide)),fun _=>rfl⟩ v w' G' h1 h2 h3 h4
  |eff=>
   rw[hk]at hok;have hw:=BL (S:=⟨(r i).e,(s p).H,S0.n⟩) hlook hok.1;rw[if_pos hw,<-hF];have hh:(r i).h=(s p).H:=by rw[hheap.1 (by rw[hk];rfl)];exact pl.h i hio
   have hstep:=hok.2;rw[hh]at hstep;refine hstep N G a w _ _ hrel fun v w' G' h1 h2 h3 h4=> ?_
   rw[hF];exact cont (by rw[hk];intro _ h;cases h) (i+1) ⟨hio,fun _=>rfl,fun h=>absurd (by rw[hk];rfl) h⟩ v w' G' h1 h2 h3 h4
  |dead=>
   obtain⟨j,ch,hj,hb⟩:=pl.dead i hio hk;exact absurd (st.up pl ho hall hb) (st.nopan j ch hj)
  |pan ch=>
   rw[hk]at hok;have hw:=BL (S:=⟨(r i).e,(s p).H,S0.n⟩) hlook hok.1;rw[if_pos hw,<-hF];have hh:(r i).h=(s p).H:=by rw[hheap.1 (by rw[hk];rfl)];exact pl.h i hio
   have hstep:=hok.2;rw[hh]at hstep;refine hstep N G a w _ _ hrel fun w' G' h2 h3 h4=> ?_
   exact⟨⟨[],(s (i+1)).H,S0.n⟩,G',hP i ch hio hk,st.rel.step h4 h2 h3 rfl st.rel.size (fun t x h=>by simp[get]at h) rfl,hf.trans h4⟩
variable {l:List (Nat×Nat)}{acc:List Rc}
theorem Run.plan(ht:Run P ro E ops S0 acc S)(hd:Gm ops (acc.reverse.map Rc.k) l=true)(hx:CI E ops acc.reverse S.H l):∃s,s 0=S0/\Plan P ro E ops S0 S s (fun i=>(acc.reverse[i]?).getD ⟨[],[],.u,.skip⟩):=by
 obtain⟨s,h0,h1,h2⟩:=ht.trace;simp only[Gm,qH]at hd;obtain⟨hlen,hd⟩:=hd;have hlen:=qL hlen;simp only[rZ,List.length_reverse,ug]at hlen;have hd:=G9 hd;simp only[ug]at hd
 have key:∀i o,ops[i]? =some o->∃q,acc.reverse[i]? =some q/\(∀t x,get q.e t=some x->t∈looks ops o/\get (s i).env t=some x)/\q.h=(s i).H/\(s i).n=S0.n/\(s (i+1)).env=Ap o.dst q.x (s i).env/\(s (i+1)).n=S0.n/\q.ok P ro E ops S0.n o (s (i+1)).H:=by
  intro i o ho;obtain⟨o',q,k1,k2,k3⟩:=h2 i (by rw[hlen];exact(qZ.1 ho).1);have:o'=o:=by simp[ho]at k1;exact k1.symm
  subst this;exact⟨q,k2,k3⟩
 have hk:∀i,i<ops.size->(acc.reverse.map Rc.k)[i]? =some (acc.reverse[i]?.getD ⟨[],[],.u,.skip⟩).k:=by
  intro i hi;obtain⟨q,k2,_⟩:=key i ops[i] sm;rw[rQ,k2];rfl
 have hat:∀i,i<=ops.size->hAt acc.reverse S.H i=(s i).H:=by
  intro i hi;rcases Nat.eq_or_lt_of_le hi with rfl|hlt
  .rw[hAt,tC (by simp[hlen]),<-hlen,h1]
  .obtain⟨q,k2,k3,k4,_⟩:=key i ops[i] sm;rw[hAt,k2,<-k4]
 have hD:∀i o,ops[i]? =some o->_:=fun i o ho=>by
  have:=hd i (qZ.1 ho).1;simp only[Array.getElem?_toList,ho,qH]at this;exact this
 have kEff:∀i,i<ops.size->(acc.reverse[i]?.getD ⟨[],[],.u,.skip⟩).k.NM=true->To (acc.reverse.map Rc.k)[i]? =true:=fun i hi h=>by rw[hk i hi];exact h
 have kQ:∀i,i<ops.size->(acc.reverse[i]?.getD ⟨[],[],.u,.skip⟩).k= .quiet->Rf (acc.reverse.map Rc.k)[i]? =true:=fun i hi h=>by rw[hk i hi,h];rfl
 refine⟨s,h0,h0,by rw[<-hlen,h1],fun i o ho=> ?_,fun i hi=> ?_,fun i o ho=> ?_,fun i hi=> ?_,fun i o ho=> ?_,fun i o ho e he hb=> ?_,fun i o ho t ht j q hq hqd=> ?_,fun i j o q d ho hq hod hqd=> ?_,fun i j hi hj hik hjk=> ?_,fun i k o ho hkn hik hkk=> ?_,fun i hi hik=> ?_⟩
 .obtain⟨q,k2,k3,_⟩:=key i o ho;rw[k2];exact k3
 .obtain⟨q,k2,k3,k4,_⟩:=key i ops[i] sm;rw[k2];exact k4
 .obtain⟨q,k2,k3,k4,k5,k6,_⟩:=key i o ho;rw[k2];exact k6
 .rcases Nat.eq_or_lt_of_le hi with rfl|hlt
  .cases hz:ops.size with
   |zero=>rw[h0]
   |succ m=>
    obtain⟨q,k2,k3,k4,k5,k6,k7,_⟩:=key m ops[m] sm;exact k7
  .obtain⟨q,k2,k3,k4,k5,_⟩:=key i ops[i] sm;exact k5
 .obtain⟨q,k2,k3,k4,k5,k6,k7,k8⟩:=key i o ho;rw[k2];exact k8
 .have:=(hD i o ho).1.1.1.1.1;rw[sK]at this;have:=this e (by simpa using he);rw[hb]at this;simpa[tX]using this
 .have:=(hD i o ho).1.1.1.1.2;rw[sK]at this;have:=G9 (this t ht) j (by simpa using(qZ.1 hq).1);have hdi:Q1 ops j t=true:=by simp[Q1,hq,hqd]
  rw[hdi]at this;simp only[uS,su,rO]at this;rcases this with(h|h)|h
  .exact .inl (qL h)
  .exact .inr (.inl h)
  .exact .inr (.inr h)
 .have:=(hD i o ho).1.1.1.2;rw[hod]at this;have:=G9 this j (by simpa using(qZ.1 hq).1);have hdi:Q1 ops j d=true:=by simp[Q1,hq,hqd]
  rw[hdi]at this;simp only[uS,Bool.or_false]at this;exact(qL this).symm
 .have:=(hD i ops[i] sm).1.1.2;rw[kEff i hi hik]at this;simp only[uS,su]at this;have:=G9 this j hj;rw[kEff j om hjk]at this;simpa using this
 .have hi:i<ops.size:=(qZ.1 ho).1;have:=(hD i o ho).1.2;rw[kQ i hi hik]at this;simp only[uS,su]at this;have:=G9 this k (by simpa using hkn);rw[kEff k hkn hkk]at this;simp only[uS,su,rO,qH,tX]at this;rcases this with(h|h)|h
  .exact .inl h
  .exact .inr (.inl h)
  .right;right;obtain⟨q,k2,_⟩:=key i o ho;obtain⟨c,c1,c2⟩:=OY (i:=i) (k:=k) (o:=o) (r:=q) (by simpa using ho) k2 hx h;refine⟨c,?_,c2⟩;show Hu E (acc.reverse[i]?.getD _).e _ o.op=some (c,(acc.reverse[i]?.getD _).x);rw[k2];simp only[Option.getD_some];rw[<-c1]
   congr 1
   by_cases hki:k<i
   .have hb:Nat.blt k i=true:=by simpa[tX]using hki
    rw[hb];simp only[qw,if_pos hki];exact(hat k om).symm
   .have hb:Nat.blt k i=false:=by
     cases h:Nat.blt k i with
     |false=>rfl
     |true=>rw[tX]at h;exact absurd h hki
    rw[hb];simp only[rD,ql,if_neg hki];exact(hat (k+1) om).symm
 .have:=(hD i ops[i] sm).2;rw[hk i hi,hik]at this;simp only[dD,uS,su]at this;obtain⟨j,hj,h3⟩:=Pt this;simp only[qH,ug]at h3 hj;rw[hk j hj]at h3
  cases hkj:(acc.reverse[j]?.getD ⟨[],[],.u,.skip⟩).k with
  |pan ch=>exact⟨j,ch,hkj,h3.2⟩
  |_=>rw[hkj]at h3;simp[dE]at h3
theorem dq(h:jx (acc.reverse.map Rc.k)=true)(i:Nat)(ch:List PanicEntry):(acc.reverse[i]?.getD ⟨[],[],.u,.skip⟩).k≠ .pan ch:=by
 cases hi:acc.reverse[i]? with
 |none=>simp
 |some q=>
  intro e;simp only[Option.getD_some]at e;have hm:q.k∈acc.reverse.map Rc.k:=List.mem_map.2 ⟨q,rE hi,rfl⟩;have:=(sK.1 h) _ hm;rw[e]at this;cases this
def Hq(P:Program)(ro:Option Nat)(ops:Array Oper)(S:St)(Q:Exit->St->Prop):Prop:=
 ∀N G a w,Rel ro N S G a w->wpAnyIn (It (rl G ro)) 0 P .any ops (Post ro N G w Q) ops.size (Array.replicate ops.size false) a {w with drawn:=w.drawn+1}
theorem Pm(pl:Plan P ro E ops S0 S s r)(hE:BN P E)(hQ:(∀i ch,i<ops.size->(r i).k≠ .pan ch)->Q .normal S)(hP:∀i ch,i<ops.size->(r i).k= .pan ch->Q (.panic ch) ⟨[],(s (i+1)).H,S0.n⟩):Hq P ro ops S0 Q:=by
 intro N G a w hr;have hg:AR G {w with drawn:=w.drawn+1}:=⟨fun id b hb=>(hr.rel.blk id b hb).Nm (HH.refl G) (fun _ _ _ _=>rfl) rfl,hr.rel.inj,fun b k v hv=>hr.rel.mem b k v hv,hr.rel.sep,hr.rel.st⟩;have hf:C4 G w G {w with drawn:=w.drawn+1}:=⟨rfl,rfl,rfl,qG _,fun b hb ho=>⟨rfl,ho⟩,fun b o v hv=> .inl hv,HH.refl G⟩;refine HM.run pl hE hQ hP (fun h hf=>Ev hr h hf) _ _ 0 G a _ ?_ ?_ hf
 .simp[List.countP_replicate]
 .refine⟨sm,fun i o ho hl=> ?_,qP _,fun k hk hkk=> ?_,fun k ch hkc hl=> ?_,?_,fun j o t ho hd hl=> ?_,fun t x hx hno=> ?_⟩
  .have:i<ops.size:=(qZ.1 ho).1;rw[Array.getElem?_replicate,if_pos this]at hl;cases hl
  .rw[Array.getElem?_replicate,if_pos hk];simp
  .rw[Array.getElem?_replicate]at hl;split at hl<;>cases hl
  .have h:=hr.step hf (S':=⟨[],S0.H,S0.n⟩) hr.heap hg rfl hr.size (fun t x h=>by simp[get]at h) rfl;rw[pl.s0];exact h
  .have:j<ops.size:=(qZ.1 ho).1;rw[Array.getElem?_replicate,if_pos this]at hl;cases hl
  .exact hr.env t x hx
theorem KO(hE:BN P E)(ht:Run P ro E ops S0 acc S)(hd:HA ops (acc.reverse.map Rc.k) l=true)(hx:CI E ops acc.reverse S.H l)(hQ:Q .normal S):Hq P ro ops S0 Q:=by
 simp only[HA,qH]at hd;obtain⟨s,_,pl⟩:=ht.plan hd.2 hx;exact Pm pl hE (fun _=>hQ) fun i ch _ h=>absurd h (dq hd.1 i ch)
variable {id:Nat}
theorem g9(hm:P.follows .mixedOrders=true)(hE:BN P E)(ht:Run P ro E ops S0 acc S)(hd:HA ops (acc.reverse.map Rc.k) l=true)(hx:CI E ops acc.reverse S.H l)(hQ:Q .normal S):W P ro (.region id ops true) S0 Q:=by
 intro N G a w hr;exact wpIn_region_any hm (KO hE ht hd hx hQ N G a w hr)
def J8:List Kd->Option (Nat×List PanicEntry)
 |[]=>none
 | .pan ch::r=>if r.any Kd.NM then none else some (0,ch)
 |_::r=>match J8 r with
  |some (i,ch)=>some (i+1,ch)
  |none=>none
theorem UL:∀{ks:List Kd}{i:Nat}{ch:List PanicEntry},J8 ks=some (i,ch)->ks[i]? =some (.pan ch)/\(∀j k,i<j->ks[j]? =some k->k.NM≠true)/\(∀j ch',ks[j]? =some (.pan ch')->j=i)
 |[],i,ch,h=>by simp[J8]at h
 |k::r,i,ch,h=>by
  have rec_:(match J8 r with|some (i,ch)=>some (i+1,ch)|none=>none)=some (i,ch)->(∀c,k≠ .pan c)->(k::r)[i]? =some (.pan ch)/\(∀(j:Nat)(q:Kd),i<j->(k::r)[j]? =some q->q.NM≠true)/\(∀j ch',(k::r)[j]? =some (.pan ch')->j=i):=by
   intro h hk;split at h
   .rename_i i' ch' hp;simp only[qI,qR]at h;obtain⟨rfl,rfl⟩:=h;obtain⟨h1,h2,h3⟩:=UL hp;refine⟨by simpa using h1,fun j q hj hq=> ?_,fun j c hc=> ?_⟩
    .cases j with
     |zero=>omega
     |succ j=>exact h2 j q om (by simpa using hq)
    .cases j with
     |zero=>simp at hc;exact absurd hc (hk c)
     |succ j=>rw[h3 j c (by simpa using hc)]
   .cases h
  cases k with
  |pan c=>
   simp only[J8]at h;split at h
   .cases h
   .rename_i hany;simp only[qI,qR]at h;obtain⟨rfl,rfl⟩:=h;have hno:∀(j:Nat)(q:Kd),r[j]? =some q->q.NM≠true:=fun j q hq he=>hany (List.any_eq_true.2 ⟨q,rE hq,he⟩)
    refine⟨rfl,fun j q hj hq=> ?_,fun j c' hc=> ?_⟩
    .cases j with
     |zero=>omega
     |succ j=>exact hno j q (by simpa using hq)
    .cases j with
     |zero=>rfl
     |succ j=>exact absurd (show Kd.NM (.pan c')=true from rfl) (hno j _ (by simpa using hc))
  |_=>exact rec_ h (by intro c e;cases e)
variable {ch:List PanicEntry}
theorem Sz{i0:Nat}(hE:BN P E)(ht:Run P ro E ops S0 acc S)(hd:Gm ops (acc.reverse.map Rc.k) l=true)(hx:CI E ops acc.reverse S.H l)(hp:J8 (acc.reverse.map Rc.k)=some (i0,ch))(hQ:Q (.panic ch) ⟨[],S.H,S.n⟩):Hq P ro ops S0 Q:=by
 obtain⟨s,hs0,pl⟩:=ht.plan hd hx;obtain⟨p1,p2,p3⟩:=UL hp;have hn:S.n=S0.n:=by rw[<-pl.sn];exact pl.n _ (qG _)
 have hlen:acc.length=ops.size:=by
  simp only[Gm,qH]at hd;have:=qL hd.1;simpa using this
 have hi0:i0<ops.size:=by
  have:=(qN.1 p1).1;simpa[hlen]using this
 have hkd:∀i,i<ops.size->(acc.reverse.map Rc.k)[i]? =some (acc.reverse[i]?.getD ⟨[],[],.u,.skip⟩).k:=fun i hi=>by
  have hil:i<acc.reverse.length:=by simp[hlen];exact hi
  rw[rQ,qK hil];rfl
 refine Pm pl hE (fun hno=>absurd ?_ (hno i0 ch hi0)) fun i ch' hi hk=> ?_
 .have:=hkd i0 hi0;rw[p1]at this;exact(Option.some.inj this).symm
 .have e:=hkd i hi;rw[hk]at e;have:=p3 i ch' e;subst this;rw[p1]at e;cases e;rw[pl.EG (i:=i+1) (j:=ops.size) hi (qG _) fun k h1 h2=>p2 k _ om (hkd k h2),pl.sn,<-hn];exact hQ
def Wd(P:Program)(ro:Option Nat)(E:Nat->Option Ao)(ops:Array Oper)(S0:St)(A:Prop)(acc:List Rc)(rest:List Oper)(S:St):Prop:=
 ∀Sr,Run P ro E ops S0 acc Sr->Sr.H=S.H->Sr.n=S.n->(∀t x,get S.env t=some x->get Sr.env t=some x)->(∀k:Nat,rest[k]? =ops[acc.length+k]?)->A
variable {A:Prop}{acc:List Rc}{rest:List Oper}{o:Oper}
theorem ja(E:Nat->Option Ao)(h:Wd P ro E ops S (W P ro (.region id ops true) S Q) [] ops.toList S):W P ro (.region id ops true) S Q:=
 h S .nil rfl rfl (fun _ _ h=>h) (fun k=>sm)
variable {x:AV}{H':List A3}
theorem IN{k:Kd}(hok:(⟨Db (looks ops o) S.env,S.H,x,k⟩:Rc).ok P ro E ops S.n o H')(hk:Wd P ro E ops S0 A (⟨Db (looks ops o) S.env,S.H,x,k⟩::acc) rest ⟨Ap o.dst x S.env,H',S.n⟩):Wd P ro E ops S0 A acc (o::rest) S:=by
 intro Sr ht hH hn he hr;have ho:ops.toList[acc.length]? =some o:=by have:=hr 0;simpa using this.symm
 refine hk ⟨Ap o.dst x Sr.env,H',Sr.n⟩ (.snoc (o:=o) (r:=⟨Db (looks ops o) S.env,S.H,x,k⟩) ht ho (fun t y hy=> ?_) hH.symm (hn▸hok)) rfl hn (fun t y hy=> ?_) (fun i=> ?_)
 .obtain⟨h1,h2⟩:=IG hy;exact⟨h1,he t y h2⟩
 .cases hd:o.dst with
  |none=>rw[hd]at hy;exact he t y hy
  |some d=>
   rw[hd]at hy;simp only[Ap,get]at hy|-;split at hy
   .rename_i hb;rw[if_pos hb];exact hy
   .rename_i hb;rw[if_neg hb];exact he t y hy
 .have:=hr (i+1);simp only[List.getElem?_cons_succ]at this;rw[this];simp only[qY]
  congr 1;omega
variable {c:Bool}
theorem gD(hE:BN P E)(hg:A8 ops (Db (looks ops o) S.env) o=some true)(h:∀H,Hu E (Db (looks ops o) S.env) H o.op=some (c,x))(hd:AE o.dst S.n=true)(hc:c=true)(hk:Wd P ro E ops S0 A (⟨Db (looks ops o) S.env,S.H,x,.any⟩::acc) rest ⟨Ap o.dst x S.env,S.H,S.n⟩):Wd P ro E ops S0 A acc (o::rest) S:=
 IN (x:=x) (k:=.any) (H':=S.H) ⟨hd,hg,fun H=>D2.step (S:=⟨Db (looks ops o) S.env,H,S.n⟩) (Hv (S:=⟨Db (looks ops o) S.env,H,S.n⟩) hE (h H) hc) (FG (h H)),rfl⟩ hk
theorem oI(hg:A8 ops (Db (looks ops o) S.env) o=some true)(h:Hu E (Db (looks ops o) S.env) S.H o.op=some (c,x))(hd:AE o.dst S.n=true)(hc:c=true)(hk:Wd P ro E ops S0 A (⟨Db (looks ops o) S.env,S.H,x,.quiet⟩::acc) rest ⟨Ap o.dst x S.env,S.H,S.n⟩):Wd P ro E ops S0 A acc (o::rest) S:=
 IN (x:=x) (k:=.quiet) (H':=S.H) ⟨hd,hg,⟨c,h,hc⟩,rfl⟩ hk
theorem Wc(hg:A8 ops (Db (looks ops o) S.env) o=some false)(hd:AE o.dst S.n=true)
  (hk:Wd P ro E ops S0 A (⟨Db (looks ops o) S.env,S.H,.d (.tup []),.skip⟩::acc) rest ⟨Ap o.dst (.d (.tup [])) S.env,S.H,S.n⟩):Wd P ro E ops S0 A acc (o::rest) S:=
 IN (x:=.d (.tup [])) (k:=.skip) (H':=S.H) ⟨hd,hg,rfl,rfl⟩ hk
theorem oD{g:Nat}{xs:List AV}{ds:List D}{q:D}(hg:A8 ops (Db (looks ops o) S.env) o=some true)(h:BE (Db (looks ops o) S.env) o.op=some (g,xs))(hd:AE o.dst S.n=true)(hF:Go.Gar.Fn P g ds q)(hx:Ig xs ds)
  (hk:Wd P ro E ops S0 A (⟨Db (looks ops o) S.env,S.H,.d q,.any⟩::acc) rest ⟨Ap o.dst (.d q) S.env,S.H,S.n⟩):Wd P ro E ops S0 A acc (o::rest) S:=
 IN (x:=.d q) (k:=.any) (H':=S.H) ⟨hd,hg,fun H=>O8 (S:=⟨Db (looks ops o) S.env,H,S.n⟩) h (hF.nq hx H),rfl⟩ hk
theorem Wd_T{g:Nat}{xs:List AV}(hg:A8 ops (Db (looks ops o) S.env) o=some true)(h:BE (Db (looks ops o) S.env) o.op=some (g,xs))(hd:AE o.dst S.n=true)(hT:IY P g xs S.H fun y H=>y=x/\H=H')(hk:Wd P ro E ops S0 A (⟨Db (looks ops o) S.env,S.H,x,.eff⟩::acc) rest ⟨Ap o.dst x S.env,H',S.n⟩):Wd P ro E ops S0 A acc (o::rest) S:=
 IN (x:=x) (k:=.eff) (H':=H') ⟨hd,hg,O8 (S:=⟨Db (looks ops o) S.env,S.H,S.n⟩) h hT⟩ hk
theorem Wd_a(hE:BN P E){f:Nat->AV}{b:A3}(hg:A8 ops (Db (looks ops o) S.env) o=some true)(h:aU E (Db (looks ops o) S.env) S.H o.op=some (c,f,b))(hd:AE o.dst S.n=true)(hc:c=true)(hk:Wd P ro E ops S0 A (⟨Db (looks ops o) S.env,S.H,f S.H.length,.eff⟩::acc) rest ⟨Ap o.dst (f S.H.length) S.env,S.H++[b],S.n⟩):Wd P ro E ops S0 A acc (o::rest) S:=
 IN (x:=f S.H.length) (k:=.eff) (H':=S.H++[b]) ⟨hd,hg,D2.step (S:=⟨Db (looks ops o) S.env,S.H,S.n⟩) (OR (S:=⟨Db (looks ops o) S.env,S.H,S.n⟩) hE h hc) (Gp h)⟩ hk
theorem oF(hE:BN P E){q:D}(hg:A8 ops (Db (looks ops o) S.env) o=some true)(h:MJ E (Db (looks ops o) S.env) S.H o.op=some (c,q))(hd:AE o.dst S.n=true)(hc:c=true)(hk:Wd P ro E ops S0 A (⟨Db (looks ops o) S.env,S.H,.sl S.H.length (AP q) (B9 q),.eff⟩::acc) rest ⟨Ap o.dst (.sl S.H.length (AP q) (B9 q)) S.env,S.H++[.a q],S.n⟩):Wd P ro E ops S0 A acc (o::rest) S:=
 IN (x:=.sl S.H.length (AP q) (B9 q)) (k:=.eff) (H':=S.H++[.a q]) ⟨hd,hg,D2.step (S:=⟨Db (looks ops o) S.env,S.H,S.n⟩) (R7 (S:=⟨Db (looks ops o) S.env,S.H,S.n⟩) hE h hc) (Ht h)⟩ hk
theorem Wd_w(hE:BN P E)(hg:A8 ops (Db (looks ops o) S.env) o=some true)(h:fZ E (Db (looks ops o) S.env) S.H o.op=some (c,x,H'))(hd:AE o.dst S.n=true)(hc:c=true)(hk:Wd P ro E ops S0 A (⟨Db (looks ops o) S.env,S.H,x,.eff⟩::acc) rest ⟨Ap o.dst x S.env,H',S.n⟩):Wd P ro E ops S0 A acc (o::rest) S:=
 IN (x:=x) (k:=.eff) (H':=H') ⟨hd,hg,D2.step (S:=⟨Db (looks ops o) S.env,S.H,S.n⟩) (OX (S:=⟨Db (looks ops o) S.env,S.H,S.n⟩) hE h hc) (Gs h)⟩ hk
theorem Qn{env:List (Nat×AV)}(h:∀t x,get env t=some x->get S.env t=some x)(k:Wd P ro E ops S0 A acc rest ⟨env,S.H,S.n⟩):Wd P ro E ops S0 A acc rest S:=
 fun Sr ht hH hn he hr=>k Sr ht hH hn (fun t x hx=>he t x (h t x hx)) hr
theorem bA{d:Nat}{b:Bool}(hg:Z1 ops o=some d)(hb:get S.env d=some (.d (.b b)))
  (ht:b=true->Wd P ro E ops S0 A acc (o::rest) ⟨(d,.d (.b true))::S.env,S.H,S.n⟩) (hf:b=false->Wd P ro E ops S0 A acc (o::rest) ⟨(d,.d (.b false))::S.env,S.H,S.n⟩):Wd P ro E ops S0 A acc (o::rest) S:=by
 cases b with
 |true=>exact Qn (LK hb) (ht rfl)
 |false=>exact Qn (LK hb) (hf rfl)
theorem NY{c:Code}{Q':Exit->St->Prop}(h:W P ro c S0 Q')(hq:∀e S',Q' e S'->Q e S'\/∃env,(∀t x,get env t=some x->get S'.env t=some x)/\Q e ⟨env,S'.H,S'.n⟩):W P ro c S0 Q:=by
 intro N G a w r;refine vH (h N G a w r) ?_;rintro e a' w' ⟨S',G',q,r',k⟩;rcases hq e S' q with q|⟨env,hs,q⟩
 .exact⟨S',G',q,r',k⟩
 .exact⟨_,G',q,r'.OQ hs,k⟩
theorem kg(hg:A8 ops (Db (looks ops o) S.env) o=some true)(hX:ar P ro o ⟨Db (looks ops o) S.env,S.H,S.n⟩ ch H')(hd:AE o.dst S.n=true)(hk:Wd P ro E ops S0 A (⟨Db (looks ops o) S.env,S.H,.u,.pan ch⟩::acc) rest ⟨Ap o.dst .u S.env,H',S.n⟩):Wd P ro E ops S0 A acc (o::rest) S:=
 IN (x:=.u) (k:=.pan ch) (H':=H') ⟨hd,hg,hX⟩ hk
theorem gB(hd:AE o.dst S.n=true)
  (hk:Wd P ro E ops S0 A (⟨Db (looks ops o) S.env,S.H,.u,.dead⟩::acc) rest ⟨Ap o.dst .u S.env,S.H,S.n⟩):Wd P ro E ops S0 A acc (o::rest) S:=
 IN (x:=.u) (k:=.dead) (H':=S.H) ⟨hd,rfl⟩ hk
theorem gC(l:List (Nat×Nat)){i0:Nat}(hm:P.follows .mixedOrders=true)(hE:BN P E)(hp:J8 (acc.reverse.map Rc.k)=some (i0,ch))(hd:Gm ops (acc.reverse.map Rc.k) l=true)(hx:CI E ops acc.reverse S.H l)(hQ:Q (.panic ch) ⟨[],S.H,S.n⟩):Wd P ro E ops S0 (W P ro (.region id ops true) S0 Q) acc [] S:=by
 intro Sr ht hH hn he hr N G a w hrel;exact wpIn_region_any hm (Sz hE ht hd (by rw[hH];exact hx) hp (by rw[hH,hn];exact hQ) N G a w hrel)
theorem ke(l:List (Nat×Nat))(hm:P.follows .mixedOrders=true)(hE:BN P E)(hd:HA ops (acc.reverse.map Rc.k) l=true)(hx:CI E ops acc.reverse S.H l)(hQ:Q .normal S):Wd P ro E ops S0 (W P ro (.region id ops true) S0 Q) acc [] S:=by
 intro Sr ht hH hn he hr;refine NY (Q':=fun e S'=>e= .normal/\S'=Sr) (g9 hm hE ht hd (by rw[hH];exact hx) ⟨rfl,rfl⟩) ?_;rintro e S' ⟨rfl,rfl⟩;refine .inr ⟨S.env,he,?_⟩;rw[hH,hn];exact hQ
end
end Go.Gar
namespace Go.Gar
section
variable {P:Program}{ro:Option Nat}{ops:Array Oper}{i:Nat}{rest:List Oper}{S S0:St}{Q:Exit->St->Prop}{o:Oper}{E:Nat->Option Ao}{A:Prop}{acc:List Rc}
variable {es:List (List D)}{n:Int}{e:List D}
theorem dA(hn:0<=n)(he:es[n.toNat]? =some e):Rb n es.length=true/\es.getD n.toNat []=e:=by
 have hlt:=(qN.1 he).1;refine⟨Dh.2 ⟨hn,om⟩,?_⟩;rw[qW,he];rfl
variable {b:Bool}
theorem Ip{a:Bool}(h:a=true)(k:b=true):(a&&b)=true:=by rw[h,k];rfl
theorem DT{α:Type}{f:α->List D}{xs:List α}{k:Nat}{x:α}(h:xs[k]? =some x):(xs.map f)[((k:Nat):Int).toNat]? =some (f x):=by
 simp[h]
theorem oN(hE:BN P E)(hg:A8 ops S.env o=some true)(h:Hu E S.env S.H o.op=some (Rb n es.length&&b,.dp (es.getD n.toNat [])))(hd:AE o.dst S.n=true)(hb:b=true)(hn:0<=n)(he:es[n.toNat]? =some e)(k:Wl P ro ops (i+1) rest ⟨Ap o.dst (.dp e) S.env,S.H,S.n⟩ Q):Wl P ro ops i (o::rest) S Q:=by
 obtain⟨h1,h2⟩:=dA hn he;exact kj hE hg h hd (by rw[h1,hb];rfl) (by rw[h2];exact k)
theorem oG(hE:BN P E)(hg:A8 ops (Db (looks ops o) S.env) o=some true)(h:∀H,Hu E (Db (looks ops o) S.env) H o.op=some (Rb n es.length&&b,.dp (es.getD n.toNat [])))(hd:AE o.dst S.n=true)(hb:b=true)(hn:0<=n)(he:es[n.toNat]? =some e)(k:Wd P ro E ops S0 A (⟨Db (looks ops o) S.env,S.H,.dp e,.any⟩::acc) rest ⟨Ap o.dst (.dp e) S.env,S.H,S.n⟩):Wd P ro E ops S0 A acc (o::rest) S:=by
 obtain⟨h1,h2⟩:=dA hn he;exact gD hE hg (fun H=>by rw[<-h2];exact h H) hd (by rw[h1,hb];rfl) k
theorem bN:∀ds:List D,Ig (ds.map .d) ds
 |[]=>by simp[Ig,CN]
 |d::ds=>by
  have:=bN ds;simp only[Ig]at this|-;simp only[sO,CN];exact⟨d,ds,rfl,by simp[Bb],this⟩
theorem oL{g:Nat}{ds:List D}{r:D}(hF:Go.Gar.Fn P g ds r)(hg:A8 ops S.env o=some true)(h:BE S.env o.op=some (g,ds.map .d))(hd:AE o.dst S.n=true)
  (k:Wl P ro ops (i+1) rest ⟨Ap o.dst (.d r) S.env,S.H,S.n⟩ Q):Wl P ro ops i (o::rest) S Q:=
 oK hg h hd hF (bN ds) k
theorem oE{g:Nat}{ds:List D}{q:D}(hF:Go.Gar.Fn P g ds q)(hg:A8 ops (Db (looks ops o) S.env) o=some true)(h:BE (Db (looks ops o) S.env) o.op=some (g,ds.map .d))(hd:AE o.dst S.n=true)
  (hk:Wd P ro E ops S0 A (⟨Db (looks ops o) S.env,S.H,.d q,.any⟩::acc) rest ⟨Ap o.dst (.d q) S.env,S.H,S.n⟩):Wd P ro E ops S0 A acc (o::rest) S:=
 oD hg h hd hF (bN ds) hk
end
end Go.Gar
namespace Go.Gar
theorem AI.congr{G G' K K':Gh}{id:Nat}{b b':A3}(h:AI G G' id b b')(e:K.ρ id=G.ρ id)(e':K'.ρ id=G'.ρ id):AI K K' id b b':=by
 cases b<;>cases b'<;>simp only[AI]at h|-<;>simp_all
theorem FT:∀(H L:List A3),Au H (H++L)
 |[],L=>by simp[Au]
 |b::H,L=>by exact qQ (Or.inr rfl) (FT H L)
theorem Te{G G':Gh}{w w':World}{H L:List A3}(hG:G.H=H++L)(hr:AR G w)(hf:C4 (G.cut H) w G' w')(h':AR G' w')(hl:G'.H.length=H.length):
  ∃G'',G''.H=G'.H++L/\AR G'' w'/\C4 G w G'' w'/\HH G' G'':=by
 let K:Gh:=⟨fun id=>if id<H.length then G'.ρ id else G.ρ id,G'.H++L,G'.m⟩;have k1:∀id,id<H.length->K.ρ id=G'.ρ id:=fun id h=>by simp[K,h]
 have k2:∀id,¬id<H.length->K.ρ id=G.ρ id:=fun id h=>by simp[K,h]
 have kH:K.H=G'.H++L:=rfl
 have low:∀id b,K.H[id]? =some b->id<H.length->G'.H[id]? =some b:=fun id b hb hlt=>by
  rw[kH,qg om]at hb;exact hb
 have high:∀id b,K.H[id]? =some b->¬id<H.length->G.H[id]? =some b:=fun id b hb hge=>by
  rw[kH,qp om,hl]at hb;rw[hG,qp om];exact hb
 have hs:Au H G.H:=by rw[hG];exact FT H L
 have g1:HH G' K:=⟨fun id b hb=>⟨b,by rw[kH,qg (qN.1 hb).1];exact hb,(AI.refl G' id b).congr rfl (k1 id (by have:=(qN.1 hb).1;omega))⟩,Mem.le_refl _⟩
 have g2:HH G K:=by
  refine⟨fun id b hb=> ?_,hf.gle.mem⟩
  by_cases hlt:id<H.length
  .have hb0:(G.cut H).H[id]? =some b:=by
    rw[hG,qg hlt]at hb;exact hb
   obtain⟨b',hb',hstep⟩:=hf.gle.blk id b hb0;exact⟨b',by rw[kH,qg om];exact hb',hstep.congr rfl (k1 id hlt)⟩
  .refine⟨b,?_,(AI.refl G id b).congr rfl (k2 id hlt)⟩;rw[hG,qp om]at hb;rw[kH,qp om,hl];exact hb
 have far:∀id b N q,¬id<H.length->G.H[id]? =some q->q.live=true->G.ρ id=some (b,N)->b<w.heap.size/\¬Own (G.cut H) b:=by
  intro id b N q hge hq hlv hρ;refine⟨Dw hr ⟨id,N,q,hq,hlv,hρ⟩,?_⟩;rintro⟨id',N',q',hq',hlv',hρ'⟩
  have hq'':G.H[id']? =some q':=by
   have:id'<H.length:=(qN.1 hq').1;rw[hG,qg this];exact hq'
  have:=hr.inj id id' q q' b N N' hq hq'' hlv hlv' hρ hρ';have:id'<H.length:=(qN.1 hq').1;omega
 have ownK:∀b,Own K b->Own G' b\/(Own G b/\b<w.heap.size/\¬Own (G.cut H) b):=by
  rintro b ⟨id,N,q,hq,hlv,hρ⟩
  by_cases hlt:id<H.length
  .exact .inl ⟨id,N,q,low id q hq hlt,hlv,by rw[<-k1 id hlt];exact hρ⟩
  .have hρ':G.ρ id=some (b,N):=by rw[<-k2 id hlt];exact hρ
   exact .inr ⟨⟨id,N,q,high id q hq hlt,hlv,hρ'⟩,far id b N q hlt (high id q hq hlt) hlv hρ'⟩
 refine⟨K,rfl,⟨fun id b hb=> ?_,fun id id' p q b N N' hp hq lp lq r1 r2=> ?_,h'.mem,fun b hb k=> ?_,h'.st⟩,⟨hf.os,hf.tape,hf.output,hf.size,fun b hb ho=> ?_,fun b k v hv=> ?_,g2⟩,g1⟩
 .by_cases hlt:id<H.length
  .exact(h'.blk id b (low id b hb hlt)).Nm g1 (fun _ _ _ _=>rfl) (k1 id hlt)
  .refine(hr.blk id b (high id b hb hlt)).Nm g2 (fun q N hlv hρ=> ?_) (k2 id hlt);obtain⟨h1,h2⟩:=far id q N b hlt (high id b hb hlt) hlv hρ;exact(hf.keep q h1 h2).1
 .by_cases h1:id<H.length
  .rw[k1 id h1]at r1
   by_cases h2:id'<H.length
   .rw[k1 id' h2]at r2;exact h'.inj id id' p q b N N' (low id p hp h1) (low id' q hq h2) lp lq r1 r2
   .rw[k2 id' h2]at r2;obtain⟨f1,f2⟩:=far id' b N' q h2 (high id' q hq h2) lq r2;exact absurd ⟨id,N,p,low id p hp h1,lp,r1⟩ (hf.keep b f1 f2).2
  .rw[k2 id h1]at r1
   by_cases h2:id'<H.length
   .rw[k1 id' h2]at r2;obtain⟨f1,f2⟩:=far id b N p h1 (high id p hp h1) lp r1;exact absurd ⟨id',N',q,low id' q hq h2,lq,r2⟩ (hf.keep b f1 f2).2
   .rw[k2 id' h2]at r2;exact hr.inj id id' p q b N N' (high id p hp h1) (high id' q hq h2) lp lq r1 r2
 .rcases ownK b hb with h|⟨h1,h2,h3⟩
  .exact h'.sep b h k
  .cases hm:G'.m b k with
   |none=>rfl
   |some v=>
    rcases hf.memNew b k v hm with h|h|h
    .have:=hr.sep b h1 k;rw[show G.m b k=some v from h]at this;cases this
    .exact absurd h h3
    .omega
 .have hc:¬Own (G.cut H) b:=fun h=>ho (Lb hs h);obtain⟨h1,h2⟩:=hf.keep b hb hc
  refine⟨h1,fun h=> ?_⟩;rcases ownK b h with h|⟨h,_⟩
  .exact h2 h
  .exact ho h
 .rcases hf.memNew b k v hv with h|h|h
  .exact .inl h
  .exact .inr (.inl (Lb hs h))
  .exact .inr (.inr h)
end Go.Gar
namespace Go.Gar
section
variable {P:Program}{ro:Option Nat}{ops:Array Oper}{i:Nat}{rest:List Oper}{S:St}{Q:Exit->St->Prop}{o:Oper}
def YT(P:Program)(id:Nat)(args:List AV)(H:List A3)(R:AV->List A3->Prop):Prop:=
 ∀G w l N (vs:Array Value),G.H=H->AR G w->G.ρ id=some (l,N)->Al G args vs.toList->
  ∃f tmps asg body,(Instr.yield l vs).run P w= .ok (.round l f tmps asg body) w/\
   RoundIn Fence.wide 0 P l f tmps asg body w fun e w'=>∃v r G',e= .returned v/\R r G'.H/\RV G' r v/\AR G' w'/\C4 G w G' w'
variable {id:Nat}{args:List AV}{H:List A3}{R:AV->List A3->Prop}
theorem YT.mono{R':AV->List A3->Prop}(h:YT P id args H R)(hr:∀x H,R x H->R' x H):YT P id args H R':=
 fun G w l N vs h1 h2 h3 h4=>by
  obtain⟨f,t,a,b,k1,k2⟩:=h G w l N vs h1 h2 h3 h4;exact⟨f,t,a,b,k1,k2.mono fun _ _ ⟨v,r,G',e,q,rest⟩=>⟨v,r,G',e,hr _ _ q,rest⟩⟩
theorem YT.frame{L:List A3}(h:YT P id args H R)(hi:id<H.length)(ho:Ae H.length H=true)(ha:AV.oks H.length args=true)(hl:∀r H',R r H'->H'.length=H.length):
  YT P id args (H++L) fun r H''=>∃H',R r H'/\H''=H'++L:=by
 intro G w l N vs hG hr hρ hargs;have hs:Au H G.H:=by rw[hG];exact FT H L
 obtain⟨f,t,a,b,k1,k2⟩:=h (G.cut H) w l N vs rfl (hr.cut hs ho) hρ (hargs.cut hs ha);refine⟨f,t,a,b,k1,k2.mono ?_⟩;rintro e w' ⟨v,r,G',rfl,hR,hv,hr',hfr⟩;obtain⟨G'',q1,q2,q3,q4⟩:=Te hG hr hfr hr' (hl r _ hR);exact⟨v,r,G'',rfl,⟨G'.H,hR,q1⟩,hv.mono q4,q2,q3⟩
theorem IY.frame{f:FuncId}{L:List A3}(h:IY P f args H R)(ho:Ae H.length H=true)(ha:AV.oks H.length args=true)(hl:∀r H',R r H'->H'.length=H.length):
  IY P f args (H++L) fun r H''=>∃H',R r H'/\H''=H'++L:=by
 refine⟨h.1,fun G w vs hG hr hargs=> ?_⟩;have hs:Au H G.H:=by rw[hG];exact FT H L
 refine(h.2 (G.cut H) w vs rfl (hr.cut hs ho) (hargs.cut hs ha)).mono ?_;rintro e w' ⟨v,r,G',rfl,hR,hv,hr',hfr⟩;obtain⟨G'',q1,q2,q3,q4⟩:=Te hG hr hfr hr' (hl r _ hR);exact⟨v,r,G'',rfl,⟨G'.H,hR,q1⟩,hv.mono q4,q2,q3⟩
theorem run_yield{c:Call}{fo:Operand}(hc:c.callee= .value fo){a:Act}{l:Nat}(hf:a.eval fo= .func (.yield l) #[] #[])(ho:o.op= .call c)(w:World):
  (execOp a.eval o).run P w=(Instr.yield l (c.args.map a.eval)).run P w:=by
 unfold execOp;simp only[ho,resolve,hc,hf,Deferred.ofValue,qc,qh,qU,invoke];simp
def F6(env:List (Nat×AV))(op:Op):Option (Nat×List AV):=
 match callOf op with
 |some (f,l)=>match CH env f,Gk env l with
  |some (.yl id),some xs=>some (id,xs)
  |_,_=>none
 |none=>none
theorem oO{xs:List AV}{r0:Lp}(hg:A8 ops S.env o=some true)(h:F6 S.env o.op=some (id,xs))(hd:AE o.dst S.n=true)(hlp:S.H[id]? =some (.lp r0))(hT:YT P id xs S.H R)(k:∀r H',R r H'->Wl P ro ops (i+1) rest ⟨Ap o.dst r S.env,H',S.n⟩ Q):Wl P ro ops i (o::rest) S Q:=by
 unfold F6 at h;split at h
 .rename_i fo al hcl;obtain⟨c,ho,hc,hl⟩:=MF hcl;subst hl;split at h
  .rename_i id' ys hf hxs;simp only[qI,qR]at h;obtain⟨rfl,rfl⟩:=h;intro hops N G a w r;have ho':=GV hops;simp only[qY,tH,wpOpsIn,ho'];rw[if_pos (BL r.env hg)];refine⟨fun _ _=>trivial,?_⟩;have hfv:=AL r.rel.st r.env hf;simp only[RV]at hfv;obtain⟨_,blk,hb,hp⟩:=hfv;rw[r.heap,hlp]at hb;cases hb;obtain⟨l,N',hρ,hv⟩:=hp;obtain⟨f,tm,ag,bd,k1,k2⟩:=hT G w l N' (c.args.map a.eval) r.heap r.rel hρ (by simpa using CY r.rel.st r.env hxs);rw[uh _ _ _ (fun c e=>by rw[ho]at e;cases e),run_yield hc hv ho w,k1];simp only[Oper.uponIn];refine⟨Es _,?_⟩;have hops':=FO hops;have k2':RoundIn (It (rl G ro)) 0 P l f tm ag bd w _:=k2;refine k2'.mono ?_;rintro e w' ⟨v,x,G',rfl,hR,hv',hr',hfr⟩;obtain⟨e1,e2,e3⟩:=F9 (r.env.mono hfr.gle) r.size hd hv';have r':Rel ro N ⟨Ap o.dst x S.env,G'.H,S.n⟩ G' (a.put o.dst v) w':=r.step hfr rfl hr' rfl e2 e1 e3;have hk:=k x G'.H hR hops' N G' _ w' r';rw[Ev r r' hfr]at hk;exact Ay (fun _ _ _ p=>p.trans hfr) _ _ _ hk
  .cases h
 .cases h
end
end Go.Gar
namespace Go.Gar
section
variable {P:Program}
def Lp.lo(r:Lp)(tmps:Array Value)(df:Nat×FuncId):Loop:={state:=r.state,pending:=r.pending,fn:=df.2,tmps:=tmps,params:=r.params,assign:=r.assign,body:=r.body,defers:=df.1}
def Lp.at_(r:Lp)(s:LoopState)(p:Option Code):Lp:={r with state:=s,pending:=p}
variable {w:World}{l:Nat}
theorem FH{r:Loop}(h:w.heap[l]? =some (.loop r)):(Instr.getLoop l).run P w= .ok r w:=by
 simp[Instr.getLoop,getObj,Sem.run,h,qc]
theorem Kh{o:Obj}{p:Loop}(h:w.heap[l]? =some (.loop p)):(setObj l o).run P w= .ok () (w.setB l o):=by
 simp[setObj,Sem.run,h,World.setB]
variable {id:Nat}
theorem VX{G:Gh}{N:Nat}{df:Nat×FuncId}{r:Lp}{tmps:Array Value}(h:AR G w)(hid:G.H[id]? =some (.lp r))(hρ:G.ρ id=some (l,N))(hw:w.heap[l]? =some (.loop (r.lo tmps df)))(hsz:tmps.size=r.n)(henv:Fi G r.env tmps)(s:LoopState)(p:Option Code):
  AR (G.put id (.lp (r.at_ s p))) (w.setB l (.loop ((r.at_ s p).lo tmps df)))/\C4 G w (G.put id (.lp (r.at_ s p))) (w.setB l (.loop ((r.at_ s p).lo tmps df))):=by
 have hs:AI G (G.put id (.lp (r.at_ s p))) id (.lp r) (.lp (r.at_ s p)):=by simp[AI,Lp.at_,Gh.put]
 refine Xj h hid rfl rfl hρ hs ⟨l,N,df,tmps,hρ,QY _ _ _ (qZ.1 hw).1,hsz,henv.mono (Nu hid hs)⟩
def Pe:List Nat->List AV->List (Nat×AV)->List (Nat×AV)
 |t::ts,x::xs,env=>Pe ts xs ((t,x)::env)
 |_,_,env=>env
theorem Xf{G:Gh}:∀{ts:List Nat}{xs:List AV}{vs:List Value}{env:List (Nat×AV)}{tmps:Array Value},Fi G env tmps->Al G xs vs->(∀t∈ts,t<tmps.size)->
  Fi G (Pe ts xs env) ((ts.zip vs).foldl (fun tmps p=>tmps.setIfInBounds p.1 p.2) tmps)/\((ts.zip vs).foldl (fun tmps p=>tmps.setIfInBounds p.1 p.2) tmps).size=tmps.size
 |[],xs,vs,env,tmps,he,_,_=>by cases xs<;>simpa[Pe]using he
 |t::ts,[],vs,env,tmps,he,hr,_=>by simp only[Al]at hr;subst hr;simpa[Pe]using he
 |t::ts,x::xs,vs,env,tmps,he,hr,hlt=>by
  simp only[Al]at hr;obtain⟨v,r,rfl,h1,h2⟩:=hr
  have he':Fi G ((t,x)::env) (tmps.setIfInBounds t v):=by
   intro u y hy;simp only[get]at hy;split at hy
   .rename_i hb;cases hy;have:=qL hb;subst this;exact⟨v,rW (hlt _ sm),h1⟩
   .rename_i hb;obtain⟨z,hz,hzr⟩:=he u y hy;exact⟨z,by rw[ru (fun e=>by subst e;simp at hb)];exact hz,hzr⟩
  obtain⟨k1,k2⟩:=Xf (ts:=ts) (tmps:=tmps.setIfInBounds t v) he' h2 (fun u hu=>by simpa using hlt u (by simp[hu]));exact⟨by simpa[Pe]using k1,by simpa using k2⟩
def VT:Exit->Option (Option Code)
 | .normal=>some none
 | .ret=>some (some .ret)
 | .exit i=>some (some (.exit i))
 | .goto l=>some (some (.goto l))
 |_=>none
def II:Option Code->LoopState
 |none=> .ready
 |some _=> .done
def kU(id n:Nat)(R:AV->List A3->Prop)(e:Exit)(S:St):Prop:=
 ∃j,VT e=some j/\∃S'',A1 S S''/\n<=S''.H.length/\id<S''.H.length/\∃r,S''.H[id]? =some (.lp r)/\R (.d (.b j.isNone)) (S''.H.set id (.lp (r.at_ (II j) j)))
def QAsg(P:Program)(id n:Nat)(body:Code)(R:AV->List A3->Prop):Exit->St->Prop
 | .normal,S=>∃r,S.H[id]? =some (.lp r)/\r.state= .ready/\W P (some id) body ⟨S.env,S.H.set id (.lp (r.at_ .busy r.pending)),S.n⟩ (kU id n R)
 |_,_=>False
theorem Vu{N:NB}{S:St}{G:Gh}{a:Act}(h:Rel (some id) N S G a w){r:Lp}(hr:S.H[id]? =some (.lp r)):∃l M df tmps,G.ρ id=some (l,M)/\w.heap[l]? =some (.loop (r.lo tmps df))/\tmps.size=r.n/\Fi G r.env tmps:=
 h.rel.blk id (.lp r) (by rw[h.heap];exact hr)
theorem Wj{r0:Lp}{H:List A3}{args:List AV}{R:AV->List A3->Prop}(hid:H[id]? =some (.lp r0))(hready:r0.state= .ready)(hlen:args.length=r0.params.size)(hps:∀t∈r0.params.toList,t<r0.n)(hb:W P (some id) r0.assign ⟨Pe r0.params.toList args r0.env,H,r0.n⟩ (QAsg P id H.length r0.body R)):YT P id args H R:=by
 intro G w l N vs hG hr hρ hargs;obtain⟨l',N',df,tmps,hρ',hw,hsz,henv⟩:=hr.blk id _ (by rw[hG];exact hid);rw[hρ]at hρ';cases hρ';have hl:vs.size=r0.params.size:=by have:=Al.KU hargs;simp at this;omega
 have hw':w.heap[l]? =some (.loop (r0.lo tmps df)):=hw;refine⟨df.2,(r0.params.zip vs).foldl (fun tmps (p:Nat×Value)=>tmps.setIfInBounds p.1 p.2) tmps,r0.assign,r0.body,?_,?_⟩
 .rw[Instr.yield];simp only[qc,FH hw',qU];rw[if_neg (by simp[Lp.lo,hl])];rfl
 .obtain⟨p1,p2⟩:=Xf (ts:=r0.params.toList) henv hargs (fun t ht=>by rw[hsz];exact hps t ht)
  have etm:((r0.params.zip vs).foldl (fun tmps (p:Nat×Value)=>tmps.setIfInBounds p.1 p.2) tmps)=((r0.params.toList.zip vs.toList).foldl (fun tmps p=>tmps.setIfInBounds p.1 p.2) tmps):=by
   rw[<-Array.foldl_toList];simp
  have hrl:∀{G:Gh}{M:Nat},G.ρ id=some (l,M)->rl G (some id)=some l:=fun h=>by simp[rl,h]
  refine roundIn_of_wpIn trivial ?_
  have eU:Rel (some id) ⟨w.heap.size,[]⟩ ⟨Pe r0.params.toList args r0.env,H,r0.n⟩ G {tmps:=(r0.params.zip vs).foldl (fun tmps (p:Nat×Value)=>tmps.setIfInBounds p.1 p.2) tmps,defers:=[]} w:=by
   refine⟨hG,hr,?_,?_,⟨qG _,[],rfl,List.nodup_nil,fun _ h=>by cases h⟩,fun i hi=> ?_⟩
   .show Array.size _=_;rw[etm,p2,hsz]
   .show Fi G _ _;rw[etm];exact p1
   .cases hi;exact⟨r0,l,N,hid,hρ⟩
  have h1:=hb ⟨w.heap.size,[]⟩ G _ w eU;rw[hrl hρ]at h1;refine vH (F:=It (some l)) h1 ?_;rintro e a' w1 ⟨S',G',q,r',k⟩
  cases e with
  |normal=>
   obtain⟨r,h2,h3,hW⟩:=q;obtain⟨l2,M,df2,tmps2,g1,g2,g3,g4⟩:=Vu r' h2
   have hl2:l2=l:=by
    obtain⟨b',hb',hs⟩:=k.gle.blk id _ (by rw[hG];exact hid);rw[r'.heap,h2]at hb';cases hb';simp only[AI]at hs;rw[hs.1,hρ]at g1;cases g1;rfl
   subst hl2;obtain⟨u1,u2⟩:=VX r'.rel (by rw[r'.heap];exact h2) g1 g2 g3 g4 .busy r.pending;refine⟨w1.setB l2 (.loop ((r.at_ .busy r.pending).lo tmps2 df2)),?_,?_⟩
   .rw[Instr.beginRound];simp only[qc,FH g2,qU];rw[Kh g2];simp only[qU,Lp.lo,h3];rfl
   .have rel2:Rel (some id) ⟨w.heap.size,[]⟩ ⟨S'.env,S'.H.set id (.lp (r.at_ .busy r.pending)),S'.n⟩ (G'.put id (.lp (r.at_ .busy r.pending))) a' (w1.setB l2 (.loop ((r.at_ .busy r.pending).lo tmps2 df2))):=
     r'.step u2 (by show G'.H.set id _=_;rw[r'.heap]) u1 rfl r'.size (r'.env.mono u2.gle) rfl
    have h4:=hW _ _ _ _ rel2;have g1':(G'.put id (.lp (r.at_ .busy r.pending))).ρ id=some (l2,M):=g1;rw[hrl g1']at h4;refine vH (F:=It (some l2)) h4 ?_;rintro e a3 w3 ⟨S3,G3,q3,r3,k3⟩;obtain⟨j,hj,S4,ts,hle,hidlt,rr,hrr,hR⟩:=q3;obtain⟨G4,r4,t4⟩:=ts _ _ _ _ _ r3 (fun i hi=>by cases hi;exact hidlt);obtain⟨l5,M5,df5,tmps5,f1,f2,f3,f4⟩:=Vu r4 hrr;have kk:C4 G w G4 w3:=((k.trans u2).trans k3).ghost t4 (by rw[hG,r4.heap];exact hle)
    have hl5:l5=l2:=by
     obtain⟨b',hb',hs⟩:=kk.gle.blk id _ (by rw[hG];exact hid);rw[r4.heap,hrr]at hb';cases hb';simp only[AI]at hs;rw[hs.1,hρ]at f1;cases f1;rfl
    subst hl5;obtain⟨y1,y2⟩:=VX r4.rel (by rw[r4.heap];exact hrr) f1 f2 f3 f4 (II j) j
    have fin:∃v w',(Instr.endRound l5 j).run P w3= .ok v w'/\∃v' r G',(Ending.returned v:Ending)= .returned v'/\R r G'.H/\RV G' r v'/\AR G' w'/\C4 G w G' w':=by
     refine⟨.bool j.isNone,w3.setB l5 (.loop ((rr.at_ (II j) j).lo tmps5 df5)),?_,.bool j.isNone,.d (.b j.isNone),_,rfl,?_,by simp[RV,RD],y1,kk.trans y2⟩
     .rw[Instr.endRound];simp only[qc,FH f2,qU];rw[Kh f2];simp only[qU,qh];cases j<;>rfl
     .show R _ (G4.H.set id _);rw[r4.heap];exact hR
    cases e<;>simp only[VT,qI]at hj<;>first|(cases hj;done)|(subst hj;exact fin)
  |_=>exact q.elim
end
end Go.Gar
namespace Go.Gar
section
variable {P:Program}{ro:Option Nat}{S:St}{Q:Exit->St->Prop}
theorem Ou(P:Program)(w:World)(o:Obj):(newObj o).run P w= .ok w.heap.size (w.alloc o):=rfl
theorem Ps(w:World)(o:Obj):(w.alloc o).heap[w.heap.size]? =some o:=by
 show(w.heap.push o)[w.heap.size]? =some o;simp
theorem bn{N:NB}{G:Gh}{a:Act}{w:World}(r:Rel ro N S G a w)(fn:FuncId)(ps:Array Tmp)(asg body:Code):∃(mark:List Deferred)(wA:World)(df:Nat),
  (Instr.enterLoop fn a.tmps ps asg body (rl G ro)).run P w= .ok (wA.heap.size,mark) (wA.alloc (.loop {state:=.ready,pending:=none,fn:=fn,tmps:=a.tmps,params:=ps,assign:=asg,body:=body,defers:=df}))/\
  Rel ro N S G {a with defers:=mark++a.defers} wA/\C4 G w G wA:=by
 cases ro with
 |none=>
  have hgr:=Hz (w':=w.alloc (.deferred (some []))) r.rel rfl rfl rfl sm (fun b hb=>heap_alloc_old w _ b hb) G.m (Mem.le_refl _) (fun _ _ _ h=> .inl h) (fun b k v hv=>by
   rw[World.cell?_alloc_lt _ _ _ (GU r.rel hv)];exact r.rel.mem b k v hv)
  have hG:({G with m:=G.m}:Gh)=G:=rfl;rw[hG]at hgr;refine⟨[{target:=.collected w.heap.size,args:=#[]}],w.alloc (.deferred (some [])),w.heap.size,?_,?_,hgr.2⟩
  .show(Instr.enterLoop fn a.tmps ps asg body none).run P w=_;unfold Instr.enterLoop;simp only[qc,Ou,Result.andThen,qh,World.size_alloc]
  .refine⟨r.heap,hgr.1,r.size,r.env,?_,fun id h=>by cases h⟩;obtain⟨m0,ms,m1,m2,m3⟩:=r.marks;have hlt:∀q∈ms,q<w.heap.size:=fun q hq=>(qZ.1 (m3 q hq).2.1).1
   refine⟨tJ m0 sm,w.heap.size::ms,by simp[m1],List.nodup_cons.2 ⟨fun h=>by have:=hlt _ h;omega,m2⟩,fun q hq=> ?_⟩;rcases sG.1 hq with rfl|hq
   .refine⟨?_,Ps _ _,fun ho=>by have:=Dw r.rel ho;omega⟩;exact m0
   .obtain⟨q1,q2,q3⟩:=m3 q hq;exact⟨q1,(heap_alloc_old w _ q (hlt q hq)).trans q2,q3⟩
 |some id=>
  obtain⟨r0,l,M,h1,h2⟩:=r.round id rfl;obtain⟨l',M',df,tmps,g1,g2,g3,g4⟩:=Vu r h1;rw[h2]at g1;cases g1;refine⟨[],w,df.1,?_,by simpa using r,C4.refl G w⟩;have:rl G (some id)=some l:=by simp[rl,h2]
  rw[this];unfold Instr.enterLoop;simp only[qc,FH g2,Result.andThen,Ou,qh];rfl
variable {ps:Array Tmp}{K:AV->List A3->Prop}
theorem Sx{g:Operand}{asg body:Code}{f:FuncId}{first cap:List AV}(hg:CH S.env g=some (.fn (.func f) first cap))(seq:IY P f (first++[.yl S.H.length]++cap) (S.H++[.lp ⟨.ready,none,0,S.n,S.env,ps,asg,body⟩]) K)(k:∀x H',K x H'->∃r,H'[S.H.length]? =some (.lp r)/\(r.state== .busy)=false/\
   match r.pending with
   |none=>Q .normal ⟨S.env,H'.set S.H.length (.lp (r.at_ .exhausted r.pending)),S.n⟩
   |some c=>W P ro c ⟨S.env,H'.set S.H.length (.lp (r.at_ .exhausted r.pending)),S.n⟩ Q):W P ro (.rangeFunc g ps asg body) S Q:=by
 intro N G a w r;refine wpIn_rangeFunc fun fn _=> ?_
 obtain⟨mark,wA,df,e1,e2,e3⟩:=bn (P:=P) r fn ps asg body;let r0:Lp:=⟨.ready,none,0,S.n,S.env,ps,asg,body⟩;let w1:=wA.alloc (.loop {state:=.ready,pending:=none,fn:=fn,tmps:=a.tmps,params:=ps,assign:=asg,body:=body,defers:=df});obtain⟨o1,o2⟩:=Xb e2.rel (.loop {state:=.ready,pending:=none,fn:=fn,tmps:=a.tmps,params:=ps,assign:=asg,body:=body,defers:=df}) 0 (.lp r0) ⟨wA.heap.size,0,(df,fn),a.tmps,by simp[Gh.own],Ps _ _,r.size,(e2.env.mono (Jb G wA.heap.size 0 (.lp r0)))⟩;have hGH:(G.own wA.heap.size 0 (.lp r0)).H=S.H++[.lp r0]:=by show G.H++_=_;rw[r.heap]
 have hlen:G.H.length=S.H.length:=by rw[r.heap]
 have hfv:=AL o1.st (e2.env.mono o2.gle) hg;simp only[RV]at hfv;obtain⟨p,q,hfv,hp,hq⟩:=hfv;have hfv:a.eval g= .func (.func f) p.toArray q.toArray:=hfv;obtain⟨⟨fd,hf1,hf2,hf3⟩,hseq⟩:=seq;have hbn:fd.body.isNone=false:=by cases hx:fd.body<;>simp_all
 have hres:(resolve a.eval (rangeCall g wA.heap.size) 0).run P w1= .ok {target:=.fn (.func f) q.toArray,args:=p.toArray++ #[Value.func (.yield wA.heap.size) #[] #[]]} w1:=by
  simp only[resolve,rangeCall,hfv,Deferred.ofValue,qh];simp[Act.eval]
 refine⟨wA.heap.size,mark,w1,_,w1,f,p.toArray++ #[Value.func (.yield wA.heap.size) #[] #[]]++q.toArray,w1,e1,hres,fun _ _=>trivial,?_,Es _,?_⟩
 .simp only[invoke,callFunc,run_program,qc,qU,hf1,hf2,hbn,rD,ql,Sem.run_ite,qh]
 .have hargs:Al (G.own wA.heap.size 0 (.lp r0)) (first++[.yl S.H.length]++cap) (p.toArray++ #[Value.func (.yield wA.heap.size) #[] #[]]++q.toArray).toList:=by
   have hy:RV (G.own wA.heap.size 0 (.lp r0)) (.yl S.H.length) (.func (.yield wA.heap.size) #[] #[]):=by
    simp only[RV];refine⟨rfl,.lp r0,by rw[hGH];simp,wA.heap.size,0,by simp[Gh.own,hlen],rfl⟩
   have e:(p.toArray++ #[Value.func (.yield wA.heap.size) #[] #[]]++q.toArray:Array Value).toList=p++[Value.func (.yield wA.heap.size) #[] #[]]++q:=by simp
   rw[e];exact Al.app (Al.app hp (by simp only[Al];exact⟨_,[],rfl,hy,rfl⟩)) hq
  have hcall:=hseq (G.own wA.heap.size 0 (.lp r0)) w1 _ hGH o1 hargs;refine CallsIn.mono (F:=It (rl G ro)) hcall ?_;rintro e w' ⟨v,x,G',rfl,hK,hv,hr',hfr⟩;obtain⟨rr,hrr,hnb,hk⟩:=k x G'.H hK;obtain⟨l,M,df',tmps,g1,g2,g3,g4⟩:=hr'.blk S.H.length (.lp rr) hrr
  have hl:l=wA.heap.size:=by
   obtain⟨b',hb',hs⟩:=hfr.gle.blk S.H.length (.lp r0) (by rw[hGH];simp);rw[hrr]at hb';cases hb';simp only[AI]at hs;rw[hs.1]at g1;simp only[Gh.own,hlen,qw,qI,qR]at g1;exact g1.1.symm
  subst hl;obtain⟨y1,y2⟩:=VX hr' hrr g1 g2 g3 g4 .exhausted rr.pending
  have rel2:Rel ro N ⟨S.env,G'.H.set S.H.length (.lp (rr.at_ .exhausted rr.pending)),S.n⟩ (G'.put S.H.length (.lp (rr.at_ .exhausted rr.pending))) {a with defers:=mark++a.defers} (w'.setB wA.heap.size (.loop ((rr.at_ .exhausted rr.pending).lo tmps df'))):=
   e2.step ((o2.trans hfr).trans y2) rfl y1 rfl r.size (e2.env.mono ((o2.trans hfr).trans y2).gle) rfl
  refine⟨rr.pending,w'.setB wA.heap.size (.loop ((rr.at_ .exhausted rr.pending).lo tmps df')),?_,?_⟩
  .rw[Instr.endLoop];have g2':w'.heap[wA.heap.size]? =some (.loop (rr.lo tmps df')):=g2;simp only[qc,FH g2',qU];have hnb':((rr.lo tmps df').state==LoopState.busy)=false:=hnb;rw[hnb'];simp only[rD,ql,qc,qh,qU];rw[Kh g2'];rfl
  .have kk:=(e3.trans ((o2.trans hfr).trans y2))
   cases hpend:rr.pending with
   |none=>
    rw[hpend]at hk rel2 kk;exact⟨_,_,hk,rel2,kk⟩
   |some c=>
    rw[hpend]at hk rel2 kk;have h5:=hk N _ _ _ rel2;rw[Ev r rel2 kk]at h5;exact vH h5 fun _ _ _ p=>p.trans kk
theorem gA{g:Operand}{asg body:Code}{f:FuncId}{first cap:List AV}(hg:CH S.env g=some (.fn (.func f) first cap))(seq:∀fn,IY P f (first++[.yl S.H.length]++cap) (S.H++[.lp ⟨.ready,none,fn,S.n,S.env,ps,asg,body⟩]) K)(k:∀x H',K x H'->∃r,H'[S.H.length]? =some (.lp r)/\(r.state== .busy)=false/\
   match r.pending with
   |none=>Q .normal ⟨S.env,H'.set S.H.length (.lp (r.at_ .exhausted r.pending)),S.n⟩
   |some c=>W P ro c ⟨S.env,H'.set S.H.length (.lp (r.at_ .exhausted r.pending)),S.n⟩ Q):W P ro (.rangeFunc g ps asg body) S Q:=Sx hg (seq 0) k
end
abbrev AV.pY(n:Int):AV:=.d (.i .i64 n)
abbrev AV.pq(b:Bool):AV:=.d (.b b)
abbrev AV.pz(n:Int):AV:=.d (.i .u8 n)
abbrev AV.qE(l:List UInt8):AV:=.d (.s l)
abbrev AV.qF(l:List Int):AV:=.d (.is l)
theorem qA{a b:Nat}(h:Nat.ble a b=true:=by exact rfl):a<=b:=rY h
end Go.Gar
