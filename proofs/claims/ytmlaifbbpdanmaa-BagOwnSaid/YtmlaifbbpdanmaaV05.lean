/- Part 5 of a proof. Conditions: those that its theorems state. -/
import Derived.Test.YtmlaifbbpdanmaaV04
import Derived.Sort.Grow
import Derived.Laws.Cover3
import Derived.RecoverIn
set_option linter.unusedSimpArgs false
set_option linter.unusedVariables false
set_option linter.unnecessarySimpa false
set_option maxHeartbeats 40000000
set_option maxRecDepth 4000
namespace Go.Gar
def Ord(ops:R0):R5->QQ->Prop
 |listed,[]=>Region.ready .any ops listed=[]
 |listed,j::r=>j∈Region.ready .any ops listed/\Ord ops (listed.setIfInBounds j true) r
section
variable {F:Fence}{n:Nat}{P:Program}{ops:R0}{Q:Exit->Act->World->Prop}
theorem I4:∀{L:QQ}{fuel:Nat}{listed:R5}{a:Act}{w:World},wpAnyIn F n P .any ops Q fuel listed a w->Ord ops listed L->wpOpsIn F n P ops Q L a w
 |[],0,_,_,_,h,_=>by simpa[wpOpsIn]using h.2
 |[],_+1,_,_,_,h,o=>by simpa[wpOpsIn]using h.1 o
 |j::r,0,_,_,_,h,o=>by
  have:=o.1;rw[h.1]at this;cases this
 |j::r,fuel+1,_,_,_,h,o=>by
  rw[wpOpsIn_cons];exact wpOpIn_mono (fun a w k=>I4 k o.2) (h.2 j o.1)
variable {listed:R5}
theorem count_set{i fuel:Nat}(hun:listed[i]? =some false)(hc:listed.toList.countP (fun b=> !b)<=fuel+1):(listed.setIfInBounds i true).toList.countP (fun b=> !b)<=fuel:=by
 obtain⟨hil,e⟩:=Qp.1 hun;have hl:listed.toList[i]'(by simpa using hil)=false:=by simpa using e
 have:(listed.setIfInBounds i true).toList=listed.toList.set i true:=by simp
 rw[this,List.countP_set (by simpa using hil),hl];simp only[Bool.not_false,SG,Bool.not_true,Ry,SY];have hpos:0<listed.toList.countP (fun b=> !b):=List.countP_pos_iff.2 ⟨false,by rw[<-hl];exact List.getElem_mem _,rfl⟩;have hc':List.countP (fun b=> !b) listed.toList<=fuel+1:=hc;omega
theorem OB:∀(fuel t:Nat)(listed:R5),listed.size=ops.size->listed.toList.countP (fun b=> !b)<=fuel->Ord ops listed (Region.linearise.go .any ops fuel t listed []):=by
 intro fuel
 induction fuel with
 |zero=>
  intro t listed hs hc;simp only[Region.linearise.go,List.reverse_nil,Ord]
  cases hr:Region.ready .any ops listed with
  |nil=>rfl
  |cons i l=>
   have:i∈Region.ready .any ops listed:=by rw[hr];simp
   rw[Ah hs]at this;obtain⟨h1,_⟩:=this;obtain⟨hil,e⟩:=Qp.1 h1;have h0:listed.toList.countP (fun b=> !b)=0:=om
   rw[List.countP_eq_zero]at h0;have:=h0 listed[i] sm;rw[e]at this;simp at this
 |succ fuel ih=>
  intro t listed hs hc;simp only[Region.linearise.go]
  change Ord ops listed (match(Region.ready .any ops listed)[t%(Region.ready .any ops listed).length]? with
   |some i=>Region.linearise.go .any ops fuel (t/(Region.ready .any ops listed).length) (listed.setIfInBounds i true) [i]
   |none=>[].reverse)
  cases hi:(Region.ready .any ops listed)[t%(Region.ready .any ops listed).length]? with
  |none=>
   show Region.ready .any ops listed=[]
   cases hr:Region.ready .any ops listed with
   |nil=>rfl
   |cons x xs=>
    rw[hr]at hi;have hlt:t%(x::xs).length<(x::xs).length:=Nat.mod_lt _ sm;simp at hi;simp at hlt;omega
  |some i=>
   simp only[];rw[linearise_go_acc,List.reverse_singleton,List.singleton_append];have hm:=Ro hi;refine⟨hm,ih _ _ (by simp[hs]) (count_set ((Ah hs).1 hm).1 hc)⟩
def eOn(σ:Nat->Nat)(e:Edge):Edge:={e with on:=σ e.on}
def OG(σ:Nat->Nat)(x y j:Nat)(o:Oper):Oper:=
 {o with after:=(o.after.toList.map (eOn σ)++(if Nat.beq j x then[(⟨σ y,.data⟩:Edge)]else[])).toArray,guard:=o.guard.map fun g=>(σ g.1,g.2)}
def PO(σ τ:Nat->Nat)(x y:Nat)(l:R1):Nat->R1
 |0=>[]
 |p+1=>PO σ τ x y l p++(match l[τ p]? with|some o=>[OG σ x y (τ p) o]|none=>[])
structure Perm (σ τ:Nat->Nat) (n:Nat):Prop where
 lt:∀j,j<n->σ j<n
 lt':∀j,j<n->τ j<n
 st:∀j,j<n->σ (τ j)=j
 ts:∀j,j<n->τ (σ j)=j
theorem Iz{σ τ:Nat->Nat}{x y:Nat}{l:R1}(p:Perm σ τ l.length):∀{m:Nat},m<=l.length->(PO σ τ x y l m).length=m/\∀q,q<m->∃o,l[τ q]? =some o/\(PO σ τ x y l m)[q]? =some (OG σ x y (τ q) o):=by
 intro m
 induction m with
 |zero=>intro _;exact⟨rfl,fun q h=>om⟩
 |succ m ih=>
  intro hm;obtain⟨h1,h2⟩:=ih om;obtain⟨o1,ho⟩:∃o,l[τ m]? =some o:=⟨_,Qm (p.lt' m om)⟩;refine⟨by simp only[PO,ho,RH,h1,Qz,RY],fun q hq=> ?_⟩;simp only[PO,ho];rcases RJ q m with hlt|hge
  .obtain⟨o,q1,q2⟩:=h2 q hlt;exact⟨o,q1,by rw[Qq om];exact q2⟩
  .have:q=m:=om
   subst this;exact⟨_,ho,by rw[Qx om,h1];simp⟩
def Fh(σ τ:Nat->Nat)(x y:Nat)(ops:R0):R0:=(PO σ τ x y ops.toList ops.toList.length).toArray
variable {σ τ:Nat->Nat}{x y:Nat}
theorem Du(p:Perm σ τ ops.size):(Fh σ τ x y ops).size=ops.size:=by
 simp only[Fh,List.size_toArray];rw[(Iz (x:=x) (y:=y) (l:=ops.toList) (by simpa using p) (Qn _)).1];simp
variable {j:Nat}
theorem IC(p:Perm σ τ ops.size){o:Oper}(h:ops[j]? =some o):(Fh σ τ x y ops)[σ j]? =some (OG σ x y j o):=by
 have hj:j<ops.size:=(Qp.1 h).1;obtain⟨q,h1,h2⟩:=(Iz (x:=x) (y:=y) (l:=ops.toList) (by simpa using p) (Qn _)).2 (σ j) (by simpa using p.lt j hj);rw[p.ts j hj]at h1 h2;have:q=o:=by simpa[h]using h1.symm
 subst this;simpa[Fh]using h2
theorem Lj(p:Perm σ τ ops.size){o:Oper}(hg:∀g,o.guard=some g->g.1<ops.size)(tmps:R2):Region.wanted (OG σ x y j o) (yielded (Fh σ τ x y ops) tmps)=Region.wanted o (yielded ops tmps):=by
 unfold Region.wanted OG
 cases hgd:o.guard with
 |none=>simp
 |some g=>
  have hlt:=hg g hgd;obtain⟨q,hq⟩:∃q,ops[g.1]? =some q:=⟨ops[g.1],Array.getElem?_eq_getElem hlt⟩;have h1:(Fh σ τ x y ops)[σ g.1]? =some (OG σ x y g.1 q):=IC p hq;simp only[Option.map_some];show(yielded (Fh σ τ x y ops) tmps (σ g.1)==some g.2)=_;unfold yielded;rw[h1,hq];rfl
theorem Jo(p:Perm σ τ ops.size)(hg:∀(j:Nat)(o:Oper) g,ops[j]? =some o->o.guard=some g->g.1<ops.size):∀{L:QQ}{a:Act}{w:World},(∀j∈L,j<ops.size)->wpOpsIn F n P (Fh σ τ x y ops) Q (L.map σ) a w->wpOpsIn F n P ops Q L a w
 |[],a,w,_,h=>h
 |j::r,a,w,hL,h=>by
  have hj:=hL j sm;obtain⟨o,ho⟩:∃o,ops[j]? =some o:=⟨_,Array.getElem?_eq_getElem hj⟩;have ih:∀a w,wpOpsIn F n P (Fh σ τ x y ops) Q (r.map σ) a w->wpOpsIn F n P ops Q r a w:=fun a w=>Jo p hg (fun j hj=>hL j (by simp[hj]))
  rw[Ru,wpOpsIn_cons]at h;rw[wpOpsIn_cons];refine wpOpIn_mono ih ?_;unfold wpOpIn at h|-;rw[IC p ho]at h;rw[ho];simp only at h|-;rw[Lj p (hg j o · ho)]at h;exact h
theorem Cq(p:Perm σ τ ops.size)(hb:∀(j:Nat)(o:Oper),ops[j]? =some o->∀e∈o.after,Region.binds .any e=true->e.on<ops.size)(hy:y<ops.size){listed':R5}(hs:listed.size=ops.size)(hs':listed'.size=ops.size)(hl:∀j,j<ops.size->listed'[σ j]? =listed[j]?)(hj:j<ops.size):
  (j∈Region.ready .any ops listed->(j=x->listed[y]? =some true)->σ j∈Region.ready .any (Fh σ τ x y ops) listed')/\(σ j∈Region.ready .any (Fh σ τ x y ops) listed'->j∈Region.ready .any ops listed):=by
 have hsz:=Du (x:=x) (y:=y) p;obtain⟨o,ho⟩:∃o,ops[j]? =some o:=⟨_,Array.getElem?_eq_getElem hj⟩;have ho':(Fh σ τ x y ops)[σ j]? =some (OG σ x y j o):=IC p ho;rw[Ah hs,Ah (by rw[hs',hsz])];constructor
 .rintro⟨h1,o2,h2,h3⟩ hx;rw[ho]at h2;cases h2;refine⟨by rw[hl j hj];exact h1,_,ho',fun e he hbe=> ?_⟩;simp only[OG,List.mem_toArray,TI,List.mem_map]at he;rcases he with⟨e0,h0,rfl⟩|he
  .have hb0:Region.binds .any e0=true:=hbe;have h0':e0∈o.after:=by simpa using h0
   show listed'[σ e0.on]? =some true;rw[hl _ (hb j o ho e0 h0' hb0)];exact h3 e0 h0' hb0
  .split at he
   .rename_i hjx;simp only[List.mem_singleton]at he;subst he;show listed'[σ y]? =some true;rw[hl _ hy];exact hx (Qi hjx)
   .cases he
 .rintro⟨h1,o2,h2,h3⟩;rw[ho']at h2;cases h2;refine⟨by rw[<-hl j hj];exact h1,o,ho,fun e he hbe=> ?_⟩;rw[<-hl _ (hb j o ho e he hbe)];exact h3 (eOn σ e) (by simp only[OG,List.mem_toArray,TI,List.mem_map];exact .inl ⟨e,by simpa using he,rfl⟩) hbe
theorem N5(p:Perm σ τ ops.size)(hb:∀(j:Nat)(o:Oper),ops[j]? =some o->∀e∈o.after,Region.binds .any e=true->e.on<ops.size)(hy:y<ops.size):∀{L:QQ}{listed listed':R5},listed.size=ops.size->listed'.size=ops.size->
  (∀j,j<ops.size->listed'[σ j]? =listed[j]?)->(listed[x]? =some true\/listed[y]? =some true)->Ord ops listed L->Ord (Fh σ τ x y ops) listed' (L.map σ):=by
 have hsz:=Du (x:=x) (y:=y) p;intro L
 induction L with
 |nil=>
  intro listed listed' hs hs' hl hxy h;show Region.ready .any (Fh σ τ x y ops) listed'=[]
  cases hr:Region.ready .any (Fh σ τ x y ops) listed' with
  |nil=>rfl
  |cons i l=>
   have hi:i∈Region.ready .any (Fh σ τ x y ops) listed':=by rw[hr];simp
   have hlt:i<ops.size:=by
    obtain⟨_,o,h2,_⟩:=(Ah (by rw[hs',hsz])).1 hi;have:=(Qp.1 h2).1;omega
   have:=(Cq (x:=x) p hb hy hs hs' hl (p.lt' i hlt)).2 (by rw[p.st i hlt];exact hi);rw[show Region.ready .any ops listed=[]from h]at this;cases this
 |cons j r ih=>
  intro listed listed' hs hs' hl hxy h
  have hj:j<ops.size:=by
   obtain⟨_,o,h2,_⟩:=(Ah hs).1 h.1;exact(Qp.1 h2).1
  have hun:=((Ah hs).1 h.1).1;refine⟨(Cq (x:=x) p hb hy hs hs' hl hj).1 h.1 fun e=> ?_,ih (by simp[hs]) (by simp[hs']) (fun i hi=> ?_) ?_ h.2⟩
  .subst e;rcases hxy with h'|h'
   .rw[hun]at h';cases h'
   .exact h'
  .by_cases e:i=j
   .subst e;rw[RP (by rw[hs'];exact p.lt i hi),RP (by rw[hs];exact hi)]
   .have e':σ j≠σ i:=fun h=>e (by rw[<-p.ts i hi,<-h,p.ts j hj]);rw[RU e',RU (Ne.symm e)]
    exact hl i hi
  .rw[Bf (by rw[hs];exact hj),Bf (by rw[hs];exact hj)];exact hxy.imp .inr .inr
variable {σ' τ':Nat->Nat}
theorem OC(p:Perm σ τ ops.size)(p':Perm σ' τ' ops.size)(hb:∀(j:Nat)(o:Oper),ops[j]? =some o->∀e∈o.after,Region.binds .any e=true->e.on<ops.size)(hx:x<ops.size)(hy:y<ops.size)(hxy:x≠y):
  ∀{L:QQ}{listed l1 l2:R5},listed.size=ops.size->l1.size=ops.size->l2.size=ops.size->(∀j,j<ops.size->l1[σ j]? =listed[j]?)->(∀j,j<ops.size->l2[σ' j]? =listed[j]?)->Ord ops listed L->
  Ord (Fh σ τ x y ops) l1 (L.map σ)\/Ord (Fh σ' τ' y x ops) l2 (L.map σ'):=by
 intro L
 induction L with
 |nil=>
  intro listed l1 l2 hs hs1 hs2 e1 e2 h;left;have hsz:=Du (x:=x) (y:=y) p;show Region.ready .any (Fh σ τ x y ops) l1=[]
  cases hr:Region.ready .any (Fh σ τ x y ops) l1 with
  |nil=>rfl
  |cons i l=>
   have hi:i∈Region.ready .any (Fh σ τ x y ops) l1:=by rw[hr];simp
   have hlt:i<ops.size:=by
    obtain⟨_,o,h2,_⟩:=(Ah (by rw[hs1,hsz])).1 hi;have:=(Qp.1 h2).1;omega
   have:=(Cq (x:=x) p hb hy hs hs1 e1 (p.lt' i hlt)).2 (by rw[p.st i hlt];exact hi);rw[show Region.ready .any ops listed=[]from h]at this;cases this
 |cons j r ih=>
  intro listed l1 l2 hs hs1 hs2 e1 e2 h
  have hj:j<ops.size:=by
   obtain⟨_,o,h2,_⟩:=(Ah hs).1 h.1;exact(Qp.1 h2).1
  have up:∀{σ τ:Nat->Nat}(_:Perm σ τ ops.size){l1:R5},l1.size=ops.size->(∀j,j<ops.size->l1[σ j]? =listed[j]?)->∀i,i<ops.size->(l1.setIfInBounds (σ j) true)[σ i]? =(listed.setIfInBounds j true)[i]?:=by
   intro σ τ p l1 hs1 e1 i hi
   by_cases e:i=j
   .subst e;rw[RP (by rw[hs1];exact p.lt i hi),RP (by rw[hs];exact hi)]
   .have e':σ j≠σ i:=fun h=>e (by rw[<-p.ts i hi,<-h,p.ts j hj]);rw[RU e',RU (Ne.symm e)]
    exact e1 i hi
  by_cases hjy:j=y
  .subst hjy;left;exact⟨(Cq (x:=x) p hb hy hs hs1 e1 hj).1 h.1 fun e=>absurd e.symm hxy,N5 (x:=x) p hb hy (by simp[hs]) (by simp[hs1]) (up p hs1 e1) (.inr ((Bf (by rw[hs];exact hj)).2 (.inl rfl))) h.2⟩
  .by_cases hjx:j=x
   .subst hjx;right;exact⟨(Cq (x:=y) p' hb hx hs hs2 e2 hj).1 h.1 fun e=>absurd e hxy,N5 (x:=y) p' hb hx (by simp[hs]) (by simp[hs2]) (up p' hs2 e2) (.inr ((Bf (by rw[hs];exact hj)).2 (.inl rfl))) h.2⟩
   .rcases ih (by simp[hs]) (by simp[hs1]) (by simp[hs2]) (up p hs1 e1) (up p' hs2 e2) h.2 with k|k
    .exact .inl ⟨(Cq (x:=x) p hb hy hs hs1 e1 hj).1 h.1 fun e=>absurd e hjx,k⟩
    .exact .inr ⟨(Cq (x:=y) p' hb hx hs hs2 e2 hj).1 h.1 fun e=>absurd e hjy,k⟩
theorem Jp:∀{L:QQ}{listed:R5},Ord ops listed L->∀j∈L,j<ops.size
 |[],_,_,j,hj=>by cases hj
 |i::r,listed,h,j,hj=>by
  rcases Si.1 hj with rfl|hj
  .obtain⟨_,o,ho,_⟩:=mem_ready.1 h.1;exact(Qp.1 ho).1
  .exact Jp h.2 j hj
theorem Jq{id:Nat}{a:Act}{w:World}(hm:P.follows .mixedOrders=true)(p:Perm σ τ ops.size)(p':Perm σ' τ' ops.size)(hb:∀(j:Nat)(o:Oper),ops[j]? =some o->(∀e∈o.after,Region.binds .any e=true->e.on<ops.size)/\∀g,o.guard=some g->g.1<ops.size)(hx:x<ops.size)(hy:y<ops.size)(hxy:x≠y)(h1:wpAnyIn F n P .any (Fh σ τ x y ops) Q ops.size (Array.replicate ops.size false) a {w with drawn:=w.drawn+1})(h2:wpAnyIn F n P .any (Fh σ' τ' y x ops) Q ops.size (Array.replicate ops.size false) a {w with drawn:=w.drawn+1}):(Code.region id ops true).wpIn F n P Q a w:=by
 refine wpIn_region_draw fun t=> ?_;simp only[Region.schedule,hm,Bool.true_or,SG,Region.linearise]
 have ho:=OB (ops:=ops) ops.size t (Array.replicate ops.size false) sm (by simp[List.countP_replicate])
 have hr:∀{σ τ:Nat->Nat}(_:Perm σ τ ops.size),∀j,j<ops.size->(Array.replicate ops.size false)[σ j]? =(Array.replicate ops.size false)[j]?:=by
  intro σ τ p j hj;rw[Array.getElem?_replicate,Array.getElem?_replicate,Rf hj,Rf (p.lt j hj)]
 rcases OC p p' (fun j o h=>(hb j o h).1) hx hy hxy sm sm sm (hr p) (hr p') ho with k|k
 .exact Jo p (fun j o g h=>(hb j o h).2 g) (Jp ho) (I4 h1 k)
 .exact Jo p' (fun j o g h=>(hb j o h).2 g) (Jp ho) (I4 h2 k)
end
end Go.Gar
namespace Go.Gar
mutual
theorem AV.Gk{ι:Nat->Nat}{k:Nat}(h:∀i,i<k->ι i=i):∀{x:AV},x.ok k=true->x.ren ι=x
 | .d _,_| .u,_| .e0,_| .dp _,_=>rfl
 | .ptr id _ _,o| .sl id _ _,o| .bs id _ _ _ _,o| .ep id _ _ _ _,o| .yl id,o| .mp id,o=>by simp only[AV.ok,S9]at o;simp only[AV.ren,h id o]
 | .ag _,o| .tup _,o=>by simp only[AV.ok]at o;simp only[AV.ren,AV.E6 h o]
 | .fn f a b,o=>by simp only[AV.ok,Qk]at o;simp only[AV.ren,AV.E6 h o.1,AV.E6 h o.2]
theorem AV.E6{ι:Nat->Nat}{k:Nat}(h:∀i,i<k->ι i=i):∀{xs:R8},AV.oks k xs=true->AV.B4 ι xs=xs
 |[],_=>rfl
 |x::r,o=>by simp only[AV.oks,Qk]at o;simp only[AV.B4,AV.Gk h o.1,AV.E6 h o.2]
end
theorem Kr{ι:Nat->Nat}{k:Nat}(h:∀i,i<k->ι i=i):∀{e:R9},Bn k e=true->Gj ι e=e
 |[],_=>rfl
 |p::r,o=>by
  simp only[Bn,Qk]at o;simp only[Gj,AV.Gk h o.1,Kr h o.2]
theorem Ks{ι:Nat->Nat}{k:Nat}(h:∀i,i<k->ι i=i):∀{e:RL},mapOk k e=true->La ι e=e
 |[],_=>rfl
 |p::r,o=>by
  simp only[mapOk,Qk]at o;simp only[La,AV.Gk h o.1,Ks h o.2]
variable {k:Nat}
theorem A2.Gk{ι:Nat->Nat}(h:∀i,i<k->ι i=i):∀{b:A2},b.ok k=true->b.ren ι=b
 | .gone,_| .a _,_| .D5 _ _ _,_| .many _,_=>rfl
 | .c cs,o=>by simp only[A2.ren,AV.E6 h (show AV.oks k cs=true from o)]
 | .m es,o=>by simp only[A2.ren,Ks h (show mapOk k es=true from o)]
 | .lp r,o=>by simp only[A2.ren,Kr h (show Bn k r.env=true from o)]
def sw(a b j:Nat):Nat:=if Nat.beq j a then b else if Nat.beq j b then a else j
theorem FZ(a b j:Nat):sw a b (sw a b j)=j:=by
 simp only[sw,Iq,Qv];split<;>split<;>(try split)<;>omega
variable {a b:Nat}
theorem OZ{j:Nat}(ha:a<k)(hb:b<k)(hj:j<k):sw a b j<k:=by
 simp only[sw];split
 .exact hb
 .split
  .exact ha
  .exact hj
theorem P7{j:Nat}(ha:k<=a)(hb:k<=b)(hj:j<k):sw a b j=j:=by
 simp only[sw,Iq,Qv];rw[Rw om,Rw om]
def OY(H:RE)(a b:Nat):Nat->RE
 |0=>[]
 |m+1=>OY H a b m++(match H[sw a b m]? with|some x=>[x.ren (sw a b)]|none=>[])
def NH(a b:Nat)(H:RE):RE:=OY H a b H.length
def NI(a b:Nat)(S:St):St:=⟨Gj (sw a b) S.env,NH a b S.H,S.n⟩
theorem OL{H:RE}(ha:a<H.length)(hb:b<H.length):∀{m:Nat},m<=H.length->(OY H a b m).length=m/\∀i,i<m->(OY H a b m)[i]? =H[sw a b i]?.map (A2.ren (sw a b)):=by
 intro m
 induction m with
 |zero=>intro _;exact⟨rfl,fun i h=>om⟩
 |succ m ih=>
  intro hm;obtain⟨h1,h2⟩:=ih om;obtain⟨x,hx⟩:∃x,H[sw a b m]? =some x:=⟨_,Qm (OZ ha hb om)⟩;refine⟨by simp only[OY,hx,RH,h1,Qz,RY],fun i hi=> ?_⟩;simp only[OY,hx];rcases RJ i m with hlt|hge
  .rw[Qq om];exact h2 i hlt
  .have:i=m:=om
   subst this;rw[Qx om,h1,hx];simp
theorem IF{H:RE}(ha:a<H.length)(hb:b<H.length)(i:Nat):(NH a b H)[i]? =H[sw a b i]?.map (A2.ren (sw a b)):=by
 obtain⟨h1,h2⟩:=OL ha hb (Qn H.length);rcases RJ i H.length with hlt|hge
 .exact h2 i hlt
 .rw[NH,Rn om,Rn,Option.map_none];have e:=FZ a b i;rcases RJ (sw a b i) H.length with h|h
  .have:=OZ ha hb h;rw[e]at this;omega
  .exact h
theorem Q5{ro:Qt}{N:NB}{S:St}{G G':Gh}{a:Act}{w w':World}{p q:Nat}(r:Rel ro N S G' a w')(hf:BE G w G' w')(hk:G.H.length=k)(ho:AM k G.H=true)(hr:∀id,ro=some id->id<k)(h1:k<=p)(h2:k<=q)(h3:p<S.H.length)(h4:q<S.H.length):
  ∃G'',Rel ro N (NI p q S) G'' a w'/\BE G w G'' w':=by
 have e3:p<G'.H.length:=by rw[r.heap];exact h3
 have e4:q<G'.H.length:=by rw[r.heap];exact h4
 let K:Gh:=⟨fun j=>G'.ρ (sw p q j),NH p q G'.H,G'.m⟩
 have up:∀id b,G'.H[id]? =some b->K.H[sw p q id]? =some (b.ren (sw p q))/\K.ρ (sw p q id)=G'.ρ id:=by
  intro id b hb;refine⟨?_,by show G'.ρ (sw p q (sw p q id))=_;rw[FZ]⟩;show(NH p q G'.H)[sw p q id]? =_;rw[IF e3 e4,FZ,hb];rfl
 have dn:∀j b,K.H[j]? =some b->∃b0,G'.H[sw p q j]? =some b0/\b=b0.ren (sw p q):=by
  intro j b hb;have hb:(NH p q G'.H)[j]? =some b:=hb;rw[IF e3 e4,RS]at hb;obtain⟨b0,k1,k2⟩:=hb;exact⟨b0,k1,k2.symm⟩
 have dnS:∀(j:Nat)(rs:List (Option (Nat×Nat×A5))),K.H[j]? =some (.many rs)->G'.H[sw p q j]? =some (.many rs):=fun j rs hb=>by
  obtain⟨b0,k1,k2⟩:=dn j _ hb;cases b0<;>simp only[A2.ren,reduceCtorEq,A2.many.injEq]at k2;subst k2;exact k1
 have ownP:∀b,B8 K b->B8 G' b:=by
  rintro b ⟨id,M,blk,h1,h2,h3⟩;obtain⟨b0,k1,rfl⟩:=dn id blk h1;rw[B3]at h2;exact⟨sw p q id,M,b0,k1,h2,h3⟩
 have own:∀b,Own K b->Own G' b:=fun b h=>h.imp (ownP b) fun⟨id,rs,h1,h2⟩=>⟨sw p q id,rs,dnS id rs h1,h2⟩;have low:∀i,i<k->sw p q i=i:=fun i hi=>P7 h1 h2 hi
 refine⟨K,⟨?_,⟨fun j b hb=> ?_,fun i j x y b M M' hx hy lx ly r1 r2=> ?_,r.rel.mem,fun b hb=>r.rel.sep b (own b hb),r.rel.st,fun j rs hj=>⟨(r.rel.mny _ rs (dnS j rs hj)).1,fun b hb=>⟨fun h=>((r.rel.mny _ rs (dnS j rs hj)).2 b hb).1 (ownP b h),fun j' rs' hj' hb'=>by
  have:=((r.rel.mny _ rs (dnS j rs hj)).2 b hb).2 _ rs' (dnS j' rs' hj') hb'
  rw[<-FZ p q j',this,FZ]⟩⟩⟩,r.size,fun t x hx=> ?_,?_,fun id hid=> ?_⟩,⟨hf.os,hf.tape,hf.output,hf.size,fun b hb hno=> ?_,hf.memNew,fun id b hb=> ?_,hf.gle.mem⟩⟩
 .show NH p q G'.H=NH p q S.H;rw[r.heap]
 .obtain⟨b0,k1,rfl⟩:=dn j b hb;have:=BR.ren (G0:=G') (G:=K) (ι:=sw p q) (Mem.le_refl _) up (up _ _ k1).2 (r.rel.blk _ _ k1);rw[FZ]at this;exact this
 .obtain⟨x0,k1,rfl⟩:=dn i x hx;obtain⟨y0,k2,rfl⟩:=dn j y hy;rw[B3]at lx ly;have:=r.rel.inj _ _ _ _ b M M' k1 k2 lx ly r1 r2;rw[<-FZ p q i,this,FZ]
 .have hx:get (Gj (sw p q) S.env) t=some x:=hx;rw[Ej,RS]at hx;obtain⟨z,hz,rfl⟩:=hx;obtain⟨v,hv,hrv⟩:=r.env t z hz;exact⟨v,hv,RV.ren (G0:=G') (G:=K) (ι:=sw p q) (Mem.le_refl _) up hrv⟩
 .obtain⟨m0,ms,m1,m2,m3⟩:=r.marks;exact⟨m0,ms,m1,m2,fun i hi=>⟨(m3 i hi).1,(m3 i hi).2.1,fun h=>(m3 i hi).2.2 (own _ h)⟩⟩
 .obtain⟨l,M,m,c1,c2⟩:=r.round id hid;have hlow:=low id (hr id hid)
  have c3:(NH p q S.H)[id]? =some ((A2.lp l).ren (sw p q)):=by
   rw[IF h3 h4,hlow,c1];rfl
  exact⟨_,M,m,c3,by show G'.ρ (sw p q id)=_;rw[hlow];exact c2⟩
 .obtain⟨f1,f2⟩:=hf.keep b hb hno;exact⟨f1,fun h=>f2 (own b h)⟩
 .obtain⟨b',hb',hs⟩:=hf.gle.blk id b hb;have hid:id<k:=by rw[<-hk];exact(Qh.1 hb).1
  obtain⟨u1,u2⟩:=up id b' hb';rw[low id hid]at u1 u2;refine⟨_,u1,?_⟩;have:=hs.ren (G:=G) (G':=K) (ι:=sw p q) (j:=id) rfl u2;rwa [A2.Gk low (EL ho hb)]at this
section
variable {P:Program}{ro:Qt}{ops:R0}{S0 S:St}{Q:Exit->St->Prop}{E:Nat->Option AK}{acc:List Rc}{rest:R1}{o:Oper}{en:R9}{hp:RE}{nt:Nat}
def Qw(Q:Exit->St->Prop):Exit->St->Prop:=fun e S'=>∃env,(∀t x,get env t=some x->get S'.env t=some x)/\Q e ⟨env,S'.H,S'.n⟩
theorem Yn2(live:QQ){e:R9}(l:QR)(hE:Ai P E)(hd:Dl ops (acc.reverse.map Rc.k) l=true)(hx:Au E ops acc.reverse hp l)(he:BK live en=some e)(hQ:Q .normal ⟨e,hp,nt⟩):Wd P ro E ops S0 (GC P ro ops S0 (Qw Q)) acc [] ⟨en,hp,nt⟩:=by
 have:=Aa he;subst this;intro Sr ht hH hn he' hr;refine GD hE ht hd (by rw[hH];exact hx) ⟨B7 live en,fun t x hx=>he' t x (Cg hx).2,?_⟩;rw[hH,hn];exact hQ
def PS(i k j:Nat):Nat:=if Nat.beq j k then i else if Nat.ble i j&&Nat.blt j k then j+1 else j
def PM(i k j:Nat):Nat:=if Nat.beq j i then k else if Nat.blt i j&&Nat.ble j k then j-1 else j
def NP(i k:Nat)(ops:R0):R0:=Fh id id k i ops
def NQ(i k:Nat)(ops:R0):R0:=Fh (PS i k) (PM i k) i k ops
def Hg(ops:R0):Bool:=ops.toList.all fun o=>o.after.toList.all (fun e=>Nat.blt e.on ops.toList.length)&&(match o.guard with|some g=>Nat.blt g.1 ops.toList.length|none=>true)
theorem Km(n:Nat):Perm id id n:=⟨fun _ h=>h,fun _ h=>h,fun _ _=>rfl,fun _ _=>rfl⟩
theorem OE{i k n:Nat}(hik:i<k)(hk:k<n):Perm (PS i k) (PM i k) n:=by
 constructor
 .intro j hj;simp only[PS,Iq,Qv,Qk,Nat.ble_eq,S9];split<;>(try split)<;>omega
 .intro j hj;simp only[PM,Iq,Qv,Qk,Nat.ble_eq,S9];split<;>(try split)<;>omega
 .intro j hj;simp only[PS,PM,Iq,Qv,Qk,Nat.ble_eq,S9]
  repeat' split
  all_goals omega
 .intro j hj;simp only[PS,PM,Iq,Qv,Qk,Nat.ble_eq,S9]
  repeat' split
  all_goals omega
def Qb(a b:Nat)(S1:St):Exit->St->Prop:=fun e S'=>e= .normal/\(S'=S1\/NI a b S'=S1)
theorem PY{id:Nat}(i k a b:Nat){S1:St}(hm:P.follows .mixedOrders=true)(hik:(Nat.blt i k&&Nat.blt k ops.toList.length&&Hg ops)=true)(ho:AM S.H.length S.H=true)
  (hab:(Nat.ble S.H.length a&&Nat.ble S.H.length b&&Nat.blt a S1.H.length&&Nat.blt b S1.H.length)=true)
  (h1:GC P ro (NP i k ops) S (Qw (Qb a b S1))) (h2:GC P ro (NQ i k ops) S (Qw (Qb a b S1))) (hQ:Q .normal S1):W P ro (.region id ops true) S Q:=by
 simp only[Qk,S9,SX]at hik;simp only[Qk,S9,Nat.ble_eq]at hab;obtain⟨⟨hlt,hk⟩,hed⟩:=hik;have hp':Perm (PS i k) (PM i k) ops.size:=OE hlt hk
 have hb:∀(j:Nat)(o:Oper),ops[j]? =some o->(∀e∈o.after,Region.binds .any e=true->e.on<ops.size)/\∀g,o.guard=some g->g.1<ops.size:=by
  intro j o ho;unfold Hg at hed;rw[TA]at hed;have:=hed o (by rw[Array.mem_toList_iff];exact Array.mem_of_getElem? ho);simp only[Qk,TA,S9,SX]at this;refine⟨fun e he _=>this.1 e (by simpa using he),fun g hg=> ?_⟩;have h2:=this.2;rw[hg]at h2;simpa[S9]using h2
 intro N G act w r;have a1:=h1 N G act w r;have a2:=h2 N G act w r;rw[NP,Du (Km _)]at a1;rw[NQ,Du hp']at a2;refine wpIn_mono (Jq (id:=id) hm (Km _) hp' hb hk om om a1 a2) ?_;rintro e a' w' ⟨S',G',⟨env,hs,rfl,hS⟩,r',hf⟩;have r2:=r'.Hh hs;rcases hS with rfl|rfl
 .exact⟨_,G',hQ,r2,hf⟩
 .have hl:∀H:RE,(NH a b H).length=H.length->(NI a b ⟨env,H,S'.n⟩).H.length=H.length:=fun H h=>h
  have hlen:(NH a b S'.H).length<=S'.H.length:=by
   have:∀m,(OY S'.H a b m).length<=m:=by
    intro m
    induction m with
    |zero=>exact Qn _
    |succ m ih=>
     simp only[OY,RH];split<;>simp<;>omega
   exact this _
  have c1:a<S'.H.length:=by have:=hab.1.2;simp only[NI]at this;omega
  have c2:b<S'.H.length:=by have:=hab.2;simp only[NI]at this;omega
  obtain⟨G'',q1,q2⟩:=Q5 (k:=S.H.length) r2 hf (by rw[r.heap]) (by rw[r.heap];exact ho) r.J1 hab.1.1.1 hab.1.1.2 c1 c2;exact⟨_,G'',hQ,q1,q2⟩
theorem Dj{id:Nat}(E:Nat->Option AK)(i k a b:Nat)(S1:St)(hm:P.follows .mixedOrders=true)(hik:(Nat.blt i k&&Nat.blt k ops.toList.length&&Hg ops)=true)(ho:AM S.H.length S.H=true)
  (hab:(Nat.ble S.H.length a&&Nat.ble S.H.length b&&Nat.blt a S1.H.length&&Nat.blt b S1.H.length)=true)
  (h1:Wd P ro E (NP i k ops) S (GC P ro (NP i k ops) S (Qw (Qb a b S1))) [] (NP i k ops).toList S)
  (h2:Wd P ro E (NQ i k ops) S (GC P ro (NQ i k ops) S (Qw (Qb a b S1))) [] (NQ i k ops).toList S) (hQ:Q .normal S1):W P ro (.region id ops true) S Q:=
 PY i k a b hm hik ho hab (h1 S .nil rfl rfl (fun _ _ h=>h) (fun k=>sm)) (h2 S .nil rfl rfl (fun _ _ h=>h) (fun k=>sm)) hQ
end
end Go.Gar
namespace Go.Gar
def GQ(env:R9)(op:Op):RB:=
 match op with
 | .binOp op _ p q _=>match Bh env p,Bh env q with
  |some (.d (.i k a)),some (.d (.i k' b))=>match op with
   | .add=>some (decide (k=k'),.d (.i k (k.wrap (a+b))))
   | .sub=>some (decide (k=k'),.d (.i k (k.wrap (a-b))))
   | .mul=>some (decide (k=k'),.d (.i k (k.wrap (a*b))))
   |_=>none
  |_,_=>none
 |_=>none
variable {P:Program}
theorem LM{S:St}{o:Oper}{x:AV}{c:Bool}(h:GQ S.env o.op=some (c,x))(hc:c=true):Bi P o S x S.H:=by
 subst hc;obtain⟨dst,op,ty,pos,after,guard⟩:=o;simp only at h;unfold GQ at h;split at h
 .rename_i op t p q yt;split at h
  .rename_i k a k' b hy hz
   have key:∀{op':BinOp}{n:Int},op=op'->(∀(w:World),(binOp op' t (.int k a) (.int k b)).run P w= .ok (.int k n) w)->(∃r,LA op' (.i k a) (.i k' b)=some r)->k=k'->x= .d (.i k n)->Bi P ⟨dst,.binOp op t p q yt,ty,pos,after,guard⟩ S x S.H:=by
    rintro op' n rfl hrun ⟨r0,hb⟩ rfl rfl;refine .of_run (f:=fun a=>do eqGuard op t p q (a.eval p) (a.eval q);binOp op t (a.eval p) (a.eval q)) (fun _=>rfl) fun ro N G a w r=> ?_
    have hp:=AB r.rel.st r.env hy;have hq:=AB r.rel.st r.env hz;simp only[RV]at hp hq;have hg:=Dm (P:=P) (op:=op) (t:=t) (x:=p) (y:=q) (v:=a.eval p) (u:=a.eval q) (w:=w) (.inl (IJ (GH hb) hp));simp only[RD]at hp hq;refine⟨.int k n,?_,by simp[RV,RD]⟩;simp only[Qr,hg,Ql];rw[hp,hq];exact hrun w
   split at h
   .simp only[Qj,Qo,Qv]at h;exact key rfl (fun w=>by simp[binOp,Op.intArith]) ⟨_,rfl⟩ h.1 h.2.symm
   .simp only[Qj,Qo,Qv]at h;exact key rfl (fun w=>by simp[binOp,Op.intArith]) ⟨_,rfl⟩ h.1 h.2.symm
   .simp only[Qj,Qo,Qv]at h;exact key rfl (fun w=>by simp[binOp,Op.intArith]) ⟨_,rfl⟩ h.1 h.2.symm
   .cases h
  .cases h
 .cases h
variable {env:R9}
theorem GR{op:Op}{r:Bool×AV}(h:GQ env op=some r):∀c,op≠ .defer c:=fun c e=>by subst e;cases h
def JY(E:Nat->Option AK)(env:R9)(H:RE)(op:Op):Option (Bool×RE):=
 match op with
 | .store t a x=>match E t,Bh env a,Bh env x with
  |some y,some (.ep id i off n sz),some (.d (.i k m))=>match H[id]? with
   |some (.a (.by l))=>match setH id (.a (.by (l.set i (UInt8.ofNat m.toNat)))) H with
    |some H'=>some (Nat.beq n l.length&&decide (i<n)&&Nat.beq y.size 1&&Nat.beq off 0&&Nat.beq sz 1&&decide (k= .u8)&&decide (0<=m)&&decide (m<256),H')
    |none=>none
   |_=>none
  |_,_,_=>none
 |_=>none
theorem Jw{α:Type}(l:List α)(i:Nat)(x:α)(h:i<l.length):l.take i++[x]++l.drop (i+1)=l.set i x:=by
 rw[List.set_eq_take_append_cons_drop,Rf h];simp
variable {E:Nat->Option AK}
theorem KT(hE:Ai P E){S:St}{o:Oper}{c:Bool}{H':RE}(h:JY E S.env S.H o.op=some (c,H'))(hc:c=true):Bi P o S .u H':=by
 subst hc;unfold JY at h;split at h
 .rename_i t a x ho;split at h
  .rename_i y id i off n sz k m hy' ha hx;split at h
   .rename_i l hl;split at h
    .rename_i q hq;simp only[Qj,Qo,Qk,Qv]at h;obtain⟨⟨⟨⟨⟨⟨⟨⟨hn,hi⟩,hsz⟩,hoff⟩,hsz1⟩,rfl⟩,hm0⟩,hm1⟩,rfl⟩:=h;have hn:=Qi hn;have hsz:=Qi hsz;have hoff:=Qi hoff;have hsz1:=Qi hsz1;subst hn;subst hoff;subst hsz1;obtain⟨hid,rfl⟩:=D1 hq;have hy:=hE t y hy';intro ro N G act w r;have hl':G.H[id]? =some (.a (.by l)):=by rw[r.heap];exact hl
     have hva:=AB r.rel.st r.env ha;have hvx:=AB r.rel.st r.env hx;simp only[RV,RD]at hva hvx;obtain⟨_,blk,hb,hp⟩:=hva;rw[hl']at hb;cases hb;obtain⟨_,_,hp⟩:=hp;obtain⟨b,M,hρ,hva⟩:=hp rfl;obtain⟨_,_,hB⟩:=r.rel.blk id _ hl';rcases hB with⟨h0,hno⟩|⟨b',M',vs,T,hρ',hw,hM,hcell⟩
     .rw[hρ]at hno;cases hno
     rw[hρ]at hρ';cases hρ';have hlen:(slc (.by l)).length=l.length:=by simp[slc]
     have hvl:l.length<=vs.size:=by
      rcases Nat.eq_zero_or_pos l.length with h0|h0
      .omega
      .obtain⟨v,hv,_⟩:=hcell (l.length-1) _ (Qm (by rw[hlen];omega));have:=(Qp.1 hv).1;omega
     have hst:=run_storeCells_at P b i T [.int .u8 m] 0 vs w hw (by simp;omega) (by simp[Value.oneCell']);simp only[Sm]at hst;have hmm:(UInt8.ofNat m.toNat).toNat=m.toNat:=by rw[UInt8.toNat_ofNat'];omega
     obtain⟨r1,r2⟩:=FI r.rel (cur:=(vs.toList.take i++[Value.int .u8 m]++vs.toList.drop (i+1)).toArray) hl' rfl (q:=.a (.by (l.set i (UInt8.ofNat m.toNat)))) rfl hρ (by simp[A6,Gh.put,AI,AU]) (by
      refine⟨rfl,trivial,.inr ⟨b,M,_,T,hρ,setRow_heap w b vs _ T _ hw,by simp;omega,fun j z hz=> ?_⟩⟩
      have e:slc (.by (l.set i (UInt8.ofNat m.toNat)))=(slc (.by l)).take i++[D.i .u8 m]++(slc (.by l)).drop (i+1):=by
       rw[Jw _ _ _ (by rw[hlen];exact hi)];simp only[slc,List.map_set,hmm]
       congr 2;omega
      rw[e]at hz
      obtain⟨v,hv,hrv⟩:=DZ (R:=fun d v=>v.oneCell'=true/\RD G.m d v) (cs:=slc (.by l)) (xs:=[D.i .u8 m]) (vs:=vs.toList) (us:=[Value.int .u8 m]) (off:=i) (by rw[hlen];simp;omega) (by rw[hlen];simpa using hvl) rfl
       (fun k x hx=>by obtain⟨v,h1,h2⟩:=hcell k x hx;exact⟨v,by simpa using h1,h2⟩)
       (fun k x hx=>by
        cases k with
        |zero=>simp at hx;subst hx;exact⟨_,rfl,rfl,by simp[RD]⟩
        |succ k=>simp at hx) j z hz
      exact⟨v,by simpa using hv,hrv⟩)
     have key:(Instr.storeAt t (act.eval a) (act.eval x)).run P w= .ok () (w.setRow b (vs.toList.take i++[Value.int .u8 m]++vs.toList.drop (i+1)).toArray):=by
      rw[hva,hvx];simp only[Instr.storeAt,Instr.sureAddr,Qr,Qu,Ql,storeVar,AG hy,SE,Sm];rw[hsz];simpa[Value.cells]using hst
     refine⟨.skip,_,_,?_,.inl ⟨rfl,rfl⟩,?_,r1,r2⟩
     .unfold execOp;simp only[ho,Qr,key,Ql,Qu]
     .show G.H.set id _=S.H.set id _;rw[r.heap]
    .cases h
   .cases h
  .cases h
 .cases h
theorem EZ{H:RE}{op:Op}{r:Bool×RE}(h:JY E env H op=some r):∀c,op≠ .defer c:=fun c e=>by subst e;cases h
theorem K7{f:FuncId}{ds:R6}{r:D}{x:AV}{H:RE}(h:Df P f (ds.map .d) [] x H)(hK:Bg H x r):Fn P f ds r:=by
 refine⟨h.1,fun m w vs hm hst hargs=> ?_⟩;let G:Gh:={ρ:=fun _=>none,H:=[],m:=m};have hr:AD G w:=⟨fun id b hb=>by simp[G]at hb,fun id id' p q b N N' hp=>by simp[G]at hp,hm,fun b ho=>absurd ho Ft,hst,Is⟩;have hno:∀b,¬Own G b:=fun b=>Ft
 refine(h.2 G w vs rfl hr (H8.2 hargs)).mono ?_;rintro e w' ⟨v,y,G',rfl,⟨rfl,rfl⟩,hv,h2,hfr⟩
 let m':Mem:=fun b k=>match G'.m b k with
  |some v=>some v
  |none=>if w.heap.size<=b then w'.cell? ⟨b,k,none⟩else none
 have hle:G'.m.le m':=fun b k v hv=>by simp only[m',hv]
 have hmem:K8 m' w':=by
  intro b k v hv;simp only[m']at hv;split at hv
  .rename_i u hu;cases hv;exact h2.mem b k _ hu
  .split at hv
   .exact hv
   .cases hv
 refine⟨v,m',rfl,Jd h2 hle ?_ hK hv,Mem.le_trans hfr.gle.mem hle,hmem,?_,hfr.os,hfr.tape,hfr.output,hfr.size,fun b hb=>(hfr.keep b hb (hno b)).1⟩
 .intro b k v ho hc
  have hge:w.heap.size<=b:=by
   rcases RJ b w.heap.size with hlt|hge
   .exact absurd ho (hfr.keep b hlt (hno b)).2
   .exact hge
  simp only[m',h2.sep b ho k,Rf hge,hc]
 .intro b k v hv;simp only[m']at hv;split at hv
  .rename_i u hu;cases hv;rcases hfr.memNew b k _ hu with h3|h3|h3
   .exact .inl h3
   .exact absurd h3 (hno b)
   .exact .inr h3
  .split at hv
   .rename_i hge;exact .inr hge
   .cases hv
def Hu(n:Nat):QQ->Bool
 |[]=>false
 |a::r=>Nat.beq n a||Hu n r
section
variable {P:Program}{ro:Qt}{E:Nat->Option AK}{ops:R0}{i:Nat}{rest:R1}{Q:Exit->St->Prop}{o:Oper}{en:R9}{hp:RE}{nt:Nat}{S0:St}{A:Prop}{acc:List Rc}
variable {c:Bool}{e:R9}
theorem XwL(L:QQ){x x':AV}(_:FP o.dst L=true)(hg:A4 ops en o=some true)(h:GQ en o.op=some (c,x))(hd:AA o.dst nt=true)(he:AL o.dst x' en=some e)(k:Wl P ro ops (i+1) rest ⟨e,hp,nt⟩ Q)(hc:c=true)(hx:x=x':=by rfl):Wl P ro ops i (o::rest) ⟨en,hp,nt⟩ Q:=by
 subst hx;rw[AE he]at k;exact FN hg (LM (S:=⟨en,hp,nt⟩) h hc) (GR h) hd k
theorem Xsb(hE:Ai P E){H' H'':RE}(hg:A4 ops en o=some true)(h:JY E en hp o.op=some (c,H'))(hd:AA o.dst nt=true)(he:AL o.dst .u en=some e)(k:Wl P ro ops (i+1) rest ⟨e,H'',nt⟩ Q)(hc:c=true)(hH:H'=H'':=by first|(simp only[nS];rfl)|rfl):Wl P ro ops i (o::rest) ⟨en,hp,nt⟩ Q:=by
 subst hH;rw[AE he]at k;exact FN hg (KT (S:=⟨en,hp,nt⟩) hE h hc) (EZ h) hd k
theorem Ysb(hE:Ai P E){H' H'':RE}{e0:R9}(hl:BK (looks ops o) en=some e0)(hg:A4 ops e0 o=some true)(h:JY E e0 hp o.op=some (c,H'))(hd:AA o.dst nt=true)(he:AL o.dst .u en=some e)(k:Wd P ro E ops S0 A (⟨e0,hp,.u,.eff⟩::acc) rest ⟨e,H'',nt⟩)(hc:c=true)(hH:H'=H'':=by first|(simp only[nS];rfl)|rfl):Wd P ro E ops S0 A acc (o::rest) ⟨en,hp,nt⟩:=by
 subst hH;rw[AE he]at k;have:=Aa hl;subst this;exact Ck (x:=.u) (k:=.eff) (H':=H') ⟨hd,hg,Bi.step (S:=⟨B7 (looks ops o) en,hp,nt⟩) (KT (S:=⟨B7 (looks ops o) en,hp,nt⟩) hE h hc) (EZ h)⟩ k
variable {id:Nat}
theorem Xfu(t:Nat){x:D}{n sz:Nat}(_:Hu t (Mu o.op)=true)(ht:get en t=some (.sl id n sz))(hid:hp[id]? =some (.a x))(hn:n=AI x)(k:Wl P ro ops i (o::rest) ⟨(t,.d x)::en,Cn id x 0 hp,nt⟩ Q):Wl P ro ops i (o::rest) ⟨en,hp,nt⟩ Q:=
 GE (A3.Pp (S:=⟨en,hp,nt⟩) t id hid ht hn) (by show hp.length<=(Cn id x 0 hp).length;rw[Eg];exact Qn _) k
theorem Xfd(t:Nat)(r:D){x:AV}(_:Hu t (Mu o.op)=true)(ht:get en t=some x)(hx:Gw [x] [r])(hne:(match x with| .d _=>false|_=>true)=true)(k:Wl P ro ops i (o::rest) ⟨(t,.d r)::en,hp,nt⟩ Q):Wl P ro ops i (o::rest) ⟨en,hp,nt⟩ Q:=by
 refine GE (S':=⟨(t,.d r)::en,hp,nt⟩) ?_ (Qn _) k;intro ro N G a w h _;refine⟨G,⟨h.heap,h.rel,h.size,fun u y hy=> ?_,h.marks,h.round⟩,⟨fun id b b' hb hb'=>by rw[hb]at hb';cases hb';exact A6.refl _ _ _,Mem.le_refl _,fun _ h=>h,fun _ _ _ h=> .inl h⟩⟩;simp only[get]at hy;split at hy
 .rename_i hb;cases hy;have:=Qi hb;subst this;obtain⟨v,hv,hrv⟩:=h.env t _ ht;refine⟨v,hv,?_⟩;have:=MH (vs:=[v]) hx (show AH G [x] [v]from⟨v,[],rfl,hrv,rfl⟩);simp only[BJ]at this;obtain⟨u,q,e,h1,_⟩:=this;cases e;simpa only[RV]using h1
 .exact h.env u y hy
theorem L4(L:QQ){S:St}(_:Hu id L=false)(h:Wl P ro ops 0 ops.toList S Q):W P ro (.region id ops false) S Q:=AQ h
theorem Of(L:QQ){S:St}(E:Nat->Option AK)(_:Hu id L=false)(h:Wd P ro E ops S (W P ro (.region id ops true) S Q) [] ops.toList S):W P ro (.region id ops true) S Q:=D7 E h
end
end Go.Gar
namespace Go.Gar
theorem A3.cell{S:St}(id i:Nat){x y:AV}{cs:R8}(hid:S.H[id]? =some (.c cs))(h:cs[i]? =some x)(hw:∀G v,RV G x v->RV G y v):
  A3 S ⟨S.env,S.H.set id (.c (cs.set i y)),S.n⟩:=by
 intro ro N G a w r _;have hidG:G.H[id]? =some (.c cs):=by rw[r.heap];exact hid
 have hlt:id<G.H.length:=(Qh.1 hidG).1;let c':A2:=.c (cs.set i y);let G':Gh:={ρ:=G.ρ,H:=G.H.set id c',m:=G.m};have hst:A6 G G' id (.c cs) c':=by simp[c',A6,G']
 have hget:∀j b,G'.H[j]? =some b->(j=id/\b=c')\/(j≠id/\G.H[j]? =some b):=by
  intro j b hb
  by_cases hj:j=id
  .subst hj;left;have hb':(G.H.set j c')[j]? =some b:=hb;rw[Qs hlt]at hb';exact⟨rfl,(Option.some.inj hb').symm⟩
  .right;have hb':(G.H.set id c')[j]? =some b:=hb;rw[RG (Ne.symm hj)]at hb';exact⟨hj,hb'⟩
 have gle:DN G G':=by
  refine⟨fun j b hb=> ?_,Mem.le_refl _⟩
  by_cases hj:j=id
  .subst hj;rw[hidG]at hb;cases hb;exact⟨c',Qs hlt,hst⟩
  .exact⟨b,by show(G.H.set id c')[j]? =_;rw[RG (Ne.symm hj)];exact hb,A6.refl _ _ _⟩
 have hS:∀(j:Nat)(rs:List (Option (Nat×Nat×A5))),G'.H[j]? =some (.many rs)->G.H[j]? =some (.many rs):=fun j rs hb=>by
  rcases hget j _ hb with⟨_,e⟩|⟨_,h4⟩
  .have e:A2.many rs=A2.c _:=e;cases e
  .exact h4
 have hP:∀b,B8 G' b->B8 G b:=by
  rintro b ⟨j,N,blk,hb,hlv,hρ⟩;rcases hget j blk hb with⟨rfl,rfl⟩|⟨_,h4⟩
  .exact⟨j,N,_,hidG,rfl,hρ⟩
  .exact⟨j,N,blk,h4,hlv,hρ⟩
 have own:=Dr hS hP
 have rel:AD G' w:=by
  refine⟨fun j b hb=> ?_,fun i' j p q' b N N' hp hq lp lq r1 r2=> ?_,r.rel.mem,fun b hb k=>r.rel.sep b (own b hb) k,r.rel.st,r.rel.mny.of (fun b hb=>Ad r.rel (.inr hb)) hS (fun c hc=> .inl (hP c hc))⟩
  .rcases hget j b hb with⟨rfl,rfl⟩|⟨h3,h4⟩
   .obtain⟨b,N,vs,T,g1,g2,g3,g4,g6⟩:=r.rel.blk j _ hidG;refine⟨b,N,vs,T,g1,g2,g3,by simpa using g4,fun k z hz=> ?_⟩;rw[List.getElem?_set]at hz;split at hz
    .rename_i hki;subst hki;split at hz
     .cases hz;obtain⟨v,hv,hrv⟩:=g6 i _ h;exact⟨v,hv,hw _ _ (hrv.mono gle)⟩
     .cases hz
    .obtain⟨v,hv,hrv⟩:=g6 k _ hz;exact⟨v,hv,hrv.mono gle⟩
   .exact(r.rel.blk j b h4).Gz gle (fun _ _ _ _=>rfl) rfl
  .have back:∀(j:Nat)(b:A2),G'.H[j]? =some b->b.live=true->∃b0:A2,G.H[j]? =some b0/\b0.live=true:=by
    intro j b hb hlv;rcases hget j b hb with⟨rfl,rfl⟩|⟨_,h4⟩
    .exact⟨_,hidG,rfl⟩
    .exact⟨b,h4,hlv⟩
   obtain⟨p0,e1,e2⟩:=back i' p hp lp;obtain⟨q0,e3,e4⟩:=back j q' hq lq;exact r.rel.inj i' j p0 q0 b N N' e1 e3 e2 e4 r1 r2
 have HV:IL G G':=by
  refine⟨fun j b b' hb hb'=> ?_,Mem.le_refl _,fun b hb=>own b hb,fun _ _ _ h=> .inl h⟩;obtain⟨b'',hb'',hs''⟩:=gle.blk j b hb;rw[hb']at hb'';cases hb'';exact hs''
 refine⟨G',⟨?_,rel,r.size,fun u z hz=> ?_,r.marks.HV HV,fun k hk=> ?_⟩,HV⟩
 .show G.H.set id c'=_;rw[r.heap]
 .obtain⟨v,hv,hrv⟩:=r.env u z hz;exact⟨v,hv,hrv.mono gle⟩
 .obtain⟨q',l,M,q1,q2⟩:=r.round k hk;rw[<-r.heap]at q1;have hne:k≠id:=fun e=>by subst e;rw[hidG]at q1;cases q1
  refine⟨q',l,M,?_,q2⟩;show(S.H.set id c')[k]? =_;rw[RG (Ne.symm hne),<-r.heap];exact q1
theorem CO{E:Nat->Option AK}{n t:Nat}{cs:R6}(h:B9 E n t cs=true):B9 E n t cs=true:=h
end Go.Gar
namespace Go.Gar
end Go.Gar
namespace Go.Gar
open Go.Sort
end Go.Gar
namespace Go.Gar
end Go.Gar
namespace Go.Gar
section
variable {P:Program}{ro:Qt}{S:St}{Q:Exit->St->Prop}
def Q9(P:Program)(ro:Qt)(c:Code)(Q:Exit->St->Prop):Nat->Exit->St->Prop
 |0,.normal,_=>False
 |n+1,.normal,S'=>W P ro c S' (Q9 P ro c Q n)
 |_,e,S'=>Q e S'
theorem PG{c:Code}{b:Frame}{k:List Item}{cs:List Frame}{F:Fence}(hro:b.roundOf=F.round)(hb:F.fn b.fn)(hr:F.room (cs.length+1+0)):
  ∀(n:Nat)(N:NB)(S:St)(G:Gh)(a:Act)(w:World),Rel ro N S G a w->F=FE (rl G ro)->W P ro c S (Q9 P ro c Q n)->
  ∃e a' w',Post ro N G w Q e a' w'/\ArrivesIn (Machine.fenced P F) P (lone (b.atR a (.code c:: .inLoop c::k)) cs w) b k cs e a' w':=by
 intro n
 induction n with
 |zero=>
  intro N S G a w r hf h;have h1:=h N G a w r;rw[<-hf]at h1;obtain⟨e,a',w',⟨S',G',q,r',kk⟩,harr⟩:=h1 b (.inLoop c::k) cs hro hb hr
  cases e with
  |normal=>exact q.elim
  |exit id|goto l|ret|panic ch|outgrown=>exact⟨_,a',w',⟨S',G',q,r',kk⟩,.pass (x:=.inLoop c) rfl (fun _ _=> .inl sm) harr⟩
 |succ n ih=>
  intro N S G a w r hf h;have h1:=h N G a w r;rw[<-hf]at h1;obtain⟨e,a',w',⟨S',G',q,r',kk⟩,harr⟩:=h1 b (.inLoop c::k) cs hro hb hr
  cases e with
  |normal=>
   obtain⟨e₂,a₂,w₂,p₂,harr₂⟩:=ih N S' G' a' w' r' (by rw[CH r r' kk];exact hf) q;exact⟨e₂,a₂,w₂,p₂.trans kk,.of_steps (StepsIn.trans harr (.one (fenced_calm (fr:=b.atR a' (.inLoop c::k)) hb hr rfl) stepR_inLoop)) harr₂⟩
  |exit id|goto l|ret|panic ch|outgrown=>exact⟨_,a',w',⟨S',G',q,r',kk⟩,.pass (x:=.inLoop c) rfl (fun _ _=> .inl sm) harr⟩
theorem Cd(n:Nat){c:Code}(h:W P ro c S (Q9 P ro c Q n)):W P ro (.loop c) S Q:=by
 intro N G a w r b k cs hro hb hr;obtain⟨e,a',w',p,harr⟩:=PG (Q:=Q) (k:=k) (b:=b) (cs:=cs) hro hb hr n N S G a w r rfl h;exact⟨e,a',w',p,.of_steps (.one (fenced_calm (fr:=b.atR a (.code (.loop c)::k)) hb hr rfl) stepR_loop) harr⟩
end
end Go.Gar
namespace Go.Gar
section
variable {P:Program}{ro:Qt}{ops:R0}{i:Nat}{rest:R1}{Q:Exit->St->Prop}{o:Oper}{en:R9}{hp:RE}{nt:Nat}
theorem XyB{id:Nat}{xs:R8}{r0:Lp}{H1 H2:RE}{e1 e2:R9}(b:Bool)(hT:b=true->YT P id xs hp fun r K=>r= .d (.b true)/\K=H1)(hF:b=false->YT P id xs hp fun r K=>r= .d (.b false)/\K=H2)
  (hg:A4 ops en o=some true) (h:Eb en o.op=some (id,xs)) (hd:AA o.dst nt=true) (hlp:hp[id]? =some (.lp r0)) (he1:AL o.dst (.d (.b true)) en=some e1) (he2:AL o.dst (.d (.b false)) en=some e2)
  (k1:b=true->Wl P ro ops (i+1) rest ⟨e1,H1,nt⟩ Q) (k2:b=false->Wl P ro ops (i+1) rest ⟨e2,H2,nt⟩ Q):Wl P ro ops i (o::rest) ⟨en,hp,nt⟩ Q:=by
 cases b with
 |true=>exact Xy (hT rfl) hg h hd hlp he1 (k1 rfl)
 |false=>exact Xy (hF rfl) hg h hd hlp he2 (k2 rfl)
end
end Go.Gar
namespace Go.Gar
def NV(P:Program)(f:FuncId)(args:R8)(H:RE)(ch:R4)(H':RE):Prop:=
 Dh P f/\∀G w (vs:R2),G.H=H->AD G w->AH G args vs.toList->
  CallsIn Fence.wide 0 P f vs w fun e w'=>∃G',e= .panicked ch/\G'.H=H'/\AD G' w'/\BE G w G' w'
theorem NV.ren{P:Program}{f:FuncId}{args:R8}{H H2:RE}{ch:R4}{H':RE}(ids:QQ)(h:NV P f args H ch H')(hn:nodupB ids=true)(hm:Az (rn ids H2.length) H2 ids H)(ho:AM H.length H=true)(ha:AV.oks H.length args=true):
  NV P f (AV.B4 (rn ids H2.length) args) H2 ch (F7 ids H2 (CG (rn ids H2.length) H')):=by
 have hn:=Bz hn;refine⟨h.1,fun G w vs hG hr hargs=> ?_⟩;obtain⟨h1,h2⟩:=Fx hG hn hm hr ho;refine(h.2 _ w vs rfl h1 (h2 ha hargs)).mono ?_;rintro e w' ⟨G0',rfl,hH,hr',hfr⟩;obtain⟨G'',q1,q2,q3,q4,q5⟩:=FJ hG hn hm hr hfr hr';exact⟨G'',rfl,by rw[q1,hH],q2,q3⟩
section
variable {P:Program}{ro:Qt}{ops:R0}{i:Nat}{rest:R1}{S:St}{Q:Exit->St->Prop}{o:Oper}{E:Nat->Option AK}
variable {en:R9}{hp:RE}{nt:Nat}
theorem M8{x:Operand}{t:TypeId}{v:Value}(ho:o.op= .panic x)(hg:A4 ops S.env o=some true)(hx:Bh S.env x=some (.d (.ifc t v)))(k:Q (.panic [{v:=.iface t v,recovered:=false}]) S):Wl P ro ops i (o::rest) S Q:=by
 intro hops N G a w r;have ho':=I3 hops;simp only[Qz,TL,wpOpsIn,ho'];rw[Rf (Ax r.env hg)];refine⟨fun _ _=>trivial,?_⟩;have hv:=AB r.rel.st r.env hx;simp only[RV,RD]at hv
 have hrun:(execOp a.eval o).run P w= .halt (.panic (.iface t v)) w:=by
  unfold execOp;simp only[ho,hv,Instr.panic,Qr];rfl
 rw[Oper.semAt_eq _ _ _ (fun c e=>by rw[ho]at e;cases e),hrun];simp only[Oper.uponIn];exact⟨S,G,k,r,BE.refl G w⟩
theorem M6{c:Call}{fo:Operand}{g:FuncId}{first cap xs:R8}{ch:R4}{H':RE}(ho:o.op= .call c)(hc:c.callee= .value fo)(hg:A4 ops S.env o=some true)(hf:Bh S.env fo=some (.fn (.func g) first cap))(hxs:EA S.env c.args.toList=some xs)
  (hT:NV P g (first++xs++cap) S.H ch H') (k:Q (.panic ch) ⟨S.env,H',S.n⟩):Wl P ro ops i (o::rest) S Q:=by
 intro hops N G a w r;have ho':=I3 hops;simp only[Qz,TL,wpOpsIn,ho'];rw[Rf (Ax r.env hg)];refine⟨fun _ _=>trivial,?_⟩;have hfv:=AB r.rel.st r.env hf;simp only[RV]at hfv;obtain⟨p,q,hfv,hp,hq⟩:=hfv;have hrun:=Dv (P:=P) (f:=g) hc hfv hT.1 ho w;rw[Oper.semAt_eq _ _ _ (fun c e=>by rw[ho]at e;cases e),hrun];simp only[Oper.uponIn];refine⟨CC _,?_⟩;have hargs:=ET hp (BI r.rel.st r.env hxs) hq;have hcall:=hT.2 G w _ r.heap r.rel hargs;have hcall':CallsIn (FE (rl G ro)) 0 P g (p.toArray++c.args.map a.eval++q.toArray) w _:=hcall;refine hcall'.mono ?_;rintro e w' ⟨G',rfl,hH,hr',hfr⟩;exact⟨⟨S.env,H',S.n⟩,G',k,r.step hfr hH hr' rfl r.size (r.env.mono hfr.gle) rfl,hfr⟩
end
end Go.Gar
namespace Go.Gar
section
variable {P:Program}{ops:R0}{i:Nat}{rest:R1}{S:St}{K:St->Prop}{o:Oper}{E:Nat->Option AK}
def DV(P:Program)(G:Gh)(f:FuncId)(xs:R8)(d:Deferred):Prop:=
 Dh P f/\∃p q:Qf,d={target:=.fn (.func f) q.toArray,args:=p.toArray}/\AH G xs (p++q)
theorem DV.mono{P:Program}{G G':Gh}{f:FuncId}{xs:R8}{d:Deferred}(h:DV P G f xs d)(k:DN G G'):DV P G' f xs d:=
 let⟨h0,p,q,h1,h2⟩:=h;⟨h0,p,q,h1,AH.mono k h2⟩
variable {cs:List Frame}{Q:Exit->St->List Frame->Prop}
def FnR(P:Program)(f:FuncId)(args:R8)(H:RE)(u:FrameMode)(H':RE):Prop:=
 ∀G w (vs:R2),G.H=H->AD G w->AH G args vs.toList->
  CallsDIn Fence.wide 0 P f vs u w fun e u' w'=>∃v G',e= .returned v/\settle u'= .returning/\G'.H=H'/\AD G' w'/\BE G w G' w'
theorem FnR.ren{f:FuncId}{args:R8}{H H2:RE}{u:FrameMode}{H':RE}(ids:QQ)(h:FnR P f args H u H')(hn:nodupB ids=true)(hm:Az (rn ids H2.length) H2 ids H)(ho:AM H.length H=true)(ha:AV.oks H.length args=true):
  FnR P f (AV.B4 (rn ids H2.length) args) H2 u (F7 ids H2 (CG (rn ids H2.length) H')):=by
 have hn:=Bz hn;intro G w vs hG hr hargs;obtain⟨h1,h2⟩:=Fx hG hn hm hr ho;refine(h _ w vs rfl h1 (h2 ha hargs)).mono ?_;rintro e u' w' ⟨v,G0',rfl,hu,hH,hr',hfr⟩;obtain⟨G'',q1,q2,q3,q4,q5⟩:=FJ hG hn hm hr hfr hr';exact⟨v,G'',rfl,hu,by rw[q1,hH],q2,q3⟩
end
end Go.Gar
namespace Go.Gar
end Go.Gar
namespace Go.Gar
section
variable {P:Program}{ro:Qt}{ops:R0}{i:Nat}{rest:R1}{S0:St}{en:R9}{hp:RE}{nt:Nat}{Q:Exit->St->Prop}{o:Oper}{E:Nat->Option AK}{A:Prop}{acc:List Rc}
def OS:Op->Option Operand
 | .panic x=>some x
 |_=>none
theorem Xpan{x:Operand}{t:TypeId}{v:Value}(h:OS o.op=some x)(hg:A4 ops en o=some true)(hx:Bh en x=some (.d (.ifc t v)))(k:Q (.panic [{v:=.iface t v,recovered:=false}]) ⟨en,hp,nt⟩):Wl P ro ops i (o::rest) ⟨en,hp,nt⟩ Q:=by
 have ho:o.op= .panic x:=by
  unfold OS at h;split at h
  .rename_i y hy;cases h;exact hy
  .cases h
 exact M8 ho hg hx k
variable {g:Nat}{ch:R4}{H':RE}
theorem Wl_X{S:St}{xs:R8}(hg:A4 ops S.env o=some true)(h:Ab S.env o.op=some (g,xs))(hT:NV P g xs S.H ch H')(k:Q (.panic ch) ⟨S.env,H',S.n⟩):Wl P ro ops i (o::rest) S Q:=by
 obtain⟨c,f,first,ys,cap,ho,hc,hf,hxs,rfl⟩:=DC h;exact M6 ho hc hg hf hxs hT k
theorem XX{args:R8}{H:RE}{H'':RE}(ids:QQ)(hF:NV P g args H ch H')(hg:A4 ops en o=some true)(h:Ab en o.op=some (g,AV.B4 (rn ids hp.length) args))(hm:Az (rn ids hp.length) hp ids H)(hn:nodupB ids=true)(ho:AM H.length H=true)(ha:AV.oks H.length args=true)(k:Q (.panic ch) ⟨en,H'',nt⟩)(hH:F7 ids hp (CG (rn ids hp.length) H')=H'':=by first|(simp only[CU,Nat.reduceAdd];rfl)|rfl):Wl P ro ops i (o::rest) ⟨en,hp,nt⟩ Q:=by
 subst hH;exact Wl_X (S:=⟨en,hp,nt⟩) hg h (hF.ren ids hn hm ho ha) k
theorem Oo{S:St}{xs:R8}(h:Ab S.env o.op=some (g,xs))(hT:NV P g xs S.H ch H'):Lw P ro o S ch H':=by
 obtain⟨c,f,first,ys,cap,ho,hc,hf,hxs,rfl⟩:=DC h;intro N G a w K R r hR;refine⟨fun _ _=>trivial,?_⟩;have hfv:=AB r.rel.st r.env hf;simp only[RV]at hfv;obtain⟨p,q,hfv,hp,hq⟩:=hfv;have hrun:=Dv (P:=P) (f:=g) hc hfv hT.1 ho w;rw[Oper.semAt_eq _ _ _ (fun c e=>by rw[ho]at e;cases e),hrun];simp only[Oper.uponIn];refine⟨CC _,?_⟩;have hargs:=ET hp (BI r.rel.st r.env hxs) hq;have hcall:=hT.2 G w _ r.heap r.rel hargs;have hcall':CallsIn (FE (rl G ro)) 0 P g (p.toArray++c.args.map a.eval++q.toArray) w _:=hcall;refine hcall'.mono ?_;rintro e w' ⟨G',rfl,hH,hr',hfr⟩;exact hR w' G' hH hr' hfr
variable {e0 e:R9}
theorem YX{args:R8}{H:RE}{H'':RE}(ids:QQ)(hF:NV P g args H ch H')(hl:BK (looks ops o) en=some e0)(hg:A4 ops e0 o=some true)(h:Ab e0 o.op=some (g,AV.B4 (rn ids hp.length) args))(hd:AA o.dst nt=true)(hm:Az (rn ids hp.length) hp ids H)(hn:nodupB ids=true)(ho:AM H.length H=true)(ha:AV.oks H.length args=true)(he:AL o.dst .u en=some e)(hk:Wd P ro E ops S0 A (⟨e0,hp,.u,.pan ch⟩::acc) rest ⟨e,H'',nt⟩)(hH:F7 ids hp (CG (rn ids hp.length) H')=H'':=by first|(simp only[CU,Nat.reduceAdd];rfl)|rfl):Wd P ro E ops S0 A acc (o::rest) ⟨en,hp,nt⟩:=by
 subst hH;rw[AE he]at hk;have:=Aa hl;subst this;exact Ol (S:=⟨en,hp,nt⟩) hg (Oo (S:=⟨B7 (looks ops o) en,hp,nt⟩) h (hF.ren ids hn hm ho ha)) hd hk
def JM(ops:R0)(acc:List Rc):Bool:=
 match CR (acc.reverse.map Rc.k)with
 |some (i,_)=>(F6 ops acc.length).testBit i
 |none=>false
theorem Yd(_:JM ops acc=true)(hl:BK (looks ops o) en=some e0)(hd:AA o.dst nt=true)(he:AL o.dst .u en=some e)(hk:Wd P ro E ops S0 A (⟨e0,hp,.u,.dead⟩::acc) rest ⟨e,hp,nt⟩):Wd P ro E ops S0 A acc (o::rest) ⟨en,hp,nt⟩:=by
 rw[AE he]at hk;have:=Aa hl;subst this;exact Nl (S:=⟨en,hp,nt⟩) hd hk
theorem YnX{id:Nat}(l:QR){i0:Nat}(hm:P.follows .mixedOrders=true)(hE:Ai P E)(hp':CR (acc.reverse.map Rc.k)=some (i0,ch))(hd:Bt ops (acc.reverse.map Rc.k) l=true)(hx:Au E ops acc.reverse hp l)(hQ:Q (.panic ch) ⟨[],hp,nt⟩):Wd P ro E ops S0 (W P ro (.region id ops true) S0 Q) acc [] ⟨en,hp,nt⟩:=
 Nm (S:=⟨en,hp,nt⟩) l hm hE hp' hd hx hQ
theorem XaB(t:Nat)(q:D)(hE:Ai P E){f:Nat->AV}{b:A2}{c:Bool}{x':AV}(_:FP o.dst [t]=true)(hg:A4 ops en o=some true)(h:Ny E en hp o.op=some (c,f,b))(hb:b= .a q)(hd:AA o.dst nt=true)(he:AL o.dst x' en=some e)(hH:Ca hp (.a q)=some H')(hx:f hp.length=x')(k:Wl P ro ops (i+1) rest ⟨e,H',nt⟩ Q)(hc:c=true):Wl P ro ops i (o::rest) ⟨en,hp,nt⟩ Q:=by
 subst hb;exact Xa hE hg h hd he hH k hc hx
end
theorem A3.cells{S:St}(id:Nat){cs:R8}(cs':R8)(hid:S.H[id]? =some (.c cs))(hcl:cs'.length=cs.length)(hw:∀(k:Nat)(x:AV),cs'[k]? =some x->∃y,cs[k]? =some y/\∀G v,RV G y v->RV G x v):
  A3 S ⟨S.env,S.H.set id (.c cs'),S.n⟩:=by
 intro ro N G a w r _;have hidG:G.H[id]? =some (.c cs):=by rw[r.heap];exact hid
 have hlt:id<G.H.length:=(Qh.1 hidG).1;let c':A2:=.c cs';let G':Gh:={ρ:=G.ρ,H:=G.H.set id c',m:=G.m};have hst:A6 G G' id (.c cs) c':=by simp[c',A6,G',hcl]
 have hget:∀j b,G'.H[j]? =some b->(j=id/\b=c')\/(j≠id/\G.H[j]? =some b):=by
  intro j b hb
  by_cases hj:j=id
  .subst hj;left;have hb':(G.H.set j c')[j]? =some b:=hb;rw[Qs hlt]at hb';exact⟨rfl,(Option.some.inj hb').symm⟩
  .right;have hb':(G.H.set id c')[j]? =some b:=hb;rw[RG (Ne.symm hj)]at hb';exact⟨hj,hb'⟩
 have gle:DN G G':=by
  refine⟨fun j b hb=> ?_,Mem.le_refl _⟩
  by_cases hj:j=id
  .subst hj;rw[hidG]at hb;cases hb;exact⟨c',Qs hlt,hst⟩
  .exact⟨b,by show(G.H.set id c')[j]? =_;rw[RG (Ne.symm hj)];exact hb,A6.refl _ _ _⟩
 have hS:∀(j:Nat)(rs:List (Option (Nat×Nat×A5))),G'.H[j]? =some (.many rs)->G.H[j]? =some (.many rs):=fun j rs hb=>by
  rcases hget j _ hb with⟨_,e⟩|⟨_,h4⟩
  .have e:A2.many rs=A2.c _:=e;cases e
  .exact h4
 have hP:∀b,B8 G' b->B8 G b:=by
  rintro b ⟨j,N,blk,hb,hlv,hρ⟩;rcases hget j blk hb with⟨rfl,rfl⟩|⟨_,h4⟩
  .exact⟨j,N,_,hidG,rfl,hρ⟩
  .exact⟨j,N,blk,h4,hlv,hρ⟩
 have own:=Dr hS hP
 have rel:AD G' w:=by
  refine⟨fun j b hb=> ?_,fun i' j p q' b N N' hp hq lp lq r1 r2=> ?_,r.rel.mem,fun b hb k=>r.rel.sep b (own b hb) k,r.rel.st,r.rel.mny.of (fun b hb=>Ad r.rel (.inr hb)) hS (fun c hc=> .inl (hP c hc))⟩
  .rcases hget j b hb with⟨rfl,rfl⟩|⟨h3,h4⟩
   .obtain⟨b,N,vs,T,g1,g2,g3,g4,g6⟩:=r.rel.blk j _ hidG;refine⟨b,N,vs,T,g1,g2,g3,by rw[hcl];exact g4,fun k z hz=> ?_⟩;obtain⟨y,hy,hyz⟩:=hw k z hz;obtain⟨v,hv,hrv⟩:=g6 k _ hy;exact⟨v,hv,hyz _ _ (hrv.mono gle)⟩
   .exact(r.rel.blk j b h4).Gz gle (fun _ _ _ _=>rfl) rfl
  .have back:∀(j:Nat)(b:A2),G'.H[j]? =some b->b.live=true->∃b0:A2,G.H[j]? =some b0/\b0.live=true:=by
    intro j b hb hlv;rcases hget j b hb with⟨rfl,rfl⟩|⟨_,h4⟩
    .exact⟨_,hidG,rfl⟩
    .exact⟨b,h4,hlv⟩
   obtain⟨p0,e1,e2⟩:=back i' p hp lp;obtain⟨q0,e3,e4⟩:=back j q' hq lq;exact r.rel.inj i' j p0 q0 b N N' e1 e3 e2 e4 r1 r2
 have HV:IL G G':=by
  refine⟨fun j b b' hb hb'=> ?_,Mem.le_refl _,fun b hb=>own b hb,fun _ _ _ h=> .inl h⟩;obtain⟨b'',hb'',hs''⟩:=gle.blk j b hb;rw[hb']at hb'';cases hb'';exact hs''
 refine⟨G',⟨?_,rel,r.size,fun u z hz=> ?_,r.marks.HV HV,fun k hk=> ?_⟩,HV⟩
 .show G.H.set id c'=_;rw[r.heap]
 .obtain⟨v,hv,hrv⟩:=r.env u z hz;exact⟨v,hv,hrv.mono gle⟩
 .obtain⟨q',l,M,q1,q2⟩:=r.round k hk;rw[<-r.heap]at q1;have hne:k≠id:=fun e=>by subst e;rw[hidG]at q1;cases q1
  refine⟨q',l,M,?_,q2⟩;show(S.H.set id c')[k]? =_;rw[RG (Ne.symm hne),<-r.heap];exact q1
theorem A3.us{S:St}(id:Nat){cs:R8}(n:Nat)(hid:S.H[id]? =some (.c cs))(hn:n=cs.length):A3 S ⟨S.env,S.H.set id (.c (List.replicate n .u)),S.n⟩:=by
 subst hn;refine A3.cells id _ hid sm fun k x hx=> ?_
 obtain⟨h1,h2⟩:=Qh.1 hx;rw[List.getElem_replicate]at h2;subst h2;rw[List.length_replicate]at h1;exact⟨_,Qm h1,fun _ _ _=>by simp[RV]⟩
theorem Df.drop{P:Program}{f:FuncId}{args:R8}{H K:RE}{r:AV}(H':RE)(h:Df P f args H r K)(hs:B0 H' K)(ho:AM H'.length H'=true)(hr:r.ok H'.length=true)(hl:Nat.ble H.length H'.length=true):Df P f args H r H':=by
 refine⟨h.1,fun G w vs h1 h2 h3=>(h.2 G w vs h1 h2 h3).mono ?_⟩;rintro e w' ⟨v,x,G',rfl,⟨rfl,hK⟩,hv,hr',hfr⟩;have hs':B0 H' G'.H:=by rw[hK];exact hs
 exact⟨v,x,G'.cut H',rfl,⟨rfl,rfl⟩,hv.cut hs' hr,hr'.cut hs' ho,hfr.ghost (IL.cut hs') (by rw[h1];exact SH hl)⟩
end Go.Gar
