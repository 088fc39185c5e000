/- Part 5 of a proof. Conditions: those that its theorems state. -/
import Derived.Test.YtamjpnmjpponpaaGreatDoorC04
import Derived.Sort.Grow
import Derived.Laws.Cover3
import Derived.RecoverIn
set_option linter.unusedSimpArgs false
set_option linter.unusedVariables false
set_option linter.unnecessarySimpa false
set_option maxHeartbeats 40000000
set_option maxRecDepth 4000
namespace Go.Gar
def Ord(ops:yd):yo->BF->Prop
 |listed,[]=>Region.ready .any ops listed=[]
 |listed,j::r=>j∈Region.ready .any ops listed/\Ord ops (listed.setIfInBounds j true) r
section
variable {F:Fence}{n:Nat}{P:Program}{ops:yd}{Q:Exit->Act->World->Prop}
theorem Vn:∀{L:BF}{fuel:Nat}{listed:yo}{a:Act}{w:World},wpAnyIn F n P .any ops Q fuel listed a w->Ord ops listed L->wpOpsIn F n P ops Q L a w
 |[],0,_,_,_,h,_=>by simpa[wpOpsIn]using h.2
 |[],_+1,_,_,_,h,o=>by simpa[wpOpsIn]using h.1 o
 |j::r,0,_,_,_,h,o=>by
  have:=o.1;rw[h.1]at this;cases this
 |j::r,fuel+1,_,_,_,h,o=>by
  rw[wpOpsIn_cons];exact wpOpIn_mono (fun a w k=>Vn k o.2) (h.2 j o.1)
variable {listed:yo}
theorem count_set{i fuel:Nat}(hun:listed[i]? =some false)(hc:listed.toList.countP (fun b=> !b)<=fuel+1):(listed.setIfInBounds i true).toList.countP (fun b=> !b)<=fuel:=by
 obtain⟨hil,e⟩:=q03.1 hun;have hl:listed.toList[i]'(by simpa using hil)=false:=by simpa using e
 have:(listed.setIfInBounds i true).toList=listed.toList.set i true:=by simp
 rw[this,List.countP_set (by simpa using hil),hl];simp only[q1p,q0X,q1J,q0E,q0U];have hpos:0<listed.toList.countP (fun b=> !b):=List.countP_pos_iff.2 ⟨false,by rw[<-hl];exact q0q _,rfl⟩;have hc':List.countP (fun b=> !b) listed.toList<=fuel+1:=hc;omega
theorem rt:∀(fuel t:Nat)(listed:yo),listed.size=ops.size->listed.toList.countP (fun b=> !b)<=fuel->Ord ops listed (Region.linearise.go .any ops fuel t listed []):=by
 intro fuel
 induction fuel with
 |zero=>
  intro t listed hs hc;simp only[Region.linearise.go,List.reverse_nil,Ord]
  cases hr:Region.ready .any ops listed with
  |nil=>rfl
  |cons i l=>
   have:i∈Region.ready .any ops listed:=by rw[hr];simp
   rw[Db hs]at this;obtain⟨h1,_⟩:=this;obtain⟨hil,e⟩:=q03.1 h1;have h0:listed.toList.countP (fun b=> !b)=0:=om
   rw[List.countP_eq_zero]at h0;have:=h0 listed[i] sm;rw[e]at this;simp at this
 |succ fuel ih=>
  intro t listed hs hc;simp only[Region.linearise.go]
  change Ord ops listed (match(Region.ready .any ops listed)[t%(Region.ready .any ops listed).length]? with
   |some i=>Region.linearise.go .any ops fuel (t/(Region.ready .any ops listed).length) (listed.setIfInBounds i true) [i]
   |none=>[].reverse)
  cases hi:(Region.ready .any ops listed)[t%(Region.ready .any ops listed).length]? with
  |none=>
   show Region.ready .any ops listed=[]
   cases hr:Region.ready .any ops listed with
   |nil=>rfl
   |cons x xs=>
    rw[hr]at hi;have hlt:t%(x::xs).length<(x::xs).length:=Nat.mod_lt _ sm;simp at hi;simp at hlt;omega
  |some i=>
   simp only[];rw[linearise_go_acc,List.reverse_singleton,List.singleton_append];have hm:=q00 hi;refine⟨hm,ih _ _ (by simp[hs]) (count_set ((Db hs).1 hm).1 hc)⟩
def eOn(σ:Nat->Nat)(e:Edge):Edge:={e with on:=σ e.on}
def s8(σ:Nat->Nat)(x y j:Nat)(o:Oper):Oper:=
 {o with after:=(o.after.toList.map (eOn σ)++(if Nat.beq j x then[(⟨σ y,.data⟩:Edge)]else[])).toArray,guard:=o.guard.map fun g=>(σ g.1,g.2)}
def wW(σ τ:Nat->Nat)(x y:Nat)(l:yf):Nat->yf
 |0=>[]
 |p+1=>wW σ τ x y l p++(match l[τ p]? with|some o=>[s8 σ x y (τ p) o]|none=>[])
structure Perm (σ τ:Nat->Nat) (n:Nat):Prop where
 lt:∀j,j<n->σ j<n
 lt':∀j,j<n->τ j<n
 st:∀j,j<n->σ (τ j)=j
 ts:∀j,j<n->τ (σ j)=j
theorem YQ{σ τ:Nat->Nat}{x y:Nat}{l:yf}(p:Perm σ τ l.length):∀{m:Nat},m<=l.length->(wW σ τ x y l m).length=m/\∀q,q<m->∃o,l[τ q]? =some o/\(wW σ τ x y l m)[q]? =some (s8 σ x y (τ q) o):=by
 intro m
 induction m with
 |zero=>intro _;exact⟨rfl,fun q h=>om⟩
 |succ m ih=>
  intro hm;obtain⟨h1,h2⟩:=ih om;obtain⟨o1,ho⟩:∃o,l[τ m]? =some o:=⟨_,zV (p.lt' m om)⟩;refine⟨by simp only[wW,ho,q04,h1,q02,q0B],fun q hq=> ?_⟩;simp only[wW,ho];rcases q0C q m with hlt|hge
  .obtain⟨o,q1,q2⟩:=h2 q hlt;exact⟨o,q1,by rw[zy om];exact q2⟩
  .have:q=m:=om
   subst this;exact⟨_,ho,by rw[q05 om,h1];simp⟩
def QM(σ τ:Nat->Nat)(x y:Nat)(ops:yd):yd:=(wW σ τ x y ops.toList ops.toList.length).toArray
variable {σ τ:Nat->Nat}{x y:Nat}
theorem L9(p:Perm σ τ ops.size):(QM σ τ x y ops).size=ops.size:=by
 simp only[QM,q1l];rw[(YQ (x:=x) (y:=y) (l:=ops.toList) (by simpa using p) (zN _)).1];simp
variable {j:Nat}
theorem Vv(p:Perm σ τ ops.size){o:Oper}(h:ops[j]? =some o):(QM σ τ x y ops)[σ j]? =some (s8 σ x y j o):=by
 have hj:j<ops.size:=(q03.1 h).1;obtain⟨q,h1,h2⟩:=(YQ (x:=x) (y:=y) (l:=ops.toList) (by simpa using p) (zN _)).2 (σ j) (by simpa using p.lt j hj);rw[p.ts j hj]at h1 h2;have:q=o:=by simpa[h]using h1.symm
 subst this;simpa[QM]using h2
theorem im(p:Perm σ τ ops.size){o:Oper}(hg:∀g,o.guard=some g->g.1<ops.size)(tmps:yi):Region.wanted (s8 σ x y j o) (yielded (QM σ τ x y ops) tmps)=Region.wanted o (yielded ops tmps):=by
 unfold Region.wanted s8
 cases hgd:o.guard with
 |none=>simp
 |some g=>
  have hlt:=hg g hgd;obtain⟨q,hq⟩:∃q,ops[g.1]? =some q:=⟨ops[g.1],q0g hlt⟩;have h1:(QM σ τ x y ops)[σ g.1]? =some (s8 σ x y g.1 q):=Vv p hq;simp only[Option.map_some];show(yielded (QM σ τ x y ops) tmps (σ g.1)==some g.2)=_;unfold yielded;rw[h1,hq];rfl
theorem aZ(p:Perm σ τ ops.size)(hg:∀(j:Nat)(o:Oper) g,ops[j]? =some o->o.guard=some g->g.1<ops.size):∀{L:BF}{a:Act}{w:World},(∀j∈L,j<ops.size)->wpOpsIn F n P (QM σ τ x y ops) Q (L.map σ) a w->wpOpsIn F n P ops Q L a w
 |[],a,w,_,h=>h
 |j::r,a,w,hL,h=>by
  have hj:=hL j sm;obtain⟨o,ho⟩:∃o,ops[j]? =some o:=⟨_,q0g hj⟩;have ih:∀a w,wpOpsIn F n P (QM σ τ x y ops) Q (r.map σ) a w->wpOpsIn F n P ops Q r a w:=fun a w=>aZ p hg (fun j hj=>hL j (by simp[hj]))
  rw[List.map_cons,wpOpsIn_cons]at h;rw[wpOpsIn_cons];refine wpOpIn_mono ih ?_;unfold wpOpIn at h|-;rw[Vv p ho]at h;rw[ho];simp only at h|-;rw[im p (hg j o · ho)]at h;exact h
theorem I7(p:Perm σ τ ops.size)(hb:∀(j:Nat)(o:Oper),ops[j]? =some o->∀e∈o.after,Region.binds .any e=true->e.on<ops.size)(hy:y<ops.size){listed':yo}(hs:listed.size=ops.size)(hs':listed'.size=ops.size)(hl:∀j,j<ops.size->listed'[σ j]? =listed[j]?)(hj:j<ops.size):
  (j∈Region.ready .any ops listed->(j=x->listed[y]? =some true)->σ j∈Region.ready .any (QM σ τ x y ops) listed')/\(σ j∈Region.ready .any (QM σ τ x y ops) listed'->j∈Region.ready .any ops listed):=by
 have hsz:=L9 (x:=x) (y:=y) p;obtain⟨o,ho⟩:∃o,ops[j]? =some o:=⟨_,q0g hj⟩;have ho':(QM σ τ x y ops)[σ j]? =some (s8 σ x y j o):=Vv p ho;rw[Db hs,Db (by rw[hs',hsz])];constructor
 .rintro⟨h1,o2,h2,h3⟩ hx;rw[ho]at h2;cases h2;refine⟨by rw[hl j hj];exact h1,_,ho',fun e he hbe=> ?_⟩;simp only[s8,List.mem_toArray,q0W,q1L]at he;rcases he with⟨e0,h0,rfl⟩|he
  .have hb0:Region.binds .any e0=true:=hbe;have h0':e0∈o.after:=by simpa using h0
   show listed'[σ e0.on]? =some true;rw[hl _ (hb j o ho e0 h0' hb0)];exact h3 e0 h0' hb0
  .split at he
   .rename_i hjx;simp only[q0e]at he;subst he;show listed'[σ y]? =some true;rw[hl _ hy];exact hx (zk hjx)
   .cases he
 .rintro⟨h1,o2,h2,h3⟩;rw[ho']at h2;cases h2;refine⟨by rw[<-hl j hj];exact h1,o,ho,fun e he hbe=> ?_⟩;rw[<-hl _ (hb j o ho e he hbe)];exact h3 (eOn σ e) (by simp only[s8,List.mem_toArray,q0W,q1L];exact .inl ⟨e,by simpa using he,rfl⟩) hbe
theorem na(p:Perm σ τ ops.size)(hb:∀(j:Nat)(o:Oper),ops[j]? =some o->∀e∈o.after,Region.binds .any e=true->e.on<ops.size)(hy:y<ops.size):∀{L:BF}{listed listed':yo},listed.size=ops.size->listed'.size=ops.size->
  (∀j,j<ops.size->listed'[σ j]? =listed[j]?)->(listed[x]? =some true\/listed[y]? =some true)->Ord ops listed L->Ord (QM σ τ x y ops) listed' (L.map σ):=by
 have hsz:=L9 (x:=x) (y:=y) p;intro L
 induction L with
 |nil=>
  intro listed listed' hs hs' hl hxy h;show Region.ready .any (QM σ τ x y ops) listed'=[]
  cases hr:Region.ready .any (QM σ τ x y ops) listed' with
  |nil=>rfl
  |cons i l=>
   have hi:i∈Region.ready .any (QM σ τ x y ops) listed':=by rw[hr];simp
   have hlt:i<ops.size:=by
    obtain⟨_,o,h2,_⟩:=(Db (by rw[hs',hsz])).1 hi;have:=(q03.1 h2).1;omega
   have:=(I7 (x:=x) p hb hy hs hs' hl (p.lt' i hlt)).2 (by rw[p.st i hlt];exact hi);rw[show Region.ready .any ops listed=[]from h]at this;cases this
 |cons j r ih=>
  intro listed listed' hs hs' hl hxy h
  have hj:j<ops.size:=by
   obtain⟨_,o,h2,_⟩:=(Db hs).1 h.1;exact(q03.1 h2).1
  have hun:=((Db hs).1 h.1).1;refine⟨(I7 (x:=x) p hb hy hs hs' hl hj).1 h.1 fun e=> ?_,ih (by simp[hs]) (by simp[hs']) (fun i hi=> ?_) ?_ h.2⟩
  .subst e;rcases hxy with h'|h'
   .rw[hun]at h';cases h'
   .exact h'
  .by_cases e:i=j
   .subst e;rw[q0K (by rw[hs'];exact p.lt i hi),q0K (by rw[hs];exact hi)]
   .have e':σ j≠σ i:=fun h=>e (by rw[<-p.ts i hi,<-h,p.ts j hj]);rw[q0S e',q0S (Ne.symm e)]
    exact hl i hi
  .rw[Fy (by rw[hs];exact hj),Fy (by rw[hs];exact hj)];exact hxy.imp .inr .inr
variable {σ' τ':Nat->Nat}
theorem ru(p:Perm σ τ ops.size)(p':Perm σ' τ' ops.size)(hb:∀(j:Nat)(o:Oper),ops[j]? =some o->∀e∈o.after,Region.binds .any e=true->e.on<ops.size)(hx:x<ops.size)(hy:y<ops.size)(hxy:x≠y):
  ∀{L:BF}{listed l1 l2:yo},listed.size=ops.size->l1.size=ops.size->l2.size=ops.size->(∀j,j<ops.size->l1[σ j]? =listed[j]?)->(∀j,j<ops.size->l2[σ' j]? =listed[j]?)->Ord ops listed L->
  Ord (QM σ τ x y ops) l1 (L.map σ)\/Ord (QM σ' τ' y x ops) l2 (L.map σ'):=by
 intro L
 induction L with
 |nil=>
  intro listed l1 l2 hs hs1 hs2 e1 e2 h;left;have hsz:=L9 (x:=x) (y:=y) p;show Region.ready .any (QM σ τ x y ops) l1=[]
  cases hr:Region.ready .any (QM σ τ x y ops) l1 with
  |nil=>rfl
  |cons i l=>
   have hi:i∈Region.ready .any (QM σ τ x y ops) l1:=by rw[hr];simp
   have hlt:i<ops.size:=by
    obtain⟨_,o,h2,_⟩:=(Db (by rw[hs1,hsz])).1 hi;have:=(q03.1 h2).1;omega
   have:=(I7 (x:=x) p hb hy hs hs1 e1 (p.lt' i hlt)).2 (by rw[p.st i hlt];exact hi);rw[show Region.ready .any ops listed=[]from h]at this;cases this
 |cons j r ih=>
  intro listed l1 l2 hs hs1 hs2 e1 e2 h
  have hj:j<ops.size:=by
   obtain⟨_,o,h2,_⟩:=(Db hs).1 h.1;exact(q03.1 h2).1
  have up:∀{σ τ:Nat->Nat}(_:Perm σ τ ops.size){l1:yo},l1.size=ops.size->(∀j,j<ops.size->l1[σ j]? =listed[j]?)->∀i,i<ops.size->(l1.setIfInBounds (σ j) true)[σ i]? =(listed.setIfInBounds j true)[i]?:=by
   intro σ τ p l1 hs1 e1 i hi
   by_cases e:i=j
   .subst e;rw[q0K (by rw[hs1];exact p.lt i hi),q0K (by rw[hs];exact hi)]
   .have e':σ j≠σ i:=fun h=>e (by rw[<-p.ts i hi,<-h,p.ts j hj]);rw[q0S e',q0S (Ne.symm e)]
    exact e1 i hi
  by_cases hjy:j=y
  .subst hjy;left;exact⟨(I7 (x:=x) p hb hy hs hs1 e1 hj).1 h.1 fun e=>absurd e.symm hxy,na (x:=x) p hb hy (by simp[hs]) (by simp[hs1]) (up p hs1 e1) (.inr ((Fy (by rw[hs];exact hj)).2 (.inl rfl))) h.2⟩
  .by_cases hjx:j=x
   .subst hjx;right;exact⟨(I7 (x:=y) p' hb hx hs hs2 e2 hj).1 h.1 fun e=>absurd e hxy,na (x:=y) p' hb hx (by simp[hs]) (by simp[hs2]) (up p' hs2 e2) (.inr ((Fy (by rw[hs];exact hj)).2 (.inl rfl))) h.2⟩
   .rcases ih (by simp[hs]) (by simp[hs1]) (by simp[hs2]) (up p hs1 e1) (up p' hs2 e2) h.2 with k|k
    .exact .inl ⟨(I7 (x:=x) p hb hy hs hs1 e1 hj).1 h.1 fun e=>absurd e hjx,k⟩
    .exact .inr ⟨(I7 (x:=y) p' hb hx hs hs2 e2 hj).1 h.1 fun e=>absurd e hjy,k⟩
theorem ab:∀{L:BF}{listed:yo},Ord ops listed L->∀j∈L,j<ops.size
 |[],_,_,j,hj=>by cases hj
 |i::r,listed,h,j,hj=>by
  rcases q0O.1 hj with rfl|hj
  .obtain⟨_,o,ho,_⟩:=mem_ready.1 h.1;exact(q03.1 ho).1
  .exact ab h.2 j hj
theorem ap{id:Nat}{a:Act}{w:World}(hm:P.follows .mixedOrders=true)(p:Perm σ τ ops.size)(p':Perm σ' τ' ops.size)(hb:∀(j:Nat)(o:Oper),ops[j]? =some o->(∀e∈o.after,Region.binds .any e=true->e.on<ops.size)/\∀g,o.guard=some g->g.1<ops.size)(hx:x<ops.size)(hy:y<ops.size)(hxy:x≠y)(h1:wpAnyIn F n P .any (QM σ τ x y ops) Q ops.size (Array.replicate ops.size false) a {w with drawn:=w.drawn+1})(h2:wpAnyIn F n P .any (QM σ' τ' y x ops) Q ops.size (Array.replicate ops.size false) a {w with drawn:=w.drawn+1}):(Code.region id ops true).wpIn F n P Q a w:=by
 refine wpIn_region_draw fun t=> ?_;simp only[Region.schedule,hm,Bool.true_or,q0X,Region.linearise]
 have ho:=rt (ops:=ops) ops.size t (Array.replicate ops.size false) sm (by simp[List.countP_replicate])
 have hr:∀{σ τ:Nat->Nat}(_:Perm σ τ ops.size),∀j,j<ops.size->(Array.replicate ops.size false)[σ j]? =(Array.replicate ops.size false)[j]?:=by
  intro σ τ p j hj;rw[Array.getElem?_replicate,Array.getElem?_replicate,zn hj,zn (p.lt j hj)]
 rcases ru p p' (fun j o h=>(hb j o h).1) hx hy hxy sm sm sm (hr p) (hr p') ho with k|k
 .exact aZ p (fun j o g h=>(hb j o h).2 g) (ab ho) (Vn h1 k)
 .exact aZ p' (fun j o g h=>(hb j o h).2 g) (ab ho) (Vn h2 k)
end
end Go.Gar
namespace Go.Gar
mutual
theorem AV.T7{ι:Nat->Nat}{k:Nat}(h:∀i,i<k->ι i=i):∀{x:AV},x.ok k=true->x.ren ι=x
 | .d _,_| .u,_| .e0,_| .dp _,_=>rfl
 | .ptr id _ _,o| .sl id _ _,o| .bs id _ _ _ _,o| .ep id _ _ _ _,o| .yl id,o| .mp id,o=>by simp only[AV.ok,q1D]at o;simp only[AV.ren,h id o]
 | .ag _,o| .tup _,o=>by simp only[AV.ok]at o;simp only[AV.ren,AV.O1 h o]
 | .fn f a b,o=>by simp only[AV.ok,zO]at o;simp only[AV.ren,AV.O1 h o.1,AV.O1 h o.2]
theorem AV.O1{ι:Nat->Nat}{k:Nat}(h:∀i,i<k->ι i=i):∀{xs:yr},AV.oks k xs=true->AV.E2 ι xs=xs
 |[],_=>rfl
 |x::r,o=>by simp only[AV.oks,zO]at o;simp only[AV.E2,AV.T7 h o.1,AV.O1 h o.2]
end
theorem e8{ι:Nat->Nat}{k:Nat}(h:∀i,i<k->ι i=i):∀{e:yv},Ey k e=true->L6 ι e=e
 |[],_=>rfl
 |p::r,o=>by
  simp only[Ey,zO]at o;simp only[L6,AV.T7 h o.1,e8 h o.2]
theorem e9{ι:Nat->Nat}{k:Nat}(h:∀i,i<k->ι i=i):∀{e:z7},mapOk k e=true->iI ι e=e
 |[],_=>rfl
 |p::r,o=>by
  simp only[mapOk,zO]at o;simp only[iI,AV.T7 h o.1,e9 h o.2]
variable {k:Nat}
theorem AM.T7{ι:Nat->Nat}(h:∀i,i<k->ι i=i):∀{b:AM},b.ok k=true->b.ren ι=b
 | .gone,_| .a _,_| .Oh _ _ _,_| .many _,_=>rfl
 | .c cs,o=>by simp only[AM.ren,AV.O1 h (show AV.oks k cs=true from o)]
 | .m es,o=>by simp only[AM.ren,e9 h (show mapOk k es=true from o)]
 | .lp r,o=>by simp only[AM.ren,e8 h (show Ey k r.env=true from o)]
def sw(a b j:Nat):Nat:=if Nat.beq j a then b else if Nat.beq j b then a else j
theorem ID(a b j:Nat):sw a b (sw a b j)=j:=by
 simp only[sw,PM,zW];split<;>split<;>(try split)<;>omega
variable {a b:Nat}
theorem tS{j:Nat}(ha:a<k)(hb:b<k)(hj:j<k):sw a b j<k:=by
 simp only[sw];split
 .exact hb
 .split
  .exact ha
  .exact hj
theorem vW{j:Nat}(ha:k<=a)(hb:k<=b)(hj:j<k):sw a b j=j:=by
 simp only[sw,PM,zW];rw[zx om,zx om]
def tR(H:z6)(a b:Nat):Nat->z6
 |0=>[]
 |m+1=>tR H a b m++(match H[sw a b m]? with|some x=>[x.ren (sw a b)]|none=>[])
def Z1(a b:Nat)(H:z6):z6:=tR H a b H.length
def oY(a b:Nat)(S:St):St:=⟨L6 (sw a b) S.env,Z1 a b S.H,S.n⟩
theorem sQ{H:z6}(ha:a<H.length)(hb:b<H.length):∀{m:Nat},m<=H.length->(tR H a b m).length=m/\∀i,i<m->(tR H a b m)[i]? =H[sw a b i]?.map (AM.ren (sw a b)):=by
 intro m
 induction m with
 |zero=>intro _;exact⟨rfl,fun i h=>om⟩
 |succ m ih=>
  intro hm;obtain⟨h1,h2⟩:=ih om;obtain⟨x,hx⟩:∃x,H[sw a b m]? =some x:=⟨_,zV (tS ha hb om)⟩;refine⟨by simp only[tR,hx,q04,h1,q02,q0B],fun i hi=> ?_⟩;simp only[tR,hx];rcases q0C i m with hlt|hge
  .rw[zy om];exact h2 i hlt
  .have:i=m:=om
   subst this;rw[q05 om,h1,hx];simp
theorem O8{H:z6}(ha:a<H.length)(hb:b<H.length)(i:Nat):(Z1 a b H)[i]? =H[sw a b i]?.map (AM.ren (sw a b)):=by
 obtain⟨h1,h2⟩:=sQ ha hb (zN H.length);rcases q0C i H.length with hlt|hge
 .exact h2 i hlt
 .rw[Z1,q17 om,q17,Option.map_none];have e:=ID a b i;rcases q0C (sw a b i) H.length with h|h
  .have:=tS ha hb h;rw[e]at this;omega
  .exact h
theorem y7{ro:yb}{N:NB}{S:St}{G G':Gh}{a:Act}{w w':World}{p q:Nat}(r:Rel ro N S G' a w')(hf:D5 G w G' w')(hk:G.H.length=k)(ho:Bj k G.H=true)(hr:∀id,ro=some id->id<k)(h1:k<=p)(h2:k<=q)(h3:p<S.H.length)(h4:q<S.H.length):
  ∃G'',Rel ro N (oY p q S) G'' a w'/\D5 G w G'' w':=by
 have e3:p<G'.H.length:=by rw[r.heap];exact h3
 have e4:q<G'.H.length:=by rw[r.heap];exact h4
 let K:Gh:=⟨fun j=>G'.ρ (sw p q j),Z1 p q G'.H,G'.m⟩
 have up:∀id b,G'.H[id]? =some b->K.H[sw p q id]? =some (b.ren (sw p q))/\K.ρ (sw p q id)=G'.ρ id:=by
  intro id b hb;refine⟨?_,by show G'.ρ (sw p q (sw p q id))=_;rw[ID]⟩;show(Z1 p q G'.H)[sw p q id]? =_;rw[O8 e3 e4,ID,hb];rfl
 have dn:∀j b,K.H[j]? =some b->∃b0,G'.H[sw p q j]? =some b0/\b=b0.ren (sw p q):=by
  intro j b hb;have hb:(Z1 p q G'.H)[j]? =some b:=hb;rw[O8 e3 e4,q0F]at hb;obtain⟨b0,k1,k2⟩:=hb;exact⟨b0,k1,k2.symm⟩
 have dnS:∀(j:Nat)(rs:List (Option (Nat×Nat×AL))),K.H[j]? =some (.many rs)->G'.H[sw p q j]? =some (.many rs):=fun j rs hb=>by
  obtain⟨b0,k1,k2⟩:=dn j _ hb;cases b0<;>simp only[AM.ren,reduceCtorEq,AM.many.injEq]at k2;subst k2;exact k1
 have ownP:∀b,Dw K b->Dw G' b:=by
  rintro b ⟨id,M,blk,h1,h2,h3⟩;obtain⟨b0,k1,rfl⟩:=dn id blk h1;rw[DO]at h2;exact⟨sw p q id,M,b0,k1,h2,h3⟩
 have own:∀b,Own K b->Own G' b:=fun b h=>h.imp (ownP b) fun⟨id,rs,h1,h2⟩=>⟨sw p q id,rs,dnS id rs h1,h2⟩;have low:∀i,i<k->sw p q i=i:=fun i hi=>vW h1 h2 hi
 refine⟨K,⟨?_,⟨fun j b hb=> ?_,fun i j x y b M M' hx hy lx ly r1 r2=> ?_,r.rel.mem,fun b hb=>r.rel.sep b (own b hb),r.rel.st,fun j rs hj=>⟨(r.rel.mny _ rs (dnS j rs hj)).1,fun b hb=>⟨fun h=>((r.rel.mny _ rs (dnS j rs hj)).2 b hb).1 (ownP b h),fun j' rs' hj' hb'=>by
  have:=((r.rel.mny _ rs (dnS j rs hj)).2 b hb).2 _ rs' (dnS j' rs' hj') hb'
  rw[<-ID p q j',this,ID]⟩⟩⟩,r.size,fun t x hx=> ?_,?_,fun id hid=> ?_⟩,⟨hf.os,hf.tape,hf.output,hf.size,fun b hb hno=> ?_,hf.memNew,fun id b hb=> ?_,hf.gle.mem⟩⟩
 .show Z1 p q G'.H=Z1 p q S.H;rw[r.heap]
 .obtain⟨b0,k1,rfl⟩:=dn j b hb;have:=BR.ren (G0:=G') (G:=K) (ι:=sw p q) (Mem.le_refl _) up (up _ _ k1).2 (r.rel.blk _ _ k1);rw[ID]at this;exact this
 .obtain⟨x0,k1,rfl⟩:=dn i x hx;obtain⟨y0,k2,rfl⟩:=dn j y hy;rw[DO]at lx ly;have:=r.rel.inj _ _ _ _ b M M' k1 k2 lx ly r1 r2;rw[<-ID p q i,this,ID]
 .have hx:get (L6 (sw p q) S.env) t=some x:=hx;rw[JH,q0F]at hx;obtain⟨z,hz,rfl⟩:=hx;obtain⟨v,hv,hrv⟩:=r.env t z hz;exact⟨v,hv,RV.ren (G0:=G') (G:=K) (ι:=sw p q) (Mem.le_refl _) up hrv⟩
 .obtain⟨m0,ms,m1,m2,m3⟩:=r.marks;exact⟨m0,ms,m1,m2,fun i hi=>⟨(m3 i hi).1,(m3 i hi).2.1,fun h=>(m3 i hi).2.2 (own _ h)⟩⟩
 .obtain⟨l,M,m,c1,c2⟩:=r.round id hid;have hlow:=low id (hr id hid)
  have c3:(Z1 p q S.H)[id]? =some ((AM.lp l).ren (sw p q)):=by
   rw[O8 h3 h4,hlow,c1];rfl
  exact⟨_,M,m,c3,by show G'.ρ (sw p q id)=_;rw[hlow];exact c2⟩
 .obtain⟨f1,f2⟩:=hf.keep b hb hno;exact⟨f1,fun h=>f2 (own b h)⟩
 .obtain⟨b',hb',hs⟩:=hf.gle.blk id b hb;have hid:id<k:=by rw[<-hk];exact(zS.1 hb).1
  obtain⟨u1,u2⟩:=up id b' hb';rw[low id hid]at u1 u2;refine⟨_,u1,?_⟩;have:=hs.ren (G:=G) (G':=K) (ι:=sw p q) (j:=id) rfl u2;rwa [AM.T7 low (Mk ho hb)]at this
section
variable {P:Program}{ro:yb}{ops:yd}{S0 S:St}{Q:Exit->St->Prop}{E:Nat->Option Bv}{acc:List Rc}{rest:yf}{o:Oper}{en:yv}{hp:z6}{nt:Nat}
def Qw(Q:Exit->St->Prop):Exit->St->Prop:=fun e S'=>∃env,(∀t x,get env t=some x->get S'.env t=some x)/\Q e ⟨env,S'.H,S'.n⟩
theorem Yn2(live:BF){e:yv}(l:yW)(hE:Ce P E)(hd:Kp ops (acc.reverse.map Rc.k) l=true)(hx:Dk E ops acc.reverse hp l)(he:F5 live en=some e)(hQ:Q .normal ⟨e,hp,nt⟩):Wd P ro E ops S0 (RH P ro ops S0 (Qw Q)) acc [] ⟨en,hp,nt⟩:=by
 have:=Cy he;subst this;intro Sr ht hH hn he' hr;refine RI hE ht hd (by rw[hH];exact hx) ⟨FH live en,fun t x hx=>he' t x (Le hx).2,?_⟩;rw[hH,hn];exact hQ
def wa(i k j:Nat):Nat:=if Nat.beq j k then i else if Nat.ble i j&&Nat.blt j k then j+1 else j
def wR(i k j:Nat):Nat:=if Nat.beq j i then k else if Nat.blt i j&&Nat.ble j k then j-1 else j
def Yl(i k:Nat)(ops:yd):yd:=QM id id k i ops
def Ym(i k:Nat)(ops:yd):yd:=QM (wa i k) (wR i k) i k ops
def Qa(ops:yd):Bool:=ops.toList.all fun o=>o.after.toList.all (fun e=>Nat.blt e.on ops.toList.length)&&(match o.guard with|some g=>Nat.blt g.1 ops.toList.length|none=>true)
theorem dr(n:Nat):Perm id id n:=⟨fun _ h=>h,fun _ h=>h,fun _ _=>rfl,fun _ _=>rfl⟩
theorem ry{i k n:Nat}(hik:i<k)(hk:k<n):Perm (wa i k) (wR i k) n:=by
 constructor
 .intro j hj;simp only[wa,PM,zW,zO,Nat.ble_eq,q1D];split<;>(try split)<;>omega
 .intro j hj;simp only[wR,PM,zW,zO,Nat.ble_eq,q1D];split<;>(try split)<;>omega
 .intro j hj;simp only[wa,wR,PM,zW,zO,Nat.ble_eq,q1D]
  repeat' split
  all_goals omega
 .intro j hj;simp only[wa,wR,PM,zW,zO,Nat.ble_eq,q1D]
  repeat' split
  all_goals omega
def Qb(a b:Nat)(S1:St):Exit->St->Prop:=fun e S'=>e= .normal/\(S'=S1\/oY a b S'=S1)
theorem x9{id:Nat}(i k a b:Nat){S1:St}(hm:P.follows .mixedOrders=true)(hik:(Nat.blt i k&&Nat.blt k ops.toList.length&&Qa ops)=true)(ho:Bj S.H.length S.H=true)
  (hab:(Nat.ble S.H.length a&&Nat.ble S.H.length b&&Nat.blt a S1.H.length&&Nat.blt b S1.H.length)=true)
  (h1:RH P ro (Yl i k ops) S (Qw (Qb a b S1))) (h2:RH P ro (Ym i k ops) S (Qw (Qb a b S1))) (hQ:Q .normal S1):W P ro (.region id ops true) S Q:=by
 simp only[zO,q1D,q0x]at hik;simp only[zO,q1D,Nat.ble_eq]at hab;obtain⟨⟨hlt,hk⟩,hed⟩:=hik;have hp':Perm (wa i k) (wR i k) ops.size:=ry hlt hk
 have hb:∀(j:Nat)(o:Oper),ops[j]? =some o->(∀e∈o.after,Region.binds .any e=true->e.on<ops.size)/\∀g,o.guard=some g->g.1<ops.size:=by
  intro j o ho;unfold Qa at hed;rw[q0T]at hed;have:=hed o (by rw[Array.mem_toList_iff];exact Array.mem_of_getElem? ho);simp only[zO,q0T,q1D,q0x]at this;refine⟨fun e he _=>this.1 e (by simpa using he),fun g hg=> ?_⟩;have h2:=this.2;rw[hg]at h2;simpa[q1D]using h2
 intro N G act w r;have a1:=h1 N G act w r;have a2:=h2 N G act w r;rw[Yl,L9 (dr _)]at a1;rw[Ym,L9 hp']at a2;refine q1d (ap (id:=id) hm (dr _) hp' hb hk om om a1 a2) ?_;rintro e a' w' ⟨S',G',⟨env,hs,rfl,hS⟩,r',hf⟩;have r2:=r'.ZW hs;rcases hS with rfl|rfl
 .exact⟨_,G',hQ,r2,hf⟩
 .have hl:∀H:z6,(Z1 a b H).length=H.length->(oY a b ⟨env,H,S'.n⟩).H.length=H.length:=fun H h=>h
  have hlen:(Z1 a b S'.H).length<=S'.H.length:=by
   have:∀m,(tR S'.H a b m).length<=m:=by
    intro m
    induction m with
    |zero=>exact zN _
    |succ m ih=>
     simp only[tR,q04];split<;>simp<;>omega
   exact this _
  have c1:a<S'.H.length:=by have:=hab.1.2;simp only[oY]at this;omega
  have c2:b<S'.H.length:=by have:=hab.2;simp only[oY]at this;omega
  obtain⟨G'',q1,q2⟩:=y7 (k:=S.H.length) r2 hf (by rw[r.heap]) (by rw[r.heap];exact ho) r.UU hab.1.1.1 hab.1.1.2 c1 c2;exact⟨_,G'',hQ,q1,q2⟩
theorem Hn{id:Nat}(E:Nat->Option Bv)(i k a b:Nat)(S1:St)(hm:P.follows .mixedOrders=true)(hik:(Nat.blt i k&&Nat.blt k ops.toList.length&&Qa ops)=true)(ho:Bj S.H.length S.H=true)
  (hab:(Nat.ble S.H.length a&&Nat.ble S.H.length b&&Nat.blt a S1.H.length&&Nat.blt b S1.H.length)=true)
  (h1:Wd P ro E (Yl i k ops) S (RH P ro (Yl i k ops) S (Qw (Qb a b S1))) [] (Yl i k ops).toList S)
  (h2:Wd P ro E (Ym i k ops) S (RH P ro (Ym i k ops) S (Qw (Qb a b S1))) [] (Ym i k ops).toList S) (hQ:Q .normal S1):W P ro (.region id ops true) S Q:=
 x9 i k a b hm hik ho hab (h1 S .nil rfl rfl (fun _ _ h=>h) (fun k=>sm)) (h2 S .nil rfl rfl (fun _ _ h=>h) (fun k=>sm)) hQ
end
end Go.Gar
namespace Go.Gar
def Rt(env:yv)(op:Op):yz:=
 match op with
 | .binOp op _ p q _=>match EY env p,EY env q with
  |some (.d (.i k a)),some (.d (.i k' b))=>match op with
   | .add=>some (decide (k=k'),.d (.i k (k.wrap (a+b))))
   | .sub=>some (decide (k=k'),.d (.i k (k.wrap (a-b))))
   | .mul=>some (decide (k=k'),.d (.i k (k.wrap (a*b))))
   |_=>none
  |_,_=>none
 |_=>none
variable {P:Program}
theorem fv{S:St}{o:Oper}{x:AV}{c:Bool}(h:Rt S.env o.op=some (c,x))(hc:c=true):Ez P o S x S.H:=by
 subst hc;obtain⟨dst,op,ty,pos,after,guard⟩:=o;simp only at h;unfold Rt at h;split at h
 .rename_i op t p q yt;split at h
  .rename_i k a k' b hy hz
   have key:∀{op':BinOp}{n:Int},op=op'->(∀(w:World),(binOp op' t (.int k a) (.int k b)).run P w= .ok (.int k n) w)->(∃r,fH op' (.i k a) (.i k' b)=some r)->k=k'->x= .d (.i k n)->Ez P ⟨dst,.binOp op t p q yt,ty,pos,after,guard⟩ S x S.H:=by
    rintro op' n rfl hrun ⟨r0,hb⟩ rfl rfl;refine .of_run (f:=fun a=>do eqGuard op t p q (a.eval p) (a.eval q);binOp op t (a.eval p) (a.eval q)) (fun _=>rfl) fun ro N G a w r=> ?_
    have hp:=BE r.rel.st r.env hy;have hq:=BE r.rel.st r.env hz;simp only[RV]at hp hq;have hg:=IX (P:=P) (op:=op) (t:=t) (x:=p) (y:=q) (v:=a.eval p) (u:=a.eval q) (w:=w) (.inl (WV (RS hb) hp));simp only[RD]at hp hq;refine⟨.int k n,?_,by simp[RV,RD]⟩;simp only[q07,hg,zl];rw[hp,hq];exact hrun w
   split at h
   .simp only[zf,zu,zW]at h;exact key rfl (fun w=>by simp[binOp,Op.intArith]) ⟨_,rfl⟩ h.1 h.2.symm
   .simp only[zf,zu,zW]at h;exact key rfl (fun w=>by simp[binOp,Op.intArith]) ⟨_,rfl⟩ h.1 h.2.symm
   .simp only[zf,zu,zW]at h;exact key rfl (fun w=>by simp[binOp,Op.intArith]) ⟨_,rfl⟩ h.1 h.2.symm
   .cases h
  .cases h
 .cases h
variable {env:yv}
theorem Ru{op:Op}{r:Bool×AV}(h:Rt env op=some r):∀c,op≠ .defer c:=fun c e=>by subst e;cases h
def Zg(E:Nat->Option Bv)(env:yv)(H:z6)(op:Op):Option (Bool×z6):=
 match op with
 | .store t a x=>match E t,EY env a,EY env x with
  |some y,some (.ep id i off n sz),some (.d (.i k m))=>match H[id]? with
   |some (.a (.by l))=>match setH id (.a (.by (l.set i (UInt8.ofNat m.toNat)))) H with
    |some H'=>some (Nat.beq n l.length&&decide (i<n)&&Nat.beq y.size 1&&Nat.beq off 0&&Nat.beq sz 1&&decide (k= .u8)&&decide (0<=m)&&decide (m<256),H')
    |none=>none
   |_=>none
  |_,_,_=>none
 |_=>none
theorem bE{α:Type}(l:List α)(i:Nat)(x:α)(h:i<l.length):l.take i++[x]++l.drop (i+1)=l.set i x:=by
 rw[List.set_eq_take_append_cons_drop,zn h];simp
variable {E:Nat->Option Bv}
theorem cP(hE:Ce P E){S:St}{o:Oper}{c:Bool}{H':z6}(h:Zg E S.env S.H o.op=some (c,H'))(hc:c=true):Ez P o S .u H':=by
 subst hc;unfold Zg at h;split at h
 .rename_i t a x ho;split at h
  .rename_i y id i off n sz k m hy' ha hx;split at h
   .rename_i l hl;split at h
    .rename_i q hq;simp only[zf,zu,zO,zW]at h;obtain⟨⟨⟨⟨⟨⟨⟨⟨hn,hi⟩,hsz⟩,hoff⟩,hsz1⟩,rfl⟩,hm0⟩,hm1⟩,rfl⟩:=h;have hn:=zk hn;have hsz:=zk hsz;have hoff:=zk hoff;have hsz1:=zk hsz1;subst hn;subst hoff;subst hsz1;obtain⟨hid,rfl⟩:=Ik hq;have hy:=hE t y hy';intro ro N G act w r;have hl':G.H[id]? =some (.a (.by l)):=by rw[r.heap];exact hl
     have hva:=BE r.rel.st r.env ha;have hvx:=BE r.rel.st r.env hx;simp only[RV,RD]at hva hvx;obtain⟨_,blk,hb,hp⟩:=hva;rw[hl']at hb;cases hb;obtain⟨_,_,hp⟩:=hp;obtain⟨b,M,hρ,hva⟩:=hp rfl;obtain⟨_,_,hB⟩:=r.rel.blk id _ hl';rcases hB with⟨h0,hno⟩|⟨b',M',vs,T,hρ',hw,hM,hcell⟩
     .rw[hρ]at hno;cases hno
     rw[hρ]at hρ';cases hρ';have hlen:(slc (.by l)).length=l.length:=by simp[slc]
     have hvl:l.length<=vs.size:=by
      rcases q1F l.length with h0|h0
      .omega
      .obtain⟨v,hv,_⟩:=hcell (l.length-1) _ (zV (by rw[hlen];omega));have:=(q03.1 hv).1;omega
     have hst:=run_storeCells_at P b i T [.int .u8 m] 0 vs w hw (by simp;omega) (by simp[Value.oneCell']);simp only[q1R]at hst;have hmm:(UInt8.ofNat m.toNat).toNat=m.toNat:=by rw[UInt8.toNat_ofNat'];omega
     obtain⟨r1,r2⟩:=Mt r.rel (cur:=(vs.toList.take i++[Value.int .u8 m]++vs.toList.drop (i+1)).toArray) hl' rfl (q:=.a (.by (l.set i (UInt8.ofNat m.toNat)))) rfl hρ (by simp[Av,Gh.put,BP,CC]) (by
      refine⟨rfl,trivial,.inr ⟨b,M,_,T,hρ,setRow_heap w b vs _ T _ hw,by simp;omega,fun j z hz=> ?_⟩⟩
      have e:slc (.by (l.set i (UInt8.ofNat m.toNat)))=(slc (.by l)).take i++[D.i .u8 m]++(slc (.by l)).drop (i+1):=by
       rw[bE _ _ _ (by rw[hlen];exact hi)];simp only[slc,List.map_set,hmm]
       congr 2;omega
      rw[e]at hz
      obtain⟨v,hv,hrv⟩:=KC (R:=fun d v=>v.oneCell'=true/\RD G.m d v) (cs:=slc (.by l)) (xs:=[D.i .u8 m]) (vs:=vs.toList) (us:=[Value.int .u8 m]) (off:=i) (by rw[hlen];simp;omega) (by rw[hlen];simpa using hvl) rfl
       (fun k x hx=>by obtain⟨v,h1,h2⟩:=hcell k x hx;exact⟨v,by simpa using h1,h2⟩)
       (fun k x hx=>by
        cases k with
        |zero=>simp at hx;subst hx;exact⟨_,rfl,rfl,by simp[RD]⟩
        |succ k=>simp at hx) j z hz
      exact⟨v,by simpa using hv,hrv⟩)
     have key:(Instr.storeAt t (act.eval a) (act.eval x)).run P w= .ok () (w.setRow b (vs.toList.take i++[Value.int .u8 m]++vs.toList.drop (i+1)).toArray):=by
      rw[hva,hvx];simp only[Instr.storeAt,Instr.sureAddr,q07,q09,zl,storeVar,Bm hy,Nat.mul_one,q1R];rw[hsz];simpa[Value.cells]using hst
     refine⟨.skip,_,_,?_,.inl ⟨rfl,rfl⟩,?_,r1,r2⟩
     .unfold execOp;simp only[ho,q07,key,zl,q09]
     .show G.H.set id _=S.H.set id _;rw[r.heap]
    .cases h
   .cases h
  .cases h
 .cases h
theorem NR{H:z6}{op:Op}{r:Bool×z6}(h:Zg E env H op=some r):∀c,op≠ .defer c:=fun c e=>by subst e;cases h
theorem Ff{f:FuncId}{ds:yp}{r:D}{x:AV}{H:z6}(h:Aw P f (ds.map .d) [] x H)(hK:Cw H x r):Fn P f ds r:=by
 refine⟨h.1,fun m w vs hm hst hargs=> ?_⟩;let G:Gh:={ρ:=fun _=>none,H:=[],m:=m};have hr:BK G w:=⟨fun id b hb=>by simp[G]at hb,fun id id' p q b N N' hp=>by simp[G]at hp,hm,fun b ho=>absurd ho Qk,hst,Y6⟩;have hno:∀b,¬Own G b:=fun b=>Qk
 refine(h.2 G w vs rfl hr (ML.2 hargs)).mono ?_;rintro e w' ⟨v,y,G',rfl,⟨rfl,rfl⟩,hv,h2,hfr⟩
 let m':Mem:=fun b k=>match G'.m b k with
  |some v=>some v
  |none=>if w.heap.size<=b then w'.cell? ⟨b,k,none⟩else none
 have hle:G'.m.le m':=fun b k v hv=>by simp only[m',hv]
 have hmem:WT m' w':=by
  intro b k v hv;simp only[m']at hv;split at hv
  .rename_i u hu;cases hv;exact h2.mem b k _ hu
  .split at hv
   .exact hv
   .cases hv
 refine⟨v,m',rfl,Zn h2 hle ?_ hK hv,Mem.le_trans hfr.gle.mem hle,hmem,?_,hfr.os,hfr.tape,hfr.output,hfr.size,fun b hb=>(hfr.keep b hb (hno b)).1⟩
 .intro b k v ho hc
  have hge:w.heap.size<=b:=by
   rcases q0C b w.heap.size with hlt|hge
   .exact absurd ho (hfr.keep b hlt (hno b)).2
   .exact hge
  simp only[m',h2.sep b ho k,zn hge,hc]
 .intro b k v hv;simp only[m']at hv;split at hv
  .rename_i u hu;cases hv;rcases hfr.memNew b k _ hu with h3|h3|h3
   .exact .inl h3
   .exact absurd h3 (hno b)
   .exact .inr h3
  .split at hv
   .rename_i hge;exact .inr hge
   .cases hv
def Es(n:Nat):BF->Bool
 |[]=>false
 |a::r=>Nat.beq n a||Es n r
section
variable {P:Program}{ro:yb}{E:Nat->Option Bv}{ops:yd}{i:Nat}{rest:yf}{Q:Exit->St->Prop}{o:Oper}{en:yv}{hp:z6}{nt:Nat}{S0:St}{A:Prop}{acc:List Rc}
variable {c:Bool}{e:yv}
theorem XwL(L:BF){x x':AV}(_:Pq o.dst L=true)(hg:Af ops en o=some true)(h:Rt en o.op=some (c,x))(hd:B1 o.dst nt=true)(he:Be o.dst x' en=some e)(k:Wl P ro ops (i+1) rest ⟨e,hp,nt⟩ Q)(hc:c=true)(hx:x=x':=by rfl):Wl P ro ops i (o::rest) ⟨en,hp,nt⟩ Q:=by
 subst hx;rw[BC he]at k;exact Po hg (fv (S:=⟨en,hp,nt⟩) h hc) (Ru h) hd k
theorem Xsb(hE:Ce P E){H' H'':z6}(hg:Af ops en o=some true)(h:Zg E en hp o.op=some (c,H'))(hd:B1 o.dst nt=true)(he:Be o.dst .u en=some e)(k:Wl P ro ops (i+1) rest ⟨e,H'',nt⟩ Q)(hc:c=true)(hH:H'=H'':=by first|(simp only[nS];rfl)|rfl):Wl P ro ops i (o::rest) ⟨en,hp,nt⟩ Q:=by
 subst hH;rw[BC he]at k;exact Po hg (cP (S:=⟨en,hp,nt⟩) hE h hc) (NR h) hd k
theorem Ysb(hE:Ce P E){H' H'':z6}{e0:yv}(hl:F5 (looks ops o) en=some e0)(hg:Af ops e0 o=some true)(h:Zg E e0 hp o.op=some (c,H'))(hd:B1 o.dst nt=true)(he:Be o.dst .u en=some e)(k:Wd P ro E ops S0 A (⟨e0,hp,.u,.eff⟩::acc) rest ⟨e,H'',nt⟩)(hc:c=true)(hH:H'=H'':=by first|(simp only[nS];rfl)|rfl):Wd P ro E ops S0 A acc (o::rest) ⟨en,hp,nt⟩:=by
 subst hH;rw[BC he]at k;have:=Cy hl;subst this;exact KM (x:=.u) (k:=.eff) (H':=H') ⟨hd,hg,Ez.step (S:=⟨FH (looks ops o) en,hp,nt⟩) (cP (S:=⟨FH (looks ops o) en,hp,nt⟩) hE h hc) (NR h)⟩ k
variable {id:Nat}
theorem Xfu(t:Nat){x:D}{n sz:Nat}(_:Es t (mz o.op)=true)(ht:get en t=some (.sl id n sz))(hid:hp[id]? =some (.a x))(hn:n=BP x)(k:Wl P ro ops i (o::rest) ⟨(t,.d x)::en,F8 id x 0 hp,nt⟩ Q):Wl P ro ops i (o::rest) ⟨en,hp,nt⟩ Q:=
 Ho (A8.qt (S:=⟨en,hp,nt⟩) t id hid ht hn) (by show hp.length<=(F8 id x 0 hp).length;rw[Fs];exact zN _) k
theorem Xfd(t:Nat)(r:D){x:AV}(_:Es t (mz o.op)=true)(ht:get en t=some x)(hx:Oe [x] [r])(hne:(match x with| .d _=>false|_=>true)=true)(k:Wl P ro ops i (o::rest) ⟨(t,.d r)::en,hp,nt⟩ Q):Wl P ro ops i (o::rest) ⟨en,hp,nt⟩ Q:=by
 refine Ho (S':=⟨(t,.d r)::en,hp,nt⟩) ?_ (zN _) k;intro ro N G a w h _;refine⟨G,⟨h.heap,h.rel,h.size,fun u y hy=> ?_,h.marks,h.round⟩,⟨fun id b b' hb hb'=>by rw[hb]at hb';cases hb';exact Av.refl _ _ _,Mem.le_refl _,fun _ h=>h,fun _ _ _ h=> .inl h⟩⟩;simp only[get]at hy;split at hy
 .rename_i hb;cases hy;have:=zk hb;subst this;obtain⟨v,hv,hrv⟩:=h.env t _ ht;refine⟨v,hv,?_⟩;have:=RP (vs:=[v]) hx (show Bf G [x] [v]from⟨v,[],rfl,hrv,rfl⟩);simp only[EQ]at this;obtain⟨u,q,e,h1,_⟩:=this;cases e;simpa only[RV]using h1
 .exact h.env u y hy
theorem J6(L:BF){S:St}(_:Es id L=false)(h:Wl P ro ops 0 ops.toList S Q):W P ro (.region id ops false) S Q:=Fh h
theorem RF(L:BF){S:St}(E:Nat->Option Bv)(_:Es id L=false)(h:Wd P ro E ops S (W P ro (.region id ops true) S Q) [] ops.toList S):W P ro (.region id ops true) S Q:=bc E h
end
end Go.Gar
namespace Go.Gar
theorem A8.cell{S:St}(id i:Nat){x y:AV}{cs:yr}(hid:S.H[id]? =some (.c cs))(h:cs[i]? =some x)(hw:∀G v,RV G x v->RV G y v):
  A8 S ⟨S.env,S.H.set id (.c (cs.set i y)),S.n⟩:=by
 intro ro N G a w r _;have hidG:G.H[id]? =some (.c cs):=by rw[r.heap];exact hid
 have hlt:id<G.H.length:=(zS.1 hidG).1;let c':AM:=.c (cs.set i y);let G':Gh:={ρ:=G.ρ,H:=G.H.set id c',m:=G.m};have hst:Av G G' id (.c cs) c':=by simp[c',Av,G']
 have hget:∀j b,G'.H[j]? =some b->(j=id/\b=c')\/(j≠id/\G.H[j]? =some b):=by
  intro j b hb
  by_cases hj:j=id
  .subst hj;left;have hb':(G.H.set j c')[j]? =some b:=hb;rw[q0H hlt]at hb';exact⟨rfl,(q1E hb').symm⟩
  .right;have hb':(G.H.set id c')[j]? =some b:=hb;rw[q0I (Ne.symm hj)]at hb';exact⟨hj,hb'⟩
 have gle:IJ G G':=by
  refine⟨fun j b hb=> ?_,Mem.le_refl _⟩
  by_cases hj:j=id
  .subst hj;rw[hidG]at hb;cases hb;exact⟨c',q0H hlt,hst⟩
  .exact⟨b,by show(G.H.set id c')[j]? =_;rw[q0I (Ne.symm hj)];exact hb,Av.refl _ _ _⟩
 have hS:∀(j:Nat)(rs:List (Option (Nat×Nat×AL))),G'.H[j]? =some (.many rs)->G.H[j]? =some (.many rs):=fun j rs hb=>by
  rcases hget j _ hb with⟨_,e⟩|⟨_,h4⟩
  .have e:AM.many rs=AM.c _:=e;cases e
  .exact h4
 have hP:∀b,Dw G' b->Dw G b:=by
  rintro b ⟨j,N,blk,hb,hlv,hρ⟩;rcases hget j blk hb with⟨rfl,rfl⟩|⟨_,h4⟩
  .exact⟨j,N,_,hidG,rfl,hρ⟩
  .exact⟨j,N,blk,h4,hlv,hρ⟩
 have own:=J2 hS hP
 have rel:BK G' w:=by
  refine⟨fun j b hb=> ?_,fun i' j p q' b N N' hp hq lp lq r1 r2=> ?_,r.rel.mem,fun b hb k=>r.rel.sep b (own b hb) k,r.rel.st,r.rel.mny.of (fun b hb=>Bt r.rel (.inr hb)) hS (fun c hc=> .inl (hP c hc))⟩
  .rcases hget j b hb with⟨rfl,rfl⟩|⟨h3,h4⟩
   .obtain⟨b,N,vs,T,g1,g2,g3,g4,g6⟩:=r.rel.blk j _ hidG;refine⟨b,N,vs,T,g1,g2,g3,by simpa using g4,fun k z hz=> ?_⟩;rw[q1X]at hz;split at hz
    .rename_i hki;subst hki;split at hz
     .cases hz;obtain⟨v,hv,hrv⟩:=g6 i _ h;exact⟨v,hv,hw _ _ (hrv.mono gle)⟩
     .cases hz
    .obtain⟨v,hv,hrv⟩:=g6 k _ hz;exact⟨v,hv,hrv.mono gle⟩
   .exact(r.rel.blk j b h4).P4 gle (fun _ _ _ _=>rfl) rfl
  .have back:∀(j:Nat)(b:AM),G'.H[j]? =some b->b.live=true->∃b0:AM,G.H[j]? =some b0/\b0.live=true:=by
    intro j b hb hlv;rcases hget j b hb with⟨rfl,rfl⟩|⟨_,h4⟩
    .exact⟨_,hidG,rfl⟩
    .exact⟨b,h4,hlv⟩
   obtain⟨p0,e1,e2⟩:=back i' p hp lp;obtain⟨q0,e3,e4⟩:=back j q' hq lq;exact r.rel.inj i' j p0 q0 b N N' e1 e3 e2 e4 r1 r2
 have Tk:Yz G G':=by
  refine⟨fun j b b' hb hb'=> ?_,Mem.le_refl _,fun b hb=>own b hb,fun _ _ _ h=> .inl h⟩;obtain⟨b'',hb'',hs''⟩:=gle.blk j b hb;rw[hb']at hb'';cases hb'';exact hs''
 refine⟨G',⟨?_,rel,r.size,fun u z hz=> ?_,r.marks.Tk Tk,fun k hk=> ?_⟩,Tk⟩
 .show G.H.set id c'=_;rw[r.heap]
 .obtain⟨v,hv,hrv⟩:=r.env u z hz;exact⟨v,hv,hrv.mono gle⟩
 .obtain⟨q',l,M,q1,q2⟩:=r.round k hk;rw[<-r.heap]at q1;have hne:k≠id:=fun e=>by subst e;rw[hidG]at q1;cases q1
  refine⟨q',l,M,?_,q2⟩;show(S.H.set id c')[k]? =_;rw[q0I (Ne.symm hne),<-r.heap];exact q1
theorem A8.Ux{S:St}(id i:Nat)(q:D){cs:yr}(hid:S.H[id]? =some (.c cs))(h:cs[i]? =some .e0)(hs:Bl q=true)(hl:BP q=0)(ho:BM q):
  A8 S ⟨S.env,S.H.set id (.c (cs.set i (.d q))),S.n⟩:=
 A8.cell id i hid h fun G v hv=>by
  simp only[RV]at hv|-;obtain⟨a,rfl⟩:=hv;exact(Ee hs).2 ⟨a,0,by rw[hl],om,ho,.inl hl⟩
theorem Na{E:Nat->Option Bv}{n t:Nat}{cs:yp}(h:Fp E n t cs=true):Fp E n t cs=true:=h
end Go.Gar
namespace Go.Gar
section
variable {P:Program}{ro:yb}{S:St}{Q:Exit->St->Prop}
def QJ{α:Type}(P:Program)(ro:yb)(c:Code)(l:Nat)(I:α->Prop)(St0:α->St)(μ:α->Nat)(k:Nat)(Q:Exit->St->Prop)(m:Nat):Nat->Exit->St->Prop
 |j,.goto l',S'=>match Nat.beq l' l with
  |true=>∃y,I y/\μ y<m/\k<=(St0 y).H.length/\A8 S' (St0 y)
  |false=>match j with
   |0=>False
   |j+1=>match findLabel c l' with
    |some r=>W P ro r S' (QJ P ro c l I St0 μ k Q m j)
    |none=>Q (.goto l') S'
 |_,e,S'=>Q e S'
theorem az{α:Type}{c rest:Code}{l:Nat}(hfl:findLabel c l=some rest){I:α->Prop}{St0:α->St}{μ:α->Nat}{k0 j0:Nat}(body:∀x,I x->W P ro rest (St0 x) (QJ P ro c l I St0 μ k0 Q (μ x) j0))
  {b:Frame} {k:List Item} {cs:ym} {F:Fence} (hro:b.roundOf=F.round) (hb:F.fn b.fn) (hr:F.room (cs.length+1+0)) {N:NB} {G0:Gh} {w0:World} (hk0:G0.H.length=k0) (hid:∀id,ro=some id->id<k0) (hF:∀{S:St}{G:Gh}{a:Act}{w:World},Rel ro N S G a w->D5 G0 w0 G w->F=Kb (rl G ro)):
  ∀(m j:Nat)(c₁:Code)(S:St)(G:Gh)(a:Act)(w:World),Rel ro N S G a w->D5 G0 w0 G w->W P ro c₁ S (QJ P ro c l I St0 μ k0 Q m j)->
  ∃e a' w',Post ro N G0 w0 Q e a' w'/\ArrivesIn (Machine.fenced P F) P (lone (b.atR a (.code c₁:: .inScope c::k)) cs w) b k cs e a' w':=by
 intro m
 induction m using Nat.strongRecOn with
 |_ m ihm=>
  intro j
  induction j with
  |zero=>
   intro c₁ S G a w r k1 h;have h1:=h N G a w r;rw[<-hF r k1]at h1;obtain⟨e,a',w',⟨S',G',q,r',kk⟩,harr⟩:=h1 b (.inScope c::k) cs hro hb hr
   cases e with
   |normal=>exact⟨.normal,a',w',⟨S',G',q,r',k1.trans kk⟩,StepsIn.trans harr (.one (fenced_calm (fr:=b.atR a' (.inScope c::k)) hb hr rfl) Ge)⟩
   |exit id=>
    refine⟨.exit id,a',w',⟨S',G',q,r',k1.trans kk⟩,fun k' hk=>harr.1 k' (by simp[exitTo,hk]),fun h1 h2=>harr.2 h1 (by simp[exitTo,h2])⟩
   |goto l'=>
    simp only[QJ]at q;split at q
    .rename_i hl;have hl:=zk hl;subst hl;obtain⟨y,hI,hlt,hle,t⟩:=q;obtain⟨G'',r'',t''⟩:=t ro N G' a' w' r' (fun id h=>q1N (hid id h) hle);have k2:=(k1.trans kk).ghost t'' (by rw[hk0,r''.heap];exact hle);obtain⟨e₂,a₂,w₂,p₂,harr₂⟩:=ihm (μ y) hlt j0 rest (St0 y) G'' a' w' r'' k2 (body y hI);exact⟨e₂,a₂,w₂,p₂,.of_steps (harr.1 _ (by simp[gotoIn,hfl])) harr₂⟩
    .exact q.elim
   |ret=>exact⟨.ret,a',w',⟨S',G',q,r',k1.trans kk⟩,harr⟩
   |panic ch=>exact⟨.panic ch,a',w',⟨S',G',q,r',k1.trans kk⟩,harr⟩
   |outgrown=>exact⟨.outgrown,a',w',⟨S',G',q,r',k1.trans kk⟩,harr⟩
  |succ j ih=>
   intro c₁ S G a w r k1 h;have h1:=h N G a w r;rw[<-hF r k1]at h1;obtain⟨e,a',w',⟨S',G',q,r',kk⟩,harr⟩:=h1 b (.inScope c::k) cs hro hb hr
   cases e with
   |normal=>exact⟨.normal,a',w',⟨S',G',q,r',k1.trans kk⟩,StepsIn.trans harr (.one (fenced_calm (fr:=b.atR a' (.inScope c::k)) hb hr rfl) Ge)⟩
   |exit id=>
    refine⟨.exit id,a',w',⟨S',G',q,r',k1.trans kk⟩,fun k' hk=>harr.1 k' (by simp[exitTo,hk]),fun h1 h2=>harr.2 h1 (by simp[exitTo,h2])⟩
   |goto l'=>
    simp only[QJ]at q;split at q
    .rename_i hl;have hl:=zk hl;subst hl;obtain⟨y,hI,hlt,hle,t⟩:=q;obtain⟨G'',r'',t''⟩:=t ro N G' a' w' r' (fun id h=>q1N (hid id h) hle);have k2:=(k1.trans kk).ghost t'' (by rw[hk0,r''.heap];exact hle);obtain⟨e₂,a₂,w₂,p₂,harr₂⟩:=ihm (μ y) hlt j0 rest (St0 y) G'' a' w' r'' k2 (body y hI);exact⟨e₂,a₂,w₂,p₂,.of_steps (harr.1 _ (by simp[gotoIn,hfl])) harr₂⟩
    .cases hfl':findLabel c l' with
     |none=>
      rw[hfl']at q;exact⟨.goto l',a',w',⟨S',G',q,r',k1.trans kk⟩,fun k' hk=>harr.1 k' (by simp[gotoIn,hfl',hk]),fun h1 h2=>harr.2 h1 (by simp[gotoIn,hfl',h2])⟩
     |some r2=>
      rw[hfl']at q;obtain⟨e₂,a₂,w₂,p₂,harr₂⟩:=ih r2 S' G' a' w' r' (k1.trans kk) q;exact⟨e₂,a₂,w₂,p₂,.of_steps (harr.1 _ (by simp[gotoIn,hfl'])) harr₂⟩
   |ret=>exact⟨.ret,a',w',⟨S',G',q,r',k1.trans kk⟩,harr⟩
   |panic ch=>exact⟨.panic ch,a',w',⟨S',G',q,r',k1.trans kk⟩,harr⟩
   |outgrown=>exact⟨.outgrown,a',w',⟨S',G',q,r',k1.trans kk⟩,harr⟩
theorem Wa{α:Type}{c:Code}(l:Nat)(rest:Code)(I:α->Prop)(St0:α->St)(μ:α->Nat)(m j j0:Nat)(hfl:findLabel c l=some rest)
  (h:W P ro c S (QJ P ro c l I St0 μ S.H.length Q m j)) (body:∀x,I x->W P ro rest (St0 x) (QJ P ro c l I St0 μ S.H.length Q (μ x) j0)):W P ro (.scope c) S Q:=by
 intro N G a w r b k cs hro hb hr;obtain⟨e,a',w',p,harr⟩:=az (Q:=Q) (k:=k) (b:=b) (cs:=cs) hfl body hro hb hr (by rw[r.heap]) r.UU (fun r' k'=>by rw[GP r r' k']) m j c S G a w r (D5.refl G w) h;exact⟨e,a',w',p,.of_steps (.one (fenced_calm (fr:=b.atR a (.code (.scope c)::k)) hb hr rfl) Q7) harr⟩
end
end Go.Gar
namespace Go.Gar
open Go.Sort
variable {α:Type}{w:World}{vs:yi}
theorem TE[Inhabited α](enc:α->Value){b:Nat}{T:TypeId}{fr:Nat×Nat}(hw:w.heap[b]? =some (.cells vs T fr))(d:Array α):putRow enc w b 0 d=w.setRow b (putCells enc 0 d vs):=by
 unfold putRow mapBlock World.setRow
 congr 1
 apply Array.ext_getElem?;intro k;simp only[Array.getElem?_modify]
 by_cases hk:b=k
 .subst hk;simp only[q0X,hw];rfl
 .simp[hk]
theorem mL{G:Gh}(h:BK G w)(n:Nat)(os:Array Obj):BK G (grow (Sort.ahead w n) os)/\D5 G w G (grow (Sort.ahead w n) os):=by
 have hlow:∀b,b<w.heap.size->(grow (Sort.ahead w n) os).heap[b]? =w.heap[b]?:=fun b hb=>by
  show(w.heap++os)[b]? =_;rw[q19 hb]
 refine⟨⟨fun id q hq=>(h.blk id q hq).P4 (IJ.refl G) (fun b N hl hρ=>hlow b (Bt h (.inl ⟨id,N,q,hq,hl,hρ⟩))) rfl (fun rs e c hc=>hlow c (Bt h (.inr ⟨id,rs,by rw[<-e];exact hq,hc⟩))),h.inj,fun b k v hv=> ?_,h.sep,h.st,h.mny⟩,⟨rfl,rfl,rfl,by show w.heap.size<=(w.heap++os).size;simp,fun b hb ho=>⟨hlow b hb,ho⟩,fun _ _ _ hv=> .inl hv,IJ.refl G⟩⟩;have hc:=h.mem b k v hv
 have hb:b<w.heap.size:=by
  unfold World.cell? at hc;rcases q0C b w.heap.size with hlt|hge
  .exact hlt
  .simp[Array.getElem?_eq_none hge]at hc
 rw[World.cell?_of_block (w:=w) (hlow b hb)];exact hc
structure WY {α:Type} (enc:α->Value) (x:List α->D) (cell:α->D):Prop where
 sl:∀l,Bl (x l)=true
 ok:∀l,BM (x l)
 c:∀l,slc (x l)=l.map cell
 n:∀l,BP (x l)=l.length
 z:∀l,CC (x l)=1
 r:∀m a v,RD m (cell a) v↔v=enc a
 one:∀a,(enc a).oneCell'=true
variable {enc:α->Value}{x:List α->D}
theorem UX[Inhabited α]{cell:α->D}(hx:WY enc x cell){zs:List α}{b:Nat}{T:TypeId}{m:Mem}(hw:w.heap[b]? =some (.cells vs T (0,0)))(hcell:∀(k:Nat)(d:D),(slc (x zs))[k]? =some d->∃v,vs[k]? =some v/\v.oneCell'=true/\RD m d v):Holds enc w b 0 zs.toArray:=by
 intro j hj;have hj':j<zs.length:=by simpa using hj
 obtain⟨v,h1,_,h3⟩:=hcell j (cell zs[j]) (by rw[hx.c,q0G,zV hj'];rfl);rw[hx.r]at h3;subst h3;refine⟨?_,?_⟩
 .unfold World.cell?;simp only[hw,q0Q,Option.isSome_none,q0E,q0U,h1]
  congr 2
  rw[getElem!_pos zs.toArray j hj];simp
 .unfold World.frozen?;simp[hw]
theorem UW[Inhabited α]{cell:α->D}(hx:WY enc x cell){ys:List α}{d:Array α}{m:Mem}(hd:∀k,k<ys.length->k<d.size/\d[k]! =ys.getD k default)(hs:ys.length<=vs.size):
  ∀(k:Nat)(z:D),(slc (x ys))[k]? =some z->∃v,(putCells enc 0 d vs)[k]? =some v/\v.oneCell'=true/\RD m z v:=by
 intro k z hz;rw[hx.c,q0G,q0F]at hz;obtain⟨a,ha,rfl⟩:=hz;have hk:=(zS.1 ha).1;obtain⟨h1,h2⟩:=hd k hk;refine⟨enc a,?_,hx.one a,(hx.r m a _).2 rfl⟩;simp only[putCells,Array.getElem?_mapIdx];rw[q0g om];simp only[Option.map_some,zi,true_and,q0Q,Nat.sub_zero];rw[zn h1,h2,zo,ha];rfl
section
variable {P:Program}{f:FuncId}
theorem pV{α:Type}[Inhabited α]{enc:α->Value}{x:List α->D}{cell:α->D}(hx:WY enc x cell)(hcal:Gi P f){zs zs':List α}(hl:zs'.length=zs.length)
  (hrun:∀b cap w,Holds enc w b 0 zs.toArray->b<w.heap.size->zs.length<=cap->cap<=maxLen->Calls P f #[.slice (some ⟨b,0,none⟩) zs.length cap] w fun e w'=>e= .returned (.tuple #[])/\∃n os,w'=grow (putRow enc (Sort.ahead w n) b 0 zs'.toArray) os)
  (hnil:zs=[]->∀a w,Calls P f #[.slice a 0 0] w fun e w'=>e= .returned (.tuple #[])/\w'=w):
  Aw P f [.sl 0 zs.length 1] [.a (x zs)] (.d (.tup [])) [.a (x zs')]:=by
 refine⟨hcal,fun G w vs hG hR hv=> ?_⟩;rw[callsIn_wide];obtain⟨v,r0,hvs,hv1,hr0⟩:=hv;simp only[Bf]at hr0;subst hr0;have hvs':vs= #[v]:=by rw[<-Array.toArray_toList (xs:=vs),hvs]
 subst hvs';simp only[RV]at hv1;obtain⟨_,blk,hb,hp⟩:=hv1;have hb0:G.H[0]? =some (.a (x zs)):=by rw[hG];rfl
 rw[hb0]at hb;cases hb;obtain⟨_,_,hp⟩:=hp;have tup:RV G (.d (.tup [])) (.tuple #[]):=by simp only[RV,RD];exact⟨[],rfl,rfl⟩
 rcases hp (by rw[hx.n])with⟨h0,a,rfl⟩|⟨b,N,cap,hρ,rfl,hnc,hcm,hN⟩
 .have hz:zs=[]:=q18.1 h0;subst hz;have hz':zs'=[]:=q18.1 (by simpa using hl);subst hz';refine(hnil rfl a w).mono ?_;rintro e w' ⟨rfl,rfl⟩;exact⟨_,.d (.tup []),G,rfl,⟨rfl,hG⟩,tup,hR,D5.refl G _⟩
 .obtain⟨_,_,hB⟩:=hR.blk 0 _ hb0;rcases hB with⟨_,hno⟩|⟨b',N',vs,T,hρ',hw,hM,hcell⟩
  .rw[hρ]at hno;cases hno
  rw[hρ]at hρ';cases hρ';have hlt:b<w.heap.size:=(q03.1 hw).1;refine(hrun b cap w (UX hx hw hcell) hlt hnc hcm).mono ?_;rintro e w' ⟨rfl,n,os,rfl⟩;have hvl:zs.length<=vs.size:=om
  obtain⟨r1,r2⟩:=Mt hR (cur:=putCells enc 0 zs'.toArray vs) hb0 rfl (q:=.a (x zs')) rfl hρ (by simp[Av,Gh.put,hx.z,hx.n,hl]) (by
   refine⟨hx.sl _,hx.ok _,.inr ⟨b,N,_,T,hρ,setRow_heap w b vs _ T _ hw,by simp[putCells];omega,?_⟩⟩
   exact UW hx (fun k hk=>⟨by simpa using hk,by rw[getElem!_pos zs'.toArray k (by simpa using hk),zo,zV hk];simp⟩) om)
  rw[putRow_ahead,TE enc hw,show ∀q,grow (Sort.ahead q n) os=grow (Sort.ahead q n) os from fun _=>rfl];obtain⟨r3,r4⟩:=mL r1 n os;exact⟨_,.d (.tup []),G.put 0 (.a (x zs')),rfl,⟨rfl,by show G.H.set 0 _=_;rw[hG];rfl⟩,by simp only[RV,RD];exact⟨[],rfl,rfl⟩,r3,r2.trans r4⟩
end
end Go.Gar
namespace Go.Gar
section
variable {P:Program}{ro:yb}{E:Nat->Option Bv}{ops:yd}{i:Nat}{rest:yf}{Q:Exit->St->Prop}{o:Oper}{S:St}
variable {x:AV}
theorem tW{H':z6}(hg:Af ops S.env o=some true)(hnd:∀c,o.op≠ .defer c)(hd:B1 o.dst S.n=true){N:NB}{G:Gh}{a:Act}{w:World}(r:Rel ro N S G a w)(hops:∀k:Nat,(o::rest)[k]? =ops[i+k]?)(hop:∃r w' G',(execOp a.eval o).run P w= .ok r w'/\(r= .skip/\x= .u\/∃v,r= .value v/\RV G' x v)/\G'.H=H'/\BK G' w'/\D5 G w G' w')(k:Wl P ro ops (i+1) rest ⟨C2 o.dst x S.env,H',S.n⟩ Q):wpOpsIn (Kb (rl G ro)) 0 P ops (Post ro N G w Q) (List.range' i (o::rest).length) a w:=by
 have ho:=I5 hops;simp only[q02,q0y,wpOpsIn,ho];rw[zn (CQ r.env hg)];obtain⟨res,w',G',h1,h2,h3,h4,h5⟩:=hop;refine⟨fun _ _=>trivial,?_⟩;rw[q1W _ _ _ hnd,h1];have hops':=Gw hops
 have fin:∀v,RV G' x v->wpOpsIn (Kb (rl G ro)) 0 P ops (Post ro N G w Q) (List.range' (i+1) rest.length) (a.put o.dst v) w':=by
  intro v hv;obtain⟨e1,e2,e3⟩:=Gc (r.env.mono h5.gle) r.size hd hv
  have r':Rel ro N ⟨C2 o.dst x S.env,H',S.n⟩ G' (a.put o.dst v) w':=⟨h3,h4,e2,e1,r.marks.P4 h5 e3,fun id hid=>by
   obtain⟨q,l,M,q1,q2⟩:=r.round id hid;rw[<-r.heap]at q1;obtain⟨b',hb',hs⟩:=h5.gle.blk id _ q1;rw[h3]at hb';cases b'<;>simp only[Av]at hs
   exact⟨_,l,M,hb',hs.1.trans q2⟩⟩
  have hk:=k hops' N G' _ w' r';rw[GP r r' h5]at hk;exact Bs (fun _ _ _ p=>p.trans h5) _ _ _ hk
 rcases h2 with⟨rfl,rfl⟩|⟨v,rfl,hv⟩
 .simp only[Oper.uponIn];exact fin undef (by simp[RV])
 .simp only[Oper.uponIn];exact fin v hv
def rj(E:Nat->Option Bv)(env:yv)(op:Op):Option (AV×Bool):=
 match op with
 | .binOp op t p (.const (.slice none 0 0)) _=>match E t,EY env p with
  |some y,some x=>match y.k,op with
   | .sl _,.eql=>some (x,true)
   | .sl _,.neq=>some (x,false)
   |_,_=>none
  |_,_=>none
 |_=>none
def XS:AV->Prop
 | .d q=>Bl q=true/\BP q≠0
 |_=>False
def Y1:AV->Bool
 | .d q=>Bl q
 | .e0=>true
 |_=>false
variable {en:yv}{hp:z6}{nt:Nat}
theorem Xsn(hE:Ce P E){pos:Bool}(hg:Af ops en o=some true)(h:rj E en o.op=some (x,pos))(hs:Y1 x=true)(hd:B1 o.dst nt=true)(k:∀r:Bool,(r=true->¬XS x)->Wl P ro ops (i+1) rest ⟨C2 o.dst (.d (.b (if pos then r else !r))) en,hp,nt⟩ Q):Wl P ro ops i (o::rest) ⟨en,hp,nt⟩ Q:=by
 intro hops N G a w r;obtain⟨dst,op,ty,ps,after,guard⟩:=o;unfold rj at h;simp only at h;split at h
 .rename_i op t p yt;split at h
  .rename_i y x' hy hx;have hv:=BE r.rel.st r.env hx
   have key:∀{e:Nat},y.k= .sl e->x'=x->∃ad n cap,a.eval p= .slice ad n cap/\(ad=none->¬XS x)/\P.underlying t=some (.slice e):=by
    intro e hk hxe;subst hxe;obtain⟨_,hu,hkk⟩:=OB (hE t y hy);rw[hk]at hkk;have hds:=ET hkk;subst hds
    cases x' with
    |d q=>
     simp only[Y1]at hs;simp only[RV]at hv;obtain⟨ad,cap,e1,_,_,e4⟩:=(Ee hs).1 hv;refine⟨ad,_,cap,e1,fun hn he=> ?_,hu⟩;rcases e4 with e4|⟨b,off,e4,_⟩
     .exact he.2 e4
     .rw[hn]at e4;cases e4
    |e0=>
     simp only[RV]at hv;obtain⟨ad,e1⟩:=hv;exact⟨ad,0,0,e1,fun _ he=>he,hu⟩
    |_=>simp[Y1]at hs
   have run:∀{e ad n cap} ,a.eval p= .slice ad n cap->P.underlying t=some (.slice e)->((eqGuard op t p (.const (.slice none 0 0)) (a.eval p) (.slice none 0 0)).run P w= .ok () w/\(Op.equal t (a.eval p) (.slice none 0 0)).run P w= .ok ad.isNone w):=by
    intro e ad n cap e1 e2;refine⟨IX (.inl ?_),?_⟩
    .rw[e1];exact⟨fun _ h=>(by cases h),fun h=>(by cases h)⟩
    .rw[e1];exact run_equal_slice_nil w t e ad n cap e2
   split at h
   .rename_i e hk;simp only[zf,zu]at h;obtain⟨hxe,rfl⟩:=h;obtain⟨ad,n,cap,e1,e2,e3⟩:=key hk hxe;obtain⟨g1,g2⟩:=run e1 e3;refine tW (S:=⟨en,hp,nt⟩) (x:=.d (.b ad.isNone)) (H':=hp) hg (fun c e=>by cases e) hd r hops ⟨.value (.bool ad.isNone),w,G,?_,.inr ⟨_,rfl,by simp[RV,RD]⟩,r.heap,r.rel,D5.refl G w⟩ (k ad.isNone fun hn=>e2 (by cases ad with|none=>rfl|some _=>cases hn));show(do pure (Next.value (<-(do eqGuard BinOp.eql t p (.const (.slice none 0 0)) (a.eval p) (.slice none 0 0);binOp .eql t (a.eval p) (.slice none 0 0))))).run P w=_;have hb:binOp .eql t (a.eval p) (.slice none 0 0)=(do pure (.bool (<-Op.equal t (a.eval p) (.slice none 0 0)))):=by rw[e1];rfl
    simp only[q07,g1,zl,hb,g2,q09]
   .rename_i e hk;simp only[zf,zu]at h;obtain⟨hxe,rfl⟩:=h;obtain⟨ad,n,cap,e1,e2,e3⟩:=key hk hxe;obtain⟨g1,g2⟩:=run e1 e3;refine tW (S:=⟨en,hp,nt⟩) (x:=.d (.b (!ad.isNone))) (H':=hp) hg (fun c e=>by cases e) hd r hops ⟨.value (.bool (!ad.isNone)),w,G,?_,.inr ⟨_,rfl,by simp[RV,RD]⟩,r.heap,r.rel,D5.refl G w⟩ (k ad.isNone fun hn=>e2 (by cases ad with|none=>rfl|some _=>cases hn));show(do pure (Next.value (<-(do eqGuard BinOp.neq t p (.const (.slice none 0 0)) (a.eval p) (.slice none 0 0);binOp .neq t (a.eval p) (.slice none 0 0))))).run P w=_;have hb:binOp .neq t (a.eval p) (.slice none 0 0)=(do pure (.bool (!(<-Op.equal t (a.eval p) (.slice none 0 0))))):=by rw[e1];rfl
    simp only[q07,g1,zl,hb,g2,q09]
   .cases h
  .cases h
 .cases h
variable {e1 e2:yv}
theorem q8(hE:Ce P E)(hg:Af ops en o=some true)(h:rj E en o.op=some (x,true))(hs:Y1 x=true)(hd:B1 o.dst nt=true)(h1:Be o.dst (.d (.b true)) en=some e1)(h2:Be o.dst (.d (.b false)) en=some e2)(k1:¬XS x->Wl P ro ops (i+1) rest ⟨e1,hp,nt⟩ Q)(k2:Wl P ro ops (i+1) rest ⟨e2,hp,nt⟩ Q):Wl P ro ops i (o::rest) ⟨en,hp,nt⟩ Q:=by
 refine Xsn hE hg h hs hd fun r hr=> ?_;rw[BC h1]at k1
 rw[BC h2]at k2
 cases r with
 |true=>exact k1 (hr rfl)
 |false=>exact k2
theorem q9(hE:Ce P E)(hg:Af ops en o=some true)(h:rj E en o.op=some (x,false))(hs:Y1 x=true)(hd:B1 o.dst nt=true)(h1:Be o.dst (.d (.b false)) en=some e1)(h2:Be o.dst (.d (.b true)) en=some e2)(k1:¬XS x->Wl P ro ops (i+1) rest ⟨e1,hp,nt⟩ Q)(k2:Wl P ro ops (i+1) rest ⟨e2,hp,nt⟩ Q):Wl P ro ops i (o::rest) ⟨en,hp,nt⟩ Q:=by
 refine Xsn hE hg h hs hd fun r hr=> ?_;rw[BC h1]at k1
 rw[BC h2]at k2
 cases r with
 |true=>exact k1 (hr rfl)
 |false=>exact k2
theorem is_nil{l:Ai}(h:¬XS (.d (.is l))):l=[]:=by
 cases l with
 |nil=>rfl
 |cons a r=>exact absurd ⟨rfl,by simp[BP]⟩ h
end
end Go.Gar
namespace Go.Gar
section
variable {P:Program}{ro:yb}{S:St}{Q:Exit->St->Prop}
def yE(P:Program)(ro:yb)(c:Code)(Q:Exit->St->Prop):Nat->Exit->St->Prop
 |0,.normal,_=>False
 |n+1,.normal,S'=>W P ro c S' (yE P ro c Q n)
 |_,e,S'=>Q e S'
theorem vh{c:Code}{b:Frame}{k:List Item}{cs:ym}{F:Fence}(hro:b.roundOf=F.round)(hb:F.fn b.fn)(hr:F.room (cs.length+1+0)):
  ∀(n:Nat)(N:NB)(S:St)(G:Gh)(a:Act)(w:World),Rel ro N S G a w->F=Kb (rl G ro)->W P ro c S (yE P ro c Q n)->
  ∃e a' w',Post ro N G w Q e a' w'/\ArrivesIn (Machine.fenced P F) P (lone (b.atR a (.code c:: .inLoop c::k)) cs w) b k cs e a' w':=by
 intro n
 induction n with
 |zero=>
  intro N S G a w r hf h;have h1:=h N G a w r;rw[<-hf]at h1;obtain⟨e,a',w',⟨S',G',q,r',kk⟩,harr⟩:=h1 b (.inLoop c::k) cs hro hb hr
  cases e with
  |normal=>exact q.elim
  |exit id|goto l|ret|panic ch|outgrown=>exact⟨_,a',w',⟨S',G',q,r',kk⟩,.pass (x:=.inLoop c) rfl (fun _ _=> .inl sm) harr⟩
 |succ n ih=>
  intro N S G a w r hf h;have h1:=h N G a w r;rw[<-hf]at h1;obtain⟨e,a',w',⟨S',G',q,r',kk⟩,harr⟩:=h1 b (.inLoop c::k) cs hro hb hr
  cases e with
  |normal=>
   obtain⟨e₂,a₂,w₂,p₂,harr₂⟩:=ih N S' G' a' w' r' (by rw[GP r r' kk];exact hf) q;exact⟨e₂,a₂,w₂,p₂.trans kk,.of_steps (StepsIn.trans harr (.one (fenced_calm (fr:=b.atR a' (.inLoop c::k)) hb hr rfl) stepR_inLoop)) harr₂⟩
  |exit id|goto l|ret|panic ch|outgrown=>exact⟨_,a',w',⟨S',G',q,r',kk⟩,.pass (x:=.inLoop c) rfl (fun _ _=> .inl sm) harr⟩
theorem pn(n:Nat){c:Code}(h:W P ro c S (yE P ro c Q n)):W P ro (.loop c) S Q:=by
 intro N G a w r b k cs hro hb hr;obtain⟨e,a',w',p,harr⟩:=vh (Q:=Q) (k:=k) (b:=b) (cs:=cs) hro hb hr n N S G a w r rfl h;exact⟨e,a',w',p,.of_steps (.one (fenced_calm (fr:=b.atR a (.code (.loop c)::k)) hb hr rfl) stepR_loop) harr⟩
end
end Go.Gar
namespace Go.Gar
section
variable {P:Program}{ro:yb}{ops:yd}{i:Nat}{rest:yf}{Q:Exit->St->Prop}{o:Oper}{en:yv}{hp:z6}{nt:Nat}
theorem XyB{id:Nat}{xs:yr}{r0:Lp}{H1 H2:z6}{e1 e2:yv}(b:Bool)(hT:b=true->YT P id xs hp fun r K=>r= .d (.b true)/\K=H1)(hF:b=false->YT P id xs hp fun r K=>r= .d (.b false)/\K=H2)
  (hg:Af ops en o=some true) (h:NU en o.op=some (id,xs)) (hd:B1 o.dst nt=true) (hlp:hp[id]? =some (.lp r0)) (he1:Be o.dst (.d (.b true)) en=some e1) (he2:Be o.dst (.d (.b false)) en=some e2)
  (k1:b=true->Wl P ro ops (i+1) rest ⟨e1,H1,nt⟩ Q) (k2:b=false->Wl P ro ops (i+1) rest ⟨e2,H2,nt⟩ Q):Wl P ro ops i (o::rest) ⟨en,hp,nt⟩ Q:=by
 cases b with
 |true=>exact Xy (hT rfl) hg h hd hlp he1 (k1 rfl)
 |false=>exact Xy (hF rfl) hg h hd hlp he2 (k2 rfl)
end
end Go.Gar
namespace Go.Gar
def MZ(P:Program)(f:FuncId)(args:yr)(H:z6)(ch:yn)(H':z6):Prop:=
 Gi P f/\∀G w (vs:yi),G.H=H->BK G w->Bf G args vs.toList->
  CallsIn Fence.wide 0 P f vs w fun e w'=>∃G',e= .panicked ch/\G'.H=H'/\BK G' w'/\D5 G w G' w'
theorem MZ.ren{P:Program}{f:FuncId}{args:yr}{H H2:z6}{ch:yn}{H':z6}(ids:BF)(h:MZ P f args H ch H')(hn:nodupB ids=true)(hm:DY (rn ids H2.length) H2 ids H)(ho:Bj H.length H=true)(ha:AV.oks H.length args=true):
  MZ P f (AV.E2 (rn ids H2.length) args) H2 ch (KO ids H2 (E1 (rn ids H2.length) H')):=by
 have hn:=FW hn;refine⟨h.1,fun G w vs hG hr hargs=> ?_⟩;obtain⟨h1,h2⟩:=Qn hG hn hm hr ho;refine(h.2 _ w vs rfl h1 (h2 ha hargs)).mono ?_;rintro e w' ⟨G0',rfl,hH,hr',hfr⟩;obtain⟨G'',q1,q2,q3,q4,q5⟩:=Ld hG hn hm hr hfr hr';exact⟨G'',rfl,by rw[q1,hH],q2,q3⟩
def td(ch:yn)(K:St->Prop):Exit->St->Prop
 | .panic c,S=>c=ch/\K S
 |_,_=>False
section
variable {P:Program}{ro:yb}{ops:yd}{i:Nat}{rest:yf}{S:St}{Q:Exit->St->Prop}{o:Oper}{E:Nat->Option Bv}
variable {en:yv}{hp:z6}{nt:Nat}
variable {ch:yn}
theorem jK{f:FuncId}{fn:Func}{c:Code}(hE:Ce P E)(hf:P.funcs[f]? =some fn)(hb:fn.body=some c)(hname:(fn.name== "runtime.NumGoroutine")=false){args:yr}{H:z6}(hn:args.length<=fn.ntmps){H':z6}(h:W P none c ⟨FR 0 args,H,fn.ntmps⟩ (td ch fun S0=>∃S',A8 S0 S'/\H.length<=S'.H.length/\S'.H=H')):MZ P f args H ch H':=by
 have h2:=bZ (Q':=td ch fun S'=>S'.H=H') h (by
  intro e S' q
  cases e with
  |panic c=>obtain⟨rfl,S'',t,hl,q'⟩:=q;exact⟨S'',t,hl,rfl,q'⟩
  |_=>exact q.elim)
 refine⟨⟨fn,hf,hname,by rw[hb];rfl⟩,fun G w vs hG hr hargs=>Tw (K:=fun _ _=>False) (KP:=fun c K=>c=ch/\K=H') hE hf hb hn (h2.mono ?_) hG hr hargs (fun _ _ _ _ _ _ h=>h.elim) ?_⟩
 .intro e S' q
  cases e with
  |panic c=>exact q
  |_=>exact q.elim
 .rintro c G' w1 w' ms ⟨rfl,hH⟩ h1 h2 hfr ht hms;refine⟨G',rfl,hH,h2,⟨ht.os.trans hfr.os,ht.tape.trans hfr.tape,ht.output.trans hfr.output,by rw[ht.size];exact hfr.size,fun b hb ho=> ?_,hfr.memNew,hfr.gle⟩⟩;obtain⟨k1,k2⟩:=hfr.keep b hb ho;exact⟨(ht.other b fun hm=>by have:=hms b hm;omega).trans k1,k2⟩
theorem jk{x:Operand}{t:TypeId}{v:Value}(ho:o.op= .panic x)(hg:Af ops S.env o=some true)(hx:EY S.env x=some (.d (.ifc t v)))(k:Q (.panic [{v:=.iface t v,recovered:=false}]) S):Wl P ro ops i (o::rest) S Q:=by
 intro hops N G a w r;have ho':=I5 hops;simp only[q02,q0y,wpOpsIn,ho'];rw[zn (CQ r.env hg)];refine⟨fun _ _=>trivial,?_⟩;have hv:=BE r.rel.st r.env hx;simp only[RV,RD]at hv
 have hrun:(execOp a.eval o).run P w= .halt (.panic (.iface t v)) w:=by
  unfold execOp;simp only[ho,hv,Instr.panic,q07];rfl
 rw[q1W _ _ _ (fun c e=>by rw[ho]at e;cases e),hrun];simp only[Oper.uponIn];exact⟨S,G,k,r,D5.refl G w⟩
theorem ji{c:Call}{fo:Operand}{g:FuncId}{first cap xs:yr}{H':z6}(ho:o.op= .call c)(hc:c.callee= .value fo)(hg:Af ops S.env o=some true)(hf:EY S.env fo=some (.fn (.func g) first cap))(hxs:K4 S.env c.args.toList=some xs)(hT:MZ P g (first++xs++cap) S.H ch H')(k:Q (.panic ch) ⟨S.env,H',S.n⟩):Wl P ro ops i (o::rest) S Q:=by
 intro hops N G a w r;have ho':=I5 hops;simp only[q02,q0y,wpOpsIn,ho'];rw[zn (CQ r.env hg)];refine⟨fun _ _=>trivial,?_⟩;have hfv:=BE r.rel.st r.env hf;simp only[RV]at hfv;obtain⟨p,q,hfv,hp,hq⟩:=hfv;have hrun:=LA (P:=P) (f:=g) hc hfv hT.1 ho w;rw[q1W _ _ _ (fun c e=>by rw[ho]at e;cases e),hrun];simp only[Oper.uponIn];refine⟨GI _,?_⟩;have hargs:=QT hp (Dq r.rel.st r.env hxs) hq;have hcall:=hT.2 G w _ r.heap r.rel hargs;have hcall':CallsIn (Kb (rl G ro)) 0 P g (p.toArray++c.args.map a.eval++q.toArray) w _:=hcall;refine hcall'.mono ?_;rintro e w' ⟨G',rfl,hH,hr',hfr⟩;exact⟨⟨S.env,H',S.n⟩,G',k,r.step hfr hH hr' rfl r.size (r.env.mono hfr.gle) rfl,hfr⟩
end
end Go.Gar
namespace Go.Gar
section
variable {P:Program}{F:Fence}{n:Nat}{ops:yd}{a:Act}{cs:ym}{w:World}
theorem Mz{c:Code}{Q Q':Exit->Act->ym->World->Prop}(h:c.wpSIn F n P Q a cs w)(hq:∀e a cs w,Q e a cs w->Q' e a cs w):c.wpSIn F n P Q' a cs w:=
 fun b k h1 h2 h3 h4=>let⟨e,a',cs',w',l,q,r⟩:=h b k h1 h2 h3 h4;⟨e,a',cs',w',l,hq _ _ _ _ q,r⟩
theorem Do{Q Q':Exit->Act->ym->World->Prop}(hq:∀e a cs w,Q e a cs w->Q' e a cs w):∀(l:BF)(a:Act)(cs:ym)(w:World),wpOpsSIn F n P ops Q l a cs w->wpOpsSIn F n P ops Q' l a cs w
 |[],a,cs,w,h=>hq _ _ _ _ h
 |i::rest,a,cs,w,h=>by
  simp only[wpOpsSIn]at h|-
  cases ho:ops[i]? with
  |none=>simp only[ho]at h|-;exact Do hq rest _ _ _ h
  |some o=>
   simp only[ho]at h|-;refine⟨h.1,?_⟩;have h2:=h.2
   by_cases hw:Region.wanted o (yielded ops a.tmps)=true
   .rw[zn hw]at h2|-;generalize(execOp a.eval o).run P w=res at h2|-
    cases res with
    |ok r w'=>
     cases r with
     |recover=>
      simp only at h2|-
      cases hr:recoverD cs with
      |none=>simp only[hr]at h2|-;exact Do hq rest _ _ _ h2
      |some p=>obtain⟨v,cs'⟩:=p;simp only[hr]at h2|-;exact Do hq rest _ _ _ h2
     |value v|skip=>exact Do hq rest _ _ _ h2
     |_=>exact h2.elim
    |halt hh w'=>
     cases hh with
     |panic v=>exact hq _ _ _ _ h2
     |_=>exact h2.elim
   .rw[zx hw]at h2|-;exact Do hq rest _ _ _ h2
end
def We(P:Program)(ops:yd)(i:Nat)(rest:yf)(S:St)(K:St->Prop):Prop:=
 (∀k:Nat,rest[k]? =ops[i+k]?)->∀N G a w,Rel none N S G a w->
  wpOpsIn (Kb none) 0 P ops (fun e a' w'=>e= .normal/\a'.defers=a.defers/\∃S' G',K S'/\Rel none N S' G' a' w'/\D5 G w G' w') (List.range' i rest.length) a w
section
variable {P:Program}{ops:yd}{i:Nat}{rest:yf}{S:St}{K:St->Prop}{o:Oper}{E:Nat->Option Bv}
theorem EC(h:K S):We P ops i [] S K:=by
 intro _ N G a w r;simp only[q0B,List.range'_zero,wpOpsIn];exact⟨by trivial,by trivial,S,G,h,r,D5.refl G w⟩
variable {x:AV}{H':z6}
theorem Ui(hg:Af ops S.env o=some true)(hop:Ez P o S x H')(hnd:Qf o.op=false)(hd:B1 o.dst S.n=true)(k:We P ops (i+1) rest ⟨C2 o.dst x S.env,H',S.n⟩ K):We P ops i (o::rest) S K:=by
 intro hops N G a w r;have ho:=I5 hops;simp only[q02,q0y,wpOpsIn,ho];rw[zn (CQ r.env hg)];obtain⟨res,w',G',h1,h2,h3,h4,h5⟩:=hop none N G a w r;refine⟨fun _ _=>trivial,?_⟩;rw[q1W _ _ _ (UL hnd),h1];have hops':=Gw hops
 have fin:∀v,RV G' x v->wpOpsIn (Kb none) 0 P ops (fun e a' w'=>e= .normal/\a'.defers=a.defers/\∃S' G',K S'/\Rel none N S' G' a' w'/\D5 G w G' w') (List.range' (i+1) rest.length) (a.put o.dst v) w':=by
  intro v hv;obtain⟨e1,e2,e3⟩:=Gc (r.env.mono h5.gle) r.size hd hv;have r':Rel none N ⟨C2 o.dst x S.env,H',S.n⟩ G' (a.put o.dst v) w':=r.step h5 h3 h4 rfl e2 e1 e3;have hk:=k hops' N G' _ w' r';exact Bs (fun _ _ _ ⟨p1,p2,S',G'',p3,p4,p5⟩=>⟨p1,p2.trans e3,S',G'',p3,p4,h5.trans p5⟩) _ _ _ hk
 rcases h2 with⟨rfl,rfl⟩|⟨v,rfl,hv⟩
 .simp only[Oper.uponIn];exact fin undef (by simp[RV])
 .simp only[Oper.uponIn];exact fin v hv
variable {g:FuncId}{xs:yr}
theorem xF{c:Call}{fo:Operand}{ds:yp}{d:D}(ho:o.op= .call c)(hc:c.callee= .value fo)(hg:Af ops S.env o=some true)(hf:EY S.env fo=some (.fn (.func g) [] []))(hxs:K4 S.env c.args.toList=some xs)(hx:Oe xs ds)(hd:B1 o.dst S.n=true)(hT:Fn P g ds d)(k:We P ops (i+1) rest ⟨C2 o.dst (.d d) S.env,S.H,S.n⟩ K):We P ops i (o::rest) S K:=by
 intro hops N G a w r;have ho':=I5 hops;simp only[q02,q0y,wpOpsIn,ho'];rw[zn (CQ r.env hg)];refine⟨fun _ _=>trivial,?_⟩;have hfv:=BE r.rel.st r.env hf;simp only[RV]at hfv;obtain⟨p,q,hfv,hp,hq⟩:=hfv;simp only[Bf]at hp hq;subst hp;subst hq;have hrun:=LA (P:=P) (f:=g) hc hfv hT.1 ho w;rw[q1W _ _ _ (fun c e=>by rw[ho]at e;cases e),hrun];simp only[Oper.uponIn];refine⟨GI _,?_⟩;have hops':=Gw hops
 have hargs:Bf G xs (([]:ya).toArray++c.args.map a.eval++([]:ya).toArray).toList:=by
  have h1:=Dq r.rel.st r.env hxs;simpa using h1
 have hcall:=(hT.toT hx S.H).2 G w _ r.heap r.rel hargs;have hcall':CallsIn (Kb none) 0 P g (([]:ya).toArray++c.args.map a.eval++([]:ya).toArray) w _:=hcall;refine hcall'.mono ?_;rintro e w' ⟨v,x,G',rfl,⟨rfl,hH⟩,hv,hr',hfr⟩;obtain⟨e1,e2,e3⟩:=Gc (r.env.mono hfr.gle) r.size hd hv;have r':Rel none N ⟨C2 o.dst (.d d) S.env,S.H,S.n⟩ G' (a.put o.dst v) w':=r.step hfr hH hr' rfl e2 e1 e3;have hk:=k hops' N G' _ w' r';exact Bs (fun _ _ _ ⟨p1,p2,S',G'',p3,p4,p5⟩=>⟨p1,p2.trans e3,S',G'',p3,p4,hfr.trans p5⟩) _ _ _ hk
def DV(P:Program)(G:Gh)(f:FuncId)(xs:yr)(d:Deferred):Prop:=
 Gi P f/\∃p q:ya,d={target:=.fn (.func f) q.toArray,args:=p.toArray}/\Bf G xs (p++q)
variable {f:FuncId}
theorem DV.mono{P:Program}{G G':Gh}{d:Deferred}(h:DV P G f xs d)(k:IJ G G'):DV P G' f xs d:=
 let⟨h0,p,q,h1,h2⟩:=h;⟨h0,p,q,h1,Bf.mono k h2⟩
def wK(P:Program)(ops:yd)(i:Nat)(rest:yf)(S:St)(f:FuncId)(xs:yr)(K:St->Prop):Prop:=
 (∀k:Nat,rest[k]? =ops[i+k]?)->∀N G a w,a.defers=[]->Rel none ⟨N,[]⟩ S G a w->
  wpOpsIn (Kb none) 0 P ops (fun e a' w'=>e= .normal/\∃d S' G',K S'/\Rel none ⟨N,[d]⟩ S' G' a' w'/\D5 G w G' w'/\DV P G' f xs d) (List.range' i rest.length) a w
theorem u7(hg:Af ops S.env o=some true)(hop:Ez P o S x H')(hnd:Qf o.op=false)(hd:B1 o.dst S.n=true)(k:wK P ops (i+1) rest ⟨C2 o.dst x S.env,H',S.n⟩ f xs K):wK P ops i (o::rest) S f xs K:=by
 intro hops N G a w ha r;have ho:=I5 hops;simp only[q02,q0y,wpOpsIn,ho];rw[zn (CQ r.env hg)];obtain⟨res,w',G',h1,h2,h3,h4,h5⟩:=hop none _ G a w r;refine⟨fun _ _=>trivial,?_⟩;rw[q1W _ _ _ (UL hnd),h1];have hops':=Gw hops
 have fin:∀v,RV G' x v->wpOpsIn (Kb none) 0 P ops (fun e a' w'=>e= .normal/\∃d S' G',K S'/\Rel none ⟨N,[d]⟩ S' G' a' w'/\D5 G w G' w'/\DV P G' f xs d) (List.range' (i+1) rest.length) (a.put o.dst v) w':=by
  intro v hv;obtain⟨e1,e2,e3⟩:=Gc (r.env.mono h5.gle) r.size hd hv;have r':Rel none ⟨N,[]⟩ ⟨C2 o.dst x S.env,H',S.n⟩ G' (a.put o.dst v) w':=r.step h5 h3 h4 rfl e2 e1 e3;have hk:=k hops' N G' _ w' (e3.trans ha) r';exact Bs (fun _ _ _ ⟨p1,d,S',G'',p3,p4,p5,p6⟩=>⟨p1,d,S',G'',p3,p4,h5.trans p5,p6⟩) _ _ _ hk
 rcases h2 with⟨rfl,rfl⟩|⟨v,rfl,hv⟩
 .simp only[Oper.uponIn];exact fin undef (by simp[RV])
 .simp only[Oper.uponIn];exact fin v hv
theorem Ep{c:Call}{fo:Operand}{first cap ys:yr}(ho:o.op= .defer c)(hc:c.callee= .value fo)(hg:Af ops S.env o=some true)(hf:EY S.env fo=some (.fn (.func g) first cap))(hxs:K4 S.env c.args.toList=some ys)(hx:first++ys++cap=xs)(hcall:Gi P g)(hdst:o.dst=none)(k:K S):wK P ops i [o] S g xs K:=by
 intro hops N G a w ha r;have ho':=I5 hops;simp only[q02,q0B,q0y,List.range'_zero,wpOpsIn,ho'];rw[zn (CQ r.env hg)];refine⟨fun _ _=>trivial,?_⟩;have hfv:=BE r.rel.st r.env hf;simp only[RV]at hfv;obtain⟨p,q,hfv,hp,hq⟩:=hfv
 have hrun:(execOp a.eval o).run P w= .ok (.defer {target:=.fn (.func g) q.toArray,args:=(p++c.args.toList.map a.eval).toArray}) w:=by
  have e:p.toArray++c.args.map a.eval=(p++c.args.toList.map a.eval).toArray:=by
   apply Array.toList_inj.1;simp
  rw[<-e];unfold execOp;simp only[ho,resolve,hc,hfv,Deferred.ofValue,q07,q09,zl]
 have hs:(o.semAt (Kb none).round a.eval).run P w= .ok (.defer {target:=.fn (.func g) q.toArray,args:=(p++c.args.toList.map a.eval).toArray}) w:=hrun;rw[hs];simp only[Oper.uponIn];refine⟨by trivial,_,S,G,k,?_,D5.refl G w,hcall,p++c.args.toList.map a.eval,q,rfl,?_⟩
 .obtain⟨m0,ms,m1,m2,m3⟩:=r.marks;rw[ha]at m1
  have:ms=[]:=by
   cases ms with
   |nil=>rfl
   |cons x l=>simp at m1
  subst this;rw[hdst];refine⟨r.heap,r.rel,r.size,r.env,⟨m0,[],by simp[Act.put,ha],List.nodup_nil,fun _ h=>by cases h⟩,fun _ h=>by cases h⟩
 .rw[<-hx];exact(hp.app (Dq r.rel.st r.env hxs)).app hq
def WS(P:Program)(c:Code)(S:St)(cs:ym)(Q:Exit->St->ym->Prop):Prop:=
 ∀N G a w,Rel none N S G a w->c.wpSIn (Kb none) 0 P (fun e a' cs' w'=>a'.defers=a.defers/\∃S' G',Q e S' cs'/\Rel none N S' G' a' w'/\D5 G w G' w') a cs w
def pM(P:Program)(ops:yd)(i:Nat)(rest:yf)(S:St)(cs:ym)(Q:Exit->St->ym->Prop):Prop:=
 (∀k:Nat,rest[k]? =ops[i+k]?)->∀N G a w,Rel none N S G a w->
  wpOpsSIn (Kb none) 0 P ops (fun e a' cs' w'=>a'.defers=a.defers/\∃S' G',Q e S' cs'/\Rel none N S' G' a' w'/\D5 G w G' w') (List.range' i rest.length) a cs w
variable {cs:ym}{Q:Exit->St->ym->Prop}
def QThS(K:St->ym->Prop)(Q:Exit->St->ym->Prop):Exit->St->ym->Prop
 | .normal,S,cs=>K S cs
 |e,S,cs=>Q e S cs
theorem Kg{x y:Code}(h:WS P x S cs (QThS (fun S' cs'=>WS P y S' cs' Q) Q)):WS P (.seq x y) S cs Q:=by
 intro N G a w r;refine wpSIn_seq (Mz (h N G a w r) ?_);rintro e a' cs' w' ⟨hd,S',G',q,r',k⟩
 cases e with
 |normal=>
  have q':WS P y S' cs' Q:=q;exact Mz (q' N G' a' w' r') fun _ _ _ _ ⟨hd',S'',G'',q1,q2,q3⟩=>⟨hd'.trans hd,S'',G'',q1,q2,k.trans q3⟩
 |_=>exact⟨hd,S',G',q,r',k⟩
theorem QQ{c:Operand}{x y:Code}{t:Bool}(hc:EY S.env c=some (.d (.b t)))(h:WS P (if t then x else y) S cs Q):WS P (.cond c x y) S cs Q:=by
 intro N G a w r;have hv:=BE r.rel.st r.env hc;simp only[RV,RD]at hv;exact wpSIn_cond hv (h N G a w r)
theorem bY(h:Q .normal S cs):WS P .skip S cs Q:=fun _ G _ w r=>wpSIn_of_wpIn rfl (wpIn_skip ⟨rfl,S,G,h,r,D5.refl G w⟩)
theorem PX(ops:yd):List.range ops.size=List.range' 0 ops.toList.length:=by rw[List.range_eq_range'];simp
theorem LP{id:Nat}(h:pM P ops 0 ops.toList S cs Q):WS P (.region id ops false) S cs Q:=by
 intro N G a w r;refine wpSIn_region ?_;have:=h (fun k=>sm) N G a w r;rw[List.range_eq_range'];simpa using this
theorem GE{id:Nat}(h:We P ops 0 ops.toList S fun S'=>Q .normal S' cs):WS P (.region id ops false) S cs Q:=by
 intro N G a w r;refine wpSIn_of_wpIn rfl (wpIn_region ?_);have:=h (fun k=>sm) N G a w r;rw[PX];refine Bs ?_ _ _ _ this;rintro e a' w' ⟨rfl,h1,S',G',h2,h3,h4⟩;exact⟨h1,S',G',h2,h3,h4⟩
theorem QS(h:Q .normal S cs):pM P ops i [] S cs Q:=by
 intro _ N G a w r;simp only[q0B,List.range'_zero,wpOpsSIn];exact⟨by trivial,S,G,h,r,D5.refl G w⟩
theorem u9(hg:Af ops S.env o=some true)(hop:Ez P o S x H')(hd:B1 o.dst S.n=true)(k:pM P ops (i+1) rest ⟨C2 o.dst x S.env,H',S.n⟩ cs Q):pM P ops i (o::rest) S cs Q:=by
 intro hops N G a w r;have ho:=I5 hops;simp only[q02,q0y,wpOpsSIn,ho];refine⟨fun _ _=>trivial,?_⟩;rw[zn (CQ r.env hg)];obtain⟨res,w',G',h1,h2,h3,h4,h5⟩:=hop none N G a w r;rw[h1];have hops':=Gw hops
 have fin:∀v,RV G' x v->wpOpsSIn (Kb none) 0 P ops (fun e a' cs' w'=>a'.defers=a.defers/\∃S' G',Q e S' cs'/\Rel none N S' G' a' w'/\D5 G w G' w') (List.range' (i+1) rest.length) (a.put o.dst v) cs w':=by
  intro v hv;obtain⟨e1,e2,e3⟩:=Gc (r.env.mono h5.gle) r.size hd hv;have r':Rel none N ⟨C2 o.dst x S.env,H',S.n⟩ G' (a.put o.dst v) w':=r.step h5 h3 h4 rfl e2 e1 e3;exact Do (fun _ _ _ _ ⟨p2,S',G'',p3,p4,p5⟩=>⟨p2.trans e3,S',G'',p3,p4,h5.trans p5⟩) _ _ _ _ (k hops' N G' _ w' r')
 rcases h2 with⟨rfl,rfl⟩|⟨v,rfl,hv⟩
 .exact fin undef (by simp[RV])
 .exact fin v hv
def isRecover(op:Op):Bool:=
 match op with
 | .call c=>match c.callee with
  | .builtin .recover=>true
  |_=>false
 |_=>false
theorem pw{x:D}{cs':ym}(hr:isRecover o.op=true)(hg:Af ops S.env o=some true)(hd:B1 o.dst S.n=true)
  (hx:(recoverD cs=none/\x= .ni/\cs'=cs)\/∃t v,recoverD cs=some (.iface t v,cs')/\x= .ifc t v)
  (k:pM P ops (i+1) rest ⟨C2 o.dst (.d x) S.env,S.H,S.n⟩ cs' Q):pM P ops i (o::rest) S cs Q:=by
 intro hops N G a w r;have ho:=I5 hops;simp only[q02,q0y,wpOpsSIn,ho];refine⟨fun _ _=>trivial,?_⟩;rw[zn (CQ r.env hg)]
 have hrun:(execOp a.eval o).run P w= .ok .recover w:=by
  unfold isRecover at hr;split at hr
  .rename_i c hop;split at hr
   .rename_i hc;unfold execOp;simp only[hop,resolve,hc,q07,q09,zl];rfl
   .cases hr
  .cases hr
 rw[hrun];have hops':=Gw hops
 have fin:∀v,RD G.m x v->wpOpsSIn (Kb none) 0 P ops (fun e a' cs' w'=>a'.defers=a.defers/\∃S' G',Q e S' cs'/\Rel none N S' G' a' w'/\D5 G w G' w') (List.range' (i+1) rest.length) (a.put o.dst v) cs' w:=by
  intro v hv;obtain⟨e1,e2,e3⟩:=Gc (x:=.d x) r.env r.size hd (by simpa only[RV]using hv);have r':Rel none N ⟨C2 o.dst (.d x) S.env,S.H,S.n⟩ G (a.put o.dst v) w:=r.step (D5.refl G w) r.heap r.rel rfl e2 e1 e3;exact Do (fun _ _ _ _ ⟨p2,S',G'',p3,p4,p5⟩=>⟨p2.trans e3,S',G'',p3,p4,p5⟩) _ _ _ _ (k hops' N G _ w r')
 rcases hx with⟨h1,rfl,rfl⟩|⟨t,v,h1,rfl⟩
 .simp only[h1];exact fin _ (by simp[RD])
 .simp only[h1];exact fin _ (by simp[RD])
def WR(P:Program)(f:FuncId)(args:yr)(H:z6)(u:FrameMode)(H':z6):Prop:=
 ∀G w (vs:yi),G.H=H->BK G w->Bf G args vs.toList->
  CallsDIn Fence.wide 0 P f vs u w fun e u' w'=>∃v G',e= .returned v/\settle u'= .returning/\G'.H=H'/\BK G' w'/\D5 G w G' w'
variable {args:yr}{H:z6}{u:FrameMode}
theorem WR.ren{H2:z6}(ids:BF)(h:WR P f args H u H')(hn:nodupB ids=true)(hm:DY (rn ids H2.length) H2 ids H)(ho:Bj H.length H=true)(ha:AV.oks H.length args=true):
  WR P f (AV.E2 (rn ids H2.length) args) H2 u (KO ids H2 (E1 (rn ids H2.length) H')):=by
 have hn:=FW hn;intro G w vs hG hr hargs;obtain⟨h1,h2⟩:=Qn hG hn hm hr ho;refine(h _ w vs rfl h1 (h2 ha hargs)).mono ?_;rintro e u' w' ⟨v,G0',rfl,hu,hH,hr',hfr⟩;obtain⟨G'',q1,q2,q3,q4,q5⟩:=Ld hG hn hm hr hfr hr';exact⟨v,G'',rfl,hu,by rw[q1,hH],q2,q3⟩
def wj(c0:Frame)(cs:ym)(K:FrameMode->St->Prop):Exit->St->ym->Prop
 | .ret,S,cs'=>∃u',cs'={c0 with mode:=u'}::cs/\K u' S
 | .normal,S,cs'=>∃u',cs'={c0 with mode:=u'}::cs/\K u' S
 |_,_,_=>False
theorem LM{fn:Func}{c:Code}(hf:P.funcs[f]? =some fn)(hb:fn.body=some c)(hres:fn.results= #[])(hn:args.length<=fn.ntmps)(h:∀(c0:Frame)(cs:ym),c0.mode=u->WS P c ⟨FR 0 args,H,fn.ntmps⟩ (c0::cs) (wj c0 cs fun u' S0=>settle u'= .returning/\∃S',A8 S0 S'/\H.length<=S'.H.length/\S'.H=H')):WR P f args H u H':=by
 intro G w vs hG hr hargs;have key:=callsDIn_of_wpSIn (F:=Kb none) (n:=0) (P:=P) (args:=vs) (u:=u) (w:=w) (R:=fun e u' w'=>∃v G',e=Ending.returned v/\settle u'= .returning/\G'.H=H'/\BK G' w'/\D5 G w G' w') hf hb trivial ?_
 .exact key
 intro c0 cs hu;have r0:=o6 (fn:=fn) hG hr hargs hn;refine Mz (h c0 cs hu _ G _ w r0) ?_;rintro e a' cs' w' ⟨hd,S0,G0,q,r',k⟩
 have fin:(∃u',cs'={c0 with mode:=u'}::cs/\settle u'= .returning/\∃S',A8 S0 S'/\H.length<=S'.H.length/\S'.H=H')->
   a'.defers=[]/\∃u',cs'={c0 with mode:=u'}::cs/\∃v,(results fn a'.tmps).run P w'= .ok v w'/\∃v2 G',(Ending.returned v:Ending)= .returned v2/\settle u'= .returning/\G'.H=H'/\BK G' w'/\D5 G w G' w':=by
  rintro⟨u',e1,e2,S',t,hlen,hH⟩;obtain⟨G',r2,t2⟩:=t none _ G0 a' w' r' (fun id h=>by cases h);refine⟨hd,u',e1,.tuple #[],?_,_,G',rfl,e2,by rw[r2.heap,hH],r2.rel,k.ghost t2 (by rw[hG,r2.heap];exact hlen)⟩;simp[results,hres]
 cases e with
 |normal|ret=>exact fin q
 |_=>exact q.elim
def QDef(P:Program)(E:Nat->Option Bv)(fn:Func)(g:FuncId)(xs:yr)(n:Nat)(R:AV->z6->Prop):Exit->St->Prop
 | .ret,S=>∃H2,WR P g xs S.H .returning H2/\∃S',A8 ⟨S.env,H2,S.n⟩ S'/\n<=S'.H.length/\∃cc x,DU E S'.env S'.H fn.results.toList=some (cc,x)/\cc=true/\R x S'.H
 | .normal,S=>∃H2,WR P g xs S.H .returning H2/\∃S',A8 ⟨S.env,H2,S.n⟩ S'/\n<=S'.H.length/\∃cc x,DU E S'.env S'.H fn.results.toList=some (cc,x)/\cc=true/\R x S'.H
 | .panic ch,S=>∃H2,WR P g xs S.H (.panicking ch) H2/\∃S',A8 ⟨S.env,H2,S.n⟩ S'/\n<=S'.H.length/\∃cc x,DU E S'.env S'.H fn.results.toList=some (cc,x)/\cc=true/\R x S'.H
 |_,_=>False
theorem Fe{fn:Func}{i0 i1:Nat}{ops0 ops1:yd}{body:Code}(hE:Ce P E)(hf:P.funcs[f]? =some fn)(hb:fn.body=some (.seq (.region i0 ops0 false) (.seq (.region i1 ops1 false) body)))(hname:(fn.name== "runtime.NumGoroutine")=false)(hn:args.length<=fn.ntmps){R:AV->z6->Prop}(h:We P ops0 0 ops0.toList ⟨FR 0 args,H,fn.ntmps⟩ fun S1=>wK P ops1 0 ops1.toList S1 g xs fun S2=>W P none body S2 (QDef P E fn g xs H.length R)):LN P f args H R:=by
 refine⟨⟨fn,hf,hname,by rw[hb];rfl⟩,fun G w vs hG hr hargs=> ?_⟩;refine callsIn_of_wp_marks hf hb trivial ?_;have r0:=o6 (fn:=fn) hG hr hargs hn;have hw:=h (fun k=>sm) _ G _ w r0;refine wpIn_seq (wpIn_region (Bs ?_ _ _ _ (by rw[PX];exact hw)));rintro e a1 w1 ⟨rfl,hd1,S1,G1,h1,r1,k1⟩;have hw1:=h1 (fun k=>sm) _ G1 a1 w1 hd1 r1;refine wpIn_seq (wpIn_region (Bs ?_ _ _ _ (by rw[PX];exact hw1)));rintro e a2 w2 ⟨rfl,d,S2,G2,h2,r2,k2,hdv⟩;have hw2:=h2 _ G2 a2 w2 r2;refine q1d hw2 ?_;rintro e a3 w3 ⟨S3,G3,q,r3,k3⟩
 have fin:∀u:FrameMode,u≠ .run->(∃H2,WR P g xs S3.H u H2/\∃S',A8 ⟨S3.env,H2,S3.n⟩ S'/\H.length<=S'.H.length/\∃cc x,DU E S'.env S'.H fn.results.toList=some (cc,x)/\cc=true/\R x S'.H)->
   LeavesInM Fence.wide 0 P fn a3.tmps (fun e w'=>∃v r G',e= .returned v/\R r G'.H/\RV G' r v/\BK G' w'/\D5 G w G' w') a3.defers u w3:=by
  rintro u hu ⟨H2,hR,S',t,hlen,cc,x,hx1,hx2,hx3⟩;obtain⟨_,ms,m1,m2,m3⟩:=r3.marks;rw[m1];refine Ga hu ms w3 m2 (fun r hr=>(m3 r hr).2.1) (fun w4 ht=> ?_);have hr4:=TN r3.rel ht (fun r hr=>(m3 r hr).2);obtain⟨hcal,p,qv,rfl,hpq⟩:=hdv.mono k3.gle;obtain⟨gfn,g1,g2,g3⟩:=hcal;have hbn:gfn.body.isNone=false:=by cases hx:gfn.body<;>simp_all
  refine⟨hu,.inr ⟨fun h=>by simp[Fence.wide]at h,.func g,qv.toArray,g,p.toArray++qv.toArray,rfl,?_,fun _ _=>trivial,?_⟩⟩
  .simp only[invoke,callFunc,q07,run_program,zl,g1,g2,hbn,q0E,q0U,Sem.run_ite,q09]
  .refine(hR G3 w4 (p.toArray++qv.toArray) r3.heap hr4 (by simpa using hpq)).mono ?_;rintro e u' w5 ⟨v,G5,rfl,hs,hH5,hr5,hf5⟩;simp only[hs];have r5:Rel none ⟨w5.heap.size,[]⟩ ⟨S3.env,H2,S3.n⟩ G5 {a3 with defers:=[]} w5:=⟨hH5,hr5,r3.size,r3.env.mono hf5.gle,⟨zN _,[],rfl,List.nodup_nil,fun _ h=>by cases h⟩,fun _ h=>by cases h⟩;obtain⟨G6,r6,t6⟩:=t none _ G5 _ w5 r5 (fun id h=>by cases h);obtain⟨rv,hrv,hrr⟩:=X7 hE r6.rel r6.env (fn:=fn) (by rw[r6.heap];exact hx1) hx2;simp only[LeavesInM,LeavesIn];refine⟨rv,hrv,rv,x,G6,rfl,by rw[r6.heap];exact hx3,hrr,r6.rel,?_⟩;have kk:=(k1.trans k2).trans k3
   have k4:D5 G w G3 w4:=⟨ht.os.trans kk.os,ht.tape.trans kk.tape,ht.output.trans kk.output,by rw[ht.size];exact kk.size,fun b hb ho=>by
    obtain⟨c1,c2⟩:=kk.keep b hb ho
    exact⟨(ht.other b fun hm=>by have:w.heap.size<=b:=(m3 b hm).1;omega).trans c1,c2⟩,kk.memNew,kk.gle⟩
   exact(k4.trans hf5).ghost t6 (by rw[hG,r6.heap];exact hlen)
 cases e with
 |normal|ret|panic ch=>exact fin _ sm q
 |_=>exact q.elim
end
end Go.Gar
namespace Go.Gar
def flat:D->Bool
 | .b _| .i _ _| .s _=>true
 |_=>false
theorem VE{m m':Mem}{d:D}{v:Value}(h:flat d=true)(r:RD m d v):RD m' d v:=by
 cases d<;>simp only[flat,reduceCtorEq]at h<;>simpa only[RD]using r
open Classical in
theorem Fn.read{P:Program}{f:FuncId}{ds:yp}{r:D}(h:Fn P f ds r)(hr:flat r=true){xs:yr}{H:z6}(hx:Ec H xs ds):LN P f xs H fun x H'=>x= .d r/\H'=H:=by
 refine⟨h.1,fun G w vs hG hrel hargs=> ?_⟩;let m:Mem:=fun b k=>if Own G b then w.cell? ⟨b,k,none⟩else G.m b k
 have hle:G.m.le m:=fun b k v hv=>by
  by_cases ho:Own G b
  .rw[hrel.sep b ho k]at hv;cases hv
  .simp only[m,zx ho,hv]
 have hmem:WT m w:=fun b k v hv=>by
  simp only[m]at hv;split at hv
  .exact hv
  .exact hrel.mem b k v hv
 have hds:EQ m ds vs.toList:=VF hrel hle (fun b k v ho hc=>by simp only[m,zn ho,hc]) (by rw[hG];exact hx) hargs;refine(h.2 m w vs hmem (Mem.le_trans hrel.st hle) hds).mono ?_;rintro e w' ⟨v,m',rfl,h1,h2,h3,h4,h5,h6,h7,h8,h9⟩
 obtain⟨k1,k2⟩:=Ni hrel h5 h6 h7 h8 h9 G.m (Mem.le_refl _) (fun _ _ _ h=> .inl h) (fun b k u hu=>by
  rw[World.cell?_of_block (w:=w) (h9 b (J0 hrel hu))]
  exact hrel.mem b k u hu)
 exact⟨v,.d r,G,rfl,⟨rfl,hG⟩,by simpa only[RV]using VE hr h1,k1,k2⟩
end Go.Gar
namespace Go.Gar
section
variable {P:Program}{ro:yb}{ops:yd}{i:Nat}{rest:yf}{S0:St}{en:yv}{hp:z6}{nt:Nat}{Q:Exit->St->Prop}{o:Oper}{E:Nat->Option Bv}{A:Prop}{acc:List Rc}
def tL:Op->Option Operand
 | .panic x=>some x
 |_=>none
theorem Xpan{x:Operand}{t:TypeId}{v:Value}(h:tL o.op=some x)(hg:Af ops en o=some true)(hx:EY en x=some (.d (.ifc t v)))(k:Q (.panic [{v:=.iface t v,recovered:=false}]) ⟨en,hp,nt⟩):Wl P ro ops i (o::rest) ⟨en,hp,nt⟩ Q:=by
 have ho:o.op= .panic x:=by
  unfold tL at h;split at h
  .rename_i y hy;cases h;exact hy
  .cases h
 exact jk ho hg hx k
variable {g:Nat}{ch:yn}{H':z6}
theorem Wl_X{S:St}{xs:yr}(hg:Af ops S.env o=some true)(h:Cu S.env o.op=some (g,xs))(hT:MZ P g xs S.H ch H')(k:Q (.panic ch) ⟨S.env,H',S.n⟩):Wl P ro ops i (o::rest) S Q:=by
 obtain⟨c,f,first,ys,cap,ho,hc,hf,hxs,rfl⟩:=LU h;exact ji ho hc hg hf hxs hT k
theorem XX{args:yr}{H:z6}{H'':z6}(ids:BF)(hF:MZ P g args H ch H')(hg:Af ops en o=some true)(h:Cu en o.op=some (g,AV.E2 (rn ids hp.length) args))(hm:DY (rn ids hp.length) hp ids H)(hn:nodupB ids=true)(ho:Bj H.length H=true)(ha:AV.oks H.length args=true)(k:Q (.panic ch) ⟨en,H'',nt⟩)(hH:KO ids hp (E1 (rn ids hp.length) H')=H'':=by first|(simp only[KL,Nat.reduceAdd];rfl)|rfl):Wl P ro ops i (o::rest) ⟨en,hp,nt⟩ Q:=by
 subst hH;exact Wl_X (S:=⟨en,hp,nt⟩) hg h (hF.ren ids hn hm ho ha) k
theorem uD{S:St}{xs:yr}(h:Cu S.env o.op=some (g,xs))(hT:MZ P g xs S.H ch H'):jY P ro o S ch H':=by
 obtain⟨c,f,first,ys,cap,ho,hc,hf,hxs,rfl⟩:=LU h;intro N G a w K R r hR;refine⟨fun _ _=>trivial,?_⟩;have hfv:=BE r.rel.st r.env hf;simp only[RV]at hfv;obtain⟨p,q,hfv,hp,hq⟩:=hfv;have hrun:=LA (P:=P) (f:=g) hc hfv hT.1 ho w;rw[q1W _ _ _ (fun c e=>by rw[ho]at e;cases e),hrun];simp only[Oper.uponIn];refine⟨GI _,?_⟩;have hargs:=QT hp (Dq r.rel.st r.env hxs) hq;have hcall:=hT.2 G w _ r.heap r.rel hargs;have hcall':CallsIn (Kb (rl G ro)) 0 P g (p.toArray++c.args.map a.eval++q.toArray) w _:=hcall;refine hcall'.mono ?_;rintro e w' ⟨G',rfl,hH,hr',hfr⟩;exact hR w' G' hH hr' hfr
variable {e0 e:yv}
theorem YX{args:yr}{H:z6}{H'':z6}(ids:BF)(hF:MZ P g args H ch H')(hl:F5 (looks ops o) en=some e0)(hg:Af ops e0 o=some true)(h:Cu e0 o.op=some (g,AV.E2 (rn ids hp.length) args))(hd:B1 o.dst nt=true)(hm:DY (rn ids hp.length) hp ids H)(hn:nodupB ids=true)(ho:Bj H.length H=true)(ha:AV.oks H.length args=true)(he:Be o.dst .u en=some e)(hk:Wd P ro E ops S0 A (⟨e0,hp,.u,.pan ch⟩::acc) rest ⟨e,H'',nt⟩)(hH:KO ids hp (E1 (rn ids hp.length) H')=H'':=by first|(simp only[KL,Nat.reduceAdd];rfl)|rfl):Wd P ro E ops S0 A acc (o::rest) ⟨en,hp,nt⟩:=by
 subst hH;rw[BC he]at hk;have:=Cy hl;subst this;exact u6 (S:=⟨en,hp,nt⟩) hg (uD (S:=⟨FH (looks ops o) en,hp,nt⟩) h (hF.ren ids hn hm ho ha)) hd hk
def ZS(ops:yd)(acc:List Rc):Bool:=
 match Gx (acc.reverse.map Rc.k)with
 |some (i,_)=>(Tt ops acc.length).testBit i
 |none=>false
theorem Yd(_:ZS ops acc=true)(hl:F5 (looks ops o) en=some e0)(hd:B1 o.dst nt=true)(he:Be o.dst .u en=some e)(hk:Wd P ro E ops S0 A (⟨e0,hp,.u,.dead⟩::acc) rest ⟨e,hp,nt⟩):Wd P ro E ops S0 A acc (o::rest) ⟨en,hp,nt⟩:=by
 rw[BC he]at hk;have:=Cy hl;subst this;exact pq (S:=⟨en,hp,nt⟩) hd hk
theorem YnX{id:Nat}(l:yW){i0:Nat}(hm:P.follows .mixedOrders=true)(hE:Ce P E)(hp':Gx (acc.reverse.map Rc.k)=some (i0,ch))(hd:IW ops (acc.reverse.map Rc.k) l=true)(hx:Dk E ops acc.reverse hp l)(hQ:Q (.panic ch) ⟨[],hp,nt⟩):Wd P ro E ops S0 (W P ro (.region id ops true) S0 Q) acc [] ⟨en,hp,nt⟩:=
 pt (S:=⟨en,hp,nt⟩) l hm hE hp' hd hx hQ
theorem XaB(t:Nat)(q:D)(hE:Ce P E){f:Nat->AV}{b:AM}{c:Bool}{x':AV}(_:Pq o.dst [t]=true)(hg:Af ops en o=some true)(h:pQ E en hp o.op=some (c,f,b))(hb:b= .a q)(hd:B1 o.dst nt=true)(he:Be o.dst x' en=some e)(hH:HI hp (.a q)=some H')(hx:f hp.length=x')(k:Wl P ro ops (i+1) rest ⟨e,H',nt⟩ Q)(hc:c=true):Wl P ro ops i (o::rest) ⟨en,hp,nt⟩ Q:=by
 subst hb;exact Xa hE hg h hd he hH k hc hx
end
variable {S:St}
theorem A8.cells(id:Nat){cs:yr}(cs':yr)(hid:S.H[id]? =some (.c cs))(hcl:cs'.length=cs.length)(hw:∀(k:Nat)(x:AV),cs'[k]? =some x->∃y,cs[k]? =some y/\∀G v,RV G y v->RV G x v):
  A8 S ⟨S.env,S.H.set id (.c cs'),S.n⟩:=by
 intro ro N G a w r _;have hidG:G.H[id]? =some (.c cs):=by rw[r.heap];exact hid
 have hlt:id<G.H.length:=(zS.1 hidG).1;let c':AM:=.c cs';let G':Gh:={ρ:=G.ρ,H:=G.H.set id c',m:=G.m};have hst:Av G G' id (.c cs) c':=by simp[c',Av,G',hcl]
 have hget:∀j b,G'.H[j]? =some b->(j=id/\b=c')\/(j≠id/\G.H[j]? =some b):=by
  intro j b hb
  by_cases hj:j=id
  .subst hj;left;have hb':(G.H.set j c')[j]? =some b:=hb;rw[q0H hlt]at hb';exact⟨rfl,(q1E hb').symm⟩
  .right;have hb':(G.H.set id c')[j]? =some b:=hb;rw[q0I (Ne.symm hj)]at hb';exact⟨hj,hb'⟩
 have gle:IJ G G':=by
  refine⟨fun j b hb=> ?_,Mem.le_refl _⟩
  by_cases hj:j=id
  .subst hj;rw[hidG]at hb;cases hb;exact⟨c',q0H hlt,hst⟩
  .exact⟨b,by show(G.H.set id c')[j]? =_;rw[q0I (Ne.symm hj)];exact hb,Av.refl _ _ _⟩
 have hS:∀(j:Nat)(rs:List (Option (Nat×Nat×AL))),G'.H[j]? =some (.many rs)->G.H[j]? =some (.many rs):=fun j rs hb=>by
  rcases hget j _ hb with⟨_,e⟩|⟨_,h4⟩
  .have e:AM.many rs=AM.c _:=e;cases e
  .exact h4
 have hP:∀b,Dw G' b->Dw G b:=by
  rintro b ⟨j,N,blk,hb,hlv,hρ⟩;rcases hget j blk hb with⟨rfl,rfl⟩|⟨_,h4⟩
  .exact⟨j,N,_,hidG,rfl,hρ⟩
  .exact⟨j,N,blk,h4,hlv,hρ⟩
 have own:=J2 hS hP
 have rel:BK G' w:=by
  refine⟨fun j b hb=> ?_,fun i' j p q' b N N' hp hq lp lq r1 r2=> ?_,r.rel.mem,fun b hb k=>r.rel.sep b (own b hb) k,r.rel.st,r.rel.mny.of (fun b hb=>Bt r.rel (.inr hb)) hS (fun c hc=> .inl (hP c hc))⟩
  .rcases hget j b hb with⟨rfl,rfl⟩|⟨h3,h4⟩
   .obtain⟨b,N,vs,T,g1,g2,g3,g4,g6⟩:=r.rel.blk j _ hidG;refine⟨b,N,vs,T,g1,g2,g3,by rw[hcl];exact g4,fun k z hz=> ?_⟩;obtain⟨y,hy,hyz⟩:=hw k z hz;obtain⟨v,hv,hrv⟩:=g6 k _ hy;exact⟨v,hv,hyz _ _ (hrv.mono gle)⟩
   .exact(r.rel.blk j b h4).P4 gle (fun _ _ _ _=>rfl) rfl
  .have back:∀(j:Nat)(b:AM),G'.H[j]? =some b->b.live=true->∃b0:AM,G.H[j]? =some b0/\b0.live=true:=by
    intro j b hb hlv;rcases hget j b hb with⟨rfl,rfl⟩|⟨_,h4⟩
    .exact⟨_,hidG,rfl⟩
    .exact⟨b,h4,hlv⟩
   obtain⟨p0,e1,e2⟩:=back i' p hp lp;obtain⟨q0,e3,e4⟩:=back j q' hq lq;exact r.rel.inj i' j p0 q0 b N N' e1 e3 e2 e4 r1 r2
 have Tk:Yz G G':=by
  refine⟨fun j b b' hb hb'=> ?_,Mem.le_refl _,fun b hb=>own b hb,fun _ _ _ h=> .inl h⟩;obtain⟨b'',hb'',hs''⟩:=gle.blk j b hb;rw[hb']at hb'';cases hb'';exact hs''
 refine⟨G',⟨?_,rel,r.size,fun u z hz=> ?_,r.marks.Tk Tk,fun k hk=> ?_⟩,Tk⟩
 .show G.H.set id c'=_;rw[r.heap]
 .obtain⟨v,hv,hrv⟩:=r.env u z hz;exact⟨v,hv,hrv.mono gle⟩
 .obtain⟨q',l,M,q1,q2⟩:=r.round k hk;rw[<-r.heap]at q1;have hne:k≠id:=fun e=>by subst e;rw[hidG]at q1;cases q1
  refine⟨q',l,M,?_,q2⟩;show(S.H.set id c')[k]? =_;rw[q0I (Ne.symm hne),<-r.heap];exact q1
theorem A8.us(id:Nat){cs:yr}(n:Nat)(hid:S.H[id]? =some (.c cs))(hn:n=cs.length):A8 S ⟨S.env,S.H.set id (.c (List.replicate n .u)),S.n⟩:=by
 subst hn;refine A8.cells id _ hid sm fun k x hx=> ?_
 obtain⟨h1,h2⟩:=zS.1 hx;rw[List.getElem_replicate]at h2;subst h2;rw[List.length_replicate]at h1;exact⟨_,zV h1,fun _ _ _=>by simp[RV]⟩
variable {P:Program}
theorem Aw.drop{f:FuncId}{args:yr}{H K:z6}{r:AV}(H':z6)(h:Aw P f args H r K)(hs:C9 H' K)(ho:Bj H'.length H'=true)(hr:r.ok H'.length=true)(hl:Nat.ble H.length H'.length=true):Aw P f args H r H':=by
 refine⟨h.1,fun G w vs h1 h2 h3=>(h.2 G w vs h1 h2 h3).mono ?_⟩;rintro e w' ⟨v,x,G',rfl,⟨rfl,hK⟩,hv,hr',hfr⟩;have hs':C9 H' G'.H:=by rw[hK];exact hs
 exact⟨v,x,G'.cut H',rfl,⟨rfl,rfl⟩,hv.cut hs' hr,hr'.cut hs' ho,hfr.ghost (Yz.cut hs') (by rw[h1];exact q0R hl)⟩
def VO:K->Bool
 | .ifc=>true
 |_=>false
theorem UC{d:TypeDesc}(h:VO (Og d)=true):∃ms,d= .interface ms:=by
 unfold Og at h;split at h<;>first|exact⟨_,rfl⟩|(simp[VO]at h;done)
variable {ms:Array (String×TypeId)}
theorem xV{w:World}{t:TypeId}(hu:P.underlying t=some (.interface ms)):(Op.equal t .nilIface .nilIface).run P w= .ok true w:=by
 have h:∀d:Nat,(Op.equalIn (d+1) t .nilIface .nilIface).run P w= .ok true w:=fun d=>by simp[Op.equalIn,q1f hu]
 exact h 9999
theorem xU{w:World}{t ti:TypeId}{v:Value}(hu:P.underlying t=some (.interface ms)):(Op.equal t (.iface ti v) .nilIface).run P w= .ok false w:=by
 have h:∀d:Nat,(Op.equalIn (d+1) t (.iface ti v) .nilIface).run P w= .ok false w:=fun d=>by simp[Op.equalIn,q1f hu]
 exact h 9999
def cH(E:Nat->Option Bv)(env:yv):Op->Option Bool
 | .binOp .neq t x (.const .nilIface) _=>match EY env x,E t with
  |some (.d .ni),some y=>if VO y.k then some false else none
  |some (.d (.ifc _ _)),some y=>if VO y.k then some true else none
  |_,_=>none
 |_=>none
variable {E:Nat->Option Bv}
theorem lK(hE:Ce P E){o:Oper}{b:Bool}(h:cH E S.env o.op=some b):Ez P o S (.d (.b b)) S.H:=by
 unfold cH at h;split at h
 .rename_i t x yt ho;refine .of_run (f:=fun a=>do eqGuard .neq t x (.const .nilIface) (a.eval x) (a.eval (.const .nilIface));binOp .neq t (a.eval x) (a.eval (.const .nilIface))) (fun a=>by unfold execOp;simp only[ho]) fun ro N G a w r=> ?_
  have hev:a.eval (.const .nilIface)= .nilIface:=rfl;split at h
  .rename_i y hx hy;split at h
   .rename_i hi;cases h;have hv:=BE r.rel.st r.env hx;simp only[RV,RD]at hv;obtain⟨d,hu,hd⟩:=Dn (hE t y hy);rw[<-hd]at hi;obtain⟨ms,rfl⟩:=UC hi;refine⟨.bool false,?_,by simp[RV,RD]⟩;rw[hev,hv];have he:=xV (P:=P) (w:=w) hu;simp only[q07];simp[eqGuard,binOp,he]
   .cases h
  .rename_i ti vi y hx hy;split at h
   .rename_i hi;cases h;have hv:=BE r.rel.st r.env hx;simp only[RV,RD]at hv;obtain⟨d,hu,hd⟩:=Dn (hE t y hy);rw[<-hd]at hi;obtain⟨ms,rfl⟩:=UC hi;refine⟨.bool true,?_,by simp[RV,RD]⟩;rw[hev,hv];have he:=xU (P:=P) (w:=w) (ti:=ti) (v:=vi) hu;simp only[q07];simp[eqGuard,binOp,he]
   .cases h
  .cases h
 .cases h
theorem TY{env:yv}{op:Op}{b:Bool}(h:cH E env op=some b):Qf op=false:=by
 cases op<;>first|rfl|cases h
section
variable {P:Program}{ops:yd}{i:Nat}{rest:yf}{en:yv}{hp:z6}{nt:Nat}{K:St->Prop}{o:Oper}{E:Nat->Option Bv}{cs:ym}{Q:Exit->St->ym->Prop}{f:FuncId}{xs:yr}
variable {x x':AV}{c:Bool}{e:yv}
theorem Kq(hE:Ce P E)(hg:Af ops en o=some true)(h:P0 E en hp o.op=some (c,x))(hd:B1 o.dst nt=true)(he:Be o.dst x' en=some e)(k:We P ops (i+1) rest ⟨e,hp,nt⟩ K)(hc:c=true)(hx:x=x':=by rfl):We P ops i (o::rest) ⟨en,hp,nt⟩ K:=by
 subst hx;rw[BC he]at k;exact Ui (S:=⟨en,hp,nt⟩) hg (P1 (S:=⟨en,hp,nt⟩) hE h hc) (by cases ho:o.op<;>first|rfl|(rw[ho]at h;cases h)) hd k
theorem Ka(hE:Ce P E){f:Nat->AV}{b:AM}{H':z6}(hg:Af ops en o=some true)(h:pQ E en hp o.op=some (c,f,b))(hd:B1 o.dst nt=true)(he:Be o.dst x' en=some e)(hH:HI hp b=some H')(k:We P ops (i+1) rest ⟨e,H',nt⟩ K)(hc:c=true)(hx:f hp.length=x':=by rfl):We P ops i (o::rest) ⟨en,hp,nt⟩ K:=by
 subst hx;rw[BC he,IB hH]at k;exact Ui (S:=⟨en,hp,nt⟩) hg (ZX (S:=⟨en,hp,nt⟩) hE h hc) (by cases ho:o.op<;>first|rfl|(rw[ho]at h;cases h)) hd k
theorem Kw(hE:Ce P E){H':z6}(hg:Af ops en o=some true)(h:sx E en hp o.op=some (c,x,H'))(hd:B1 o.dst nt=true)(he:Be o.dst x' en=some e)(k:We P ops (i+1) rest ⟨e,H',nt⟩ K)(hc:c=true)(hx:x=x':=by rfl):We P ops i (o::rest) ⟨en,hp,nt⟩ K:=by
 subst hx;rw[BC he]at k;exact Ui (S:=⟨en,hp,nt⟩) hg (Zj (S:=⟨en,hp,nt⟩) hE h hc) (by cases ho:o.op<;>first|rfl|(rw[ho]at h;cases h)) hd k
theorem Kn(hE:Ce P E){b:Bool}(hg:Af ops en o=some true)(h:cH E en o.op=some b)(hd:B1 o.dst nt=true)(he:Be o.dst (.d (.b b)) en=some e)(k:We P ops (i+1) rest ⟨e,hp,nt⟩ K):We P ops i (o::rest) ⟨en,hp,nt⟩ K:=by
 rw[BC he]at k;exact Ui (S:=⟨en,hp,nt⟩) hg (lK (S:=⟨en,hp,nt⟩) hE h) (TY h) hd k
theorem KF{g:Nat}{ds:yp}{d:D}(hT:Go.Gar.Fn P g ds d)(hg:Af ops en o=some true){fo:Operand}{l:List Operand}{ys:yr}(h:callOf o.op=some (fo,l))(hf:EY en fo=some (.fn (.func g) [] []))(hxs:K4 en l=some ys)(hx:Oe ys ds)(hd:B1 o.dst nt=true)(he:Be o.dst (.d d) en=some e)(k:We P ops (i+1) rest ⟨e,hp,nt⟩ K):We P ops i (o::rest) ⟨en,hp,nt⟩ K:=by
 obtain⟨c,ho,hc,hl⟩:=Oo h;subst hl;rw[BC he]at k;exact xF (S:=⟨en,hp,nt⟩) ho hc hg hf hxs hx hd hT k
theorem Fq(hE:Ce P E)(hg:Af ops en o=some true)(h:P0 E en hp o.op=some (c,x))(hd:B1 o.dst nt=true)(he:Be o.dst x' en=some e)(k:wK P ops (i+1) rest ⟨e,hp,nt⟩ f xs K)(hc:c=true)(hx:x=x':=by rfl):wK P ops i (o::rest) ⟨en,hp,nt⟩ f xs K:=by
 subst hx;rw[BC he]at k;exact u7 (S:=⟨en,hp,nt⟩) hg (P1 (S:=⟨en,hp,nt⟩) hE h hc) (by cases ho:o.op<;>first|rfl|(rw[ho]at h;cases h)) hd k
theorem Sq(hE:Ce P E)(hg:Af ops en o=some true)(h:P0 E en hp o.op=some (c,x))(hd:B1 o.dst nt=true)(he:Be o.dst x' en=some e)(k:pM P ops (i+1) rest ⟨e,hp,nt⟩ cs Q)(hc:c=true)(hx:x=x':=by rfl):pM P ops i (o::rest) ⟨en,hp,nt⟩ cs Q:=by
 subst hx;rw[BC he]at k;exact u9 (S:=⟨en,hp,nt⟩) hg (P1 (S:=⟨en,hp,nt⟩) hE h hc) hd k
theorem pg{x:D}{cs':ym}(hr:isRecover o.op=true)(hg:Af ops en o=some true)(hd:B1 o.dst nt=true)(he:Be o.dst (.d x) en=some e)(hx:(recoverD cs=none/\x= .ni/\cs'=cs)\/∃t v,recoverD cs=some (.iface t v,cs')/\x= .ifc t v)(k:pM P ops (i+1) rest ⟨e,hp,nt⟩ cs' Q):pM P ops i (o::rest) ⟨en,hp,nt⟩ cs Q:=by
 rw[BC he]at k;exact pw (S:=⟨en,hp,nt⟩) hr hg hd hx k
end
end Go.Gar
