/- Part 5 of a proof. Conditions: those that its theorems state. -/
import Derived.Test.YthlmmkmeoblbhaaGreatQ04
import Derived.Sort.Grow
import Derived.Laws.Cover3
import Derived.RecoverIn
set_option linter.unusedSimpArgs false
set_option linter.unusedVariables false
set_option linter.unnecessarySimpa false
set_option maxHeartbeats 40000000
set_option maxRecDepth 4000
namespace Go.Gar
def Ord(ops:ya):yn->BK->Prop
 |listed,[]=>Region.ready .any ops listed=[]
 |listed,j::r=>j∈Region.ready .any ops listed/\Ord ops (listed.setIfInBounds j true) r
section
variable {F:Fence}{n:Nat}{P:Program}{ops:ya}{Q:Exit->Act->World->Prop}
theorem Wg:∀{L:BK}{fuel:Nat}{listed:yn}{a:Act}{w:World},wpAnyIn F n P .any ops Q fuel listed a w->Ord ops listed L->wpOpsIn F n P ops Q L a w
 |[],0,_,_,_,h,_=>by simpa[wpOpsIn]using h.2
 |[],_+1,_,_,_,h,o=>by simpa[wpOpsIn]using h.1 o
 |j::r,0,_,_,_,h,o=>by
  have:=o.1;rw[h.1]at this;cases this
 |j::r,fuel+1,_,_,_,h,o=>by
  rw[wpOpsIn_cons];exact wpOpIn_mono (fun a w k=>Wg k o.2) (h.2 j o.1)
variable {listed:yn}
theorem count_set{i fuel:Nat}(hun:listed[i]? =some false)(hc:listed.toList.countP (fun b=> !b)<=fuel+1):(listed.setIfInBounds i true).toList.countP (fun b=> !b)<=fuel:=by
 obtain⟨hil,e⟩:=zZ.1 hun;have hl:listed.toList[i]'(by simpa using hil)=false:=by simpa using e
 have:(listed.setIfInBounds i true).toList=listed.toList.set i true:=by simp
 rw[this,List.countP_set (by simpa using hil),hl];simp only[Bool.not_false,zx,q1Y,q0F,zo];have hpos:0<listed.toList.countP (fun b=> !b):=List.countP_pos_iff.2 ⟨false,by rw[<-hl];exact q0a _,rfl⟩;have hc':List.countP (fun b=> !b) listed.toList<=fuel+1:=hc;omega
theorem rW:∀(fuel t:Nat)(listed:yn),listed.size=ops.size->listed.toList.countP (fun b=> !b)<=fuel->Ord ops listed (Region.linearise.go .any ops fuel t listed []):=by
 intro fuel
 induction fuel with
 |zero=>
  intro t listed hs hc;simp only[Region.linearise.go,List.reverse_nil,Ord]
  cases hr:Region.ready .any ops listed with
  |nil=>rfl
  |cons i l=>
   have:i∈Region.ready .any ops listed:=by rw[hr];simp
   rw[Dk hs]at this;obtain⟨h1,_⟩:=this;obtain⟨hil,e⟩:=zZ.1 h1;have h0:listed.toList.countP (fun b=> !b)=0:=om
   rw[List.countP_eq_zero]at h0;have:=h0 listed[i] sm;rw[e]at this;simp at this
 |succ fuel ih=>
  intro t listed hs hc;simp only[Region.linearise.go]
  change Ord ops listed (match(Region.ready .any ops listed)[t%(Region.ready .any ops listed).length]? with
   |some i=>Region.linearise.go .any ops fuel (t/(Region.ready .any ops listed).length) (listed.setIfInBounds i true) [i]
   |none=>[].reverse)
  cases hi:(Region.ready .any ops listed)[t%(Region.ready .any ops listed).length]? with
  |none=>
   show Region.ready .any ops listed=[]
   cases hr:Region.ready .any ops listed with
   |nil=>rfl
   |cons x xs=>
    rw[hr]at hi;have hlt:t%(x::xs).length<(x::xs).length:=Nat.mod_lt _ sm;simp at hi;simp at hlt;omega
  |some i=>
   simp only[];rw[linearise_go_acc,List.reverse_singleton,List.singleton_append];have hm:=zM hi;refine⟨hm,ih _ _ (by simp[hs]) (count_set ((Dk hs).1 hm).1 hc)⟩
def eOn(σ:Nat->Nat)(e:Edge):Edge:={e with on:=σ e.on}
def sH(σ:Nat->Nat)(x y j:Nat)(o:Oper):Oper:=
 {o with after:=(o.after.toList.map (eOn σ)++(if Nat.beq j x then[(⟨σ y,.data⟩:Edge)]else[])).toArray,guard:=o.guard.map fun g=>(σ g.1,g.2)}
def vm(σ τ:Nat->Nat)(x y:Nat)(l:yb):Nat->yb
 |0=>[]
 |p+1=>vm σ τ x y l p++(match l[τ p]? with|some o=>[sH σ x y (τ p) o]|none=>[])
structure Perm (σ τ:Nat->Nat) (n:Nat):Prop where
 lt:∀j,j<n->σ j<n
 lt':∀j,j<n->τ j<n
 st:∀j,j<n->σ (τ j)=j
 ts:∀j,j<n->τ (σ j)=j
theorem ZJ{σ τ:Nat->Nat}{x y:Nat}{l:yb}(p:Perm σ τ l.length):∀{m:Nat},m<=l.length->(vm σ τ x y l m).length=m/\∀q,q<m->∃o,l[τ q]? =some o/\(vm σ τ x y l m)[q]? =some (sH σ x y (τ q) o):=by
 intro m
 induction m with
 |zero=>intro _;exact⟨rfl,fun q h=>om⟩
 |succ m ih=>
  intro hm;obtain⟨h1,h2⟩:=ih om;obtain⟨o1,ho⟩:∃o,l[τ m]? =some o:=⟨_,yj (p.lt' m om)⟩;refine⟨by simp only[vm,ho,yw,h1,yu,zI],fun q hq=> ?_⟩;simp only[vm,ho];rcases q0A q m with hlt|hge
  .obtain⟨o,q1,q2⟩:=h2 q hlt;exact⟨o,q1,by rw[zW om];exact q2⟩
  .have:q=m:=om
   subst this;exact⟨_,ho,by rw[zl om,h1];simp⟩
def Qd(σ τ:Nat->Nat)(x y:Nat)(ops:ya):ya:=(vm σ τ x y ops.toList ops.toList.length).toArray
variable {σ τ:Nat->Nat}{x y:Nat}
theorem Ic(p:Perm σ τ ops.size):(Qd σ τ x y ops).size=ops.size:=by
 simp only[Qd,List.size_toArray];rw[(ZJ (x:=x) (y:=y) (l:=ops.toList) (by simpa using p) (yV _)).1];simp
variable {j:Nat}
theorem Wu(p:Perm σ τ ops.size){o:Oper}(h:ops[j]? =some o):(Qd σ τ x y ops)[σ j]? =some (sH σ x y j o):=by
 have hj:j<ops.size:=(zZ.1 h).1;obtain⟨q,h1,h2⟩:=(ZJ (x:=x) (y:=y) (l:=ops.toList) (by simpa using p) (yV _)).2 (σ j) (by simpa using p.lt j hj);rw[p.ts j hj]at h1 h2;have:q=o:=by simpa[h]using h1.symm
 subst this;simpa[Qd]using h2
theorem jO(p:Perm σ τ ops.size){o:Oper}(hg:∀g,o.guard=some g->g.1<ops.size)(tmps:yd):Region.wanted (sH σ x y j o) (yielded (Qd σ τ x y ops) tmps)=Region.wanted o (yielded ops tmps):=by
 unfold Region.wanted sH
 cases hgd:o.guard with
 |none=>simp
 |some g=>
  have hlt:=hg g hgd;obtain⟨q,hq⟩:∃q,ops[g.1]? =some q:=⟨ops[g.1],Array.getElem?_eq_getElem hlt⟩;have h1:(Qd σ τ x y ops)[σ g.1]? =some (sH σ x y g.1 q):=Wu p hq;simp only[Option.map_some];show(yielded (Qd σ τ x y ops) tmps (σ g.1)==some g.2)=_;unfold yielded;rw[h1,hq];rfl
theorem az(p:Perm σ τ ops.size)(hg:∀(j:Nat)(o:Oper) g,ops[j]? =some o->o.guard=some g->g.1<ops.size):∀{L:BK}{a:Act}{w:World},(∀j∈L,j<ops.size)->wpOpsIn F n P (Qd σ τ x y ops) Q (L.map σ) a w->wpOpsIn F n P ops Q L a w
 |[],a,w,_,h=>h
 |j::r,a,w,hL,h=>by
  have hj:=hL j sm;obtain⟨o,ho⟩:∃o,ops[j]? =some o:=⟨_,Array.getElem?_eq_getElem hj⟩;have ih:∀a w,wpOpsIn F n P (Qd σ τ x y ops) Q (r.map σ) a w->wpOpsIn F n P ops Q r a w:=fun a w=>az p hg (fun j hj=>hL j (by simp[hj]))
  rw[zV,wpOpsIn_cons]at h;rw[wpOpsIn_cons];refine wpOpIn_mono ih ?_;unfold wpOpIn at h|-;rw[Wu p ho]at h;rw[ho];simp only at h|-;rw[jO p (hg j o · ho)]at h;exact h
theorem Ib(p:Perm σ τ ops.size)(hb:∀(j:Nat)(o:Oper),ops[j]? =some o->∀e∈o.after,Region.binds .any e=true->e.on<ops.size)(hy:y<ops.size){listed':yn}(hs:listed.size=ops.size)(hs':listed'.size=ops.size)(hl:∀j,j<ops.size->listed'[σ j]? =listed[j]?)(hj:j<ops.size):
  (j∈Region.ready .any ops listed->(j=x->listed[y]? =some true)->σ j∈Region.ready .any (Qd σ τ x y ops) listed')/\(σ j∈Region.ready .any (Qd σ τ x y ops) listed'->j∈Region.ready .any ops listed):=by
 have hsz:=Ic (x:=x) (y:=y) p;obtain⟨o,ho⟩:∃o,ops[j]? =some o:=⟨_,Array.getElem?_eq_getElem hj⟩;have ho':(Qd σ τ x y ops)[σ j]? =some (sH σ x y j o):=Wu p ho;rw[Dk hs,Dk (by rw[hs',hsz])];constructor
 .rintro⟨h1,o2,h2,h3⟩ hx;rw[ho]at h2;cases h2;refine⟨by rw[hl j hj];exact h1,_,ho',fun e he hbe=> ?_⟩;simp only[sH,List.mem_toArray,q04,q0q]at he;rcases he with⟨e0,h0,rfl⟩|he
  .have hb0:Region.binds .any e0=true:=hbe;have h0':e0∈o.after:=by simpa using h0
   show listed'[σ e0.on]? =some true;rw[hl _ (hb j o ho e0 h0' hb0)];exact h3 e0 h0' hb0
  .split at he
   .rename_i hjx;simp only[q00]at he;subst he;show listed'[σ y]? =some true;rw[hl _ hy];exact hx (zH hjx)
   .cases he
 .rintro⟨h1,o2,h2,h3⟩;rw[ho']at h2;cases h2;refine⟨by rw[<-hl j hj];exact h1,o,ho,fun e he hbe=> ?_⟩;rw[<-hl _ (hb j o ho e he hbe)];exact h3 (eOn σ e) (by simp only[sH,List.mem_toArray,q04,q0q];exact .inl ⟨e,by simpa using he,rfl⟩) hbe
theorem mz(p:Perm σ τ ops.size)(hb:∀(j:Nat)(o:Oper),ops[j]? =some o->∀e∈o.after,Region.binds .any e=true->e.on<ops.size)(hy:y<ops.size):∀{L:BK}{listed listed':yn},listed.size=ops.size->listed'.size=ops.size->
  (∀j,j<ops.size->listed'[σ j]? =listed[j]?)->(listed[x]? =some true\/listed[y]? =some true)->Ord ops listed L->Ord (Qd σ τ x y ops) listed' (L.map σ):=by
 have hsz:=Ic (x:=x) (y:=y) p;intro L
 induction L with
 |nil=>
  intro listed listed' hs hs' hl hxy h;show Region.ready .any (Qd σ τ x y ops) listed'=[]
  cases hr:Region.ready .any (Qd σ τ x y ops) listed' with
  |nil=>rfl
  |cons i l=>
   have hi:i∈Region.ready .any (Qd σ τ x y ops) listed':=by rw[hr];simp
   have hlt:i<ops.size:=by
    obtain⟨_,o,h2,_⟩:=(Dk (by rw[hs',hsz])).1 hi;have:=(zZ.1 h2).1;omega
   have:=(Ib (x:=x) p hb hy hs hs' hl (p.lt' i hlt)).2 (by rw[p.st i hlt];exact hi);rw[show Region.ready .any ops listed=[]from h]at this;cases this
 |cons j r ih=>
  intro listed listed' hs hs' hl hxy h
  have hj:j<ops.size:=by
   obtain⟨_,o,h2,_⟩:=(Dk hs).1 h.1;exact(zZ.1 h2).1
  have hun:=((Dk hs).1 h.1).1;refine⟨(Ib (x:=x) p hb hy hs hs' hl hj).1 h.1 fun e=> ?_,ih (by simp[hs]) (by simp[hs']) (fun i hi=> ?_) ?_ h.2⟩
  .subst e;rcases hxy with h'|h'
   .rw[hun]at h';cases h'
   .exact h'
  .by_cases e:i=j
   .subst e;rw[q0K (by rw[hs'];exact p.lt i hi),q0K (by rw[hs];exact hi)]
   .have e':σ j≠σ i:=fun h=>e (by rw[<-p.ts i hi,<-h,p.ts j hj]);rw[q0P e',q0P (Ne.symm e)]
    exact hl i hi
  .rw[GV (by rw[hs];exact hj),GV (by rw[hs];exact hj)];exact hxy.imp .inr .inr
variable {σ' τ':Nat->Nat}
theorem rX(p:Perm σ τ ops.size)(p':Perm σ' τ' ops.size)(hb:∀(j:Nat)(o:Oper),ops[j]? =some o->∀e∈o.after,Region.binds .any e=true->e.on<ops.size)(hx:x<ops.size)(hy:y<ops.size)(hxy:x≠y):
  ∀{L:BK}{listed l1 l2:yn},listed.size=ops.size->l1.size=ops.size->l2.size=ops.size->(∀j,j<ops.size->l1[σ j]? =listed[j]?)->(∀j,j<ops.size->l2[σ' j]? =listed[j]?)->Ord ops listed L->
  Ord (Qd σ τ x y ops) l1 (L.map σ)\/Ord (Qd σ' τ' y x ops) l2 (L.map σ'):=by
 intro L
 induction L with
 |nil=>
  intro listed l1 l2 hs hs1 hs2 e1 e2 h;left;have hsz:=Ic (x:=x) (y:=y) p;show Region.ready .any (Qd σ τ x y ops) l1=[]
  cases hr:Region.ready .any (Qd σ τ x y ops) l1 with
  |nil=>rfl
  |cons i l=>
   have hi:i∈Region.ready .any (Qd σ τ x y ops) l1:=by rw[hr];simp
   have hlt:i<ops.size:=by
    obtain⟨_,o,h2,_⟩:=(Dk (by rw[hs1,hsz])).1 hi;have:=(zZ.1 h2).1;omega
   have:=(Ib (x:=x) p hb hy hs hs1 e1 (p.lt' i hlt)).2 (by rw[p.st i hlt];exact hi);rw[show Region.ready .any ops listed=[]from h]at this;cases this
 |cons j r ih=>
  intro listed l1 l2 hs hs1 hs2 e1 e2 h
  have hj:j<ops.size:=by
   obtain⟨_,o,h2,_⟩:=(Dk hs).1 h.1;exact(zZ.1 h2).1
  have up:∀{σ τ:Nat->Nat}(_:Perm σ τ ops.size){l1:yn},l1.size=ops.size->(∀j,j<ops.size->l1[σ j]? =listed[j]?)->∀i,i<ops.size->(l1.setIfInBounds (σ j) true)[σ i]? =(listed.setIfInBounds j true)[i]?:=by
   intro σ τ p l1 hs1 e1 i hi
   by_cases e:i=j
   .subst e;rw[q0K (by rw[hs1];exact p.lt i hi),q0K (by rw[hs];exact hi)]
   .have e':σ j≠σ i:=fun h=>e (by rw[<-p.ts i hi,<-h,p.ts j hj]);rw[q0P e',q0P (Ne.symm e)]
    exact e1 i hi
  by_cases hjy:j=y
  .subst hjy;left;exact⟨(Ib (x:=x) p hb hy hs hs1 e1 hj).1 h.1 fun e=>absurd e.symm hxy,mz (x:=x) p hb hy (by simp[hs]) (by simp[hs1]) (up p hs1 e1) (.inr ((GV (by rw[hs];exact hj)).2 (.inl rfl))) h.2⟩
  .by_cases hjx:j=x
   .subst hjx;right;exact⟨(Ib (x:=y) p' hb hx hs hs2 e2 hj).1 h.1 fun e=>absurd e hxy,mz (x:=y) p' hb hx (by simp[hs]) (by simp[hs2]) (up p' hs2 e2) (.inr ((GV (by rw[hs];exact hj)).2 (.inl rfl))) h.2⟩
   .rcases ih (by simp[hs]) (by simp[hs1]) (by simp[hs2]) (up p hs1 e1) (up p' hs2 e2) h.2 with k|k
    .exact .inl ⟨(Ib (x:=x) p hb hy hs hs1 e1 hj).1 h.1 fun e=>absurd e hjx,k⟩
    .exact .inr ⟨(Ib (x:=y) p' hb hx hs hs2 e2 hj).1 h.1 fun e=>absurd e hjy,k⟩
theorem bA:∀{L:BK}{listed:yn},Ord ops listed L->∀j∈L,j<ops.size
 |[],_,_,j,hj=>by cases hj
 |i::r,listed,h,j,hj=>by
  rcases q0C.1 hj with rfl|hj
  .obtain⟨_,o,ho,_⟩:=mem_ready.1 h.1;exact(zZ.1 ho).1
  .exact bA h.2 j hj
theorem TY{id:Nat}{a:Act}{w:World}(hm:P.follows .mixedOrders=true)(p:Perm σ τ ops.size)(p':Perm σ' τ' ops.size)(hb:∀(j:Nat)(o:Oper),ops[j]? =some o->(∀e∈o.after,Region.binds .any e=true->e.on<ops.size)/\∀g,o.guard=some g->g.1<ops.size)(hx:x<ops.size)(hy:y<ops.size)(hxy:x≠y)(h1:wpAnyIn F n P .any (Qd σ τ x y ops) Q ops.size (Array.replicate ops.size false) a {w with drawn:=w.drawn+1})(h2:wpAnyIn F n P .any (Qd σ' τ' y x ops) Q ops.size (Array.replicate ops.size false) a {w with drawn:=w.drawn+1}):(Code.region id ops true).wpIn F n P Q a w:=by
 refine wpIn_region_draw fun t=> ?_;simp only[Region.schedule,hm,Bool.true_or,zx,Region.linearise]
 have ho:=rW (ops:=ops) ops.size t (Array.replicate ops.size false) sm (by simp[List.countP_replicate])
 have hr:∀{σ τ:Nat->Nat}(_:Perm σ τ ops.size),∀j,j<ops.size->(Array.replicate ops.size false)[σ j]? =(Array.replicate ops.size false)[j]?:=by
  intro σ τ p j hj;rw[Array.getElem?_replicate,Array.getElem?_replicate,zN hj,zN (p.lt j hj)]
 rcases rX p p' (fun j o h=>(hb j o h).1) hx hy hxy sm sm sm (hr p) (hr p') ho with k|k
 .exact az p (fun j o g h=>(hb j o h).2 g) (bA ho) (Wg h1 k)
 .exact az p' (fun j o g h=>(hb j o h).2 g) (bA ho) (Wg h2 k)
end
end Go.Gar
namespace Go.Gar
mutual
theorem AV.TZ{ι:Nat->Nat}{k:Nat}(h:∀i,i<k->ι i=i):∀{x:AV},x.ok k=true->x.ren ι=x
 | .d _,_| .u,_| .e0,_| .dp _,_=>rfl
 | .ptr id _ _,o| .sl id _ _,o| .bs id _ _ _ _,o| .ep id _ _ _ _,o| .yl id,o| .mp id,o=>by simp only[AV.ok,q0k]at o;simp only[AV.ren,h id o]
 | .ag _,o| .tup _,o=>by simp only[AV.ok]at o;simp only[AV.ren,AV.MD h o]
 | .fn f a b,o=>by simp only[AV.ok,yU]at o;simp only[AV.ren,AV.MD h o.1,AV.MD h o.2]
theorem AV.MD{ι:Nat->Nat}{k:Nat}(h:∀i,i<k->ι i=i):∀{xs:yq},AV.oks k xs=true->AV.Dv ι xs=xs
 |[],_=>rfl
 |x::r,o=>by simp only[AV.oks,yU]at o;simp only[AV.Dv,AV.TZ h o.1,AV.MD h o.2]
end
theorem eU{ι:Nat->Nat}{k:Nat}(h:∀i,i<k->ι i=i):∀{e:yr},F2 k e=true->NW ι e=e
 |[],_=>rfl
 |p::r,o=>by
  simp only[F2,yU]at o;simp only[NW,AV.TZ h o.1,eU h o.2]
theorem eV{ι:Nat->Nat}{k:Nat}(h:∀i,i<k->ι i=i):∀{e:z6},mapOk k e=true->iX ι e=e
 |[],_=>rfl
 |p::r,o=>by
  simp only[mapOk,yU]at o;simp only[iX,AV.TZ h o.1,eV h o.2]
variable {k:Nat}
theorem AF.TZ{ι:Nat->Nat}(h:∀i,i<k->ι i=i):∀{b:AF},b.ok k=true->b.ren ι=b
 | .gone,_| .a _,_| .HW _ _ _,_| .many _,_=>rfl
 | .c cs,o=>by simp only[AF.ren,AV.MD h (show AV.oks k cs=true from o)]
 | .m es,o=>by simp only[AF.ren,eV h (show mapOk k es=true from o)]
 | .lp r,o=>by simp only[AF.ren,eU h (show F2 k r.env=true from o)]
def sw(a b j:Nat):Nat:=if Nat.beq j a then b else if Nat.beq j b then a else j
theorem QX(a b j:Nat):sw a b (sw a b j)=j:=by
 simp only[sw,LO,yc];split<;>split<;>(try split)<;>omega
variable {a b:Nat}
theorem tS{j:Nat}(ha:a<k)(hb:b<k)(hj:j<k):sw a b j<k:=by
 simp only[sw];split
 .exact hb
 .split
  .exact ha
  .exact hj
theorem vL{j:Nat}(ha:k<=a)(hb:k<=b)(hj:j<k):sw a b j=j:=by
 simp only[sw,LO,yc];rw[zO om,zO om]
def tR(H:yz)(a b:Nat):Nat->yz
 |0=>[]
 |m+1=>tR H a b m++(match H[sw a b m]? with|some x=>[x.ren (sw a b)]|none=>[])
def jX(a b:Nat)(H:yz):yz:=tR H a b H.length
def ov(a b:Nat)(S:St):St:=⟨NW (sw a b) S.env,jX a b S.H,S.n⟩
theorem sW{H:yz}(ha:a<H.length)(hb:b<H.length):∀{m:Nat},m<=H.length->(tR H a b m).length=m/\∀i,i<m->(tR H a b m)[i]? =H[sw a b i]?.map (AF.ren (sw a b)):=by
 intro m
 induction m with
 |zero=>intro _;exact⟨rfl,fun i h=>om⟩
 |succ m ih=>
  intro hm;obtain⟨h1,h2⟩:=ih om;obtain⟨x,hx⟩:∃x,H[sw a b m]? =some x:=⟨_,yj (tS ha hb om)⟩;refine⟨by simp only[tR,hx,yw,h1,yu,zI],fun i hi=> ?_⟩;simp only[tR,hx];rcases q0A i m with hlt|hge
  .rw[zW om];exact h2 i hlt
  .have:i=m:=om
   subst this;rw[zl om,h1,hx];simp
theorem Wz{H:yz}(ha:a<H.length)(hb:b<H.length)(i:Nat):(jX a b H)[i]? =H[sw a b i]?.map (AF.ren (sw a b)):=by
 obtain⟨h1,h2⟩:=sW ha hb (yV H.length);rcases q0A i H.length with hlt|hge
 .exact h2 i hlt
 .rw[jX,q0R om,q0R,Option.map_none];have e:=QX a b i;rcases q0A (sw a b i) H.length with h|h
  .have:=tS ha hb h;rw[e]at this;omega
  .exact h
theorem xf{ro:yW}{N:NB}{S:St}{G G':Gh}{a:Act}{w w':World}{p q:Nat}(r:Rel ro N S G' a w')(hf:D4 G w G' w')(hk:G.H.length=k)(ho:Ai k G.H=true)(hr:∀id,ro=some id->id<k)(h1:k<=p)(h2:k<=q)(h3:p<S.H.length)(h4:q<S.H.length):
  ∃G'',Rel ro N (ov p q S) G'' a w'/\D4 G w G'' w':=by
 have e3:p<G'.H.length:=by rw[r.heap];exact h3
 have e4:q<G'.H.length:=by rw[r.heap];exact h4
 let K:Gh:=⟨fun j=>G'.ρ (sw p q j),jX p q G'.H,G'.m⟩
 have up:∀id b,G'.H[id]? =some b->K.H[sw p q id]? =some (b.ren (sw p q))/\K.ρ (sw p q id)=G'.ρ id:=by
  intro id b hb;refine⟨?_,by show G'.ρ (sw p q (sw p q id))=_;rw[QX]⟩;show(jX p q G'.H)[sw p q id]? =_;rw[Wz e3 e4,QX,hb];rfl
 have dn:∀j b,K.H[j]? =some b->∃b0,G'.H[sw p q j]? =some b0/\b=b0.ren (sw p q):=by
  intro j b hb;have hb:(jX p q G'.H)[j]? =some b:=hb;rw[Wz e3 e4,q0B]at hb;obtain⟨b0,k1,k2⟩:=hb;exact⟨b0,k1,k2.symm⟩
 have dnS:∀(j:Nat)(rs:List (Option (Nat×Nat×AT))),K.H[j]? =some (.many rs)->G'.H[sw p q j]? =some (.many rs):=fun j rs hb=>by
  obtain⟨b0,k1,k2⟩:=dn j _ hb;cases b0<;>simp only[AF.ren,reduceCtorEq,AF.many.injEq]at k2;subst k2;exact k1
 have ownP:∀b,EX K b->EX G' b:=by
  rintro b ⟨id,M,blk,h1,h2,h3⟩;obtain⟨b0,k1,rfl⟩:=dn id blk h1;rw[EI]at h2;exact⟨sw p q id,M,b0,k1,h2,h3⟩
 have own:∀b,Own K b->Own G' b:=fun b h=>h.imp (ownP b) fun⟨id,rs,h1,h2⟩=>⟨sw p q id,rs,dnS id rs h1,h2⟩;have low:∀i,i<k->sw p q i=i:=fun i hi=>vL h1 h2 hi
 refine⟨K,⟨?_,⟨fun j b hb=> ?_,fun i j x y b M M' hx hy lx ly r1 r2=> ?_,r.rel.mem,fun b hb=>r.rel.sep b (own b hb),r.rel.st,fun j rs hj=>⟨(r.rel.mny _ rs (dnS j rs hj)).1,fun b hb=>⟨fun h=>((r.rel.mny _ rs (dnS j rs hj)).2 b hb).1 (ownP b h),fun j' rs' hj' hb'=>by
  have:=((r.rel.mny _ rs (dnS j rs hj)).2 b hb).2 _ rs' (dnS j' rs' hj') hb'
  rw[<-QX p q j',this,QX]⟩⟩⟩,r.size,fun t x hx=> ?_,?_,fun id hid=> ?_⟩,⟨hf.os,hf.tape,hf.output,hf.size,fun b hb hno=> ?_,hf.memNew,fun id b hb=> ?_,hf.gle.mem⟩⟩
 .show jX p q G'.H=jX p q S.H;rw[r.heap]
 .obtain⟨b0,k1,rfl⟩:=dn j b hb;have:=BR.ren (G0:=G') (G:=K) (ι:=sw p q) (Mem.le_refl _) up (up _ _ k1).2 (r.rel.blk _ _ k1);rw[QX]at this;exact this
 .obtain⟨x0,k1,rfl⟩:=dn i x hx;obtain⟨y0,k2,rfl⟩:=dn j y hy;rw[EI]at lx ly;have:=r.rel.inj _ _ _ _ b M M' k1 k2 lx ly r1 r2;rw[<-QX p q i,this,QX]
 .have hx:get (NW (sw p q) S.env) t=some x:=hx;rw[JY,q0B]at hx;obtain⟨z,hz,rfl⟩:=hx;obtain⟨v,hv,hrv⟩:=r.env t z hz;exact⟨v,hv,RV.ren (G0:=G') (G:=K) (ι:=sw p q) (Mem.le_refl _) up hrv⟩
 .obtain⟨m0,ms,m1,m2,m3⟩:=r.marks;exact⟨m0,ms,m1,m2,fun i hi=>⟨(m3 i hi).1,(m3 i hi).2.1,fun h=>(m3 i hi).2.2 (own _ h)⟩⟩
 .obtain⟨l,M,m,c1,c2⟩:=r.round id hid;have hlow:=low id (hr id hid)
  have c3:(jX p q S.H)[id]? =some ((AF.lp l).ren (sw p q)):=by
   rw[Wz h3 h4,hlow,c1];rfl
  exact⟨_,M,m,c3,by show G'.ρ (sw p q id)=_;rw[hlow];exact c2⟩
 .obtain⟨f1,f2⟩:=hf.keep b hb hno;exact⟨f1,fun h=>f2 (own b h)⟩
 .obtain⟨b',hb',hs⟩:=hf.gle.blk id b hb;have hid:id<k:=by rw[<-hk];exact(yZ.1 hb).1
  obtain⟨u1,u2⟩:=up id b' hb';rw[low id hid]at u1 u2;refine⟨_,u1,?_⟩;have:=hs.ren (G:=G) (G':=K) (ι:=sw p q) (j:=id) rfl u2;rwa [AF.TZ low (NH ho hb)]at this
section
variable {P:Program}{ro:yW}{ops:ya}{S0 S:St}{Q:Exit->St->Prop}{E:Nat->Option Bd}{acc:List Rc}{rest:yb}{o:Oper}{en:yr}{hp:yz}{nt:Nat}
def Qw(Q:Exit->St->Prop):Exit->St->Prop:=fun e S'=>∃env,(∀t x,get env t=some x->get S'.env t=some x)/\Q e ⟨env,S'.H,S'.n⟩
theorem Yn2(live:BK){e:yr}(l:y4)(hE:CV P E)(hd:L9 ops (acc.reverse.map Rc.k) l=true)(hx:EE E ops acc.reverse hp l)(he:FN live en=some e)(hQ:Q .normal ⟨e,hp,nt⟩):Wd P ro E ops S0 (PC P ro ops S0 (Qw Q)) acc [] ⟨en,hp,nt⟩:=by
 have:=D8 he;subst this;intro Sr ht hH hn he' hr;refine Rj hE ht hd (by rw[hH];exact hx) ⟨FO live en,fun t x hx=>he' t x (KO hx).2,?_⟩;rw[hH,hn];exact hQ
def vP(i k j:Nat):Nat:=if Nat.beq j k then i else if Nat.ble i j&&Nat.blt j k then j+1 else j
def uR(i k j:Nat):Nat:=if Nat.beq j i then k else if Nat.blt i j&&Nat.ble j k then j-1 else j
def Qf(i k:Nat)(ops:ya):ya:=Qd id id k i ops
def Qg(i k:Nat)(ops:ya):ya:=Qd (vP i k) (uR i k) i k ops
def Ls(ops:ya):Bool:=ops.toList.all fun o=>o.after.toList.all (fun e=>Nat.blt e.on ops.toList.length)&&(match o.guard with|some g=>Nat.blt g.1 ops.toList.length|none=>true)
theorem R4(n:Nat):Perm id id n:=⟨fun _ h=>h,fun _ h=>h,fun _ _=>rfl,fun _ _=>rfl⟩
theorem eJ{i k n:Nat}(hik:i<k)(hk:k<n):Perm (vP i k) (uR i k) n:=by
 constructor
 .intro j hj;simp only[vP,LO,yc,yU,Nat.ble_eq,q0k];split<;>(try split)<;>omega
 .intro j hj;simp only[uR,LO,yc,yU,Nat.ble_eq,q0k];split<;>(try split)<;>omega
 .intro j hj;simp only[vP,uR,LO,yc,yU,Nat.ble_eq,q0k]
  repeat' split
  all_goals omega
 .intro j hj;simp only[vP,uR,LO,yc,yU,Nat.ble_eq,q0k]
  repeat' split
  all_goals omega
def Qb(a b:Nat)(S1:St):Exit->St->Prop:=fun e S'=>e= .normal/\(S'=S1\/ov a b S'=S1)
theorem wQ{id:Nat}(i k a b:Nat){S1:St}(hm:P.follows .mixedOrders=true)(hik:(Nat.blt i k&&Nat.blt k ops.toList.length&&Ls ops)=true)(ho:Ai S.H.length S.H=true)
  (hab:(Nat.ble S.H.length a&&Nat.ble S.H.length b&&Nat.blt a S1.H.length&&Nat.blt b S1.H.length)=true)
  (h1:PC P ro (Qf i k ops) S (Qw (Qb a b S1))) (h2:PC P ro (Qg i k ops) S (Qw (Qb a b S1))) (hQ:Q .normal S1):W P ro (.region id ops true) S Q:=by
 simp only[yU,q0k,q0v]at hik;simp only[yU,q0k,Nat.ble_eq]at hab;obtain⟨⟨hlt,hk⟩,hed⟩:=hik;have hp':Perm (vP i k) (uR i k) ops.size:=eJ hlt hk
 have hb:∀(j:Nat)(o:Oper),ops[j]? =some o->(∀e∈o.after,Region.binds .any e=true->e.on<ops.size)/\∀g,o.guard=some g->g.1<ops.size:=by
  intro j o ho;unfold Ls at hed;rw[q0I]at hed;have:=hed o (by rw[Array.mem_toList_iff];exact Array.mem_of_getElem? ho);simp only[yU,q0I,q0k,q0v]at this;refine⟨fun e he _=>this.1 e (by simpa using he),fun g hg=> ?_⟩;have h2:=this.2;rw[hg]at h2;simpa[q0k]using h2
 intro N G act w r;have a1:=h1 N G act w r;have a2:=h2 N G act w r;rw[Qf,Ic (R4 _)]at a1;rw[Qg,Ic hp']at a2;refine q1O (TY (id:=id) hm (R4 _) hp' hb hk om om a1 a2) ?_;rintro e a' w' ⟨S',G',⟨env,hs,rfl,hS⟩,r',hf⟩;have r2:=r'.SH hs;rcases hS with rfl|rfl
 .exact⟨_,G',hQ,r2,hf⟩
 .have hl:∀H:yz,(jX a b H).length=H.length->(ov a b ⟨env,H,S'.n⟩).H.length=H.length:=fun H h=>h
  have hlen:(jX a b S'.H).length<=S'.H.length:=by
   have:∀m,(tR S'.H a b m).length<=m:=by
    intro m
    induction m with
    |zero=>exact yV _
    |succ m ih=>
     simp only[tR,yw];split<;>simp<;>omega
   exact this _
  have c1:a<S'.H.length:=by have:=hab.1.2;simp only[ov]at this;omega
  have c2:b<S'.H.length:=by have:=hab.2;simp only[ov]at this;omega
  obtain⟨G'',q1,q2⟩:=xf (k:=S.H.length) r2 hf (by rw[r.heap]) (by rw[r.heap];exact ho) r.VO hab.1.1.1 hab.1.1.2 c1 c2;exact⟨_,G'',hQ,q1,q2⟩
theorem tf{id:Nat}(E:Nat->Option Bd)(i k a b:Nat)(S1:St)(hm:P.follows .mixedOrders=true)(hik:(Nat.blt i k&&Nat.blt k ops.toList.length&&Ls ops)=true)(ho:Ai S.H.length S.H=true)
  (hab:(Nat.ble S.H.length a&&Nat.ble S.H.length b&&Nat.blt a S1.H.length&&Nat.blt b S1.H.length)=true)
  (h1:Wd P ro E (Qf i k ops) S (PC P ro (Qf i k ops) S (Qw (Qb a b S1))) [] (Qf i k ops).toList S)
  (h2:Wd P ro E (Qg i k ops) S (PC P ro (Qg i k ops) S (Qw (Qb a b S1))) [] (Qg i k ops).toList S) (hQ:Q .normal S1):W P ro (.region id ops true) S Q:=
 wQ i k a b hm hik ho hab (h1 S .nil rfl rfl (fun _ _ h=>h) (fun k=>sm)) (h2 S .nil rfl rfl (fun _ _ h=>h) (fun k=>sm)) hQ
end
end Go.Gar
namespace Go.Gar
def SP(env:yr)(op:Op):yy:=
 match op with
 | .binOp op _ p q _=>match Eo env p,Eo env q with
  |some (.d (.i k a)),some (.d (.i k' b))=>match op with
   | .add=>some (decide (k=k'),.d (.i k (k.wrap (a+b))))
   | .sub=>some (decide (k=k'),.d (.i k (k.wrap (a-b))))
   | .mul=>some (decide (k=k'),.d (.i k (k.wrap (a*b))))
   |_=>none
  |_,_=>none
 |_=>none
variable {P:Program}
theorem fb{S:St}{o:Oper}{x:AV}{c:Bool}(h:SP S.env o.op=some (c,x))(hc:c=true):Es P o S x S.H:=by
 subst hc;obtain⟨dst,op,ty,pos,after,guard⟩:=o;simp only at h;unfold SP at h;split at h
 .rename_i op t p q yt;split at h
  .rename_i k a k' b hy hz
   have key:∀{op':BinOp}{n:Int},op=op'->(∀(w:World),(binOp op' t (.int k a) (.int k b)).run P w= .ok (.int k n) w)->(∃r,fL op' (.i k a) (.i k' b)=some r)->k=k'->x= .d (.i k n)->Es P ⟨dst,.binOp op t p q yt,ty,pos,after,guard⟩ S x S.H:=by
    rintro op' n rfl hrun ⟨r0,hb⟩ rfl rfl;refine .of_run (f:=fun a=>do eqGuard op t p q (a.eval p) (a.eval q);binOp op t (a.eval p) (a.eval q)) (fun _=>rfl) fun ro N G a w r=> ?_
    have hp:=B2 r.rel.st r.env hy;have hq:=B2 r.rel.st r.env hz;simp only[RV]at hp hq;have hg:=Iu (P:=P) (op:=op) (t:=t) (x:=p) (y:=q) (v:=a.eval p) (u:=a.eval q) (w:=w) (.inl (XJ (Rv hb) hp));simp only[RD]at hp hq;refine⟨.int k n,?_,by simp[RV,RD]⟩;simp only[zf,hg,zQ];rw[hp,hq];exact hrun w
   split at h
   .simp only[yh,zL,yc]at h;exact key rfl (fun w=>by simp[binOp,Op.intArith]) ⟨_,rfl⟩ h.1 h.2.symm
   .simp only[yh,zL,yc]at h;exact key rfl (fun w=>by simp[binOp,Op.intArith]) ⟨_,rfl⟩ h.1 h.2.symm
   .simp only[yh,zL,yc]at h;exact key rfl (fun w=>by simp[binOp,Op.intArith]) ⟨_,rfl⟩ h.1 h.2.symm
   .cases h
  .cases h
 .cases h
variable {env:yr}
theorem SQ{op:Op}{r:Bool×AV}(h:SP env op=some r):∀c,op≠ .defer c:=fun c e=>by subst e;cases h
def aL(E:Nat->Option Bd)(env:yr)(H:yz)(op:Op):Option (Bool×yz):=
 match op with
 | .store t a x=>match E t,Eo env a,Eo env x with
  |some y,some (.ep id i off n sz),some (.d (.i k m))=>match H[id]? with
   |some (.a (.by l))=>match setH id (.a (.by (l.set i (UInt8.ofNat m.toNat)))) H with
    |some H'=>some (Nat.beq n l.length&&decide (i<n)&&Nat.beq y.size 1&&Nat.beq off 0&&Nat.beq sz 1&&decide (k= .u8)&&decide (0<=m)&&decide (m<256),H')
    |none=>none
   |_=>none
  |_,_,_=>none
 |_=>none
theorem bi{α:Type}(l:List α)(i:Nat)(x:α)(h:i<l.length):l.take i++[x]++l.drop (i+1)=l.set i x:=by
 rw[List.set_eq_take_append_cons_drop,zN h];simp
variable {E:Nat->Option Bd}
theorem dQ(hE:CV P E){S:St}{o:Oper}{c:Bool}{H':yz}(h:aL E S.env S.H o.op=some (c,H'))(hc:c=true):Es P o S .u H':=by
 subst hc;unfold aL at h;split at h
 .rename_i t a x ho;split at h
  .rename_i y id i off n sz k m hy' ha hx;split at h
   .rename_i l hl;split at h
    .rename_i q hq;simp only[yh,zL,yU,yc]at h;obtain⟨⟨⟨⟨⟨⟨⟨⟨hn,hi⟩,hsz⟩,hoff⟩,hsz1⟩,rfl⟩,hm0⟩,hm1⟩,rfl⟩:=h;have hn:=zH hn;have hsz:=zH hsz;have hoff:=zH hoff;have hsz1:=zH hsz1;subst hn;subst hoff;subst hsz1;obtain⟨hid,rfl⟩:=J7 hq;have hy:=hE t y hy';intro ro N G act w r;have hl':G.H[id]? =some (.a (.by l)):=by rw[r.heap];exact hl
     have hva:=B2 r.rel.st r.env ha;have hvx:=B2 r.rel.st r.env hx;simp only[RV,RD]at hva hvx;obtain⟨_,blk,hb,hp⟩:=hva;rw[hl']at hb;cases hb;obtain⟨_,_,hp⟩:=hp;obtain⟨b,M,hρ,hva⟩:=hp rfl;obtain⟨_,_,hB⟩:=r.rel.blk id _ hl';rcases hB with⟨h0,hno⟩|⟨b',M',vs,T,hρ',hw,hM,hcell⟩
     .rw[hρ]at hno;cases hno
     rw[hρ]at hρ';cases hρ';have hlen:(slc (.by l)).length=l.length:=by simp[slc]
     have hvl:l.length<=vs.size:=by
      rcases q0x l.length with h0|h0
      .omega
      .obtain⟨v,hv,_⟩:=hcell (l.length-1) _ (yj (by rw[hlen];omega));have:=(zZ.1 hv).1;omega
     have hst:=run_storeCells_at P b i T [.int .u8 m] 0 vs w hw (by simp;omega) (by simp[Value.oneCell']);simp only[q1B]at hst;have hmm:(UInt8.ofNat m.toNat).toNat=m.toNat:=by rw[q0o];omega
     obtain⟨r1,r2⟩:=NU r.rel (cur:=(vs.toList.take i++[Value.int .u8 m]++vs.toList.drop (i+1)).toArray) hl' rfl (q:=.a (.by (l.set i (UInt8.ofNat m.toNat)))) rfl hρ (by simp[Ap,Gh.put,B3,Bt]) (by
      refine⟨rfl,trivial,.inr ⟨b,M,_,T,hρ,setRow_heap w b vs _ T _ hw,by simp;omega,fun j z hz=> ?_⟩⟩
      have e:slc (.by (l.set i (UInt8.ofNat m.toNat)))=(slc (.by l)).take i++[D.i .u8 m]++(slc (.by l)).drop (i+1):=by
       rw[bi _ _ _ (by rw[hlen];exact hi)];simp only[slc,List.map_set,hmm]
       congr 2;omega
      rw[e]at hz
      obtain⟨v,hv,hrv⟩:=KQ (R:=fun d v=>v.oneCell'=true/\RD G.m d v) (cs:=slc (.by l)) (xs:=[D.i .u8 m]) (vs:=vs.toList) (us:=[Value.int .u8 m]) (off:=i) (by rw[hlen];simp;omega) (by rw[hlen];simpa using hvl) rfl
       (fun k x hx=>by obtain⟨v,h1,h2⟩:=hcell k x hx;exact⟨v,by simpa using h1,h2⟩)
       (fun k x hx=>by
        cases k with
        |zero=>simp at hx;subst hx;exact⟨_,rfl,rfl,by simp[RD]⟩
        |succ k=>simp at hx) j z hz
      exact⟨v,by simpa using hv,hrv⟩)
     have key:(Instr.storeAt t (act.eval a) (act.eval x)).run P w= .ok () (w.setRow b (vs.toList.take i++[Value.int .u8 m]++vs.toList.drop (i+1)).toArray):=by
      rw[hva,hvx];simp only[Instr.storeAt,Instr.sureAddr,zf,zk,zQ,storeVar,BV hy,Nat.mul_one,q1B];rw[hsz];simpa[Value.cells]using hst
     refine⟨.skip,_,_,?_,.inl ⟨rfl,rfl⟩,?_,r1,r2⟩
     .unfold execOp;simp only[ho,zf,key,zQ,zk]
     .show G.H.set id _=S.H.set id _;rw[r.heap]
    .cases h
   .cases h
  .cases h
 .cases h
theorem Nu{H:yz}{op:Op}{r:Bool×yz}(h:aL E env H op=some r):∀c,op≠ .defer c:=fun c e=>by subst e;cases h
theorem GE{f:FuncId}{ds:yo}{r:D}{x:AV}{H:yz}(h:Bw P f (ds.map .d) [] x H)(hK:D5 H x r):Fn P f ds r:=by
 refine⟨h.1,fun m w vs hm hst hargs=> ?_⟩;let G:Gh:={ρ:=fun _=>none,H:=[],m:=m};have hr:B9 G w:=⟨fun id b hb=>by simp[G]at hb,fun id id' p q b N N' hp=>by simp[G]at hp,hm,fun b ho=>absurd ho R2,hst,Yf⟩;have hno:∀b,¬Own G b:=fun b=>R2
 refine(h.2 G w vs rfl hr (Q5.2 hargs)).mono ?_;rintro e w' ⟨v,y,G',rfl,⟨rfl,rfl⟩,hv,h2,hfr⟩
 let m':Mem:=fun b k=>match G'.m b k with
  |some v=>some v
  |none=>if w.heap.size<=b then w'.cell? ⟨b,k,none⟩else none
 have hle:G'.m.le m':=fun b k v hv=>by simp only[m',hv]
 have hmem:Q4 m' w':=by
  intro b k v hv;simp only[m']at hv;split at hv
  .rename_i u hu;cases hv;exact h2.mem b k _ hu
  .split at hv
   .exact hv
   .cases hv
 refine⟨v,m',rfl,WC h2 hle ?_ hK hv,Mem.le_trans hfr.gle.mem hle,hmem,?_,hfr.os,hfr.tape,hfr.output,hfr.size,fun b hb=>(hfr.keep b hb (hno b)).1⟩
 .intro b k v ho hc
  have hge:w.heap.size<=b:=by
   rcases q0A b w.heap.size with hlt|hge
   .exact absurd ho (hfr.keep b hlt (hno b)).2
   .exact hge
  simp only[m',h2.sep b ho k,zN hge,hc]
 .intro b k v hv;simp only[m']at hv;split at hv
  .rename_i u hu;cases hv;rcases hfr.memNew b k _ hu with h3|h3|h3
   .exact .inl h3
   .exact absurd h3 (hno b)
   .exact .inr h3
  .split at hv
   .rename_i hge;exact .inr hge
   .cases hv
def By(n:Nat):BK->Bool
 |[]=>false
 |a::r=>Nat.beq n a||By n r
section
variable {P:Program}{ro:yW}{E:Nat->Option Bd}{ops:ya}{i:Nat}{rest:yb}{Q:Exit->St->Prop}{o:Oper}{en:yr}{hp:yz}{nt:Nat}{S0:St}{A:Prop}{acc:List Rc}
variable {c:Bool}{e:yr}
theorem XwL(L:BK){x x':AV}(_:QB o.dst L=true)(hg:AX ops en o=some true)(h:SP en o.op=some (c,x))(hd:Au o.dst nt=true)(he:BU o.dst x' en=some e)(k:Wl P ro ops (i+1) rest ⟨e,hp,nt⟩ Q)(hc:c=true)(hx:x=x':=by rfl):Wl P ro ops i (o::rest) ⟨en,hp,nt⟩ Q:=by
 subst hx;rw[Az he]at k;exact Q8 hg (fb (S:=⟨en,hp,nt⟩) h hc) (SQ h) hd k
theorem Xsb(hE:CV P E){H' H'':yz}(hg:AX ops en o=some true)(h:aL E en hp o.op=some (c,H'))(hd:Au o.dst nt=true)(he:BU o.dst .u en=some e)(k:Wl P ro ops (i+1) rest ⟨e,H'',nt⟩ Q)(hc:c=true)(hH:H'=H'':=by first|(simp only[nS];rfl)|rfl):Wl P ro ops i (o::rest) ⟨en,hp,nt⟩ Q:=by
 subst hH;rw[Az he]at k;exact Q8 hg (dQ (S:=⟨en,hp,nt⟩) hE h hc) (Nu h) hd k
theorem Ysb(hE:CV P E){H' H'':yz}{e0:yr}(hl:FN (looks ops o) en=some e0)(hg:AX ops e0 o=some true)(h:aL E e0 hp o.op=some (c,H'))(hd:Au o.dst nt=true)(he:BU o.dst .u en=some e)(k:Wd P ro E ops S0 A (⟨e0,hp,.u,.eff⟩::acc) rest ⟨e,H'',nt⟩)(hc:c=true)(hH:H'=H'':=by first|(simp only[nS];rfl)|rfl):Wd P ro E ops S0 A acc (o::rest) ⟨en,hp,nt⟩:=by
 subst hH;rw[Az he]at k;have:=D8 hl;subst this;exact Kb (x:=.u) (k:=.eff) (H':=H') ⟨hd,hg,Es.step (S:=⟨FO (looks ops o) en,hp,nt⟩) (dQ (S:=⟨FO (looks ops o) en,hp,nt⟩) hE h hc) (Nu h)⟩ k
variable {id:Nat}
theorem Xfu(t:Nat){x:D}{n sz:Nat}(_:By t (mR o.op)=true)(ht:get en t=some (.sl id n sz))(hid:hp[id]? =some (.a x))(hn:n=B3 x)(k:Wl P ro ops i (o::rest) ⟨(t,.d x)::en,Eg id x 0 hp,nt⟩ Q):Wl P ro ops i (o::rest) ⟨en,hp,nt⟩ Q:=
 Rk (A5.lP (S:=⟨en,hp,nt⟩) t id hid ht hn) (by show hp.length<=(Eg id x 0 hp).length;rw[Dq];exact yV _) k
theorem Xfd(t:Nat)(r:D){x:AV}(_:By t (mR o.op)=true)(ht:get en t=some x)(hx:RQ [x] [r])(hne:(match x with| .d _=>false|_=>true)=true)(k:Wl P ro ops i (o::rest) ⟨(t,.d r)::en,hp,nt⟩ Q):Wl P ro ops i (o::rest) ⟨en,hp,nt⟩ Q:=by
 refine Rk (S':=⟨(t,.d r)::en,hp,nt⟩) ?_ (yV _) k;intro ro N G a w h _;refine⟨G,⟨h.heap,h.rel,h.size,fun u y hy=> ?_,h.marks,h.round⟩,⟨fun id b b' hb hb'=>by rw[hb]at hb';cases hb';exact Ap.refl _ _ _,Mem.le_refl _,fun _ h=>h,fun _ _ _ h=> .inl h⟩⟩;simp only[get]at hy;split at hy
 .rename_i hb;cases hy;have:=zH hb;subst this;obtain⟨v,hv,hrv⟩:=h.env t _ ht;refine⟨v,hv,?_⟩;have:=Zn (vs:=[v]) hx (show BP G [x] [v]from⟨v,[],rfl,hrv,rfl⟩);simp only[Eb]at this;obtain⟨u,q,e,h1,_⟩:=this;cases e;simpa only[RV]using h1
 .exact h.env u y hy
theorem JP(L:BK){S:St}(_:By id L=false)(h:Wl P ro ops 0 ops.toList S Q):W P ro (.region id ops false) S Q:=L3 h
theorem Ri(L:BK){S:St}(E:Nat->Option Bd)(_:By id L=false)(h:Wd P ro E ops S (W P ro (.region id ops true) S Q) [] ops.toList S):W P ro (.region id ops true) S Q:=sx E h
end
end Go.Gar
namespace Go.Gar
theorem A5.cell{S:St}(id i:Nat){x y:AV}{cs:yq}(hid:S.H[id]? =some (.c cs))(h:cs[i]? =some x)(hw:∀G v,RV G x v->RV G y v):
  A5 S ⟨S.env,S.H.set id (.c (cs.set i y)),S.n⟩:=by
 intro ro N G a w r _;have hidG:G.H[id]? =some (.c cs):=by rw[r.heap];exact hid
 have hlt:id<G.H.length:=(yZ.1 hidG).1;let c':AF:=.c (cs.set i y);let G':Gh:={ρ:=G.ρ,H:=G.H.set id c',m:=G.m};have hst:Ap G G' id (.c cs) c':=by simp[c',Ap,G']
 have hget:∀j b,G'.H[j]? =some b->(j=id/\b=c')\/(j≠id/\G.H[j]? =some b):=by
  intro j b hb
  by_cases hj:j=id
  .subst hj;left;have hb':(G.H.set j c')[j]? =some b:=hb;rw[q08 hlt]at hb';exact⟨rfl,(Option.some.inj hb').symm⟩
  .right;have hb':(G.H.set id c')[j]? =some b:=hb;rw[q06 (Ne.symm hj)]at hb';exact⟨hj,hb'⟩
 have gle:Iq G G':=by
  refine⟨fun j b hb=> ?_,Mem.le_refl _⟩
  by_cases hj:j=id
  .subst hj;rw[hidG]at hb;cases hb;exact⟨c',q08 hlt,hst⟩
  .exact⟨b,by show(G.H.set id c')[j]? =_;rw[q06 (Ne.symm hj)];exact hb,Ap.refl _ _ _⟩
 have hS:∀(j:Nat)(rs:List (Option (Nat×Nat×AT))),G'.H[j]? =some (.many rs)->G.H[j]? =some (.many rs):=fun j rs hb=>by
  rcases hget j _ hb with⟨_,e⟩|⟨_,h4⟩
  .have e:AF.many rs=AF.c _:=e;cases e
  .exact h4
 have hP:∀b,EX G' b->EX G b:=by
  rintro b ⟨j,N,blk,hb,hlv,hρ⟩;rcases hget j blk hb with⟨rfl,rfl⟩|⟨_,h4⟩
  .exact⟨j,N,_,hidG,rfl,hρ⟩
  .exact⟨j,N,blk,h4,hlv,hρ⟩
 have own:=JM hS hP
 have rel:B9 G' w:=by
  refine⟨fun j b hb=> ?_,fun i' j p q' b N N' hp hq lp lq r1 r2=> ?_,r.rel.mem,fun b hb k=>r.rel.sep b (own b hb) k,r.rel.st,r.rel.mny.of (fun b hb=>Bq r.rel (.inr hb)) hS (fun c hc=> .inl (hP c hc))⟩
  .rcases hget j b hb with⟨rfl,rfl⟩|⟨h3,h4⟩
   .obtain⟨b,N,vs,T,g1,g2,g3,g4,g6⟩:=r.rel.blk j _ hidG;refine⟨b,N,vs,T,g1,g2,g3,by simpa using g4,fun k z hz=> ?_⟩;rw[q18]at hz;split at hz
    .rename_i hki;subst hki;split at hz
     .cases hz;obtain⟨v,hv,hrv⟩:=g6 i _ h;exact⟨v,hv,hw _ _ (hrv.mono gle)⟩
     .cases hz
    .obtain⟨v,hv,hrv⟩:=g6 k _ hz;exact⟨v,hv,hrv.mono gle⟩
   .exact(r.rel.blk j b h4).QH gle (fun _ _ _ _=>rfl) rfl
  .have back:∀(j:Nat)(b:AF),G'.H[j]? =some b->b.live=true->∃b0:AF,G.H[j]? =some b0/\b0.live=true:=by
    intro j b hb hlv;rcases hget j b hb with⟨rfl,rfl⟩|⟨_,h4⟩
    .exact⟨_,hidG,rfl⟩
    .exact⟨b,h4,hlv⟩
   obtain⟨p0,e1,e2⟩:=back i' p hp lp;obtain⟨q0,e3,e4⟩:=back j q' hq lq;exact r.rel.inj i' j p0 q0 b N N' e1 e3 e2 e4 r1 r2
 have VY:XL G G':=by
  refine⟨fun j b b' hb hb'=> ?_,Mem.le_refl _,fun b hb=>own b hb,fun _ _ _ h=> .inl h⟩;obtain⟨b'',hb'',hs''⟩:=gle.blk j b hb;rw[hb']at hb'';cases hb'';exact hs''
 refine⟨G',⟨?_,rel,r.size,fun u z hz=> ?_,r.marks.VY VY,fun k hk=> ?_⟩,VY⟩
 .show G.H.set id c'=_;rw[r.heap]
 .obtain⟨v,hv,hrv⟩:=r.env u z hz;exact⟨v,hv,hrv.mono gle⟩
 .obtain⟨q',l,M,q1,q2⟩:=r.round k hk;rw[<-r.heap]at q1;have hne:k≠id:=fun e=>by subst e;rw[hidG]at q1;cases q1
  refine⟨q',l,M,?_,q2⟩;show(S.H.set id c')[k]? =_;rw[q06 (Ne.symm hne),<-r.heap];exact q1
theorem A5.jW{S:St}(id i:Nat)(q:D){cs:yq}(hid:S.H[id]? =some (.c cs))(h:cs[i]? =some .e0)(hs:B8 q=true)(hl:B3 q=0)(ho:Aq q):
  A5 S ⟨S.env,S.H.set id (.c (cs.set i (.d q))),S.n⟩:=
 A5.cell id i hid h fun G v hv=>by
  simp only[RV]at hv|-;obtain⟨a,rfl⟩:=hv;exact(Ek hs).2 ⟨a,0,by rw[hl],om,ho,.inl hl⟩
theorem UC{E:Nat->Option Bd}{n t:Nat}{cs:yo}(h:Hi E n t cs=true):Hi E n t cs=true:=h
end Go.Gar
namespace Go.Gar
section
variable {P:Program}{ro:yW}{S:St}{Q:Exit->St->Prop}
def QJ{α:Type}(P:Program)(ro:yW)(c:Code)(l:Nat)(I:α->Prop)(St0:α->St)(μ:α->Nat)(k:Nat)(Q:Exit->St->Prop)(m:Nat):Nat->Exit->St->Prop
 |j,.goto l',S'=>match Nat.beq l' l with
  |true=>∃y,I y/\μ y<m/\k<=(St0 y).H.length/\A5 S' (St0 y)
  |false=>match j with
   |0=>False
   |j+1=>match findLabel c l' with
    |some r=>W P ro r S' (QJ P ro c l I St0 μ k Q m j)
    |none=>Q (.goto l') S'
 |_,e,S'=>Q e S'
theorem bc{α:Type}{c rest:Code}{l:Nat}(hfl:findLabel c l=some rest){I:α->Prop}{St0:α->St}{μ:α->Nat}{k0 j0:Nat}(body:∀x,I x->W P ro rest (St0 x) (QJ P ro c l I St0 μ k0 Q (μ x) j0))
  {b:Frame} {k:List Item} {cs:yf} {F:Fence} (hro:b.roundOf=F.round) (hb:F.fn b.fn) (hr:F.room (cs.length+1+0)) {N:NB} {G0:Gh} {w0:World} (hk0:G0.H.length=k0) (hid:∀id,ro=some id->id<k0) (hF:∀{S:St}{G:Gh}{a:Act}{w:World},Rel ro N S G a w->D4 G0 w0 G w->F=Kv (rl G ro)):
  ∀(m j:Nat)(c₁:Code)(S:St)(G:Gh)(a:Act)(w:World),Rel ro N S G a w->D4 G0 w0 G w->W P ro c₁ S (QJ P ro c l I St0 μ k0 Q m j)->
  ∃e a' w',Post ro N G0 w0 Q e a' w'/\ArrivesIn (Machine.fenced P F) P (lone (b.atR a (.code c₁:: .inScope c::k)) cs w) b k cs e a' w':=by
 intro m
 induction m using Nat.strongRecOn with
 |_ m ihm=>
  intro j
  induction j with
  |zero=>
   intro c₁ S G a w r k1 h;have h1:=h N G a w r;rw[<-hF r k1]at h1;obtain⟨e,a',w',⟨S',G',q,r',kk⟩,harr⟩:=h1 b (.inScope c::k) cs hro hb hr
   cases e with
   |normal=>exact⟨.normal,a',w',⟨S',G',q,r',k1.trans kk⟩,StepsIn.trans harr (.one (fenced_calm (fr:=b.atR a' (.inScope c::k)) hb hr rfl) HH)⟩
   |exit id=>
    refine⟨.exit id,a',w',⟨S',G',q,r',k1.trans kk⟩,fun k' hk=>harr.1 k' (by simp[exitTo,hk]),fun h1 h2=>harr.2 h1 (by simp[exitTo,h2])⟩
   |goto l'=>
    simp only[QJ]at q;split at q
    .rename_i hl;have hl:=zH hl;subst hl;obtain⟨y,hI,hlt,hle,t⟩:=q;obtain⟨G'',r'',t''⟩:=t ro N G' a' w' r' (fun id h=>q0p (hid id h) hle);have k2:=(k1.trans kk).ghost t'' (by rw[hk0,r''.heap];exact hle);obtain⟨e₂,a₂,w₂,p₂,harr₂⟩:=ihm (μ y) hlt j0 rest (St0 y) G'' a' w' r'' k2 (body y hI);exact⟨e₂,a₂,w₂,p₂,.of_steps (harr.1 _ (by simp[gotoIn,hfl])) harr₂⟩
    .exact q.elim
   |ret=>exact⟨.ret,a',w',⟨S',G',q,r',k1.trans kk⟩,harr⟩
   |panic ch=>exact⟨.panic ch,a',w',⟨S',G',q,r',k1.trans kk⟩,harr⟩
   |outgrown=>exact⟨.outgrown,a',w',⟨S',G',q,r',k1.trans kk⟩,harr⟩
  |succ j ih=>
   intro c₁ S G a w r k1 h;have h1:=h N G a w r;rw[<-hF r k1]at h1;obtain⟨e,a',w',⟨S',G',q,r',kk⟩,harr⟩:=h1 b (.inScope c::k) cs hro hb hr
   cases e with
   |normal=>exact⟨.normal,a',w',⟨S',G',q,r',k1.trans kk⟩,StepsIn.trans harr (.one (fenced_calm (fr:=b.atR a' (.inScope c::k)) hb hr rfl) HH)⟩
   |exit id=>
    refine⟨.exit id,a',w',⟨S',G',q,r',k1.trans kk⟩,fun k' hk=>harr.1 k' (by simp[exitTo,hk]),fun h1 h2=>harr.2 h1 (by simp[exitTo,h2])⟩
   |goto l'=>
    simp only[QJ]at q;split at q
    .rename_i hl;have hl:=zH hl;subst hl;obtain⟨y,hI,hlt,hle,t⟩:=q;obtain⟨G'',r'',t''⟩:=t ro N G' a' w' r' (fun id h=>q0p (hid id h) hle);have k2:=(k1.trans kk).ghost t'' (by rw[hk0,r''.heap];exact hle);obtain⟨e₂,a₂,w₂,p₂,harr₂⟩:=ihm (μ y) hlt j0 rest (St0 y) G'' a' w' r'' k2 (body y hI);exact⟨e₂,a₂,w₂,p₂,.of_steps (harr.1 _ (by simp[gotoIn,hfl])) harr₂⟩
    .cases hfl':findLabel c l' with
     |none=>
      rw[hfl']at q;exact⟨.goto l',a',w',⟨S',G',q,r',k1.trans kk⟩,fun k' hk=>harr.1 k' (by simp[gotoIn,hfl',hk]),fun h1 h2=>harr.2 h1 (by simp[gotoIn,hfl',h2])⟩
     |some r2=>
      rw[hfl']at q;obtain⟨e₂,a₂,w₂,p₂,harr₂⟩:=ih r2 S' G' a' w' r' (k1.trans kk) q;exact⟨e₂,a₂,w₂,p₂,.of_steps (harr.1 _ (by simp[gotoIn,hfl'])) harr₂⟩
   |ret=>exact⟨.ret,a',w',⟨S',G',q,r',k1.trans kk⟩,harr⟩
   |panic ch=>exact⟨.panic ch,a',w',⟨S',G',q,r',k1.trans kk⟩,harr⟩
   |outgrown=>exact⟨.outgrown,a',w',⟨S',G',q,r',k1.trans kk⟩,harr⟩
theorem jq{α:Type}{c:Code}(l:Nat)(rest:Code)(I:α->Prop)(St0:α->St)(μ:α->Nat)(m j j0:Nat)(hfl:findLabel c l=some rest)
  (h:W P ro c S (QJ P ro c l I St0 μ S.H.length Q m j)) (body:∀x,I x->W P ro rest (St0 x) (QJ P ro c l I St0 μ S.H.length Q (μ x) j0)):W P ro (.scope c) S Q:=by
 intro N G a w r b k cs hro hb hr;obtain⟨e,a',w',p,harr⟩:=bc (Q:=Q) (k:=k) (b:=b) (cs:=cs) hfl body hro hb hr (by rw[r.heap]) r.VO (fun r' k'=>by rw[GT r r' k']) m j c S G a w r (D4.refl G w) h;exact⟨e,a',w',p,.of_steps (.one (fenced_calm (fr:=b.atR a (.code (.scope c)::k)) hb hr rfl) QW) harr⟩
end
end Go.Gar
namespace Go.Gar
open Go.Sort
variable {α:Type}{w:World}{vs:yd}
theorem bh[Inhabited α](enc:α->Value){b:Nat}{T:TypeId}{fr:Nat×Nat}(hw:w.heap[b]? =some (.cells vs T fr))(d:Array α):putRow enc w b 0 d=w.setRow b (putCells enc 0 d vs):=by
 unfold putRow mapBlock World.setRow
 congr 1
 apply Array.ext_getElem?;intro k;simp only[Array.getElem?_modify]
 by_cases hk:b=k
 .subst hk;simp only[zx,hw];rfl
 .simp[hk]
theorem lU{G:Gh}(h:B9 G w)(n:Nat)(os:Array Obj):B9 G (grow (Sort.ahead w n) os)/\D4 G w G (grow (Sort.ahead w n) os):=by
 have hlow:∀b,b<w.heap.size->(grow (Sort.ahead w n) os).heap[b]? =w.heap[b]?:=fun b hb=>by
  show(w.heap++os)[b]? =_;rw[q1a hb]
 refine⟨⟨fun id q hq=>(h.blk id q hq).QH (Iq.refl G) (fun b N hl hρ=>hlow b (Bq h (.inl ⟨id,N,q,hq,hl,hρ⟩))) rfl (fun rs e c hc=>hlow c (Bq h (.inr ⟨id,rs,by rw[<-e];exact hq,hc⟩))),h.inj,fun b k v hv=> ?_,h.sep,h.st,h.mny⟩,⟨rfl,rfl,rfl,by show w.heap.size<=(w.heap++os).size;simp,fun b hb ho=>⟨hlow b hb,ho⟩,fun _ _ _ hv=> .inl hv,Iq.refl G⟩⟩;have hc:=h.mem b k v hv
 have hb:b<w.heap.size:=by
  unfold World.cell? at hc;rcases q0A b w.heap.size with hlt|hge
  .exact hlt
  .simp[Array.getElem?_eq_none hge]at hc
 rw[World.cell?_of_block (w:=w) (hlow b hb)];exact hc
structure cY {α:Type} (enc:α->Value) (x:List α->D) (cell:α->D):Prop where
 sl:∀l,B8 (x l)=true
 ok:∀l,Aq (x l)
 c:∀l,slc (x l)=l.map cell
 n:∀l,B3 (x l)=l.length
 z:∀l,Bt (x l)=1
 r:∀m a v,RD m (cell a) v↔v=enc a
 one:∀a,(enc a).oneCell'=true
variable {enc:α->Value}{x:List α->D}
theorem il[Inhabited α]{cell:α->D}(hx:cY enc x cell){zs:List α}{b:Nat}{T:TypeId}{m:Mem}(hw:w.heap[b]? =some (.cells vs T (0,0)))(hcell:∀(k:Nat)(d:D),(slc (x zs))[k]? =some d->∃v,vs[k]? =some v/\v.oneCell'=true/\RD m d v):Holds enc w b 0 zs.toArray:=by
 intro j hj;have hj':j<zs.length:=by simpa using hj
 obtain⟨v,h1,_,h3⟩:=hcell j (cell zs[j]) (by rw[hx.c,q03,yj hj'];rfl);rw[hx.r]at h3;subst h3;refine⟨?_,?_⟩
 .unfold World.cell?;simp only[hw,q0M,Option.isSome_none,q0F,zo,h1]
  congr 2
  rw[getElem!_pos zs.toArray j hj];simp
 .unfold World.frozen?;simp[hw]
theorem ij[Inhabited α]{cell:α->D}(hx:cY enc x cell){ys:List α}{d:Array α}{m:Mem}(hd:∀k,k<ys.length->k<d.size/\d[k]! =ys.getD k default)(hs:ys.length<=vs.size):
  ∀(k:Nat)(z:D),(slc (x ys))[k]? =some z->∃v,(putCells enc 0 d vs)[k]? =some v/\v.oneCell'=true/\RD m z v:=by
 intro k z hz;rw[hx.c,q03,q0B]at hz;obtain⟨a,ha,rfl⟩:=hz;have hk:=(yZ.1 ha).1;obtain⟨h1,h2⟩:=hd k hk;refine⟨enc a,?_,hx.one a,(hx.r m a _).2 rfl⟩;simp only[putCells,Array.getElem?_mapIdx];rw[Array.getElem?_eq_getElem om];simp only[Option.map_some,yx,true_and,q0M,Nat.sub_zero];rw[zN h1,h2,zJ,ha];rfl
section
variable {P:Program}{f:FuncId}
theorem pN{α:Type}[Inhabited α]{enc:α->Value}{x:List α->D}{cell:α->D}(hx:cY enc x cell)(hcal:HK P f){zs zs':List α}(hl:zs'.length=zs.length)
  (hrun:∀b cap w,Holds enc w b 0 zs.toArray->b<w.heap.size->zs.length<=cap->cap<=maxLen->Calls P f #[.slice (some ⟨b,0,none⟩) zs.length cap] w fun e w'=>e= .returned (.tuple #[])/\∃n os,w'=grow (putRow enc (Sort.ahead w n) b 0 zs'.toArray) os)
  (hnil:zs=[]->∀a w,Calls P f #[.slice a 0 0] w fun e w'=>e= .returned (.tuple #[])/\w'=w):
  Bw P f [.sl 0 zs.length 1] [.a (x zs)] (.d (.tup [])) [.a (x zs')]:=by
 refine⟨hcal,fun G w vs hG hR hv=> ?_⟩;rw[callsIn_wide];obtain⟨v,r0,hvs,hv1,hr0⟩:=hv;simp only[BP]at hr0;subst hr0;have hvs':vs= #[v]:=by rw[<-Array.toArray_toList (xs:=vs),hvs]
 subst hvs';simp only[RV]at hv1;obtain⟨_,blk,hb,hp⟩:=hv1;have hb0:G.H[0]? =some (.a (x zs)):=by rw[hG];rfl
 rw[hb0]at hb;cases hb;obtain⟨_,_,hp⟩:=hp;have tup:RV G (.d (.tup [])) (.tuple #[]):=by simp only[RV,RD];exact⟨[],rfl,rfl⟩
 rcases hp (by rw[hx.n])with⟨h0,a,rfl⟩|⟨b,N,cap,hρ,rfl,hnc,hcm,hN⟩
 .have hz:zs=[]:=q1F.1 h0;subst hz;have hz':zs'=[]:=q1F.1 (by simpa using hl);subst hz';refine(hnil rfl a w).mono ?_;rintro e w' ⟨rfl,rfl⟩;exact⟨_,.d (.tup []),G,rfl,⟨rfl,hG⟩,tup,hR,D4.refl G _⟩
 .obtain⟨_,_,hB⟩:=hR.blk 0 _ hb0;rcases hB with⟨_,hno⟩|⟨b',N',vs,T,hρ',hw,hM,hcell⟩
  .rw[hρ]at hno;cases hno
  rw[hρ]at hρ';cases hρ';have hlt:b<w.heap.size:=(zZ.1 hw).1;refine(hrun b cap w (il hx hw hcell) hlt hnc hcm).mono ?_;rintro e w' ⟨rfl,n,os,rfl⟩;have hvl:zs.length<=vs.size:=om
  obtain⟨r1,r2⟩:=NU hR (cur:=putCells enc 0 zs'.toArray vs) hb0 rfl (q:=.a (x zs')) rfl hρ (by simp[Ap,Gh.put,hx.z,hx.n,hl]) (by
   refine⟨hx.sl _,hx.ok _,.inr ⟨b,N,_,T,hρ,setRow_heap w b vs _ T _ hw,by simp[putCells];omega,?_⟩⟩
   exact ij hx (fun k hk=>⟨by simpa using hk,by rw[getElem!_pos zs'.toArray k (by simpa using hk),zJ,yj hk];simp⟩) om)
  rw[putRow_ahead,bh enc hw,show ∀q,grow (Sort.ahead q n) os=grow (Sort.ahead q n) os from fun _=>rfl];obtain⟨r3,r4⟩:=lU r1 n os;exact⟨_,.d (.tup []),G.put 0 (.a (x zs')),rfl,⟨rfl,by show G.H.set 0 _=_;rw[hG];rfl⟩,by simp only[RV,RD];exact⟨[],rfl,rfl⟩,r3,r2.trans r4⟩
end
end Go.Gar
namespace Go.Gar
section
variable {P:Program}{ro:yW}{E:Nat->Option Bd}{ops:ya}{i:Nat}{rest:yb}{Q:Exit->St->Prop}{o:Oper}{S:St}
variable {x:AV}
theorem tT{H':yz}(hg:AX ops S.env o=some true)(hnd:∀c,o.op≠ .defer c)(hd:Au o.dst S.n=true){N:NB}{G:Gh}{a:Act}{w:World}(r:Rel ro N S G a w)(hops:∀k:Nat,(o::rest)[k]? =ops[i+k]?)(hop:∃r w' G',(execOp a.eval o).run P w= .ok r w'/\(r= .skip/\x= .u\/∃v,r= .value v/\RV G' x v)/\G'.H=H'/\B9 G' w'/\D4 G w G' w')(k:Wl P ro ops (i+1) rest ⟨Bm o.dst x S.env,H',S.n⟩ Q):wpOpsIn (Kv (rl G ro)) 0 P ops (Post ro N G w Q) (List.range' i (o::rest).length) a w:=by
 have ho:=IY hops;simp only[yu,q0h,wpOpsIn,ho];rw[zN (CH r.env hg)];obtain⟨res,w',G',h1,h2,h3,h4,h5⟩:=hop;refine⟨fun _ _=>trivial,?_⟩;rw[q1K _ _ _ hnd,h1];have hops':=HV hops
 have fin:∀v,RV G' x v->wpOpsIn (Kv (rl G ro)) 0 P ops (Post ro N G w Q) (List.range' (i+1) rest.length) (a.put o.dst v) w':=by
  intro v hv;obtain⟨e1,e2,e3⟩:=HE (r.env.mono h5.gle) r.size hd hv
  have r':Rel ro N ⟨Bm o.dst x S.env,H',S.n⟩ G' (a.put o.dst v) w':=⟨h3,h4,e2,e1,r.marks.QH h5 e3,fun id hid=>by
   obtain⟨q,l,M,q1,q2⟩:=r.round id hid;rw[<-r.heap]at q1;obtain⟨b',hb',hs⟩:=h5.gle.blk id _ q1;rw[h3]at hb';cases b'<;>simp only[Ap]at hs
   exact⟨_,l,M,hb',hs.1.trans q2⟩⟩
  have hk:=k hops' N G' _ w' r';rw[GT r r' h5]at hk;exact BZ (fun _ _ _ p=>p.trans h5) _ _ _ hk
 rcases h2 with⟨rfl,rfl⟩|⟨v,rfl,hv⟩
 .simp only[Oper.uponIn];exact fin undef (by simp[RV])
 .simp only[Oper.uponIn];exact fin v hv
def rQ(E:Nat->Option Bd)(env:yr)(op:Op):Option (AV×Bool):=
 match op with
 | .binOp op t p (.const (.slice none 0 0)) _=>match E t,Eo env p with
  |some y,some x=>match y.k,op with
   | .sl _,.eql=>some (x,true)
   | .sl _,.neq=>some (x,false)
   |_,_=>none
  |_,_=>none
 |_=>none
def Y8:AV->Prop
 | .d q=>B8 q=true/\B3 q≠0
 |_=>False
def YV:AV->Bool
 | .d q=>B8 q
 | .e0=>true
 |_=>false
variable {en:yr}{hp:yz}{nt:Nat}
theorem Xsn(hE:CV P E){pos:Bool}(hg:AX ops en o=some true)(h:rQ E en o.op=some (x,pos))(hs:YV x=true)(hd:Au o.dst nt=true)(k:∀r:Bool,(r=true->¬Y8 x)->Wl P ro ops (i+1) rest ⟨Bm o.dst (.d (.b (if pos then r else !r))) en,hp,nt⟩ Q):Wl P ro ops i (o::rest) ⟨en,hp,nt⟩ Q:=by
 intro hops N G a w r;obtain⟨dst,op,ty,ps,after,guard⟩:=o;unfold rQ at h;simp only at h;split at h
 .rename_i op t p yt;split at h
  .rename_i y x' hy hx;have hv:=B2 r.rel.st r.env hx
   have key:∀{e:Nat},y.k= .sl e->x'=x->∃ad n cap,a.eval p= .slice ad n cap/\(ad=none->¬Y8 x)/\P.underlying t=some (.slice e):=by
    intro e hk hxe;subst hxe;obtain⟨_,hu,hkk⟩:=On (hE t y hy);rw[hk]at hkk;have hds:=Eh hkk;subst hds
    cases x' with
    |d q=>
     simp only[YV]at hs;simp only[RV]at hv;obtain⟨ad,cap,e1,_,_,e4⟩:=(Ek hs).1 hv;refine⟨ad,_,cap,e1,fun hn he=> ?_,hu⟩;rcases e4 with e4|⟨b,off,e4,_⟩
     .exact he.2 e4
     .rw[hn]at e4;cases e4
    |e0=>
     simp only[RV]at hv;obtain⟨ad,e1⟩:=hv;exact⟨ad,0,0,e1,fun _ he=>he,hu⟩
    |_=>simp[YV]at hs
   have run:∀{e ad n cap} ,a.eval p= .slice ad n cap->P.underlying t=some (.slice e)->((eqGuard op t p (.const (.slice none 0 0)) (a.eval p) (.slice none 0 0)).run P w= .ok () w/\(Op.equal t (a.eval p) (.slice none 0 0)).run P w= .ok ad.isNone w):=by
    intro e ad n cap e1 e2;refine⟨Iu (.inl ?_),?_⟩
    .rw[e1];exact⟨fun _ h=>(by cases h),fun h=>(by cases h)⟩
    .rw[e1];exact run_equal_slice_nil w t e ad n cap e2
   split at h
   .rename_i e hk;simp only[yh,zL]at h;obtain⟨hxe,rfl⟩:=h;obtain⟨ad,n,cap,e1,e2,e3⟩:=key hk hxe;obtain⟨g1,g2⟩:=run e1 e3;refine tT (S:=⟨en,hp,nt⟩) (x:=.d (.b ad.isNone)) (H':=hp) hg (fun c e=>by cases e) hd r hops ⟨.value (.bool ad.isNone),w,G,?_,.inr ⟨_,rfl,by simp[RV,RD]⟩,r.heap,r.rel,D4.refl G w⟩ (k ad.isNone fun hn=>e2 (by cases ad with|none=>rfl|some _=>cases hn));show(do pure (Next.value (<-(do eqGuard BinOp.eql t p (.const (.slice none 0 0)) (a.eval p) (.slice none 0 0);binOp .eql t (a.eval p) (.slice none 0 0))))).run P w=_;have hb:binOp .eql t (a.eval p) (.slice none 0 0)=(do pure (.bool (<-Op.equal t (a.eval p) (.slice none 0 0)))):=by rw[e1];rfl
    simp only[zf,g1,zQ,hb,g2,zk]
   .rename_i e hk;simp only[yh,zL]at h;obtain⟨hxe,rfl⟩:=h;obtain⟨ad,n,cap,e1,e2,e3⟩:=key hk hxe;obtain⟨g1,g2⟩:=run e1 e3;refine tT (S:=⟨en,hp,nt⟩) (x:=.d (.b (!ad.isNone))) (H':=hp) hg (fun c e=>by cases e) hd r hops ⟨.value (.bool (!ad.isNone)),w,G,?_,.inr ⟨_,rfl,by simp[RV,RD]⟩,r.heap,r.rel,D4.refl G w⟩ (k ad.isNone fun hn=>e2 (by cases ad with|none=>rfl|some _=>cases hn));show(do pure (Next.value (<-(do eqGuard BinOp.neq t p (.const (.slice none 0 0)) (a.eval p) (.slice none 0 0);binOp .neq t (a.eval p) (.slice none 0 0))))).run P w=_;have hb:binOp .neq t (a.eval p) (.slice none 0 0)=(do pure (.bool (!(<-Op.equal t (a.eval p) (.slice none 0 0))))):=by rw[e1];rfl
    simp only[zf,g1,zQ,hb,g2,zk]
   .cases h
  .cases h
 .cases h
variable {e1 e2:yr}
theorem XsnE(hE:CV P E)(hg:AX ops en o=some true)(h:rQ E en o.op=some (x,true))(hs:YV x=true)(hd:Au o.dst nt=true)(h1:BU o.dst (.d (.b true)) en=some e1)(h2:BU o.dst (.d (.b false)) en=some e2)(k1:¬Y8 x->Wl P ro ops (i+1) rest ⟨e1,hp,nt⟩ Q)(k2:Wl P ro ops (i+1) rest ⟨e2,hp,nt⟩ Q):Wl P ro ops i (o::rest) ⟨en,hp,nt⟩ Q:=by
 refine Xsn hE hg h hs hd fun r hr=> ?_;rw[Az h1]at k1
 rw[Az h2]at k2
 cases r with
 |true=>exact k1 (hr rfl)
 |false=>exact k2
theorem XsnN(hE:CV P E)(hg:AX ops en o=some true)(h:rQ E en o.op=some (x,false))(hs:YV x=true)(hd:Au o.dst nt=true)(h1:BU o.dst (.d (.b false)) en=some e1)(h2:BU o.dst (.d (.b true)) en=some e2)(k1:¬Y8 x->Wl P ro ops (i+1) rest ⟨e1,hp,nt⟩ Q)(k2:Wl P ro ops (i+1) rest ⟨e2,hp,nt⟩ Q):Wl P ro ops i (o::rest) ⟨en,hp,nt⟩ Q:=by
 refine Xsn hE hg h hs hd fun r hr=> ?_;rw[Az h1]at k1
 rw[Az h2]at k2
 cases r with
 |true=>exact k1 (hr rfl)
 |false=>exact k2
theorem is_nil{l:Ao}(h:¬Y8 (.d (.is l))):l=[]:=by
 cases l with
 |nil=>rfl
 |cons a r=>exact absurd ⟨rfl,by simp[B3]⟩ h
end
end Go.Gar
namespace Go.Gar
section
variable {P:Program}{ro:yW}{S:St}{Q:Exit->St->Prop}
def xp(P:Program)(ro:yW)(c:Code)(Q:Exit->St->Prop):Nat->Exit->St->Prop
 |0,.normal,_=>False
 |n+1,.normal,S'=>W P ro c S' (xp P ro c Q n)
 |_,e,S'=>Q e S'
theorem vO{c:Code}{b:Frame}{k:List Item}{cs:yf}{F:Fence}(hro:b.roundOf=F.round)(hb:F.fn b.fn)(hr:F.room (cs.length+1+0)):
  ∀(n:Nat)(N:NB)(S:St)(G:Gh)(a:Act)(w:World),Rel ro N S G a w->F=Kv (rl G ro)->W P ro c S (xp P ro c Q n)->
  ∃e a' w',Post ro N G w Q e a' w'/\ArrivesIn (Machine.fenced P F) P (lone (b.atR a (.code c:: .inLoop c::k)) cs w) b k cs e a' w':=by
 intro n
 induction n with
 |zero=>
  intro N S G a w r hf h;have h1:=h N G a w r;rw[<-hf]at h1;obtain⟨e,a',w',⟨S',G',q,r',kk⟩,harr⟩:=h1 b (.inLoop c::k) cs hro hb hr
  cases e with
  |normal=>exact q.elim
  |exit id|goto l|ret|panic ch|outgrown=>exact⟨_,a',w',⟨S',G',q,r',kk⟩,.pass (x:=.inLoop c) rfl (fun _ _=> .inl sm) harr⟩
 |succ n ih=>
  intro N S G a w r hf h;have h1:=h N G a w r;rw[<-hf]at h1;obtain⟨e,a',w',⟨S',G',q,r',kk⟩,harr⟩:=h1 b (.inLoop c::k) cs hro hb hr
  cases e with
  |normal=>
   obtain⟨e₂,a₂,w₂,p₂,harr₂⟩:=ih N S' G' a' w' r' (by rw[GT r r' kk];exact hf) q;exact⟨e₂,a₂,w₂,p₂.trans kk,.of_steps (StepsIn.trans harr (.one (fenced_calm (fr:=b.atR a' (.inLoop c::k)) hb hr rfl) stepR_inLoop)) harr₂⟩
  |exit id|goto l|ret|panic ch|outgrown=>exact⟨_,a',w',⟨S',G',q,r',kk⟩,.pass (x:=.inLoop c) rfl (fun _ _=> .inl sm) harr⟩
theorem pb(n:Nat){c:Code}(h:W P ro c S (xp P ro c Q n)):W P ro (.loop c) S Q:=by
 intro N G a w r b k cs hro hb hr;obtain⟨e,a',w',p,harr⟩:=vO (Q:=Q) (k:=k) (b:=b) (cs:=cs) hro hb hr n N S G a w r rfl h;exact⟨e,a',w',p,.of_steps (.one (fenced_calm (fr:=b.atR a (.code (.loop c)::k)) hb hr rfl) stepR_loop) harr⟩
end
end Go.Gar
namespace Go.Gar
section
variable {P:Program}{ro:yW}{ops:ya}{i:Nat}{rest:yb}{Q:Exit->St->Prop}{o:Oper}{en:yr}{hp:yz}{nt:Nat}
theorem XyB{id:Nat}{xs:yq}{r0:Lp}{H1 H2:yz}{e1 e2:yr}(b:Bool)(hT:b=true->YT P id xs hp fun r K=>r= .d (.b true)/\K=H1)(hF:b=false->YT P id xs hp fun r K=>r= .d (.b false)/\K=H2)
  (hg:AX ops en o=some true) (h:Nw en o.op=some (id,xs)) (hd:Au o.dst nt=true) (hlp:hp[id]? =some (.lp r0)) (he1:BU o.dst (.d (.b true)) en=some e1) (he2:BU o.dst (.d (.b false)) en=some e2)
  (k1:b=true->Wl P ro ops (i+1) rest ⟨e1,H1,nt⟩ Q) (k2:b=false->Wl P ro ops (i+1) rest ⟨e2,H2,nt⟩ Q):Wl P ro ops i (o::rest) ⟨en,hp,nt⟩ Q:=by
 cases b with
 |true=>exact Xy (hT rfl) hg h hd hlp he1 (k1 rfl)
 |false=>exact Xy (hF rfl) hg h hd hlp he2 (k2 rfl)
end
end Go.Gar
namespace Go.Gar
def Mz(P:Program)(f:FuncId)(args:yq)(H:yz)(ch:ym)(H':yz):Prop:=
 HK P f/\∀G w (vs:yd),G.H=H->B9 G w->BP G args vs.toList->
  CallsIn Fence.wide 0 P f vs w fun e w'=>∃G',e= .panicked ch/\G'.H=H'/\B9 G' w'/\D4 G w G' w'
theorem Mz.ren{P:Program}{f:FuncId}{args:yq}{H H2:yz}{ch:ym}{H':yz}(ids:BK)(h:Mz P f args H ch H')(hn:nodupB ids=true)(hm:Dg (rn ids H2.length) H2 ids H)(ho:Ai H.length H=true)(ha:AV.oks H.length args=true):
  Mz P f (AV.Dv (rn ids H2.length) args) H2 ch (Jy ids H2 (E4 (rn ids H2.length) H')):=by
 have hn:=Ft hn;refine⟨h.1,fun G w vs hG hr hargs=> ?_⟩;obtain⟨h1,h2⟩:=R6 hG hn hm hr ho;refine(h.2 _ w vs rfl h1 (h2 ha hargs)).mono ?_;rintro e w' ⟨G0',rfl,hH,hr',hfr⟩;obtain⟨G'',q1,q2,q3,q4,q5⟩:=MC hG hn hm hr hfr hr';exact⟨G'',rfl,by rw[q1,hH],q2,q3⟩
def tV(ch:ym)(K:St->Prop):Exit->St->Prop
 | .panic c,S=>c=ch/\K S
 |_,_=>False
section
variable {P:Program}{ro:yW}{ops:ya}{i:Nat}{rest:yb}{S:St}{Q:Exit->St->Prop}{o:Oper}{E:Nat->Option Bd}
variable {en:yr}{hp:yz}{nt:Nat}
variable {ch:ym}
theorem jc{f:FuncId}{fn:Func}{c:Code}(hE:CV P E)(hf:P.funcs[f]? =some fn)(hb:fn.body=some c)(hname:(fn.name== "runtime.NumGoroutine")=false){args:yq}{H:yz}(hn:args.length<=fn.ntmps){H':yz}(h:W P none c ⟨Fp 0 args,H,fn.ntmps⟩ (tV ch fun S0=>∃S',A5 S0 S'/\H.length<=S'.H.length/\S'.H=H')):Mz P f args H ch H':=by
 have h2:=cq (Q':=tV ch fun S'=>S'.H=H') h (by
  intro e S' q
  cases e with
  |panic c=>obtain⟨rfl,S'',t,hl,q'⟩:=q;exact⟨S'',t,hl,rfl,q'⟩
  |_=>exact q.elim)
 refine⟨⟨fn,hf,hname,by rw[hb];rfl⟩,fun G w vs hG hr hargs=>UW (K:=fun _ _=>False) (KP:=fun c K=>c=ch/\K=H') hE hf hb hn (h2.mono ?_) hG hr hargs (fun _ _ _ _ _ _ h=>h.elim) ?_⟩
 .intro e S' q
  cases e with
  |panic c=>exact q
  |_=>exact q.elim
 .rintro c G' w1 w' ms ⟨rfl,hH⟩ h1 h2 hfr ht hms;refine⟨G',rfl,hH,h2,⟨ht.os.trans hfr.os,ht.tape.trans hfr.tape,ht.output.trans hfr.output,by rw[ht.size];exact hfr.size,fun b hb ho=> ?_,hfr.memNew,hfr.gle⟩⟩;obtain⟨k1,k2⟩:=hfr.keep b hb ho;exact⟨(ht.other b fun hm=>by have:=hms b hm;omega).trans k1,k2⟩
theorem jv{x:Operand}{t:TypeId}{v:Value}(ho:o.op= .panic x)(hg:AX ops S.env o=some true)(hx:Eo S.env x=some (.d (.ifc t v)))(k:Q (.panic [{v:=.iface t v,recovered:=false}]) S):Wl P ro ops i (o::rest) S Q:=by
 intro hops N G a w r;have ho':=IY hops;simp only[yu,q0h,wpOpsIn,ho'];rw[zN (CH r.env hg)];refine⟨fun _ _=>trivial,?_⟩;have hv:=B2 r.rel.st r.env hx;simp only[RV,RD]at hv
 have hrun:(execOp a.eval o).run P w= .halt (.panic (.iface t v)) w:=by
  unfold execOp;simp only[ho,hv,Instr.panic,zf];rfl
 rw[q1K _ _ _ (fun c e=>by rw[ho]at e;cases e),hrun];simp only[Oper.uponIn];exact⟨S,G,k,r,D4.refl G w⟩
theorem jt{c:Call}{fo:Operand}{g:FuncId}{first cap xs:yq}{H':yz}(ho:o.op= .call c)(hc:c.callee= .value fo)(hg:AX ops S.env o=some true)(hf:Eo S.env fo=some (.fn (.func g) first cap))(hxs:KH S.env c.args.toList=some xs)(hT:Mz P g (first++xs++cap) S.H ch H')(k:Q (.panic ch) ⟨S.env,H',S.n⟩):Wl P ro ops i (o::rest) S Q:=by
 intro hops N G a w r;have ho':=IY hops;simp only[yu,q0h,wpOpsIn,ho'];rw[zN (CH r.env hg)];refine⟨fun _ _=>trivial,?_⟩;have hfv:=B2 r.rel.st r.env hf;simp only[RV]at hfv;obtain⟨p,q,hfv,hp,hq⟩:=hfv;have hrun:=La (P:=P) (f:=g) hc hfv hT.1 ho w;rw[q1K _ _ _ (fun c e=>by rw[ho]at e;cases e),hrun];simp only[Oper.uponIn];refine⟨Gl _,?_⟩;have hargs:=Qj hp (E6 r.rel.st r.env hxs) hq;have hcall:=hT.2 G w _ r.heap r.rel hargs;have hcall':CallsIn (Kv (rl G ro)) 0 P g (p.toArray++c.args.map a.eval++q.toArray) w _:=hcall;refine hcall'.mono ?_;rintro e w' ⟨G',rfl,hH,hr',hfr⟩;exact⟨⟨S.env,H',S.n⟩,G',k,r.step hfr hH hr' rfl r.size (r.env.mono hfr.gle) rfl,hfr⟩
end
end Go.Gar
namespace Go.Gar
section
variable {P:Program}{F:Fence}{n:Nat}{ops:ya}{a:Act}{cs:yf}{w:World}
theorem Nb{c:Code}{Q Q':Exit->Act->yf->World->Prop}(h:c.wpSIn F n P Q a cs w)(hq:∀e a cs w,Q e a cs w->Q' e a cs w):c.wpSIn F n P Q' a cs w:=
 fun b k h1 h2 h3 h4=>let⟨e,a',cs',w',l,q,r⟩:=h b k h1 h2 h3 h4;⟨e,a',cs',w',l,hq _ _ _ _ q,r⟩
theorem Dy{Q Q':Exit->Act->yf->World->Prop}(hq:∀e a cs w,Q e a cs w->Q' e a cs w):∀(l:BK)(a:Act)(cs:yf)(w:World),wpOpsSIn F n P ops Q l a cs w->wpOpsSIn F n P ops Q' l a cs w
 |[],a,cs,w,h=>hq _ _ _ _ h
 |i::rest,a,cs,w,h=>by
  simp only[wpOpsSIn]at h|-
  cases ho:ops[i]? with
  |none=>simp only[ho]at h|-;exact Dy hq rest _ _ _ h
  |some o=>
   simp only[ho]at h|-;refine⟨h.1,?_⟩;have h2:=h.2
   by_cases hw:Region.wanted o (yielded ops a.tmps)=true
   .rw[zN hw]at h2|-;generalize(execOp a.eval o).run P w=res at h2|-
    cases res with
    |ok r w'=>
     cases r with
     |recover=>
      simp only at h2|-
      cases hr:recoverD cs with
      |none=>simp only[hr]at h2|-;exact Dy hq rest _ _ _ h2
      |some p=>obtain⟨v,cs'⟩:=p;simp only[hr]at h2|-;exact Dy hq rest _ _ _ h2
     |value v|skip=>exact Dy hq rest _ _ _ h2
     |_=>exact h2.elim
    |halt hh w'=>
     cases hh with
     |panic v=>exact hq _ _ _ _ h2
     |_=>exact h2.elim
   .rw[zO hw]at h2|-;exact Dy hq rest _ _ _ h2
end
def XQ(P:Program)(ops:ya)(i:Nat)(rest:yb)(S:St)(K:St->Prop):Prop:=
 (∀k:Nat,rest[k]? =ops[i+k]?)->∀N G a w,Rel none N S G a w->
  wpOpsIn (Kv none) 0 P ops (fun e a' w'=>e= .normal/\a'.defers=a.defers/\∃S' G',K S'/\Rel none N S' G' a' w'/\D4 G w G' w') (List.range' i rest.length) a w
section
variable {P:Program}{ops:ya}{i:Nat}{rest:yb}{S:St}{K:St->Prop}{o:Oper}{E:Nat->Option Bd}
theorem H8(h:K S):XQ P ops i [] S K:=by
 intro _ N G a w r;simp only[zI,List.range'_zero,wpOpsIn];exact⟨by trivial,by trivial,S,G,h,r,D4.refl G w⟩
variable {x:AV}{H':yz}
theorem Vj(hg:AX ops S.env o=some true)(hop:Es P o S x H')(hnd:Qs o.op=false)(hd:Au o.dst S.n=true)(k:XQ P ops (i+1) rest ⟨Bm o.dst x S.env,H',S.n⟩ K):XQ P ops i (o::rest) S K:=by
 intro hops N G a w r;have ho:=IY hops;simp only[yu,q0h,wpOpsIn,ho];rw[zN (CH r.env hg)];obtain⟨res,w',G',h1,h2,h3,h4,h5⟩:=hop none N G a w r;refine⟨fun _ _=>trivial,?_⟩;rw[q1K _ _ _ (V6 hnd),h1];have hops':=HV hops
 have fin:∀v,RV G' x v->wpOpsIn (Kv none) 0 P ops (fun e a' w'=>e= .normal/\a'.defers=a.defers/\∃S' G',K S'/\Rel none N S' G' a' w'/\D4 G w G' w') (List.range' (i+1) rest.length) (a.put o.dst v) w':=by
  intro v hv;obtain⟨e1,e2,e3⟩:=HE (r.env.mono h5.gle) r.size hd hv;have r':Rel none N ⟨Bm o.dst x S.env,H',S.n⟩ G' (a.put o.dst v) w':=r.step h5 h3 h4 rfl e2 e1 e3;have hk:=k hops' N G' _ w' r';exact BZ (fun _ _ _ ⟨p1,p2,S',G'',p3,p4,p5⟩=>⟨p1,p2.trans e3,S',G'',p3,p4,h5.trans p5⟩) _ _ _ hk
 rcases h2 with⟨rfl,rfl⟩|⟨v,rfl,hv⟩
 .simp only[Oper.uponIn];exact fin undef (by simp[RV])
 .simp only[Oper.uponIn];exact fin v hv
variable {g:FuncId}{xs:yq}
theorem wW{c:Call}{fo:Operand}{ds:yo}{d:D}(ho:o.op= .call c)(hc:c.callee= .value fo)(hg:AX ops S.env o=some true)(hf:Eo S.env fo=some (.fn (.func g) [] []))(hxs:KH S.env c.args.toList=some xs)(hx:RQ xs ds)(hd:Au o.dst S.n=true)(hT:Fn P g ds d)(k:XQ P ops (i+1) rest ⟨Bm o.dst (.d d) S.env,S.H,S.n⟩ K):XQ P ops i (o::rest) S K:=by
 intro hops N G a w r;have ho':=IY hops;simp only[yu,q0h,wpOpsIn,ho'];rw[zN (CH r.env hg)];refine⟨fun _ _=>trivial,?_⟩;have hfv:=B2 r.rel.st r.env hf;simp only[RV]at hfv;obtain⟨p,q,hfv,hp,hq⟩:=hfv;simp only[BP]at hp hq;subst hp;subst hq;have hrun:=La (P:=P) (f:=g) hc hfv hT.1 ho w;rw[q1K _ _ _ (fun c e=>by rw[ho]at e;cases e),hrun];simp only[Oper.uponIn];refine⟨Gl _,?_⟩;have hops':=HV hops
 have hargs:BP G xs (([]:y6).toArray++c.args.map a.eval++([]:y6).toArray).toList:=by
  have h1:=E6 r.rel.st r.env hxs;simpa using h1
 have hcall:=(hT.vt hx S.H).2 G w _ r.heap r.rel hargs;have hcall':CallsIn (Kv none) 0 P g (([]:y6).toArray++c.args.map a.eval++([]:y6).toArray) w _:=hcall;refine hcall'.mono ?_;rintro e w' ⟨v,x,G',rfl,⟨rfl,hH⟩,hv,hr',hfr⟩;obtain⟨e1,e2,e3⟩:=HE (r.env.mono hfr.gle) r.size hd hv;have r':Rel none N ⟨Bm o.dst (.d d) S.env,S.H,S.n⟩ G' (a.put o.dst v) w':=r.step hfr hH hr' rfl e2 e1 e3;have hk:=k hops' N G' _ w' r';exact BZ (fun _ _ _ ⟨p1,p2,S',G'',p3,p4,p5⟩=>⟨p1,p2.trans e3,S',G'',p3,p4,hfr.trans p5⟩) _ _ _ hk
def DV(P:Program)(G:Gh)(f:FuncId)(xs:yq)(d:Deferred):Prop:=
 HK P f/\∃p q:y6,d={target:=.fn (.func f) q.toArray,args:=p.toArray}/\BP G xs (p++q)
variable {f:FuncId}
theorem DV.mono{P:Program}{G G':Gh}{d:Deferred}(h:DV P G f xs d)(k:Iq G G'):DV P G' f xs d:=
 let⟨h0,p,q,h1,h2⟩:=h;⟨h0,p,q,h1,BP.mono k h2⟩
def vV(P:Program)(ops:ya)(i:Nat)(rest:yb)(S:St)(f:FuncId)(xs:yq)(K:St->Prop):Prop:=
 (∀k:Nat,rest[k]? =ops[i+k]?)->∀N G a w,a.defers=[]->Rel none ⟨N,[]⟩ S G a w->
  wpOpsIn (Kv none) 0 P ops (fun e a' w'=>e= .normal/\∃d S' G',K S'/\Rel none ⟨N,[d]⟩ S' G' a' w'/\D4 G w G' w'/\DV P G' f xs d) (List.range' i rest.length) a w
theorem tz(hg:AX ops S.env o=some true)(hop:Es P o S x H')(hnd:Qs o.op=false)(hd:Au o.dst S.n=true)(k:vV P ops (i+1) rest ⟨Bm o.dst x S.env,H',S.n⟩ f xs K):vV P ops i (o::rest) S f xs K:=by
 intro hops N G a w ha r;have ho:=IY hops;simp only[yu,q0h,wpOpsIn,ho];rw[zN (CH r.env hg)];obtain⟨res,w',G',h1,h2,h3,h4,h5⟩:=hop none _ G a w r;refine⟨fun _ _=>trivial,?_⟩;rw[q1K _ _ _ (V6 hnd),h1];have hops':=HV hops
 have fin:∀v,RV G' x v->wpOpsIn (Kv none) 0 P ops (fun e a' w'=>e= .normal/\∃d S' G',K S'/\Rel none ⟨N,[d]⟩ S' G' a' w'/\D4 G w G' w'/\DV P G' f xs d) (List.range' (i+1) rest.length) (a.put o.dst v) w':=by
  intro v hv;obtain⟨e1,e2,e3⟩:=HE (r.env.mono h5.gle) r.size hd hv;have r':Rel none ⟨N,[]⟩ ⟨Bm o.dst x S.env,H',S.n⟩ G' (a.put o.dst v) w':=r.step h5 h3 h4 rfl e2 e1 e3;have hk:=k hops' N G' _ w' (e3.trans ha) r';exact BZ (fun _ _ _ ⟨p1,d,S',G'',p3,p4,p5,p6⟩=>⟨p1,d,S',G'',p3,p4,h5.trans p5,p6⟩) _ _ _ hk
 rcases h2 with⟨rfl,rfl⟩|⟨v,rfl,hv⟩
 .simp only[Oper.uponIn];exact fin undef (by simp[RV])
 .simp only[Oper.uponIn];exact fin v hv
theorem Gf{c:Call}{fo:Operand}{first cap ys:yq}(ho:o.op= .defer c)(hc:c.callee= .value fo)(hg:AX ops S.env o=some true)(hf:Eo S.env fo=some (.fn (.func g) first cap))(hxs:KH S.env c.args.toList=some ys)(hx:first++ys++cap=xs)(hcall:HK P g)(hdst:o.dst=none)(k:K S):vV P ops i [o] S g xs K:=by
 intro hops N G a w ha r;have ho':=IY hops;simp only[yu,zI,q0h,List.range'_zero,wpOpsIn,ho'];rw[zN (CH r.env hg)];refine⟨fun _ _=>trivial,?_⟩;have hfv:=B2 r.rel.st r.env hf;simp only[RV]at hfv;obtain⟨p,q,hfv,hp,hq⟩:=hfv
 have hrun:(execOp a.eval o).run P w= .ok (.defer {target:=.fn (.func g) q.toArray,args:=(p++c.args.toList.map a.eval).toArray}) w:=by
  have e:p.toArray++c.args.map a.eval=(p++c.args.toList.map a.eval).toArray:=by
   apply Array.toList_inj.1;simp
  rw[<-e];unfold execOp;simp only[ho,resolve,hc,hfv,Deferred.ofValue,zf,zk,zQ]
 have hs:(o.semAt (Kv none).round a.eval).run P w= .ok (.defer {target:=.fn (.func g) q.toArray,args:=(p++c.args.toList.map a.eval).toArray}) w:=hrun;rw[hs];simp only[Oper.uponIn];refine⟨by trivial,_,S,G,k,?_,D4.refl G w,hcall,p++c.args.toList.map a.eval,q,rfl,?_⟩
 .obtain⟨m0,ms,m1,m2,m3⟩:=r.marks;rw[ha]at m1
  have:ms=[]:=by
   cases ms with
   |nil=>rfl
   |cons x l=>simp at m1
  subst this;rw[hdst];refine⟨r.heap,r.rel,r.size,r.env,⟨m0,[],by simp[Act.put,ha],List.nodup_nil,fun _ h=>by cases h⟩,fun _ h=>by cases h⟩
 .rw[<-hx];exact(hp.app (E6 r.rel.st r.env hxs)).app hq
def WS(P:Program)(c:Code)(S:St)(cs:yf)(Q:Exit->St->yf->Prop):Prop:=
 ∀N G a w,Rel none N S G a w->c.wpSIn (Kv none) 0 P (fun e a' cs' w'=>a'.defers=a.defers/\∃S' G',Q e S' cs'/\Rel none N S' G' a' w'/\D4 G w G' w') a cs w
def pE(P:Program)(ops:ya)(i:Nat)(rest:yb)(S:St)(cs:yf)(Q:Exit->St->yf->Prop):Prop:=
 (∀k:Nat,rest[k]? =ops[i+k]?)->∀N G a w,Rel none N S G a w->
  wpOpsSIn (Kv none) 0 P ops (fun e a' cs' w'=>a'.defers=a.defers/\∃S' G',Q e S' cs'/\Rel none N S' G' a' w'/\D4 G w G' w') (List.range' i rest.length) a cs w
variable {cs:yf}{Q:Exit->St->yf->Prop}
def QThS(K:St->yf->Prop)(Q:Exit->St->yf->Prop):Exit->St->yf->Prop
 | .normal,S,cs=>K S cs
 |e,S,cs=>Q e S cs
theorem Vi{x y:Code}(h:WS P x S cs (QThS (fun S' cs'=>WS P y S' cs' Q) Q)):WS P (.seq x y) S cs Q:=by
 intro N G a w r;refine wpSIn_seq (Nb (h N G a w r) ?_);rintro e a' cs' w' ⟨hd,S',G',q,r',k⟩
 cases e with
 |normal=>
  have q':WS P y S' cs' Q:=q;exact Nb (q' N G' a' w' r') fun _ _ _ _ ⟨hd',S'',G'',q1,q2,q3⟩=>⟨hd'.trans hd,S'',G'',q1,q2,k.trans q3⟩
 |_=>exact⟨hd,S',G',q,r',k⟩
theorem cd{c:Operand}{x y:Code}{t:Bool}(hc:Eo S.env c=some (.d (.b t)))(h:WS P (if t then x else y) S cs Q):WS P (.cond c x y) S cs Q:=by
 intro N G a w r;have hv:=B2 r.rel.st r.env hc;simp only[RV,RD]at hv;exact wpSIn_cond hv (h N G a w r)
theorem pY(h:Q .normal S cs):WS P .skip S cs Q:=fun _ G _ w r=>wpSIn_of_wpIn rfl (wpIn_skip ⟨rfl,S,G,h,r,D4.refl G w⟩)
theorem Po(ops:ya):List.range ops.size=List.range' 0 ops.toList.length:=by rw[List.range_eq_range'];simp
theorem UO{id:Nat}(h:pE P ops 0 ops.toList S cs Q):WS P (.region id ops false) S cs Q:=by
 intro N G a w r;refine wpSIn_region ?_;have:=h (fun k=>sm) N G a w r;rw[List.range_eq_range'];simpa using this
theorem N7{id:Nat}(h:XQ P ops 0 ops.toList S fun S'=>Q .normal S' cs):WS P (.region id ops false) S cs Q:=by
 intro N G a w r;refine wpSIn_of_wpIn rfl (wpIn_region ?_);have:=h (fun k=>sm) N G a w r;rw[Po];refine BZ ?_ _ _ _ this;rintro e a' w' ⟨rfl,h1,S',G',h2,h3,h4⟩;exact⟨h1,S',G',h2,h3,h4⟩
theorem cv(h:Q .normal S cs):pE P ops i [] S cs Q:=by
 intro _ N G a w r;simp only[zI,List.range'_zero,wpOpsSIn];exact⟨by trivial,S,G,h,r,D4.refl G w⟩
theorem u0(hg:AX ops S.env o=some true)(hop:Es P o S x H')(hd:Au o.dst S.n=true)(k:pE P ops (i+1) rest ⟨Bm o.dst x S.env,H',S.n⟩ cs Q):pE P ops i (o::rest) S cs Q:=by
 intro hops N G a w r;have ho:=IY hops;simp only[yu,q0h,wpOpsSIn,ho];refine⟨fun _ _=>trivial,?_⟩;rw[zN (CH r.env hg)];obtain⟨res,w',G',h1,h2,h3,h4,h5⟩:=hop none N G a w r;rw[h1];have hops':=HV hops
 have fin:∀v,RV G' x v->wpOpsSIn (Kv none) 0 P ops (fun e a' cs' w'=>a'.defers=a.defers/\∃S' G',Q e S' cs'/\Rel none N S' G' a' w'/\D4 G w G' w') (List.range' (i+1) rest.length) (a.put o.dst v) cs w':=by
  intro v hv;obtain⟨e1,e2,e3⟩:=HE (r.env.mono h5.gle) r.size hd hv;have r':Rel none N ⟨Bm o.dst x S.env,H',S.n⟩ G' (a.put o.dst v) w':=r.step h5 h3 h4 rfl e2 e1 e3;exact Dy (fun _ _ _ _ ⟨p2,S',G'',p3,p4,p5⟩=>⟨p2.trans e3,S',G'',p3,p4,h5.trans p5⟩) _ _ _ _ (k hops' N G' _ w' r')
 rcases h2 with⟨rfl,rfl⟩|⟨v,rfl,hv⟩
 .exact fin undef (by simp[RV])
 .exact fin v hv
def isRecover(op:Op):Bool:=
 match op with
 | .call c=>match c.callee with
  | .builtin .recover=>true
  |_=>false
 |_=>false
theorem pk{x:D}{cs':yf}(hr:isRecover o.op=true)(hg:AX ops S.env o=some true)(hd:Au o.dst S.n=true)
  (hx:(recoverD cs=none/\x= .ni/\cs'=cs)\/∃t v,recoverD cs=some (.iface t v,cs')/\x= .ifc t v)
  (k:pE P ops (i+1) rest ⟨Bm o.dst (.d x) S.env,S.H,S.n⟩ cs' Q):pE P ops i (o::rest) S cs Q:=by
 intro hops N G a w r;have ho:=IY hops;simp only[yu,q0h,wpOpsSIn,ho];refine⟨fun _ _=>trivial,?_⟩;rw[zN (CH r.env hg)]
 have hrun:(execOp a.eval o).run P w= .ok .recover w:=by
  unfold isRecover at hr;split at hr
  .rename_i c hop;split at hr
   .rename_i hc;unfold execOp;simp only[hop,resolve,hc,zf,zk,zQ];rfl
   .cases hr
  .cases hr
 rw[hrun];have hops':=HV hops
 have fin:∀v,RD G.m x v->wpOpsSIn (Kv none) 0 P ops (fun e a' cs' w'=>a'.defers=a.defers/\∃S' G',Q e S' cs'/\Rel none N S' G' a' w'/\D4 G w G' w') (List.range' (i+1) rest.length) (a.put o.dst v) cs' w:=by
  intro v hv;obtain⟨e1,e2,e3⟩:=HE (x:=.d x) r.env r.size hd (by simpa only[RV]using hv);have r':Rel none N ⟨Bm o.dst (.d x) S.env,S.H,S.n⟩ G (a.put o.dst v) w:=r.step (D4.refl G w) r.heap r.rel rfl e2 e1 e3;exact Dy (fun _ _ _ _ ⟨p2,S',G'',p3,p4,p5⟩=>⟨p2.trans e3,S',G'',p3,p4,p5⟩) _ _ _ _ (k hops' N G _ w r')
 rcases hx with⟨h1,rfl,rfl⟩|⟨t,v,h1,rfl⟩
 .simp only[h1];exact fin _ (by simp[RD])
 .simp only[h1];exact fin _ (by simp[RD])
def eu(P:Program)(f:FuncId)(args:yq)(H:yz)(u:FrameMode)(H':yz):Prop:=
 ∀G w (vs:yd),G.H=H->B9 G w->BP G args vs.toList->
  CallsDIn Fence.wide 0 P f vs u w fun e u' w'=>∃v G',e= .returned v/\settle u'= .returning/\G'.H=H'/\B9 G' w'/\D4 G w G' w'
variable {args:yq}{H:yz}{u:FrameMode}
theorem eu.ren{H2:yz}(ids:BK)(h:eu P f args H u H')(hn:nodupB ids=true)(hm:Dg (rn ids H2.length) H2 ids H)(ho:Ai H.length H=true)(ha:AV.oks H.length args=true):
  eu P f (AV.Dv (rn ids H2.length) args) H2 u (Jy ids H2 (E4 (rn ids H2.length) H')):=by
 have hn:=Ft hn;intro G w vs hG hr hargs;obtain⟨h1,h2⟩:=R6 hG hn hm hr ho;refine(h _ w vs rfl h1 (h2 ha hargs)).mono ?_;rintro e u' w' ⟨v,G0',rfl,hu,hH,hr',hfr⟩;obtain⟨G'',q1,q2,q3,q4,q5⟩:=MC hG hn hm hr hfr hr';exact⟨v,G'',rfl,hu,by rw[q1,hH],q2,q3⟩
def w9(c0:Frame)(cs:yf)(K:FrameMode->St->Prop):Exit->St->yf->Prop
 | .ret,S,cs'=>∃u',cs'={c0 with mode:=u'}::cs/\K u' S
 | .normal,S,cs'=>∃u',cs'={c0 with mode:=u'}::cs/\K u' S
 |_,_,_=>False
theorem UL{fn:Func}{c:Code}(hf:P.funcs[f]? =some fn)(hb:fn.body=some c)(hres:fn.results= #[])(hn:args.length<=fn.ntmps)(h:∀(c0:Frame)(cs:yf),c0.mode=u->WS P c ⟨Fp 0 args,H,fn.ntmps⟩ (c0::cs) (w9 c0 cs fun u' S0=>settle u'= .returning/\∃S',A5 S0 S'/\H.length<=S'.H.length/\S'.H=H')):eu P f args H u H':=by
 intro G w vs hG hr hargs;have key:=callsDIn_of_wpSIn (F:=Kv none) (n:=0) (P:=P) (args:=vs) (u:=u) (w:=w) (R:=fun e u' w'=>∃v G',e=Ending.returned v/\settle u'= .returning/\G'.H=H'/\B9 G' w'/\D4 G w G' w') hf hb trivial ?_
 .exact key
 intro c0 cs hu;have r0:=oJ (fn:=fn) hG hr hargs hn;refine Nb (h c0 cs hu _ G _ w r0) ?_;rintro e a' cs' w' ⟨hd,S0,G0,q,r',k⟩
 have fin:(∃u',cs'={c0 with mode:=u'}::cs/\settle u'= .returning/\∃S',A5 S0 S'/\H.length<=S'.H.length/\S'.H=H')->
   a'.defers=[]/\∃u',cs'={c0 with mode:=u'}::cs/\∃v,(results fn a'.tmps).run P w'= .ok v w'/\∃v2 G',(Ending.returned v:Ending)= .returned v2/\settle u'= .returning/\G'.H=H'/\B9 G' w'/\D4 G w G' w':=by
  rintro⟨u',e1,e2,S',t,hlen,hH⟩;obtain⟨G',r2,t2⟩:=t none _ G0 a' w' r' (fun id h=>by cases h);refine⟨hd,u',e1,.tuple #[],?_,_,G',rfl,e2,by rw[r2.heap,hH],r2.rel,k.ghost t2 (by rw[hG,r2.heap];exact hlen)⟩;simp[results,hres]
 cases e with
 |normal|ret=>exact fin q
 |_=>exact q.elim
def QDef(P:Program)(E:Nat->Option Bd)(fn:Func)(g:FuncId)(xs:yq)(n:Nat)(R:AV->yz->Prop):Exit->St->Prop
 | .ret,S=>∃H2,eu P g xs S.H .returning H2/\∃S',A5 ⟨S.env,H2,S.n⟩ S'/\n<=S'.H.length/\∃cc x,E2 E S'.env S'.H fn.results.toList=some (cc,x)/\cc=true/\R x S'.H
 | .normal,S=>∃H2,eu P g xs S.H .returning H2/\∃S',A5 ⟨S.env,H2,S.n⟩ S'/\n<=S'.H.length/\∃cc x,E2 E S'.env S'.H fn.results.toList=some (cc,x)/\cc=true/\R x S'.H
 | .panic ch,S=>∃H2,eu P g xs S.H (.panicking ch) H2/\∃S',A5 ⟨S.env,H2,S.n⟩ S'/\n<=S'.H.length/\∃cc x,E2 E S'.env S'.H fn.results.toList=some (cc,x)/\cc=true/\R x S'.H
 |_,_=>False
theorem II{fn:Func}{i0 i1:Nat}{ops0 ops1:ya}{body:Code}(hE:CV P E)(hf:P.funcs[f]? =some fn)(hb:fn.body=some (.seq (.region i0 ops0 false) (.seq (.region i1 ops1 false) body)))(hname:(fn.name== "runtime.NumGoroutine")=false)(hn:args.length<=fn.ntmps){R:AV->yz->Prop}(h:XQ P ops0 0 ops0.toList ⟨Fp 0 args,H,fn.ntmps⟩ fun S1=>vV P ops1 0 ops1.toList S1 g xs fun S2=>W P none body S2 (QDef P E fn g xs H.length R)):JO P f args H R:=by
 refine⟨⟨fn,hf,hname,by rw[hb];rfl⟩,fun G w vs hG hr hargs=> ?_⟩;refine callsIn_of_wp_marks hf hb trivial ?_;have r0:=oJ (fn:=fn) hG hr hargs hn;have hw:=h (fun k=>sm) _ G _ w r0;refine wpIn_seq (wpIn_region (BZ ?_ _ _ _ (by rw[Po];exact hw)));rintro e a1 w1 ⟨rfl,hd1,S1,G1,h1,r1,k1⟩;have hw1:=h1 (fun k=>sm) _ G1 a1 w1 hd1 r1;refine wpIn_seq (wpIn_region (BZ ?_ _ _ _ (by rw[Po];exact hw1)));rintro e a2 w2 ⟨rfl,d,S2,G2,h2,r2,k2,hdv⟩;have hw2:=h2 _ G2 a2 w2 r2;refine q1O hw2 ?_;rintro e a3 w3 ⟨S3,G3,q,r3,k3⟩
 have fin:∀u:FrameMode,u≠ .run->(∃H2,eu P g xs S3.H u H2/\∃S',A5 ⟨S3.env,H2,S3.n⟩ S'/\H.length<=S'.H.length/\∃cc x,E2 E S'.env S'.H fn.results.toList=some (cc,x)/\cc=true/\R x S'.H)->
   LeavesInM Fence.wide 0 P fn a3.tmps (fun e w'=>∃v r G',e= .returned v/\R r G'.H/\RV G' r v/\B9 G' w'/\D4 G w G' w') a3.defers u w3:=by
  rintro u hu ⟨H2,hR,S',t,hlen,cc,x,hx1,hx2,hx3⟩;obtain⟨_,ms,m1,m2,m3⟩:=r3.marks;rw[m1];refine HB hu ms w3 m2 (fun r hr=>(m3 r hr).2.1) (fun w4 ht=> ?_);have hr4:=U0 r3.rel ht (fun r hr=>(m3 r hr).2);obtain⟨hcal,p,qv,rfl,hpq⟩:=hdv.mono k3.gle;obtain⟨gfn,g1,g2,g3⟩:=hcal;have hbn:gfn.body.isNone=false:=by cases hx:gfn.body<;>simp_all
  refine⟨hu,.inr ⟨fun h=>by simp[Fence.wide]at h,.func g,qv.toArray,g,p.toArray++qv.toArray,rfl,?_,fun _ _=>trivial,?_⟩⟩
  .simp only[invoke,callFunc,zf,run_program,zQ,g1,g2,hbn,q0F,zo,Sem.run_ite,zk]
  .refine(hR G3 w4 (p.toArray++qv.toArray) r3.heap hr4 (by simpa using hpq)).mono ?_;rintro e u' w5 ⟨v,G5,rfl,hs,hH5,hr5,hf5⟩;simp only[hs];have r5:Rel none ⟨w5.heap.size,[]⟩ ⟨S3.env,H2,S3.n⟩ G5 {a3 with defers:=[]} w5:=⟨hH5,hr5,r3.size,r3.env.mono hf5.gle,⟨yV _,[],rfl,List.nodup_nil,fun _ h=>by cases h⟩,fun _ h=>by cases h⟩;obtain⟨G6,r6,t6⟩:=t none _ G5 _ w5 r5 (fun id h=>by cases h);obtain⟨rv,hrv,hrr⟩:=Xx hE r6.rel r6.env (fn:=fn) (by rw[r6.heap];exact hx1) hx2;simp only[LeavesInM,LeavesIn];refine⟨rv,hrv,rv,x,G6,rfl,by rw[r6.heap];exact hx3,hrr,r6.rel,?_⟩;have kk:=(k1.trans k2).trans k3
   have k4:D4 G w G3 w4:=⟨ht.os.trans kk.os,ht.tape.trans kk.tape,ht.output.trans kk.output,by rw[ht.size];exact kk.size,fun b hb ho=>by
    obtain⟨c1,c2⟩:=kk.keep b hb ho
    exact⟨(ht.other b fun hm=>by have:w.heap.size<=b:=(m3 b hm).1;omega).trans c1,c2⟩,kk.memNew,kk.gle⟩
   exact(k4.trans hf5).ghost t6 (by rw[hG,r6.heap];exact hlen)
 cases e with
 |normal|ret|panic ch=>exact fin _ sm q
 |_=>exact q.elim
end
end Go.Gar
namespace Go.Gar
def flat:D->Bool
 | .b _| .i _ _| .s _=>true
 |_=>false
theorem Qp{m m':Mem}{d:D}{v:Value}(h:flat d=true)(r:RD m d v):RD m' d v:=by
 cases d<;>simp only[flat,reduceCtorEq]at h<;>simpa only[RD]using r
open Classical in
theorem Fn.read{P:Program}{f:FuncId}{ds:yo}{r:D}(h:Fn P f ds r)(hr:flat r=true){xs:yq}{H:yz}(hx:Ea H xs ds):JO P f xs H fun x H'=>x= .d r/\H'=H:=by
 refine⟨h.1,fun G w vs hG hrel hargs=> ?_⟩;let m:Mem:=fun b k=>if Own G b then w.cell? ⟨b,k,none⟩else G.m b k
 have hle:G.m.le m:=fun b k v hv=>by
  by_cases ho:Own G b
  .rw[hrel.sep b ho k]at hv;cases hv
  .simp only[m,zO ho,hv]
 have hmem:Q4 m w:=fun b k v hv=>by
  simp only[m]at hv;split at hv
  .exact hv
  .exact hrel.mem b k v hv
 have hds:Eb m ds vs.toList:=WE hrel hle (fun b k v ho hc=>by simp only[m,zN ho,hc]) (by rw[hG];exact hx) hargs;refine(h.2 m w vs hmem (Mem.le_trans hrel.st hle) hds).mono ?_;rintro e w' ⟨v,m',rfl,h1,h2,h3,h4,h5,h6,h7,h8,h9⟩
 obtain⟨k1,k2⟩:=K8 hrel h5 h6 h7 h8 h9 G.m (Mem.le_refl _) (fun _ _ _ h=> .inl h) (fun b k u hu=>by
  rw[World.cell?_of_block (w:=w) (h9 b (IX hrel hu))]
  exact hrel.mem b k u hu)
 exact⟨v,.d r,G,rfl,⟨rfl,hG⟩,by simpa only[RV]using Qp hr h1,k1,k2⟩
end Go.Gar
namespace Go.Gar
section
variable {P:Program}{ro:yW}{ops:ya}{i:Nat}{rest:yb}{S0:St}{en:yr}{hp:yz}{nt:Nat}{Q:Exit->St->Prop}{o:Oper}{E:Nat->Option Bd}{A:Prop}{acc:List Rc}
def tL:Op->Option Operand
 | .panic x=>some x
 |_=>none
theorem Xpan{x:Operand}{t:TypeId}{v:Value}(h:tL o.op=some x)(hg:AX ops en o=some true)(hx:Eo en x=some (.d (.ifc t v)))(k:Q (.panic [{v:=.iface t v,recovered:=false}]) ⟨en,hp,nt⟩):Wl P ro ops i (o::rest) ⟨en,hp,nt⟩ Q:=by
 have ho:o.op= .panic x:=by
  unfold tL at h;split at h
  .rename_i y hy;cases h;exact hy
  .cases h
 exact jv ho hg hx k
variable {g:Nat}{ch:ym}{H':yz}
theorem Wl_X{S:St}{xs:yq}(hg:AX ops S.env o=some true)(h:Cp S.env o.op=some (g,xs))(hT:Mz P g xs S.H ch H')(k:Q (.panic ch) ⟨S.env,H',S.n⟩):Wl P ro ops i (o::rest) S Q:=by
 obtain⟨c,f,first,ys,cap,ho,hc,hf,hxs,rfl⟩:=Lu h;exact jt ho hc hg hf hxs hT k
theorem XX{args:yq}{H:yz}{H'':yz}(ids:BK)(hF:Mz P g args H ch H')(hg:AX ops en o=some true)(h:Cp en o.op=some (g,AV.Dv (rn ids hp.length) args))(hm:Dg (rn ids hp.length) hp ids H)(hn:nodupB ids=true)(ho:Ai H.length H=true)(ha:AV.oks H.length args=true)(k:Q (.panic ch) ⟨en,H'',nt⟩)(hH:Jy ids hp (E4 (rn ids hp.length) H')=H'':=by first|(simp only[Ks,Nat.reduceAdd];rfl)|rfl):Wl P ro ops i (o::rest) ⟨en,hp,nt⟩ Q:=by
 subst hH;exact Wl_X (S:=⟨en,hp,nt⟩) hg h (hF.ren ids hn hm ho ha) k
theorem u6{S:St}{xs:yq}(h:Cp S.env o.op=some (g,xs))(hT:Mz P g xs S.H ch H'):ji P ro o S ch H':=by
 obtain⟨c,f,first,ys,cap,ho,hc,hf,hxs,rfl⟩:=Lu h;intro N G a w K R r hR;refine⟨fun _ _=>trivial,?_⟩;have hfv:=B2 r.rel.st r.env hf;simp only[RV]at hfv;obtain⟨p,q,hfv,hp,hq⟩:=hfv;have hrun:=La (P:=P) (f:=g) hc hfv hT.1 ho w;rw[q1K _ _ _ (fun c e=>by rw[ho]at e;cases e),hrun];simp only[Oper.uponIn];refine⟨Gl _,?_⟩;have hargs:=Qj hp (E6 r.rel.st r.env hxs) hq;have hcall:=hT.2 G w _ r.heap r.rel hargs;have hcall':CallsIn (Kv (rl G ro)) 0 P g (p.toArray++c.args.map a.eval++q.toArray) w _:=hcall;refine hcall'.mono ?_;rintro e w' ⟨G',rfl,hH,hr',hfr⟩;exact hR w' G' hH hr' hfr
variable {e0 e:yr}
theorem YX{args:yq}{H:yz}{H'':yz}(ids:BK)(hF:Mz P g args H ch H')(hl:FN (looks ops o) en=some e0)(hg:AX ops e0 o=some true)(h:Cp e0 o.op=some (g,AV.Dv (rn ids hp.length) args))(hd:Au o.dst nt=true)(hm:Dg (rn ids hp.length) hp ids H)(hn:nodupB ids=true)(ho:Ai H.length H=true)(ha:AV.oks H.length args=true)(he:BU o.dst .u en=some e)(hk:Wd P ro E ops S0 A (⟨e0,hp,.u,.pan ch⟩::acc) rest ⟨e,H'',nt⟩)(hH:Jy ids hp (E4 (rn ids hp.length) H')=H'':=by first|(simp only[Ks,Nat.reduceAdd];rfl)|rfl):Wd P ro E ops S0 A acc (o::rest) ⟨en,hp,nt⟩:=by
 subst hH;rw[Az he]at hk;have:=D8 hl;subst this;exact tx (S:=⟨en,hp,nt⟩) hg (u6 (S:=⟨FO (looks ops o) en,hp,nt⟩) h (hF.ren ids hn hm ho ha)) hd hk
def Zz(ops:ya)(acc:List Rc):Bool:=
 match HX (acc.reverse.map Rc.k)with
 |some (i,_)=>(UU ops acc.length).testBit i
 |none=>false
theorem Yd(_:Zz ops acc=true)(hl:FN (looks ops o) en=some e0)(hd:Au o.dst nt=true)(he:BU o.dst .u en=some e)(hk:Wd P ro E ops S0 A (⟨e0,hp,.u,.dead⟩::acc) rest ⟨e,hp,nt⟩):Wd P ro E ops S0 A acc (o::rest) ⟨en,hp,nt⟩:=by
 rw[Az he]at hk;have:=D8 hl;subst this;exact pf (S:=⟨en,hp,nt⟩) hd hk
theorem YnX{id:Nat}(l:y4){i0:Nat}(hm:P.follows .mixedOrders=true)(hE:CV P E)(hp':HX (acc.reverse.map Rc.k)=some (i0,ch))(hd:It ops (acc.reverse.map Rc.k) l=true)(hx:EE E ops acc.reverse hp l)(hQ:Q (.panic ch) ⟨[],hp,nt⟩):Wd P ro E ops S0 (W P ro (.region id ops true) S0 Q) acc [] ⟨en,hp,nt⟩:=
 pi (S:=⟨en,hp,nt⟩) l hm hE hp' hd hx hQ
theorem XaB(t:Nat)(q:D)(hE:CV P E){f:Nat->AV}{b:AF}{c:Bool}{x':AV}(_:QB o.dst [t]=true)(hg:AX ops en o=some true)(h:pI E en hp o.op=some (c,f,b))(hb:b= .a q)(hd:Au o.dst nt=true)(he:BU o.dst x' en=some e)(hH:Hu hp (.a q)=some H')(hx:f hp.length=x')(k:Wl P ro ops (i+1) rest ⟨e,H',nt⟩ Q)(hc:c=true):Wl P ro ops i (o::rest) ⟨en,hp,nt⟩ Q:=by
 subst hb;exact Xa hE hg h hd he hH k hc hx
end
variable {S:St}
theorem A5.cells(id:Nat){cs:yq}(cs':yq)(hid:S.H[id]? =some (.c cs))(hcl:cs'.length=cs.length)(hw:∀(k:Nat)(x:AV),cs'[k]? =some x->∃y,cs[k]? =some y/\∀G v,RV G y v->RV G x v):
  A5 S ⟨S.env,S.H.set id (.c cs'),S.n⟩:=by
 intro ro N G a w r _;have hidG:G.H[id]? =some (.c cs):=by rw[r.heap];exact hid
 have hlt:id<G.H.length:=(yZ.1 hidG).1;let c':AF:=.c cs';let G':Gh:={ρ:=G.ρ,H:=G.H.set id c',m:=G.m};have hst:Ap G G' id (.c cs) c':=by simp[c',Ap,G',hcl]
 have hget:∀j b,G'.H[j]? =some b->(j=id/\b=c')\/(j≠id/\G.H[j]? =some b):=by
  intro j b hb
  by_cases hj:j=id
  .subst hj;left;have hb':(G.H.set j c')[j]? =some b:=hb;rw[q08 hlt]at hb';exact⟨rfl,(Option.some.inj hb').symm⟩
  .right;have hb':(G.H.set id c')[j]? =some b:=hb;rw[q06 (Ne.symm hj)]at hb';exact⟨hj,hb'⟩
 have gle:Iq G G':=by
  refine⟨fun j b hb=> ?_,Mem.le_refl _⟩
  by_cases hj:j=id
  .subst hj;rw[hidG]at hb;cases hb;exact⟨c',q08 hlt,hst⟩
  .exact⟨b,by show(G.H.set id c')[j]? =_;rw[q06 (Ne.symm hj)];exact hb,Ap.refl _ _ _⟩
 have hS:∀(j:Nat)(rs:List (Option (Nat×Nat×AT))),G'.H[j]? =some (.many rs)->G.H[j]? =some (.many rs):=fun j rs hb=>by
  rcases hget j _ hb with⟨_,e⟩|⟨_,h4⟩
  .have e:AF.many rs=AF.c _:=e;cases e
  .exact h4
 have hP:∀b,EX G' b->EX G b:=by
  rintro b ⟨j,N,blk,hb,hlv,hρ⟩;rcases hget j blk hb with⟨rfl,rfl⟩|⟨_,h4⟩
  .exact⟨j,N,_,hidG,rfl,hρ⟩
  .exact⟨j,N,blk,h4,hlv,hρ⟩
 have own:=JM hS hP
 have rel:B9 G' w:=by
  refine⟨fun j b hb=> ?_,fun i' j p q' b N N' hp hq lp lq r1 r2=> ?_,r.rel.mem,fun b hb k=>r.rel.sep b (own b hb) k,r.rel.st,r.rel.mny.of (fun b hb=>Bq r.rel (.inr hb)) hS (fun c hc=> .inl (hP c hc))⟩
  .rcases hget j b hb with⟨rfl,rfl⟩|⟨h3,h4⟩
   .obtain⟨b,N,vs,T,g1,g2,g3,g4,g6⟩:=r.rel.blk j _ hidG;refine⟨b,N,vs,T,g1,g2,g3,by rw[hcl];exact g4,fun k z hz=> ?_⟩;obtain⟨y,hy,hyz⟩:=hw k z hz;obtain⟨v,hv,hrv⟩:=g6 k _ hy;exact⟨v,hv,hyz _ _ (hrv.mono gle)⟩
   .exact(r.rel.blk j b h4).QH gle (fun _ _ _ _=>rfl) rfl
  .have back:∀(j:Nat)(b:AF),G'.H[j]? =some b->b.live=true->∃b0:AF,G.H[j]? =some b0/\b0.live=true:=by
    intro j b hb hlv;rcases hget j b hb with⟨rfl,rfl⟩|⟨_,h4⟩
    .exact⟨_,hidG,rfl⟩
    .exact⟨b,h4,hlv⟩
   obtain⟨p0,e1,e2⟩:=back i' p hp lp;obtain⟨q0,e3,e4⟩:=back j q' hq lq;exact r.rel.inj i' j p0 q0 b N N' e1 e3 e2 e4 r1 r2
 have VY:XL G G':=by
  refine⟨fun j b b' hb hb'=> ?_,Mem.le_refl _,fun b hb=>own b hb,fun _ _ _ h=> .inl h⟩;obtain⟨b'',hb'',hs''⟩:=gle.blk j b hb;rw[hb']at hb'';cases hb'';exact hs''
 refine⟨G',⟨?_,rel,r.size,fun u z hz=> ?_,r.marks.VY VY,fun k hk=> ?_⟩,VY⟩
 .show G.H.set id c'=_;rw[r.heap]
 .obtain⟨v,hv,hrv⟩:=r.env u z hz;exact⟨v,hv,hrv.mono gle⟩
 .obtain⟨q',l,M,q1,q2⟩:=r.round k hk;rw[<-r.heap]at q1;have hne:k≠id:=fun e=>by subst e;rw[hidG]at q1;cases q1
  refine⟨q',l,M,?_,q2⟩;show(S.H.set id c')[k]? =_;rw[q06 (Ne.symm hne),<-r.heap];exact q1
theorem A5.us(id:Nat){cs:yq}(n:Nat)(hid:S.H[id]? =some (.c cs))(hn:n=cs.length):A5 S ⟨S.env,S.H.set id (.c (List.replicate n .u)),S.n⟩:=by
 subst hn;refine A5.cells id _ hid sm fun k x hx=> ?_
 obtain⟨h1,h2⟩:=yZ.1 hx;rw[List.getElem_replicate]at h2;subst h2;rw[List.length_replicate]at h1;exact⟨_,yj h1,fun _ _ _=>by simp[RV]⟩
variable {P:Program}
theorem Bw.drop{f:FuncId}{args:yq}{H K:yz}{r:AV}(H':yz)(h:Bw P f args H r K)(hs:C0 H' K)(ho:Ai H'.length H'=true)(hr:r.ok H'.length=true)(hl:Nat.ble H.length H'.length=true):Bw P f args H r H':=by
 refine⟨h.1,fun G w vs h1 h2 h3=>(h.2 G w vs h1 h2 h3).mono ?_⟩;rintro e w' ⟨v,x,G',rfl,⟨rfl,hK⟩,hv,hr',hfr⟩;have hs':C0 H' G'.H:=by rw[hK];exact hs
 exact⟨v,x,G'.cut H',rfl,⟨rfl,rfl⟩,hv.cut hs' hr,hr'.cut hs' ho,hfr.ghost (XL.cut hs') (by rw[h1];exact q0X hl)⟩
def WL:K->Bool
 | .ifc=>true
 |_=>false
theorem Un{d:TypeDesc}(h:WL (P3 d)=true):∃ms,d= .interface ms:=by
 unfold P3 at h;split at h<;>first|exact⟨_,rfl⟩|(simp[WL]at h;done)
variable {ms:Array (String×TypeId)}
theorem wn{w:World}{t:TypeId}(hu:P.underlying t=some (.interface ms)):(Op.equal t .nilIface .nilIface).run P w= .ok true w:=by
 have h:∀d:Nat,(Op.equalIn (d+1) t .nilIface .nilIface).run P w= .ok true w:=fun d=>by simp[Op.equalIn,run_underlying hu]
 exact h 9999
theorem wm{w:World}{t ti:TypeId}{v:Value}(hu:P.underlying t=some (.interface ms)):(Op.equal t (.iface ti v) .nilIface).run P w= .ok false w:=by
 have h:∀d:Nat,(Op.equalIn (d+1) t (.iface ti v) .nilIface).run P w= .ok false w:=fun d=>by simp[Op.equalIn,run_underlying hu]
 exact h 9999
def dN(E:Nat->Option Bd)(env:yr):Op->Option Bool
 | .binOp .neq t x (.const .nilIface) _=>match Eo env x,E t with
  |some (.d .ni),some y=>if WL y.k then some false else none
  |some (.d (.ifc _ _)),some y=>if WL y.k then some true else none
  |_,_=>none
 |_=>none
variable {E:Nat->Option Bd}
theorem kr(hE:CV P E){o:Oper}{b:Bool}(h:dN E S.env o.op=some b):Es P o S (.d (.b b)) S.H:=by
 unfold dN at h;split at h
 .rename_i t x yt ho;refine .of_run (f:=fun a=>do eqGuard .neq t x (.const .nilIface) (a.eval x) (a.eval (.const .nilIface));binOp .neq t (a.eval x) (a.eval (.const .nilIface))) (fun a=>by unfold execOp;simp only[ho]) fun ro N G a w r=> ?_
  have hev:a.eval (.const .nilIface)= .nilIface:=rfl;split at h
  .rename_i y hx hy;split at h
   .rename_i hi;cases h;have hv:=B2 r.rel.st r.env hx;simp only[RV,RD]at hv;obtain⟨d,hu,hd⟩:=Dx (hE t y hy);rw[<-hd]at hi;obtain⟨ms,rfl⟩:=Un hi;refine⟨.bool false,?_,by simp[RV,RD]⟩;rw[hev,hv];have he:=wn (P:=P) (w:=w) hu;simp only[zf];simp[eqGuard,binOp,he]
   .cases h
  .rename_i ti vi y hx hy;split at h
   .rename_i hi;cases h;have hv:=B2 r.rel.st r.env hx;simp only[RV,RD]at hv;obtain⟨d,hu,hd⟩:=Dx (hE t y hy);rw[<-hd]at hi;obtain⟨ms,rfl⟩:=Un hi;refine⟨.bool true,?_,by simp[RV,RD]⟩;rw[hev,hv];have he:=wm (P:=P) (w:=w) (ti:=ti) (v:=vi) hu;simp only[zf];simp[eqGuard,binOp,he]
   .cases h
  .cases h
 .cases h
theorem UA{env:yr}{op:Op}{b:Bool}(h:dN E env op=some b):Qs op=false:=by
 cases op<;>first|rfl|cases h
section
variable {P:Program}{ops:ya}{i:Nat}{rest:yb}{en:yr}{hp:yz}{nt:Nat}{K:St->Prop}{o:Oper}{E:Nat->Option Bd}{cs:yf}{Q:Exit->St->yf->Prop}{f:FuncId}{xs:yq}
variable {x x':AV}{c:Bool}{e:yr}
theorem Kq(hE:CV P E)(hg:AX ops en o=some true)(h:PQ E en hp o.op=some (c,x))(hd:Au o.dst nt=true)(he:BU o.dst x' en=some e)(k:XQ P ops (i+1) rest ⟨e,hp,nt⟩ K)(hc:c=true)(hx:x=x':=by rfl):XQ P ops i (o::rest) ⟨en,hp,nt⟩ K:=by
 subst hx;rw[Az he]at k;exact Vj (S:=⟨en,hp,nt⟩) hg (PR (S:=⟨en,hp,nt⟩) hE h hc) (by cases ho:o.op<;>first|rfl|(rw[ho]at h;cases h)) hd k
theorem Ka(hE:CV P E){f:Nat->AV}{b:AF}{H':yz}(hg:AX ops en o=some true)(h:pI E en hp o.op=some (c,f,b))(hd:Au o.dst nt=true)(he:BU o.dst x' en=some e)(hH:Hu hp b=some H')(k:XQ P ops (i+1) rest ⟨e,H',nt⟩ K)(hc:c=true)(hx:f hp.length=x':=by rfl):XQ P ops i (o::rest) ⟨en,hp,nt⟩ K:=by
 subst hx;rw[Az he,Ig hH]at k;exact Vj (S:=⟨en,hp,nt⟩) hg (aB (S:=⟨en,hp,nt⟩) hE h hc) (by cases ho:o.op<;>first|rfl|(rw[ho]at h;cases h)) hd k
theorem Kw(hE:CV P E){H':yz}(hg:AX ops en o=some true)(h:tE E en hp o.op=some (c,x,H'))(hd:Au o.dst nt=true)(he:BU o.dst x' en=some e)(k:XQ P ops (i+1) rest ⟨e,H',nt⟩ K)(hc:c=true)(hx:x=x':=by rfl):XQ P ops i (o::rest) ⟨en,hp,nt⟩ K:=by
 subst hx;rw[Az he]at k;exact Vj (S:=⟨en,hp,nt⟩) hg (aO (S:=⟨en,hp,nt⟩) hE h hc) (by cases ho:o.op<;>first|rfl|(rw[ho]at h;cases h)) hd k
theorem Kn(hE:CV P E){b:Bool}(hg:AX ops en o=some true)(h:dN E en o.op=some b)(hd:Au o.dst nt=true)(he:BU o.dst (.d (.b b)) en=some e)(k:XQ P ops (i+1) rest ⟨e,hp,nt⟩ K):XQ P ops i (o::rest) ⟨en,hp,nt⟩ K:=by
 rw[Az he]at k;exact Vj (S:=⟨en,hp,nt⟩) hg (kr (S:=⟨en,hp,nt⟩) hE h) (UA h) hd k
theorem KF{g:Nat}{ds:yo}{d:D}(hT:Go.Gar.Fn P g ds d)(hg:AX ops en o=some true){fo:Operand}{l:List Operand}{ys:yq}(h:callOf o.op=some (fo,l))(hf:Eo en fo=some (.fn (.func g) [] []))(hxs:KH en l=some ys)(hx:RQ ys ds)(hd:Au o.dst nt=true)(he:BU o.dst (.d d) en=some e)(k:XQ P ops (i+1) rest ⟨e,hp,nt⟩ K):XQ P ops i (o::rest) ⟨en,hp,nt⟩ K:=by
 obtain⟨c,ho,hc,hl⟩:=PI h;subst hl;rw[Az he]at k;exact wW (S:=⟨en,hp,nt⟩) ho hc hg hf hxs hx hd hT k
theorem Fq(hE:CV P E)(hg:AX ops en o=some true)(h:PQ E en hp o.op=some (c,x))(hd:Au o.dst nt=true)(he:BU o.dst x' en=some e)(k:vV P ops (i+1) rest ⟨e,hp,nt⟩ f xs K)(hc:c=true)(hx:x=x':=by rfl):vV P ops i (o::rest) ⟨en,hp,nt⟩ f xs K:=by
 subst hx;rw[Az he]at k;exact tz (S:=⟨en,hp,nt⟩) hg (PR (S:=⟨en,hp,nt⟩) hE h hc) (by cases ho:o.op<;>first|rfl|(rw[ho]at h;cases h)) hd k
theorem Sq(hE:CV P E)(hg:AX ops en o=some true)(h:PQ E en hp o.op=some (c,x))(hd:Au o.dst nt=true)(he:BU o.dst x' en=some e)(k:pE P ops (i+1) rest ⟨e,hp,nt⟩ cs Q)(hc:c=true)(hx:x=x':=by rfl):pE P ops i (o::rest) ⟨en,hp,nt⟩ cs Q:=by
 subst hx;rw[Az he]at k;exact u0 (S:=⟨en,hp,nt⟩) hg (PR (S:=⟨en,hp,nt⟩) hE h hc) hd k
theorem wO{x:D}{cs':yf}(hr:isRecover o.op=true)(hg:AX ops en o=some true)(hd:Au o.dst nt=true)(he:BU o.dst (.d x) en=some e)(hx:(recoverD cs=none/\x= .ni/\cs'=cs)\/∃t v,recoverD cs=some (.iface t v,cs')/\x= .ifc t v)(k:pE P ops (i+1) rest ⟨e,hp,nt⟩ cs' Q):pE P ops i (o::rest) ⟨en,hp,nt⟩ cs Q:=by
 rw[Az he]at k;exact pk (S:=⟨en,hp,nt⟩) hr hg hd hx k
end
end Go.Gar
