/- Part 5 of the texts of this proof, put together by a program and made short.
Conditions: none; what each theorem asks stands in its own hypotheses. -/
import Derived.Test.YtnahkfkljohjaaaGreatDoorH04
import Derived.Sort.Grow
import Derived.Laws.Cover3
import Derived.RecoverIn
set_option linter.unusedSimpArgs false
set_option linter.unusedVariables false
set_option linter.unnecessarySimpa false
set_option maxHeartbeats 40000000
namespace Go.Gar
def Ord (ops : Array Oper) : Array Bool → List Nat → Prop
 | listed,[] => Region.ready .any ops listed = []
 | listed,j :: r => j ∈ Region.ready .any ops listed ∧ Ord ops (listed.setIfInBounds j true) r
section
variable {F : Fence} {n : Nat} {P : Program} {ops : Array Oper} {Q : Exit → Act → World → Prop}
theorem Mn : ∀ {L : List Nat} {fuel : Nat} {listed : Array Bool} {a : Act} {w : World},wpAnyIn F n P .any ops Q fuel listed a w → Ord ops listed L → wpOpsIn F n P ops Q L a w
 | [],0,_,_,_,h,_ => by simpa [wpOpsIn] using h.2
 | [],_ + 1,_,_,_,h,o => by simpa [wpOpsIn] using h.1 o
 | j :: r,0,_,_,_,h,o => by
  have:=o.1
  rw [h.1] at this;cases this
 | j :: r,fuel + 1,_,_,_,h,o => by
  rw [wpOpsIn_cons]
  exact wpOpIn_mono (fun a w k => Mn k o.2) (h.2 j o.1)
theorem count_set {listed : Array Bool} {i fuel : Nat} (hun : listed[i]? = some false) (hc : listed.toList.countP (fun b => !b) ≤ fuel + 1) : (listed.setIfInBounds i true).toList.countP (fun b => !b) ≤ fuel:=by
 obtain ⟨hil,e⟩:=Array.getElem?_eq_some_iff.1 hun
 have hl : listed.toList[i]'(by simpa using hil) = false:=by simpa using e
 have : (listed.setIfInBounds i true).toList = listed.toList.set i true:=by simp
 rw [this,List.countP_set (by simpa using hil),hl]
 simp only [Bool.not_false,if_true,Bool.not_true,Bool.false_eq_true,if_false]
 have hpos : 0 < listed.toList.countP (fun b => !b):=List.countP_pos_iff.2 ⟨false,by rw [← hl];exact List.getElem_mem _,rfl⟩
 have hc' : List.countP (fun b => !b) listed.toList ≤ fuel + 1:=hc
 omega
theorem YJ : ∀ (fuel t : Nat) (listed : Array Bool),listed.size = ops.size → listed.toList.countP (fun b => !b) ≤ fuel → Ord ops listed (Region.linearise.go .any ops fuel t listed []):=by
 intro fuel
 induction fuel with
 | zero =>
  intro t listed hs hc
  simp only [Region.linearise.go,List.reverse_nil,Ord]
  cases hr : Region.ready .any ops listed with
  | nil => rfl
  | cons i l =>
   have : i ∈ Region.ready .any ops listed:=by rw [hr];simp
   rw [Bw hs] at this
   obtain ⟨h1,_⟩:=this
   obtain ⟨hil,e⟩:=Array.getElem?_eq_some_iff.1 h1
   have h0 : listed.toList.countP (fun b => !b) = 0:=by omega
   rw [List.countP_eq_zero] at h0
   have:=h0 listed[i] (by simp)
   rw [e] at this;simp at this
 | succ fuel ih =>
  intro t listed hs hc
  simp only [Region.linearise.go]
  change Ord ops listed (match (Region.ready .any ops listed)[t % (Region.ready .any ops listed).length]? with
   | some i => Region.linearise.go .any ops fuel (t / (Region.ready .any ops listed).length) (listed.setIfInBounds i true) [i]
   | none => [].reverse)
  cases hi : (Region.ready .any ops listed)[t % (Region.ready .any ops listed).length]? with
  | none =>
   show Region.ready .any ops listed = []
   cases hr : Region.ready .any ops listed with
   | nil => rfl
   | cons x xs =>
    rw [hr] at hi
    have hlt : t % (x :: xs).length < (x :: xs).length:=Nat.mod_lt _ (by simp)
    simp at hi
    simp at hlt
    omega
  | some i =>
   simp only []
   rw [linearise_go_acc,List.reverse_singleton,List.singleton_append]
   have hm:=List.mem_of_getElem? hi
   refine ⟨hm,ih _ _ (by simp [hs]) (count_set ((Bw hs).1 hm).1 hc)⟩
def eOn (σ : Nat → Nat) (e : Edge) : Edge:={ e with on:=σ e.on }
def X5 (σ : Nat → Nat) (x y j : Nat) (o : Oper) : Oper :=
 { o with after:=(o.after.toList.map (eOn σ) ++ (if Nat.beq j x then [(⟨σ y,.data⟩ : Edge)] else [])).toArray,guard:=o.guard.map fun g => (σ g.1,g.2) }
def aK (σ τ : Nat → Nat) (x y : Nat) (l : List Oper) : Nat → List Oper
 | 0 => []
 | p + 1 => aK σ τ x y l p ++ (match l[τ p]? with | some o => [X5 σ x y (τ p) o] | none => [])
structure Perm (σ τ : Nat → Nat) (n : Nat) : Prop where
 lt : ∀ j,j < n → σ j < n
 lt' : ∀ j,j < n → τ j < n
 st : ∀ j,j < n → σ (τ j) = j
 ts : ∀ j,j < n → τ (σ j) = j
theorem OV {σ τ : Nat → Nat} {x y : Nat} {l : List Oper} (p : Perm σ τ l.length) : ∀ {m : Nat},m ≤ l.length → (aK σ τ x y l m).length = m ∧ ∀ q,q < m → ∃ o,l[τ q]? = some o ∧ (aK σ τ x y l m)[q]? = some (X5 σ x y (τ q) o):=by
 intro m
 induction m with
 | zero => intro _;exact ⟨rfl,fun q h => by omega⟩
 | succ m ih =>
  intro hm
  obtain ⟨h1,h2⟩:=ih (by omega)
  obtain ⟨o1,ho⟩ : ∃ o,l[τ m]? = some o:=⟨_,List.getElem?_eq_getElem (p.lt' m (by omega))⟩
  refine ⟨by simp only [aK,ho,List.length_append,h1,List.length_cons,List.length_nil],fun q hq => ?_⟩
  simp only [aK,ho]
  rcases Nat.lt_or_ge q m with hlt | hge
  ·obtain ⟨o,q1,q2⟩:=h2 q hlt
   exact ⟨o,q1,by rw [List.getElem?_append_left (by omega)];exact q2⟩
  ·have : q = m:=by omega
   subst this
   exact ⟨_,ho,by rw [List.getElem?_append_right (by omega),h1];simp⟩
def Jg (σ τ : Nat → Nat) (x y : Nat) (ops : Array Oper) : Array Oper:=(aK σ τ x y ops.toList ops.toList.length).toArray
variable {σ τ : Nat → Nat} {x y : Nat}
theorem Ge (p : Perm σ τ ops.size) : (Jg σ τ x y ops).size = ops.size:=by
 simp only [Jg,List.size_toArray]
 rw [(OV (x:=x) (y:=y) (l:=ops.toList) (by simpa using p) (Nat.le_refl _)).1];simp
theorem Mr (p : Perm σ τ ops.size) {j : Nat} {o : Oper} (h : ops[j]? = some o) : (Jg σ τ x y ops)[σ j]? = some (X5 σ x y j o):=by
 have hj : j < ops.size:=(Array.getElem?_eq_some_iff.1 h).1
 obtain ⟨q,h1,h2⟩:=(OV (x:=x) (y:=y) (l:=ops.toList) (by simpa using p) (Nat.le_refl _)).2 (σ j) (by simpa using p.lt j hj)
 rw [p.ts j hj] at h1 h2
 have : q = o:=by simpa [h] using h1.symm
 subst this
 simpa [Jg] using h2
theorem Tq (p : Perm σ τ ops.size) {j : Nat} {o : Oper} (hg : ∀ g,o.guard = some g → g.1 < ops.size) (tmps : Array Value) : Region.wanted (X5 σ x y j o) (yielded (Jg σ τ x y ops) tmps) = Region.wanted o (yielded ops tmps):=by
 unfold Region.wanted X5
 cases hgd : o.guard with
 | none => simp
 | some g =>
  have hlt:=hg g hgd
  obtain ⟨q,hq⟩ : ∃ q,ops[g.1]? = some q:=⟨ops[g.1],Array.getElem?_eq_getElem hlt⟩
  have h1 : (Jg σ τ x y ops)[σ g.1]? = some (X5 σ x y g.1 q):=Mr p hq
  simp only [Option.map_some]
  show (yielded (Jg σ τ x y ops) tmps (σ g.1) == some g.2) = _
  unfold yielded
  rw [h1,hq];rfl
theorem Pv (p : Perm σ τ ops.size) (hg : ∀ (j : Nat) (o : Oper) g,ops[j]? = some o → o.guard = some g → g.1 < ops.size) : ∀ {L : List Nat} {a : Act} {w : World},(∀ j ∈ L,j < ops.size) → wpOpsIn F n P (Jg σ τ x y ops) Q (L.map σ) a w → wpOpsIn F n P ops Q L a w
 | [],a,w,_,h => h
 | j :: r,a,w,hL,h => by
  have hj:=hL j (by simp)
  obtain ⟨o,ho⟩ : ∃ o,ops[j]? = some o:=⟨_,Array.getElem?_eq_getElem hj⟩
  have ih : ∀ a w,wpOpsIn F n P (Jg σ τ x y ops) Q (r.map σ) a w → wpOpsIn F n P ops Q r a w:=fun a w => Pv p hg (fun j hj => hL j (by simp [hj]))
  rw [List.map_cons,wpOpsIn_cons] at h
  rw [wpOpsIn_cons]
  refine wpOpIn_mono ih ?_
  unfold wpOpIn at h ⊢
  rw [Mr p ho] at h
  rw [ho]
  simp only at h ⊢
  rw [Tq p (hg j o · ho)] at h
  exact h
theorem Ee (p : Perm σ τ ops.size) (hb : ∀ (j : Nat) (o : Oper),ops[j]? = some o → ∀ e ∈ o.after,Region.binds .any e = true → e.on < ops.size) (hy : y < ops.size) {listed listed' : Array Bool} (hs : listed.size = ops.size) (hs' : listed'.size = ops.size)
  (hl : ∀ j,j < ops.size → listed'[σ j]? = listed[j]?) {j : Nat} (hj : j < ops.size) :
  (j ∈ Region.ready .any ops listed → (j = x → listed[y]? = some true) → σ j ∈ Region.ready .any (Jg σ τ x y ops) listed') ∧ (σ j ∈ Region.ready .any (Jg σ τ x y ops) listed' → j ∈ Region.ready .any ops listed):=by
 have hsz:=Ge (x:=x) (y:=y) p
 obtain ⟨o,ho⟩ : ∃ o,ops[j]? = some o:=⟨_,Array.getElem?_eq_getElem hj⟩
 have ho' : (Jg σ τ x y ops)[σ j]? = some (X5 σ x y j o):=Mr p ho
 rw [Bw hs,Bw (by rw [hs',hsz])]
 constructor
 ·rintro ⟨h1,o2,h2,h3⟩ hx
  rw [ho] at h2;cases h2
  refine ⟨by rw [hl j hj];exact h1,_,ho',fun e he hbe => ?_⟩
  simp only [X5,List.mem_toArray,List.mem_append,List.mem_map] at he
  rcases he with ⟨e0,h0,rfl⟩ | he
  ·have hb0 : Region.binds .any e0 = true:=hbe
   have h0' : e0 ∈ o.after:=by simpa using h0
   show listed'[σ e0.on]? = some true
   rw [hl _ (hb j o ho e0 h0' hb0)]
   exact h3 e0 h0' hb0
  ·split at he
   ·rename_i hjx
    simp only [List.mem_singleton] at he
    subst he
    show listed'[σ y]? = some true
    rw [hl _ hy]
    exact hx (Nat.eq_of_beq_eq_true hjx)
   ·cases he
 ·rintro ⟨h1,o2,h2,h3⟩
  rw [ho'] at h2;cases h2
  refine ⟨by rw [← hl j hj];exact h1,o,ho,fun e he hbe => ?_⟩
  rw [← hl _ (hb j o ho e he hbe)]
  exact h3 (eOn σ e) (by simp only [X5,List.mem_toArray,List.mem_append,List.mem_map];exact .inl ⟨e,by simpa using he,rfl⟩) hbe
theorem UZ (p : Perm σ τ ops.size) (hb : ∀ (j : Nat) (o : Oper),ops[j]? = some o → ∀ e ∈ o.after,Region.binds .any e = true → e.on < ops.size) (hy : y < ops.size) : ∀ {L : List Nat} {listed listed' : Array Bool},listed.size = ops.size → listed'.size = ops.size →
  (∀ j,j < ops.size → listed'[σ j]? = listed[j]?) → (listed[x]? = some true ∨ listed[y]? = some true) → Ord ops listed L → Ord (Jg σ τ x y ops) listed' (L.map σ):=by
 have hsz:=Ge (x:=x) (y:=y) p
 intro L
 induction L with
 | nil =>
  intro listed listed' hs hs' hl hxy h
  show Region.ready .any (Jg σ τ x y ops) listed' = []
  cases hr : Region.ready .any (Jg σ τ x y ops) listed' with
  | nil => rfl
  | cons i l =>
   have hi : i ∈ Region.ready .any (Jg σ τ x y ops) listed':=by rw [hr];simp
   have hlt : i < ops.size:=by
    obtain ⟨_,o,h2,_⟩:=(Bw (by rw [hs',hsz])).1 hi
    have:=(Array.getElem?_eq_some_iff.1 h2).1
    omega
   have:=(Ee (x:=x) p hb hy hs hs' hl (p.lt' i hlt)).2 (by rw [p.st i hlt];exact hi)
   rw [show Region.ready .any ops listed = [] from h] at this
   cases this
 | cons j r ih =>
  intro listed listed' hs hs' hl hxy h
  have hj : j < ops.size:=by
   obtain ⟨_,o,h2,_⟩:=(Bw hs).1 h.1
   exact (Array.getElem?_eq_some_iff.1 h2).1
  have hun:=((Bw hs).1 h.1).1
  refine ⟨(Ee (x:=x) p hb hy hs hs' hl hj).1 h.1 fun e => ?_,ih (by simp [hs]) (by simp [hs']) (fun i hi => ?_) ?_ h.2⟩
  ·subst e
   rcases hxy with h' | h'
   ·rw [hun] at h';cases h'
   ·exact h'
  ·by_cases e : i = j
   ·subst e
    rw [Array.getElem?_setIfInBounds_self_of_lt (by rw [hs'];exact p.lt i hi),Array.getElem?_setIfInBounds_self_of_lt (by rw [hs];exact hi)]
   ·have e' : σ j ≠ σ i:=fun h => e (by rw [← p.ts i hi,← h,p.ts j hj])
    rw [Array.getElem?_setIfInBounds_ne e',Array.getElem?_setIfInBounds_ne (Ne.symm e)]
    exact hl i hi
  ·rw [E3 (by rw [hs];exact hj),E3 (by rw [hs];exact hj)]
   exact hxy.imp .inr .inr
theorem Wu {σ' τ' : Nat → Nat} (p : Perm σ τ ops.size) (p' : Perm σ' τ' ops.size) (hb : ∀ (j : Nat) (o : Oper),ops[j]? = some o → ∀ e ∈ o.after,Region.binds .any e = true → e.on < ops.size) (hx : x < ops.size) (hy : y < ops.size) (hxy : x ≠ y) :
  ∀ {L : List Nat} {listed l1 l2 : Array Bool},listed.size = ops.size → l1.size = ops.size → l2.size = ops.size → (∀ j,j < ops.size → l1[σ j]? = listed[j]?) → (∀ j,j < ops.size → l2[σ' j]? = listed[j]?) → Ord ops listed L →
  Ord (Jg σ τ x y ops) l1 (L.map σ) ∨ Ord (Jg σ' τ' y x ops) l2 (L.map σ'):=by
 intro L
 induction L with
 | nil =>
  intro listed l1 l2 hs hs1 hs2 e1 e2 h
  left
  have hsz:=Ge (x:=x) (y:=y) p
  show Region.ready .any (Jg σ τ x y ops) l1 = []
  cases hr : Region.ready .any (Jg σ τ x y ops) l1 with
  | nil => rfl
  | cons i l =>
   have hi : i ∈ Region.ready .any (Jg σ τ x y ops) l1:=by rw [hr];simp
   have hlt : i < ops.size:=by
    obtain ⟨_,o,h2,_⟩:=(Bw (by rw [hs1,hsz])).1 hi
    have:=(Array.getElem?_eq_some_iff.1 h2).1
    omega
   have:=(Ee (x:=x) p hb hy hs hs1 e1 (p.lt' i hlt)).2 (by rw [p.st i hlt];exact hi)
   rw [show Region.ready .any ops listed = [] from h] at this
   cases this
 | cons j r ih =>
  intro listed l1 l2 hs hs1 hs2 e1 e2 h
  have hj : j < ops.size:=by
   obtain ⟨_,o,h2,_⟩:=(Bw hs).1 h.1
   exact (Array.getElem?_eq_some_iff.1 h2).1
  have up : ∀ {σ τ : Nat → Nat} (_ : Perm σ τ ops.size) {l1 : Array Bool},l1.size = ops.size → (∀ j,j < ops.size → l1[σ j]? = listed[j]?) → ∀ i,i < ops.size → (l1.setIfInBounds (σ j) true)[σ i]? = (listed.setIfInBounds j true)[i]?:=by
   intro σ τ p l1 hs1 e1 i hi
   by_cases e : i = j
   ·subst e
    rw [Array.getElem?_setIfInBounds_self_of_lt (by rw [hs1];exact p.lt i hi),Array.getElem?_setIfInBounds_self_of_lt (by rw [hs];exact hi)]
   ·have e' : σ j ≠ σ i:=fun h => e (by rw [← p.ts i hi,← h,p.ts j hj])
    rw [Array.getElem?_setIfInBounds_ne e',Array.getElem?_setIfInBounds_ne (Ne.symm e)]
    exact e1 i hi
  by_cases hjy : j = y
  ·subst hjy
   left
   exact ⟨(Ee (x:=x) p hb hy hs hs1 e1 hj).1 h.1 fun e => absurd e.symm hxy,UZ (x:=x) p hb hy (by simp [hs]) (by simp [hs1]) (up p hs1 e1) (.inr ((E3 (by rw [hs];exact hj)).2 (.inl rfl))) h.2⟩
  ·by_cases hjx : j = x
   ·subst hjx
    right
    exact ⟨(Ee (x:=y) p' hb hx hs hs2 e2 hj).1 h.1 fun e => absurd e hxy,UZ (x:=y) p' hb hx (by simp [hs]) (by simp [hs2]) (up p' hs2 e2) (.inr ((E3 (by rw [hs];exact hj)).2 (.inl rfl))) h.2⟩
   ·rcases ih (by simp [hs]) (by simp [hs1]) (by simp [hs2]) (up p hs1 e1) (up p' hs2 e2) h.2 with k | k
    ·exact .inl ⟨(Ee (x:=x) p hb hy hs hs1 e1 hj).1 h.1 fun e => absurd e hjx,k⟩
    ·exact .inr ⟨(Ee (x:=y) p' hb hx hs hs2 e2 hj).1 h.1 fun e => absurd e hjy,k⟩
theorem Q4 : ∀ {L : List Nat} {listed : Array Bool},Ord ops listed L → ∀ j ∈ L,j < ops.size
 | [],_,_,j,hj => by cases hj
 | i :: r,listed,h,j,hj => by
  rcases List.mem_cons.1 hj with rfl | hj
  ·obtain ⟨_,o,ho,_⟩:=mem_ready.1 h.1
   exact (Array.getElem?_eq_some_iff.1 ho).1
  ·exact Q4 h.2 j hj
theorem Pk {σ' τ' : Nat → Nat} {id : Nat} {a : Act} {w : World} (hm : P.follows .mixedOrders = true) (p : Perm σ τ ops.size) (p' : Perm σ' τ' ops.size) (hb : ∀ (j : Nat) (o : Oper),ops[j]? = some o → (∀ e ∈ o.after,Region.binds .any e = true → e.on < ops.size) ∧ ∀ g,o.guard = some g → g.1 < ops.size)
  (hx : x < ops.size) (hy : y < ops.size) (hxy : x ≠ y)
  (h1 : wpAnyIn F n P .any (Jg σ τ x y ops) Q ops.size (Array.replicate ops.size false) a { w with drawn:=w.drawn + 1 })
  (h2 : wpAnyIn F n P .any (Jg σ' τ' y x ops) Q ops.size (Array.replicate ops.size false) a { w with drawn:=w.drawn + 1 }) : (Code.region id ops true).wpIn F n P Q a w:=by
 refine wpIn_region_draw fun t => ?_
 simp only [Region.schedule,hm,Bool.true_or,if_true,Region.linearise]
 have ho:=YJ (ops:=ops) ops.size t (Array.replicate ops.size false) (by simp) (by simp [List.countP_replicate])
 have hr : ∀ {σ τ : Nat → Nat} (_ : Perm σ τ ops.size),∀ j,j < ops.size → (Array.replicate ops.size false)[σ j]? = (Array.replicate ops.size false)[j]?:=by
  intro σ τ p j hj
  rw [Array.getElem?_replicate,Array.getElem?_replicate,if_pos hj,if_pos (p.lt j hj)]
 rcases Wu p p' (fun j o h => (hb j o h).1) hx hy hxy (by simp) (by simp) (by simp) (hr p) (hr p') ho with k | k
 ·exact Pv p (fun j o g h => (hb j o h).2 g) (Q4 ho) (Mn h1 k)
 ·exact Pv p' (fun j o g h => (hb j o h).2 g) (Q4 ho) (Mn h2 k)
end
end Go.Gar
namespace Go.Gar
mutual
theorem AV.Kt {ι : Nat → Nat} {k : Nat} (h : ∀ i,i < k → ι i = i) : ∀ {x : AV},x.ok k = true → x.ren ι = x
 | .d _,_ | .u,_ | .e0,_ | .dp _,_ => rfl
 | .ptr id _ _,o => by simp only [AV.ok,Nat.blt_eq] at o;simp only [AV.ren,h id o]
 | .sl id _ _,o => by simp only [AV.ok,Nat.blt_eq] at o;simp only [AV.ren,h id o]
 | .bs id _ _ _ _,o => by simp only [AV.ok,Nat.blt_eq] at o;simp only [AV.ren,h id o]
 | .ep id _ _ _ _,o => by simp only [AV.ok,Nat.blt_eq] at o;simp only [AV.ren,h id o]
 | .yl id,o => by simp only [AV.ok,Nat.blt_eq] at o;simp only [AV.ren,h id o]
 | .mp id,o => by simp only [AV.ok,Nat.blt_eq] at o;simp only [AV.ren,h id o]
 | .ag cs,o => by simp only [AV.ok] at o;simp only [AV.ren,AV.H0 h o]
 | .tup cs,o => by simp only [AV.ok] at o;simp only [AV.ren,AV.H0 h o]
 | .fn f a b,o => by simp only [AV.ok,Bool.and_eq_true] at o;simp only [AV.ren,AV.H0 h o.1,AV.H0 h o.2]
theorem AV.H0 {ι : Nat → Nat} {k : Nat} (h : ∀ i,i < k → ι i = i) : ∀ {xs : List AV},AV.oks k xs = true → AV.Ce ι xs = xs
 | [],_ => rfl
 | x :: r,o => by simp only [AV.oks,Bool.and_eq_true] at o;simp only [AV.Ce,AV.Kt h o.1,AV.H0 h o.2]
end
theorem RU {ι : Nat → Nat} {k : Nat} (h : ∀ i,i < k → ι i = i) : ∀ {e : List (Nat × AV)},Dl k e = true → LW ι e = e
 | [],_ => rfl
 | p :: r,o => by
  simp only [Dl,Bool.and_eq_true] at o
  simp only [LW,AV.Kt h o.1,RU h o.2]
theorem R6 {ι : Nat → Nat} {k : Nat} (h : ∀ i,i < k → ι i = i) : ∀ {e : List (D × AV)},mapOk k e = true → SH ι e = e
 | [],_ => rfl
 | p :: r,o => by
  simp only [mapOk,Bool.and_eq_true] at o
  simp only [SH,AV.Kt h o.1,R6 h o.2]
theorem AC.Kt {ι : Nat → Nat} {k : Nat} (h : ∀ i,i < k → ι i = i) : ∀ {b : AC},b.ok k = true → b.ren ι = b
 | .gone,_ | .a _,_ => rfl
 | .c cs,o => by simp only [AC.ren,AV.H0 h (show AV.oks k cs = true from o)]
 | .m es,o => by simp only [AC.ren,R6 h (show mapOk k es = true from o)]
 | .lp r,o => by simp only [AC.ren,RU h (show Dl k r.env = true from o)]
def sw (a b j : Nat) : Nat:=if Nat.beq j a then b else if Nat.beq j b then a else j
theorem Gi (a b j : Nat) : sw a b (sw a b j) = j:=by
 simp only [sw,Hk,decide_eq_true_eq]
 split <;> split <;> (try split) <;> omega
theorem YY {a b j k : Nat} (ha : a < k) (hb : b < k) (hj : j < k) : sw a b j < k:=by
 simp only [sw]
 split
 ·exact hb
 ·split
  ·exact ha
  ·exact hj
theorem ZC {a b j k : Nat} (ha : k ≤ a) (hb : k ≤ b) (hj : j < k) : sw a b j = j:=by
 simp only [sw,Hk,decide_eq_true_eq]
 rw [if_neg (by omega),if_neg (by omega)]
def Yo (H : List AC) (a b : Nat) : Nat → List AC
 | 0 => []
 | m + 1 => Yo H a b m ++ (match H[sw a b m]? with | some x => [x.ren (sw a b)] | none => [])
def PQ (a b : Nat) (H : List AC) : List AC:=Yo H a b H.length
def VL (a b : Nat) (S : St) : St:=⟨LW (sw a b) S.env,PQ a b S.H,S.n⟩
theorem Xu {a b : Nat} {H : List AC} (ha : a < H.length) (hb : b < H.length) : ∀ {m : Nat},m ≤ H.length → (Yo H a b m).length = m ∧ ∀ i,i < m → (Yo H a b m)[i]? = H[sw a b i]?.map (AC.ren (sw a b)):=by
 intro m
 induction m with
 | zero => intro _;exact ⟨rfl,fun i h => by omega⟩
 | succ m ih =>
  intro hm
  obtain ⟨h1,h2⟩:=ih (by omega)
  obtain ⟨x,hx⟩ : ∃ x,H[sw a b m]? = some x:=⟨_,List.getElem?_eq_getElem (YY ha hb (by omega))⟩
  refine ⟨by simp only [Yo,hx,List.length_append,h1,List.length_cons,List.length_nil],fun i hi => ?_⟩
  simp only [Yo,hx]
  rcases Nat.lt_or_ge i m with hlt | hge
  ·rw [List.getElem?_append_left (by omega)];exact h2 i hlt
  ·have : i = m:=by omega
   subst this
   rw [List.getElem?_append_right (by omega),h1,hx];simp
theorem IV {a b : Nat} {H : List AC} (ha : a < H.length) (hb : b < H.length) (i : Nat) : (PQ a b H)[i]? = H[sw a b i]?.map (AC.ren (sw a b)):=by
 obtain ⟨h1,h2⟩:=Xu ha hb (Nat.le_refl H.length)
 rcases Nat.lt_or_ge i H.length with hlt | hge
 ·exact h2 i hlt
 ·rw [PQ,List.getElem?_eq_none (by omega),List.getElem?_eq_none,Option.map_none]
  have e:=Gi a b i
  rcases Nat.lt_or_ge (sw a b i) H.length with h | h
  ·have:=YY ha hb h
   rw [e] at this;omega
  ·exact h
theorem bL {ro : Option Nat} {N : NB} {S : St} {G G' : Gh} {a : Act} {w w' : World} {p q k : Nat} (r : Rel ro N S G' a w') (hf : CM G w G' w') (hk : G.H.length = k) (ho : Ae k G.H = true) (hr : ∀ id,ro = some id → id < k) (h1 : k ≤ p) (h2 : k ≤ q) (h3 : p < S.H.length) (h4 : q < S.H.length) :
  ∃ G'',Rel ro N (VL p q S) G'' a w' ∧ CM G w G'' w':=by
 have e3 : p < G'.H.length:=by rw [r.heap];exact h3
 have e4 : q < G'.H.length:=by rw [r.heap];exact h4
 let K : Gh:=⟨fun j => G'.ρ (sw p q j),PQ p q G'.H,G'.m⟩
 have up : ∀ id b,G'.H[id]? = some b → K.H[sw p q id]? = some (b.ren (sw p q)) ∧ K.ρ (sw p q id) = G'.ρ id:=by
  intro id b hb
  refine ⟨?_,by show G'.ρ (sw p q (sw p q id)) = _;rw [Gi]⟩
  show (PQ p q G'.H)[sw p q id]? = _
  rw [IV e3 e4,Gi,hb];rfl
 have dn : ∀ j b,K.H[j]? = some b → ∃ b0,G'.H[sw p q j]? = some b0 ∧ b = b0.ren (sw p q):=by
  intro j b hb
  have hb : (PQ p q G'.H)[j]? = some b:=hb
  rw [IV e3 e4,Option.map_eq_some_iff] at hb
  obtain ⟨b0,k1,k2⟩:=hb
  exact ⟨b0,k1,k2.symm⟩
 have own : ∀ b,Own K b → Own G' b:=by
  rintro b ⟨id,M,blk,h1,h2,h3⟩
  obtain ⟨b0,k1,rfl⟩:=dn id blk h1
  rw [C9] at h2
  exact ⟨sw p q id,M,b0,k1,h2,h3⟩
 have low : ∀ i,i < k → sw p q i = i:=fun i hi => ZC h1 h2 hi
 refine ⟨K,⟨?_,⟨fun j b hb => ?_,fun i j x y b M M' hx hy lx ly r1 r2 => ?_,r.rel.mem,fun b hb => r.rel.sep b (own b hb),r.rel.st⟩,r.size,fun t x hx => ?_,?_,fun id hid => ?_⟩,⟨hf.os,hf.tape,hf.output,hf.size,fun b hb hno => ?_,hf.memNew,fun id b hb => ?_,hf.gle.mem⟩⟩
 ·show PQ p q G'.H = PQ p q S.H
  rw [r.heap]
 ·obtain ⟨b0,k1,rfl⟩:=dn j b hb
  have:=BR.ren (G0:=G') (G:=K) (ι:=sw p q) (Mem.le_refl _) up (up _ _ k1).2 (r.rel.blk _ _ k1)
  rw [Gi] at this
  exact this
 ·obtain ⟨x0,k1,rfl⟩:=dn i x hx
  obtain ⟨y0,k2,rfl⟩:=dn j y hy
  rw [C9] at lx ly
  have:=r.rel.inj _ _ _ _ b M M' k1 k2 lx ly r1 r2
  rw [← Gi p q i,this,Gi]
 ·have hx : get (LW (sw p q) S.env) t = some x:=hx
  rw [IP,Option.map_eq_some_iff] at hx
  obtain ⟨z,hz,rfl⟩:=hx
  obtain ⟨v,hv,hrv⟩:=r.env t z hz
  exact ⟨v,hv,RV.ren (G0:=G') (G:=K) (ι:=sw p q) (Mem.le_refl _) up hrv⟩
 ·obtain ⟨m0,ms,m1,m2,m3⟩:=r.marks
  exact ⟨m0,ms,m1,m2,fun i hi => ⟨(m3 i hi).1,(m3 i hi).2.1,fun h => (m3 i hi).2.2 (own _ h)⟩⟩
 ·obtain ⟨l,M,m,c1,c2⟩:=r.round id hid
  have hlow:=low id (hr id hid)
  have c3 : (PQ p q S.H)[id]? = some ((AC.lp l).ren (sw p q)):=by
   rw [IV h3 h4,hlow,c1];rfl
  exact ⟨_,M,m,c3,by show G'.ρ (sw p q id) = _;rw [hlow];exact c2⟩
 ·obtain ⟨f1,f2⟩:=hf.keep b hb hno
  exact ⟨f1,fun h => f2 (own b h)⟩
 ·obtain ⟨b',hb',hs⟩:=hf.gle.blk id b hb
  have hid : id < k:=by rw [← hk];exact (List.getElem?_eq_some_iff.1 hb).1
  obtain ⟨u1,u2⟩:=up id b' hb'
  rw [low id hid] at u1 u2
  refine ⟨_,u1,?_⟩
  have:=hs.ren (G:=G) (G':=K) (ι:=sw p q) (j:=id) rfl u2
  rwa [AC.Kt low (HZ ho hb)] at this
section
variable {P : Program} {ro : Option Nat} {ops : Array Oper} {S0 S : St} {Q : Exit → St → Prop} {E : Nat → Option Ax} {acc : List Rc} {rest : List Oper} {o : Oper} {en : List (Nat × AV)} {hp : List AC} {nt : Nat}
def Qw (Q : Exit → St → Prop) : Exit → St → Prop:=fun e S' => ∃ env,(∀ t x,get env t = some x → get S'.env t = some x) ∧ Q e ⟨env,S'.H,S'.n⟩
theorem Yn2 (live : List Nat) {e : List (Nat × AV)} (l : List (Nat × Nat)) (hE : Bf P E) (hd : GU ops (acc.reverse.map Rc.k) l = true) (hx : Dy E ops acc.reverse hp l) (he : Dk live en = some e) (hQ : Q .normal ⟨e,hp,nt⟩) : Wd P ro E ops S0 (OK P ro ops S0 (Qw Q)) acc [] ⟨en,hp,nt⟩:=by
 have:=C1 he
 subst this
 intro Sr ht hH hn he' hr
 refine KN hE ht hd (by rw [hH];exact hx) ⟨Dj live en,fun t x hx => he' t x (HE hx).2,?_⟩
 rw [hH,hn];exact hQ
def aG (i k j : Nat) : Nat:=if Nat.beq j k then i else if Nat.ble i j && Nat.blt j k then j + 1 else j
def aR (i k j : Nat) : Nat:=if Nat.beq j i then k else if Nat.blt i j && Nat.ble j k then j - 1 else j
def Uz (i k : Nat) (ops : Array Oper) : Array Oper:=Jg id id k i ops
def Un (i k : Nat) (ops : Array Oper) : Array Oper:=Jg (aG i k) (aR i k) i k ops
def Ni (ops : Array Oper) : Bool:=ops.toList.all fun o => o.after.toList.all (fun e => Nat.blt e.on ops.toList.length) && (match o.guard with | some g => Nat.blt g.1 ops.toList.length | none => true)
theorem RE (n : Nat) : Perm id id n:=⟨fun _ h => h,fun _ h => h,fun _ _ => rfl,fun _ _ => rfl⟩
theorem Wk {i k n : Nat} (hik : i < k) (hk : k < n) : Perm (aG i k) (aR i k) n:=by
 constructor
 ·intro j hj
  simp only [aG,Hk,decide_eq_true_eq,Bool.and_eq_true,Nat.ble_eq,Nat.blt_eq]
  split <;> (try split) <;> omega
 ·intro j hj
  simp only [aR,Hk,decide_eq_true_eq,Bool.and_eq_true,Nat.ble_eq,Nat.blt_eq]
  split <;> (try split) <;> omega
 ·intro j hj
  simp only [aG,aR,Hk,decide_eq_true_eq,Bool.and_eq_true,Nat.ble_eq,Nat.blt_eq]
  repeat' split
  all_goals omega
 ·intro j hj
  simp only [aG,aR,Hk,decide_eq_true_eq,Bool.and_eq_true,Nat.ble_eq,Nat.blt_eq]
  repeat' split
  all_goals omega
def Qb (a b : Nat) (S1 : St) : Exit → St → Prop:=fun e S' => e = .normal ∧ (S' = S1 ∨ VL a b S' = S1)
theorem bK {id : Nat} (i k a b : Nat) {S1 : St} (hm : P.follows .mixedOrders = true) (hik : (Nat.blt i k && Nat.blt k ops.toList.length && Ni ops) = true) (ho : Ae S.H.length S.H = true)
  (hab : (Nat.ble S.H.length a && Nat.ble S.H.length b && Nat.blt a S1.H.length && Nat.blt b S1.H.length) = true)
  (h1 : OK P ro (Uz i k ops) S (Qw (Qb a b S1))) (h2 : OK P ro (Un i k ops) S (Qw (Qb a b S1))) (hQ : Q .normal S1) : W P ro (.region id ops true) S Q:=by
 simp only [Bool.and_eq_true,Nat.blt_eq,Array.length_toList] at hik
 simp only [Bool.and_eq_true,Nat.blt_eq,Nat.ble_eq] at hab
 obtain ⟨⟨hlt,hk⟩,hed⟩:=hik
 have hp' : Perm (aG i k) (aR i k) ops.size:=Wk hlt hk
 have hb : ∀ (j : Nat) (o : Oper),ops[j]? = some o → (∀ e ∈ o.after,Region.binds .any e = true → e.on < ops.size) ∧ ∀ g,o.guard = some g → g.1 < ops.size:=by
  intro j o ho
  unfold Ni at hed
  rw [List.all_eq_true] at hed
  have:=hed o (by rw [Array.mem_toList_iff];exact Array.mem_of_getElem? ho)
  simp only [Bool.and_eq_true,List.all_eq_true,Nat.blt_eq,Array.length_toList] at this
  refine ⟨fun e he _ => this.1 e (by simpa using he),fun g hg => ?_⟩
  have h2:=this.2
  rw [hg] at h2
  simpa [Nat.blt_eq] using h2
 intro N G act w r
 have a1:=h1 N G act w r
 have a2:=h2 N G act w r
 rw [Uz,Ge (RE _)] at a1
 rw [Un,Ge hp'] at a2
 refine wpIn_mono (Pk (id:=id) hm (RE _) hp' hb hk (by omega) (by omega) a1 a2) ?_
 rintro e a' w' ⟨S',G',⟨env,hs,rfl,hS⟩,r',hf⟩
 have r2:=r'.PZ hs
 rcases hS with rfl | rfl
 ·exact ⟨_,G',hQ,r2,hf⟩
 ·have hl : ∀ H : List AC,(PQ a b H).length = H.length → (VL a b ⟨env,H,S'.n⟩).H.length = H.length:=fun H h => h
  have hlen : (PQ a b S'.H).length ≤ S'.H.length:=by
   have : ∀ m,(Yo S'.H a b m).length ≤ m:=by
    intro m
    induction m with
    | zero => exact Nat.le_refl _
    | succ m ih =>
     simp only [Yo,List.length_append]
     split <;> simp <;> omega
   exact this _
  have c1 : a < S'.H.length:=by have:=hab.1.2;simp only [VL] at this;omega
  have c2 : b < S'.H.length:=by have:=hab.2;simp only [VL] at this;omega
  obtain ⟨G'',q1,q2⟩:=bL (k:=S.H.length) r2 hf (by rw [r.heap]) (by rw [r.heap];exact ho) r.MJ hab.1.1.1 hab.1.1.2 c1 c2
  exact ⟨_,G'',hQ,q1,q2⟩
theorem Na {id : Nat} (E : Nat → Option Ax) (i k a b : Nat) (S1 : St) (hm : P.follows .mixedOrders = true) (hik : (Nat.blt i k && Nat.blt k ops.toList.length && Ni ops) = true) (ho : Ae S.H.length S.H = true)
  (hab : (Nat.ble S.H.length a && Nat.ble S.H.length b && Nat.blt a S1.H.length && Nat.blt b S1.H.length) = true)
  (h1 : Wd P ro E (Uz i k ops) S (OK P ro (Uz i k ops) S (Qw (Qb a b S1))) [] (Uz i k ops).toList S)
  (h2 : Wd P ro E (Un i k ops) S (OK P ro (Un i k ops) S (Qw (Qb a b S1))) [] (Un i k ops).toList S) (hQ : Q .normal S1) : W P ro (.region id ops true) S Q :=
 bK i k a b hm hik ho hab (h1 S .nil rfl rfl (fun _ _ h => h) (fun k => by simp)) (h2 S .nil rfl rfl (fun _ _ h => h) (fun k => by simp)) hQ
end
end Go.Gar
namespace Go.Gar
def L9 (env : List (Nat × AV)) (op : Op) : Option (Bool × AV) :=
 match op with
 | .binOp op _ p q _ => match D5 env p,D5 env q with
  | some (.d (.i k a)),some (.d (.i k' b)) => match op with
   | .add => some (decide (k = k'),.d (.i k (k.wrap (a + b))))
   | .sub => some (decide (k = k'),.d (.i k (k.wrap (a - b))))
   | .mul => some (decide (k = k'),.d (.i k (k.wrap (a * b))))
   | _ => none
  | _,_ => none
 | _ => none
theorem SG {P : Program} {S : St} {o : Oper} {x : AV} {c : Bool} (h : L9 S.env o.op = some (c,x)) (hc : c = true) : Dg P o S x S.H:=by
 subst hc
 obtain ⟨dst,op,ty,pos,after,guard⟩:=o
 simp only at h
 unfold L9 at h
 split at h
 ·rename_i op t p q yt
  split at h
  ·rename_i k a k' b hy hz
   have key : ∀ {op' : BinOp} {n : Int},op = op' → (∀ (w : World),(binOp op' t (.int k a) (.int k b)).run P w = .ok (.int k n) w) → (∃ r,SR op' (.i k a) (.i k' b) = some r) → k = k' → x = .d (.i k n) → Dg P ⟨dst,.binOp op t p q yt,ty,pos,after,guard⟩ S x S.H:=by
    rintro op' n rfl hrun ⟨r0,hb⟩ rfl rfl
    refine .of_run (f:=fun a => do eqGuard op t p q (a.eval p) (a.eval q);binOp op t (a.eval p) (a.eval q)) (fun _ => rfl) fun ro N G a w r => ?_
    have hp:=Aa r.rel.st r.env hy
    have hq:=Aa r.rel.st r.env hz
    simp only [RV] at hp hq
    have hg:=F5 (P:=P) (op:=op) (t:=t) (x:=p) (y:=q) (v:=a.eval p) (u:=a.eval q) (w:=w) (.inl (OO (L8 hb) hp))
    simp only [RD] at hp hq
    refine ⟨.int k n,?_,by simp [RV,RD]⟩
    simp only [Sem.run_bind,hg,Result.andThen_ok]
    rw [hp,hq]
    exact hrun w
   split at h
   ·simp only [Option.some.injEq,Prod.mk.injEq,decide_eq_true_eq] at h
    exact key rfl (fun w => by simp [binOp,Op.intArith]) ⟨_,rfl⟩ h.1 h.2.symm
   ·simp only [Option.some.injEq,Prod.mk.injEq,decide_eq_true_eq] at h
    exact key rfl (fun w => by simp [binOp,Op.intArith]) ⟨_,rfl⟩ h.1 h.2.symm
   ·simp only [Option.some.injEq,Prod.mk.injEq,decide_eq_true_eq] at h
    exact key rfl (fun w => by simp [binOp,Op.intArith]) ⟨_,rfl⟩ h.1 h.2.symm
   ·cases h
  ·cases h
 ·cases h
theorem KB {env : List (Nat × AV)} {op : Op} {r : Bool × AV} (h : L9 env op = some r) : ∀ c,op ≠ .defer c:=fun c e => by subst e;cases h
def QP (E : Nat → Option Ax) (env : List (Nat × AV)) (H : List AC) (op : Op) : Option (Bool × List AC) :=
 match op with
 | .store t a x => match E t,D5 env a,D5 env x with
  | some y,some (.ep id i off n sz),some (.d (.i k m)) => match H[id]? with
   | some (.a (.by l)) => match setH id (.a (.by (l.set i (UInt8.ofNat m.toNat)))) H with
    | some H' => some (Nat.beq n l.length && decide (i < n) && Nat.beq y.size 1 && Nat.beq off 0 && Nat.beq sz 1 && decide (k = .u8) && decide (0 ≤ m) && decide (m < 256),H')
    | none => none
   | _ => none
  | _,_,_ => none
 | _ => none
theorem QF {α : Type} (l : List α) (i : Nat) (x : α) (h : i < l.length) : l.take i ++ [x] ++ l.drop (i + 1) = l.set i x:=by
 rw [List.set_eq_take_append_cons_drop,if_pos h];simp
theorem R4 {P : Program} {E : Nat → Option Ax} (hE : Bf P E) {S : St} {o : Oper} {c : Bool} {H' : List AC} (h : QP E S.env S.H o.op = some (c,H')) (hc : c = true) : Dg P o S .u H':=by
 subst hc
 unfold QP at h
 split at h
 ·rename_i t a x ho
  split at h
  ·rename_i y id i off n sz k m hy' ha hx
   split at h
   ·rename_i l hl
    split at h
    ·rename_i q hq
     simp only [Option.some.injEq,Prod.mk.injEq,Bool.and_eq_true,decide_eq_true_eq] at h
     obtain ⟨⟨⟨⟨⟨⟨⟨⟨hn,hi⟩,hsz⟩,hoff⟩,hsz1⟩,rfl⟩,hm0⟩,hm1⟩,rfl⟩:=h
     have hn:=Nat.eq_of_beq_eq_true hn
     have hsz:=Nat.eq_of_beq_eq_true hsz
     have hoff:=Nat.eq_of_beq_eq_true hoff
     have hsz1:=Nat.eq_of_beq_eq_true hsz1
     subst hn;subst hoff;subst hsz1
     obtain ⟨hid,rfl⟩:=Gn hq
     have hy:=hE t y hy'
     intro ro N G act w r
     have hl' : G.H[id]? = some (.a (.by l)):=by rw [r.heap];exact hl
     have hva:=Aa r.rel.st r.env ha
     have hvx:=Aa r.rel.st r.env hx
     simp only [RV,RD] at hva hvx
     obtain ⟨_,blk,hb,hp⟩:=hva
     rw [hl'] at hb;cases hb
     obtain ⟨_,_,hp⟩:=hp
     obtain ⟨b,M,hρ,hva⟩:=hp rfl
     obtain ⟨_,_,hB⟩:=r.rel.blk id _ hl'
     rcases hB with ⟨h0,hno⟩ | ⟨b',M',vs,T,hρ',hw,hM,hcell⟩
     ·rw [hρ] at hno;cases hno
     rw [hρ] at hρ';cases hρ'
     have hlen : (slc (.by l)).length = l.length:=by simp [slc]
     have hvl : l.length ≤ vs.size:=by
      rcases Nat.eq_zero_or_pos l.length with h0 | h0
      ·omega
      ·obtain ⟨v,hv,_⟩:=hcell (l.length - 1) _ (List.getElem?_eq_getElem (by rw [hlen];omega))
       have:=(Array.getElem?_eq_some_iff.1 hv).1;omega
     have hst:=run_storeCells_at P b i T [.int .u8 m] 0 vs w hw (by simp;omega) (by simp [Value.oneCell'])
     simp only [Nat.add_zero] at hst
     have hmm : (UInt8.ofNat m.toNat).toNat = m.toNat:=by rw [UInt8.toNat_ofNat'];omega
     obtain ⟨r1,r2⟩:=Np r.rel (cur:=(vs.toList.take i ++ [Value.int .u8 m] ++ vs.toList.drop (i + 1)).toArray) hl' rfl (q:=.a (.by (l.set i (UInt8.ofNat m.toNat)))) rfl hρ (by simp [AI,Gh.put,A6,B7]) (by
      refine ⟨rfl,trivial,.inr ⟨b,M,_,T,hρ,setRow_heap w b vs _ T _ hw,by simp;omega,fun j z hz => ?_⟩⟩
      have e : slc (.by (l.set i (UInt8.ofNat m.toNat))) = (slc (.by l)).take i ++ [D.i .u8 m] ++ (slc (.by l)).drop (i + 1):=by
       rw [QF _ _ _ (by rw [hlen];exact hi)]
       simp only [slc,List.map_set,hmm]
       congr 2;omega
      rw [e] at hz
      obtain ⟨v,hv,hrv⟩:=Fp (R:=fun d v => v.oneCell' = true ∧ RD G.m d v) (cs:=slc (.by l)) (xs:=[D.i .u8 m]) (vs:=vs.toList) (us:=[Value.int .u8 m]) (off:=i) (by rw [hlen];simp;omega) (by rw [hlen];simpa using hvl) rfl
       (fun k x hx => by obtain ⟨v,h1,h2⟩:=hcell k x hx;exact ⟨v,by simpa using h1,h2⟩)
       (fun k x hx => by
        cases k with
        | zero => simp at hx;subst hx;exact ⟨_,rfl,rfl,by simp [RD]⟩
        | succ k => simp at hx) j z hz
      exact ⟨v,by simpa using hv,hrv⟩)
     have key : (Instr.storeAt t (act.eval a) (act.eval x)).run P w = .ok () (w.setRow b (vs.toList.take i ++ [Value.int .u8 m] ++ vs.toList.drop (i + 1)).toArray):=by
      rw [hva,hvx]
      simp only [Instr.storeAt,Instr.sureAddr,Sem.run_bind,Sem.run_pure,Result.andThen_ok,storeVar,Av hy,Nat.mul_one,Nat.add_zero]
      rw [hsz]
      simpa [Value.cells] using hst
     refine ⟨.skip,_,_,?_,.inl ⟨rfl,rfl⟩,?_,r1,r2⟩
     ·unfold execOp
      simp only [ho,Sem.run_bind,key,Result.andThen_ok,Sem.run_pure]
     ·show G.H.set id _ = S.H.set id _
      rw [r.heap]
    ·cases h
   ·cases h
  ·cases h
 ·cases h
theorem Is {E : Nat → Option Ax} {env : List (Nat × AV)} {H : List AC} {op : Op} {r : Bool × List AC} (h : QP E env H op = some r) : ∀ c,op ≠ .defer c:=fun c e => by subst e;cases h
theorem S7 {P : Program} {f : FuncId} {ds : List D} {r : D} {x : AV} {H : List AC} (h : B4 P f (ds.map .d) [] x H) (hK : C4 H x r) : Fn P f ds r:=by
 refine ⟨h.1,fun m w vs hm hst hargs => ?_⟩
 let G : Gh:={ ρ:=fun _ => none,H:=[],m:=m }
 have hr : Af G w:=⟨fun id b hb => by simp [G] at hb,fun id id' p q b N N' hp => by simp [G] at hp,hm,fun b ho => by obtain ⟨id,N,q,hq,_⟩:=ho;simp [G] at hq,hst⟩
 have hno : ∀ b,¬ Own G b:=fun b ho => by obtain ⟨id,N,q,hq,_⟩:=ho;simp [G] at hq
 refine (h.2 G w vs rfl hr (HT.2 hargs)).mono ?_
 rintro e w' ⟨v,y,G',rfl,⟨rfl,rfl⟩,hv,h2,hfr⟩
 let m' : Mem:=fun b k => match G'.m b k with
  | some v => some v
  | none => if w.heap.size ≤ b then w'.cell? ⟨b,k,none⟩ else none
 have hle : G'.m.le m':=fun b k v hv => by simp only [m',hv]
 have hmem : Rm m' w':=by
  intro b k v hv
  simp only [m'] at hv
  split at hv
  ·rename_i u hu;cases hv;exact h2.mem b k _ hu
  ·split at hv
   ·exact hv
   ·cases hv
 refine ⟨v,m',rfl,PX h2 hle ?_ hK hv,Mem.le_trans hfr.gle.mem hle,hmem,?_,hfr.os,hfr.tape,hfr.output,hfr.size,fun b hb => (hfr.keep b hb (hno b)).1⟩
 ·intro b k v ho hc
  have hge : w.heap.size ≤ b:=by
   rcases Nat.lt_or_ge b w.heap.size with hlt | hge
   ·exact absurd ho (hfr.keep b hlt (hno b)).2
   ·exact hge
  simp only [m',h2.sep b ho k,if_pos hge,hc]
 ·intro b k v hv
  simp only [m'] at hv
  split at hv
  ·rename_i u hu
   cases hv
   rcases hfr.memNew b k _ hu with h3 | h3 | h3
   ·exact .inl h3
   ·exact absurd h3 (hno b)
   ·exact .inr h3
  ·split at hv
   ·rename_i hge;exact .inr hge
   ·cases hv
def QG (n : Nat) : List Nat → Bool
 | [] => false
 | a :: r => Nat.beq n a || QG n r
section
variable {P : Program} {ro : Option Nat} {E : Nat → Option Ax} {ops : Array Oper} {i : Nat} {rest : List Oper} {Q : Exit → St → Prop} {o : Oper} {en : List (Nat × AV)} {hp : List AC} {nt : Nat} {S0 : St} {A : Prop} {acc : List Rc}
theorem XwL (L : List Nat) {x x' : AV} {c : Bool} {e : List (Nat × AV)} (_ : Ja o.dst L = true) (hg : AH ops en o = some true) (h : L9 en o.op = some (c,x)) (hd : Ac o.dst nt = true) (he : Ay o.dst x' en = some e)
  (k : Wl P ro ops (i + 1) rest ⟨e,hp,nt⟩ Q) (hc : c = true) (hx : x = x':=by rfl) : Wl P ro ops i (o :: rest) ⟨en,hp,nt⟩ Q:=by
 subst hx
 rw [Ai he] at k
 exact JR hg (SG (S:=⟨en,hp,nt⟩) h hc) (KB h) hd k
theorem Xsb (hE : Bf P E) {c : Bool} {H' H'' : List AC} {e : List (Nat × AV)} (hg : AH ops en o = some true) (h : QP E en hp o.op = some (c,H')) (hd : Ac o.dst nt = true) (he : Ay o.dst .u en = some e)
  (k : Wl P ro ops (i + 1) rest ⟨e,H'',nt⟩ Q) (hc : c = true) (hH : H' = H'':=by first | (simp only [nS];rfl) | rfl) : Wl P ro ops i (o :: rest) ⟨en,hp,nt⟩ Q:=by
 subst hH
 rw [Ai he] at k
 exact JR hg (R4 (S:=⟨en,hp,nt⟩) hE h hc) (Is h) hd k
theorem Ysb (hE : Bf P E) {c : Bool} {H' H'' : List AC} {e0 e : List (Nat × AV)} (hl : Dk (looks ops o) en = some e0) (hg : AH ops e0 o = some true) (h : QP E e0 hp o.op = some (c,H')) (hd : Ac o.dst nt = true) (he : Ay o.dst .u en = some e)
  (k : Wd P ro E ops S0 A (⟨e0,hp,.u,.eff⟩ :: acc) rest ⟨e,H'',nt⟩) (hc : c = true) (hH : H' = H'':=by first | (simp only [nS];rfl) | rfl) : Wd P ro E ops S0 A acc (o :: rest) ⟨en,hp,nt⟩:=by
 subst hH
 rw [Ai he] at k
 have:=C1 hl
 subst this
 exact Hp (x:=.u) (k:=.eff) (H':=H') ⟨hd,hg,Dg.step (S:=⟨Dj (looks ops o) en,hp,nt⟩) (R4 (S:=⟨Dj (looks ops o) en,hp,nt⟩) hE h hc) (Is h)⟩ k
theorem Xfu (t : Nat) {id : Nat} {x : D} {n sz : Nat} (_ : QG t (Zi o.op) = true) (ht : get en t = some (.sl id n sz)) (hid : hp[id]? = some (.a x)) (hn : n = A6 x) (k : Wl P ro ops i (o :: rest) ⟨(t,.d x) :: en,DN id x 0 hp,nt⟩ Q) : Wl P ro ops i (o :: rest) ⟨en,hp,nt⟩ Q :=
 P5 (A2.aU (S:=⟨en,hp,nt⟩) t id hid ht hn) (by show hp.length ≤ (DN id x 0 hp).length;rw [Ca];exact Nat.le_refl _) k
theorem TY (L : List Nat) {id : Nat} {S : St} (_ : QG id L = false) (h : Wl P ro ops 0 ops.toList S Q) : W P ro (.region id ops false) S Q:=GW h
theorem Z0 (L : List Nat) {id : Nat} {S : St} (E : Nat → Option Ax) (_ : QG id L = false) (h : Wd P ro E ops S (W P ro (.region id ops true) S Q) [] ops.toList S) : W P ro (.region id ops true) S Q:=Ye E h
end
end Go.Gar
namespace Go.Gar
theorem A2.cell {S : St} (id i : Nat) {x y : AV} {cs : List AV} (hid : S.H[id]? = some (.c cs)) (h : cs[i]? = some x) (hw : ∀ G v,RV G x v → RV G y v) :
  A2 S ⟨S.env,S.H.set id (.c (cs.set i y)),S.n⟩:=by
 intro ro N G a w r _
 have hidG : G.H[id]? = some (.c cs):=by rw [r.heap];exact hid
 have hlt : id < G.H.length:=(List.getElem?_eq_some_iff.1 hidG).1
 let c' : AC:=.c (cs.set i y)
 let G' : Gh:={ ρ:=G.ρ,H:=G.H.set id c',m:=G.m }
 have hst : AI G G' id (.c cs) c':=by simp [c',AI,G']
 have hget : ∀ j b,G'.H[j]? = some b → (j = id ∧ b = c') ∨ (j ≠ id ∧ G.H[j]? = some b):=by
  intro j b hb
  by_cases hj : j = id
  ·subst hj
   left
   have hb' : (G.H.set j c')[j]? = some b:=hb
   rw [List.getElem?_set_self hlt] at hb'
   exact ⟨rfl,(Option.some.inj hb').symm⟩
  ·right
   have hb' : (G.H.set id c')[j]? = some b:=hb
   rw [List.getElem?_set_ne (Ne.symm hj)] at hb'
   exact ⟨hj,hb'⟩
 have gle : GI G G':=by
  refine ⟨fun j b hb => ?_,Mem.le_refl _⟩
  by_cases hj : j = id
  ·subst hj
   rw [hidG] at hb;cases hb
   exact ⟨c',List.getElem?_set_self hlt,hst⟩
  ·exact ⟨b,by show (G.H.set id c')[j]? = _;rw [List.getElem?_set_ne (Ne.symm hj)];exact hb,AI.refl _ _ _⟩
 have own : ∀ b,Own G' b → Own G b:=by
  rintro b ⟨j,N,blk,hb,hlv,hρ⟩
  rcases hget j blk hb with ⟨rfl,rfl⟩ | ⟨_,h4⟩
  ·exact ⟨j,N,_,hidG,rfl,hρ⟩
  ·exact ⟨j,N,blk,h4,hlv,hρ⟩
 have rel : Af G' w:=by
  refine ⟨fun j b hb => ?_,fun i' j p q' b N N' hp hq lp lq r1 r2 => ?_,r.rel.mem,fun b hb k => r.rel.sep b (own b hb) k,r.rel.st⟩
  ·rcases hget j b hb with ⟨rfl,rfl⟩ | ⟨h3,h4⟩
   ·obtain ⟨b,N,vs,T,g1,g2,g3,g4,g6⟩:=r.rel.blk j _ hidG
    refine ⟨b,N,vs,T,g1,g2,g3,by simpa using g4,fun k z hz => ?_⟩
    rw [List.getElem?_set] at hz
    split at hz
    ·rename_i hki
     subst hki
     split at hz
     ·cases hz
      obtain ⟨v,hv,hrv⟩:=g6 i _ h
      exact ⟨v,hv,hw _ _ (hrv.mono gle)⟩
     ·cases hz
    ·obtain ⟨v,hv,hrv⟩:=g6 k _ hz
     exact ⟨v,hv,hrv.mono gle⟩
   ·exact (r.rel.blk j b h4).Lq gle (fun _ _ _ _ => rfl) rfl
  ·have back : ∀ (j : Nat) (b : AC),G'.H[j]? = some b → b.live = true → ∃ b0 : AC,G.H[j]? = some b0 ∧ b0.live = true:=by
    intro j b hb hlv
    rcases hget j b hb with ⟨rfl,rfl⟩ | ⟨_,h4⟩
    ·exact ⟨_,hidG,rfl⟩
    ·exact ⟨b,h4,hlv⟩
   obtain ⟨p0,e1,e2⟩:=back i' p hp lp
   obtain ⟨q0,e3,e4⟩:=back j q' hq lq
   exact r.rel.inj i' j p0 q0 b N N' e1 e3 e2 e4 r1 r2
 have Pn : SJ G G':=by
  refine ⟨fun j b b' hb hb' => ?_,Mem.le_refl _,fun b hb => own b hb,fun _ _ _ h => .inl h⟩
  obtain ⟨b'',hb'',hs''⟩:=gle.blk j b hb
  rw [hb'] at hb'';cases hb''
  exact hs''
 refine ⟨G',⟨?_,rel,r.size,fun u z hz => ?_,r.marks.Pn Pn,fun k hk => ?_⟩,Pn⟩
 ·show G.H.set id c' = _
  rw [r.heap]
 ·obtain ⟨v,hv,hrv⟩:=r.env u z hz
  exact ⟨v,hv,hrv.mono gle⟩
 ·obtain ⟨q',l,M,q1,q2⟩:=r.round k hk
  rw [← r.heap] at q1
  have hne : k ≠ id:=fun e => by subst e;rw [hidG] at q1;cases q1
  refine ⟨q',l,M,?_,q2⟩
  show (S.H.set id c')[k]? = _
  rw [List.getElem?_set_ne (Ne.symm hne),← r.heap]
  exact q1
theorem A2.Ix {S : St} (id i : Nat) (q : D) {cs : List AV} (hid : S.H[id]? = some (.c cs)) (h : cs[i]? = some .e0) (hs : A5 q = true) (hl : A6 q = 0) (ho : A4 q) :
  A2 S ⟨S.env,S.H.set id (.c (cs.set i (.d q))),S.n⟩ :=
 A2.cell id i hid h fun G v hv => by
  simp only [RV] at hv ⊢
  obtain ⟨a,rfl⟩:=hv
  exact (Cg hs).2 ⟨a,0,by rw [hl],by omega,ho,.inl hl⟩
theorem GC {E : Nat → Option Ax} {n t : Nat} {cs : List D} (h : Ci E n t cs = true) : Ci E n t cs = true:=h
end Go.Gar
namespace Go.Gar
section
variable {P : Program} {ro : Option Nat} {S : St} {Q : Exit → St → Prop}
def QJ {α : Type} (P : Program) (ro : Option Nat) (c : Code) (l : Nat) (I : α → Prop) (St0 : α → St) (μ : α → Nat) (k : Nat) (Q : Exit → St → Prop) (m : Nat) : Nat → Exit → St → Prop
 | j,.goto l',S' => match Nat.beq l' l with
  | true => ∃ y,I y ∧ μ y < m ∧ k ≤ (St0 y).H.length ∧ A2 S' (St0 y)
  | false => match j with
   | 0 => False
   | j + 1 => match findLabel c l' with
    | some r => W P ro r S' (QJ P ro c l I St0 μ k Q m j)
    | none => Q (.goto l') S'
 | _,e,S' => Q e S'
theorem Q6 {α : Type} {c rest : Code} {l : Nat} (hfl : findLabel c l = some rest) {I : α → Prop} {St0 : α → St} {μ : α → Nat} {k0 j0 : Nat} (body : ∀ x,I x → W P ro rest (St0 x) (QJ P ro c l I St0 μ k0 Q (μ x) j0))
  {b : Frame} {k : List Item} {cs : List Frame} {F : Fence} (hro : b.roundOf = F.round) (hb : F.fn b.fn) (hr : F.room (cs.length + 1 + 0)) {N : NB} {G0 : Gh} {w0 : World} (hk0 : G0.H.length = k0) (hid : ∀ id,ro = some id → id < k0) (hF : ∀ {S : St} {G : Gh} {a : Act} {w : World},Rel ro N S G a w → CM G0 w0 G w → F = Lf (rl G ro)) :
  ∀ (m j : Nat) (c₁ : Code) (S : St) (G : Gh) (a : Act) (w : World),Rel ro N S G a w → CM G0 w0 G w → W P ro c₁ S (QJ P ro c l I St0 μ k0 Q m j) →
  ∃ e a' w',Post ro N G0 w0 Q e a' w' ∧ ArrivesIn (Machine.fenced P F) P (lone (b.atR a (.code c₁ :: .inScope c :: k)) cs w) b k cs e a' w':=by
 intro m
 induction m using Nat.strongRecOn with
 | _ m ihm =>
  intro j
  induction j with
  | zero =>
   intro c₁ S G a w r k1 h
   have h1:=h N G a w r
   rw [← hF r k1] at h1
   obtain ⟨e,a',w',⟨S',G',q,r',kk⟩,harr⟩:=h1 b (.inScope c :: k) cs hro hb hr
   cases e with
   | normal => exact ⟨.normal,a',w',⟨S',G',q,r',k1.trans kk⟩,StepsIn.trans harr (.one (fenced_calm (fr:=b.atR a' (.inScope c :: k)) hb hr rfl) E4)⟩
   | exit id =>
    refine ⟨.exit id,a',w',⟨S',G',q,r',k1.trans kk⟩,fun k' hk => harr.1 k' (by simp [exitTo,hk]),fun h1 h2 => harr.2 h1 (by simp [exitTo,h2])⟩
   | goto l' =>
    simp only [QJ] at q
    split at q
    ·rename_i hl
     have hl:=Nat.eq_of_beq_eq_true hl
     subst hl
     obtain ⟨y,hI,hlt,hle,t⟩:=q
     obtain ⟨G'',r'',t''⟩:=t ro N G' a' w' r' (fun id h => Nat.lt_of_lt_of_le (hid id h) hle)
     have k2:=(k1.trans kk).ghost t'' (by rw [hk0,r''.heap];exact hle)
     obtain ⟨e₂,a₂,w₂,p₂,harr₂⟩:=ihm (μ y) hlt j0 rest (St0 y) G'' a' w' r'' k2 (body y hI)
     exact ⟨e₂,a₂,w₂,p₂,.of_steps (harr.1 _ (by simp [gotoIn,hfl])) harr₂⟩
    ·exact q.elim
   | ret => exact ⟨.ret,a',w',⟨S',G',q,r',k1.trans kk⟩,harr⟩
   | panic ch => exact ⟨.panic ch,a',w',⟨S',G',q,r',k1.trans kk⟩,harr⟩
   | outgrown => exact ⟨.outgrown,a',w',⟨S',G',q,r',k1.trans kk⟩,harr⟩
  | succ j ih =>
   intro c₁ S G a w r k1 h
   have h1:=h N G a w r
   rw [← hF r k1] at h1
   obtain ⟨e,a',w',⟨S',G',q,r',kk⟩,harr⟩:=h1 b (.inScope c :: k) cs hro hb hr
   cases e with
   | normal => exact ⟨.normal,a',w',⟨S',G',q,r',k1.trans kk⟩,StepsIn.trans harr (.one (fenced_calm (fr:=b.atR a' (.inScope c :: k)) hb hr rfl) E4)⟩
   | exit id =>
    refine ⟨.exit id,a',w',⟨S',G',q,r',k1.trans kk⟩,fun k' hk => harr.1 k' (by simp [exitTo,hk]),fun h1 h2 => harr.2 h1 (by simp [exitTo,h2])⟩
   | goto l' =>
    simp only [QJ] at q
    split at q
    ·rename_i hl
     have hl:=Nat.eq_of_beq_eq_true hl
     subst hl
     obtain ⟨y,hI,hlt,hle,t⟩:=q
     obtain ⟨G'',r'',t''⟩:=t ro N G' a' w' r' (fun id h => Nat.lt_of_lt_of_le (hid id h) hle)
     have k2:=(k1.trans kk).ghost t'' (by rw [hk0,r''.heap];exact hle)
     obtain ⟨e₂,a₂,w₂,p₂,harr₂⟩:=ihm (μ y) hlt j0 rest (St0 y) G'' a' w' r'' k2 (body y hI)
     exact ⟨e₂,a₂,w₂,p₂,.of_steps (harr.1 _ (by simp [gotoIn,hfl])) harr₂⟩
    ·cases hfl' : findLabel c l' with
     | none =>
      rw [hfl'] at q
      exact ⟨.goto l',a',w',⟨S',G',q,r',k1.trans kk⟩,fun k' hk => harr.1 k' (by simp [gotoIn,hfl',hk]),fun h1 h2 => harr.2 h1 (by simp [gotoIn,hfl',h2])⟩
     | some r2 =>
      rw [hfl'] at q
      obtain ⟨e₂,a₂,w₂,p₂,harr₂⟩:=ih r2 S' G' a' w' r' (k1.trans kk) q
      exact ⟨e₂,a₂,w₂,p₂,.of_steps (harr.1 _ (by simp [gotoIn,hfl'])) harr₂⟩
   | ret => exact ⟨.ret,a',w',⟨S',G',q,r',k1.trans kk⟩,harr⟩
   | panic ch => exact ⟨.panic ch,a',w',⟨S',G',q,r',k1.trans kk⟩,harr⟩
   | outgrown => exact ⟨.outgrown,a',w',⟨S',G',q,r',k1.trans kk⟩,harr⟩
theorem W3 {α : Type} {c : Code} (l : Nat) (rest : Code) (I : α → Prop) (St0 : α → St) (μ : α → Nat) (m j j0 : Nat) (hfl : findLabel c l = some rest)
  (h : W P ro c S (QJ P ro c l I St0 μ S.H.length Q m j)) (body : ∀ x,I x → W P ro rest (St0 x) (QJ P ro c l I St0 μ S.H.length Q (μ x) j0)) : W P ro (.scope c) S Q:=by
 intro N G a w r b k cs hro hb hr
 obtain ⟨e,a',w',p,harr⟩:=Q6 (Q:=Q) (k:=k) (b:=b) (cs:=cs) hfl body hro hb hr (by rw [r.heap]) r.MJ (fun r' k' => by rw [Du r r' k']) m j c S G a w r (CM.refl G w) h
 exact ⟨e,a',w',p,.of_steps (.one (fenced_calm (fr:=b.atR a (.code (.scope c) :: k)) hb hr rfl) Jd) harr⟩
end
end Go.Gar
namespace Go.Gar
open Go.Sort
theorem Pd {α : Type} [Inhabited α] (enc : α → Value) {w : World} {b : Nat} {vs : Array Value} {T : TypeId} {fr : Nat × Nat} (hw : w.heap[b]? = some (.cells vs T fr)) (d : Array α) : putRow enc w b 0 d = w.setRow b (putCells enc 0 d vs):=by
 unfold putRow mapBlock World.setRow
 congr 1
 apply Array.ext_getElem?
 intro k
 simp only [Array.getElem?_modify]
 by_cases hk : b = k
 ·subst hk
  simp only [if_true,hw]
  rfl
 ·simp [hk]
structure VO {α : Type} (enc : α → Value) (x : List α → D) (cell : α → D) : Prop where
 sl : ∀ l,A5 (x l) = true
 ok : ∀ l,A4 (x l)
 c : ∀ l,slc (x l) = l.map cell
 n : ∀ l,A6 (x l) = l.length
 z : ∀ l,B7 (x l) = 1
 r : ∀ m a v,RD m (cell a) v ↔ v = enc a
 one : ∀ a,(enc a).oneCell' = true
theorem Sx {α : Type} [Inhabited α] {enc : α → Value} {x : List α → D} {cell : α → D} (hx : VO enc x cell) {zs : List α} {w : World} {b : Nat} {vs : Array Value} {T : TypeId} {m : Mem} (hw : w.heap[b]? = some (.cells vs T (0,0)))
  (hcell : ∀ (k : Nat) (d : D),(slc (x zs))[k]? = some d → ∃ v,vs[k]? = some v ∧ v.oneCell' = true ∧ RD m d v) : Holds enc w b 0 zs.toArray:=by
 intro j hj
 have hj' : j < zs.length:=by simpa using hj
 obtain ⟨v,h1,_,h3⟩:=hcell j (cell zs[j]) (by rw [hx.c,List.getElem?_map,List.getElem?_eq_getElem hj'];rfl)
 rw [hx.r] at h3
 subst h3
 refine ⟨?_,?_⟩
 ·unfold World.cell?
  simp only [hw,Nat.zero_add,Option.isSome_none,Bool.false_eq_true,if_false,h1]
  congr 2
  rw [getElem!_pos zs.toArray j hj];simp
 ·unfold World.frozen?
  simp [hw]
theorem Sy {α : Type} [Inhabited α] {enc : α → Value} {x : List α → D} {cell : α → D} (hx : VO enc x cell) {ys : List α} {d : Array α} {vs : Array Value} {m : Mem} (hd : ∀ k,k < ys.length → k < d.size ∧ d[k]! = ys.getD k default) (hs : ys.length ≤ vs.size) :
  ∀ (k : Nat) (z : D),(slc (x ys))[k]? = some z → ∃ v,(putCells enc 0 d vs)[k]? = some v ∧ v.oneCell' = true ∧ RD m z v:=by
 intro k z hz
 rw [hx.c,List.getElem?_map,Option.map_eq_some_iff] at hz
 obtain ⟨a,ha,rfl⟩:=hz
 have hk:=(List.getElem?_eq_some_iff.1 ha).1
 obtain ⟨h1,h2⟩:=hd k hk
 refine ⟨enc a,?_,hx.one a,(hx.r m a _).2 rfl⟩
 simp only [putCells,Array.getElem?_mapIdx]
 rw [Array.getElem?_eq_getElem (by omega)]
 simp only [Option.map_some,Nat.zero_le,true_and,Nat.zero_add,Nat.sub_zero]
 rw [if_pos h1,h2,List.getD_eq_getElem?_getD,ha]
 rfl
end Go.Gar
namespace Go.Gar
section
variable {P : Program} {ro : Option Nat} {E : Nat → Option Ax} {ops : Array Oper} {i : Nat} {rest : List Oper} {Q : Exit → St → Prop} {o : Oper} {S : St}
theorem Yy {x : AV} {H' : List AC} (hg : AH ops S.env o = some true) (hnd : ∀ c,o.op ≠ .defer c) (hd : Ac o.dst S.n = true) {N : NB} {G : Gh} {a : Act} {w : World} (r : Rel ro N S G a w) (hops : ∀ k : Nat,(o :: rest)[k]? = ops[i + k]?)
  (hop : ∃ r w' G',(execOp a.eval o).run P w = .ok r w' ∧ (r = .skip ∧ x = .u ∨ ∃ v,r = .value v ∧ RV G' x v) ∧ G'.H = H' ∧ Af G' w' ∧ CM G w G' w')
  (k : Wl P ro ops (i + 1) rest ⟨BE o.dst x S.env,H',S.n⟩ Q) : wpOpsIn (Lf (rl G ro)) 0 P ops (Post ro N G w Q) (List.range' i (o :: rest).length) a w:=by
 have ho : ops[i]? = some o:=by have:=hops 0;simpa using this.symm
 simp only [List.length_cons,List.range'_succ,wpOpsIn,ho]
 rw [if_pos (CO r.env hg)]
 obtain ⟨res,w',G',h1,h2,h3,h4,h5⟩:=hop
 refine ⟨fun _ _ => trivial,?_⟩
 rw [Oper.semAt_eq _ _ _ hnd,h1]
 have hops' : ∀ k : Nat,rest[k]? = ops[i + 1 + k]?:=fun k => by have:=hops (k + 1);simp at this;rw [this];congr 1;omega
 have fin : ∀ v,RV G' x v → wpOpsIn (Lf (rl G ro)) 0 P ops (Post ro N G w Q) (List.range' (i + 1) rest.length) (a.put o.dst v) w':=by
  intro v hv
  obtain ⟨e1,e2,e3⟩:=Im (r.env.mono h5.gle) r.size hd hv
  have r' : Rel ro N ⟨BE o.dst x S.env,H',S.n⟩ G' (a.put o.dst v) w':=⟨h3,h4,e2,e1,r.marks.Lq h5 e3,fun id hid => by
   obtain ⟨q,l,M,q1,q2⟩:=r.round id hid
   rw [← r.heap] at q1
   obtain ⟨b',hb',hs⟩:=h5.gle.blk id _ q1
   rw [h3] at hb'
   cases b' <;> simp only [AI] at hs
   exact ⟨_,l,M,hb',hs.1.trans q2⟩⟩
  have hk:=k hops' N G' _ w' r'
  rw [Du r r' h5] at hk
  exact BM (fun _ _ _ p => p.trans h5) _ _ _ hk
 rcases h2 with ⟨rfl,rfl⟩ | ⟨v,rfl,hv⟩
 ·simp only [Oper.uponIn]
  exact fin undef (by simp [RV])
 ·simp only [Oper.uponIn]
  exact fin v hv
def X6 (E : Nat → Option Ax) (env : List (Nat × AV)) (op : Op) : Option (AV × Bool) :=
 match op with
 | .binOp op t p (.const (.slice none 0 0)) _ => match E t,D5 env p with
  | some y,some x => match y.k,op with
   | .sl _,.eql => some (x,true)
   | .sl _,.neq => some (x,false)
   | _,_ => none
  | _,_ => none
 | _ => none
def OE : AV → Prop
 | .d q => A5 q = true ∧ A6 q ≠ 0
 | _ => False
def Oe : AV → Bool
 | .d q => A5 q
 | .e0 => true
 | _ => false
theorem Xsn (hE : Bf P E) {x : AV} {pos : Bool} {en : List (Nat × AV)} {hp : List AC} {nt : Nat} (hg : AH ops en o = some true) (h : X6 E en o.op = some (x,pos)) (hs : Oe x = true) (hd : Ac o.dst nt = true)
  (k : ∀ r : Bool,(r = true → ¬ OE x) → Wl P ro ops (i + 1) rest ⟨BE o.dst (.d (.b (if pos then r else !r))) en,hp,nt⟩ Q) : Wl P ro ops i (o :: rest) ⟨en,hp,nt⟩ Q:=by
 intro hops N G a w r
 obtain ⟨dst,op,ty,ps,after,guard⟩:=o
 unfold X6 at h
 simp only at h
 split at h
 ·rename_i op t p yt
  split at h
  ·rename_i y x' hy hx
   have hv:=Aa r.rel.st r.env hx
   have key : ∀ {e : Nat},y.k = .sl e → x' = x → ∃ ad n cap,a.eval p = .slice ad n cap ∧ (ad = none → ¬ OE x) ∧ P.underlying t = some (.slice e):=by
    intro e hk hxe
    subst hxe
    obtain ⟨_,hu,hkk⟩:=Ih (hE t y hy)
    rw [hk] at hkk
    have hds:=CY hkk
    subst hds
    cases x' with
    | d q =>
     simp only [Oe] at hs
     simp only [RV] at hv
     obtain ⟨ad,cap,e1,_,_,e4⟩:=(Cg hs).1 hv
     refine ⟨ad,_,cap,e1,fun hn he => ?_,hu⟩
     rcases e4 with e4 | ⟨b,off,e4,_⟩
     ·exact he.2 e4
     ·rw [hn] at e4;cases e4
    | e0 =>
     simp only [RV] at hv
     obtain ⟨ad,e1⟩:=hv
     exact ⟨ad,0,0,e1,fun _ he => he,hu⟩
    | _ => simp [Oe] at hs
   have run : ∀ {e ad n cap} ,a.eval p = .slice ad n cap → P.underlying t = some (.slice e) → ((eqGuard op t p (.const (.slice none 0 0)) (a.eval p) (.slice none 0 0)).run P w = .ok () w ∧ (Op.equal t (a.eval p) (.slice none 0 0)).run P w = .ok ad.isNone w):=by
    intro e ad n cap e1 e2
    refine ⟨F5 (.inl ?_),?_⟩
    ·rw [e1];exact ⟨fun _ h => (by cases h),fun h => (by cases h)⟩
    ·rw [e1];exact run_equal_slice_nil w t e ad n cap e2
   split at h
   ·rename_i e hk
    simp only [Option.some.injEq,Prod.mk.injEq] at h
    obtain ⟨hxe,rfl⟩:=h
    obtain ⟨ad,n,cap,e1,e2,e3⟩:=key hk hxe
    obtain ⟨g1,g2⟩:=run e1 e3
    refine Yy (S:=⟨en,hp,nt⟩) (x:=.d (.b ad.isNone)) (H':=hp) hg (fun c e => by cases e) hd r hops ⟨.value (.bool ad.isNone),w,G,?_,.inr ⟨_,rfl,by simp [RV,RD]⟩,r.heap,r.rel,CM.refl G w⟩ (k ad.isNone fun hn => e2 (by cases ad with|none => rfl|some _ => cases hn))
    show (do pure (Next.value (← (do eqGuard BinOp.eql t p (.const (.slice none 0 0)) (a.eval p) (.slice none 0 0);binOp .eql t (a.eval p) (.slice none 0 0))))).run P w = _
    have hb : binOp .eql t (a.eval p) (.slice none 0 0) = (do pure (.bool (← Op.equal t (a.eval p) (.slice none 0 0)))):=by rw [e1];rfl
    simp only [Sem.run_bind,g1,Result.andThen_ok,hb,g2,Sem.run_pure]
   ·rename_i e hk
    simp only [Option.some.injEq,Prod.mk.injEq] at h
    obtain ⟨hxe,rfl⟩:=h
    obtain ⟨ad,n,cap,e1,e2,e3⟩:=key hk hxe
    obtain ⟨g1,g2⟩:=run e1 e3
    refine Yy (S:=⟨en,hp,nt⟩) (x:=.d (.b (!ad.isNone))) (H':=hp) hg (fun c e => by cases e) hd r hops ⟨.value (.bool (!ad.isNone)),w,G,?_,.inr ⟨_,rfl,by simp [RV,RD]⟩,r.heap,r.rel,CM.refl G w⟩ (k ad.isNone fun hn => e2 (by cases ad with|none => rfl|some _ => cases hn))
    show (do pure (Next.value (← (do eqGuard BinOp.neq t p (.const (.slice none 0 0)) (a.eval p) (.slice none 0 0);binOp .neq t (a.eval p) (.slice none 0 0))))).run P w = _
    have hb : binOp .neq t (a.eval p) (.slice none 0 0) = (do pure (.bool (!(← Op.equal t (a.eval p) (.slice none 0 0))))):=by rw [e1];rfl
    simp only [Sem.run_bind,g1,Result.andThen_ok,hb,g2,Sem.run_pure]
   ·cases h
  ·cases h
 ·cases h
theorem ZB (hE : Bf P E) {x : AV} {en e1 e2 : List (Nat × AV)} {hp : List AC} {nt : Nat} (hg : AH ops en o = some true) (h : X6 E en o.op = some (x,true)) (hs : Oe x = true) (hd : Ac o.dst nt = true)
  (h1 : Ay o.dst (.d (.b true)) en = some e1) (h2 : Ay o.dst (.d (.b false)) en = some e2) (k1 : ¬ OE x → Wl P ro ops (i + 1) rest ⟨e1,hp,nt⟩ Q) (k2 : Wl P ro ops (i + 1) rest ⟨e2,hp,nt⟩ Q) : Wl P ro ops i (o :: rest) ⟨en,hp,nt⟩ Q:=by
 refine Xsn hE hg h hs hd fun r hr => ?_
 rw [Ai h1] at k1
 rw [Ai h2] at k2
 cases r with
 | true => exact k1 (hr rfl)
 | false => exact k2
theorem Zn (hE : Bf P E) {x : AV} {en e1 e2 : List (Nat × AV)} {hp : List AC} {nt : Nat} (hg : AH ops en o = some true) (h : X6 E en o.op = some (x,false)) (hs : Oe x = true) (hd : Ac o.dst nt = true)
  (h1 : Ay o.dst (.d (.b false)) en = some e1) (h2 : Ay o.dst (.d (.b true)) en = some e2) (k1 : ¬ OE x → Wl P ro ops (i + 1) rest ⟨e1,hp,nt⟩ Q) (k2 : Wl P ro ops (i + 1) rest ⟨e2,hp,nt⟩ Q) : Wl P ro ops i (o :: rest) ⟨en,hp,nt⟩ Q:=by
 refine Xsn hE hg h hs hd fun r hr => ?_
 rw [Ai h1] at k1
 rw [Ai h2] at k2
 cases r with
 | true => exact k1 (hr rfl)
 | false => exact k2
theorem is_nil {l : List Int} (h : ¬ OE (.d (.is l))) : l = []:=by
 cases l with
 | nil => rfl
 | cons a r => exact absurd ⟨rfl,by simp [A6]⟩ h
end
end Go.Gar
namespace Go.Gar
section
variable {P : Program} {ro : Option Nat} {S : St} {Q : Exit → St → Prop}
def be (P : Program) (ro : Option Nat) (c : Code) (Q : Exit → St → Prop) : Nat → Exit → St → Prop
 | 0,.normal,_ => False
 | n + 1,.normal,S' => W P ro c S' (be P ro c Q n)
 | _,e,S' => Q e S'
theorem ZY {c : Code} {b : Frame} {k : List Item} {cs : List Frame} {F : Fence} (hro : b.roundOf = F.round) (hb : F.fn b.fn) (hr : F.room (cs.length + 1 + 0)) :
  ∀ (n : Nat) (N : NB) (S : St) (G : Gh) (a : Act) (w : World),Rel ro N S G a w → F = Lf (rl G ro) → W P ro c S (be P ro c Q n) →
  ∃ e a' w',Post ro N G w Q e a' w' ∧ ArrivesIn (Machine.fenced P F) P (lone (b.atR a (.code c :: .inLoop c :: k)) cs w) b k cs e a' w':=by
 intro n
 induction n with
 | zero =>
  intro N S G a w r hf h
  have h1:=h N G a w r
  rw [← hf] at h1
  obtain ⟨e,a',w',⟨S',G',q,r',kk⟩,harr⟩:=h1 b (.inLoop c :: k) cs hro hb hr
  cases e with
  | normal => exact q.elim
  | exit id => exact ⟨_,a',w',⟨S',G',q,r',kk⟩,.pass (x:=.inLoop c) rfl (fun _ _ => .inl (by simp)) harr⟩
  | goto l => exact ⟨_,a',w',⟨S',G',q,r',kk⟩,.pass (x:=.inLoop c) rfl (fun _ _ => .inl (by simp)) harr⟩
  | ret => exact ⟨_,a',w',⟨S',G',q,r',kk⟩,.pass (x:=.inLoop c) rfl (fun _ _ => .inl (by simp)) harr⟩
  | panic ch => exact ⟨_,a',w',⟨S',G',q,r',kk⟩,.pass (x:=.inLoop c) rfl (fun _ _ => .inl (by simp)) harr⟩
  | outgrown => exact ⟨_,a',w',⟨S',G',q,r',kk⟩,.pass (x:=.inLoop c) rfl (fun _ _ => .inl (by simp)) harr⟩
 | succ n ih =>
  intro N S G a w r hf h
  have h1:=h N G a w r
  rw [← hf] at h1
  obtain ⟨e,a',w',⟨S',G',q,r',kk⟩,harr⟩:=h1 b (.inLoop c :: k) cs hro hb hr
  cases e with
  | normal =>
   obtain ⟨e₂,a₂,w₂,p₂,harr₂⟩:=ih N S' G' a' w' r' (by rw [Du r r' kk];exact hf) q
   exact ⟨e₂,a₂,w₂,p₂.trans kk,.of_steps (StepsIn.trans harr (.one (fenced_calm (fr:=b.atR a' (.inLoop c :: k)) hb hr rfl) stepR_inLoop)) harr₂⟩
  | exit id => exact ⟨_,a',w',⟨S',G',q,r',kk⟩,.pass (x:=.inLoop c) rfl (fun _ _ => .inl (by simp)) harr⟩
  | goto l => exact ⟨_,a',w',⟨S',G',q,r',kk⟩,.pass (x:=.inLoop c) rfl (fun _ _ => .inl (by simp)) harr⟩
  | ret => exact ⟨_,a',w',⟨S',G',q,r',kk⟩,.pass (x:=.inLoop c) rfl (fun _ _ => .inl (by simp)) harr⟩
  | panic ch => exact ⟨_,a',w',⟨S',G',q,r',kk⟩,.pass (x:=.inLoop c) rfl (fun _ _ => .inl (by simp)) harr⟩
  | outgrown => exact ⟨_,a',w',⟨S',G',q,r',kk⟩,.pass (x:=.inLoop c) rfl (fun _ _ => .inl (by simp)) harr⟩
theorem EO (n : Nat) {c : Code} (h : W P ro c S (be P ro c Q n)) : W P ro (.loop c) S Q:=by
 intro N G a w r b k cs hro hb hr
 obtain ⟨e,a',w',p,harr⟩:=ZY (Q:=Q) (k:=k) (b:=b) (cs:=cs) hro hb hr n N S G a w r rfl h
 exact ⟨e,a',w',p,.of_steps (.one (fenced_calm (fr:=b.atR a (.code (.loop c) :: k)) hb hr rfl) stepR_loop) harr⟩
end
end Go.Gar
namespace Go.Gar
section
variable {P : Program} {ro : Option Nat} {ops : Array Oper} {i : Nat} {rest : List Oper} {Q : Exit → St → Prop} {o : Oper} {en : List (Nat × AV)} {hp : List AC} {nt : Nat}
theorem XyB {id : Nat} {xs : List AV} {r0 : Lp} {H1 H2 : List AC} {e1 e2 : List (Nat × AV)} (b : Bool) (hT : b = true → YT P id xs hp fun r K => r = .d (.b true) ∧ K = H1) (hF : b = false → YT P id xs hp fun r K => r = .d (.b false) ∧ K = H2)
  (hg : AH ops en o = some true) (h : I1 en o.op = some (id,xs)) (hd : Ac o.dst nt = true) (hlp : hp[id]? = some (.lp r0)) (he1 : Ay o.dst (.d (.b true)) en = some e1) (he2 : Ay o.dst (.d (.b false)) en = some e2)
  (k1 : b = true → Wl P ro ops (i + 1) rest ⟨e1,H1,nt⟩ Q) (k2 : b = false → Wl P ro ops (i + 1) rest ⟨e2,H2,nt⟩ Q) : Wl P ro ops i (o :: rest) ⟨en,hp,nt⟩ Q:=by
 cases b with
 | true => exact Xy (hT rfl) hg h hd hlp he1 (k1 rfl)
 | false => exact Xy (hF rfl) hg h hd hlp he2 (k2 rfl)
end
end Go.Gar
namespace Go.Gar
def FnX (P : Program) (f : FuncId) (args : List AV) (H : List AC) (ch : List PanicEntry) (H' : List AC) : Prop :=
 GL P f ∧ ∀ G w (vs : Array Value),G.H = H → Af G w → An G args vs.toList →
  CallsIn Fence.wide 0 P f vs w fun e w' => ∃ G',e = .panicked ch ∧ G'.H = H' ∧ Af G' w' ∧ CM G w G' w'
theorem FnX.ren {P : Program} {f : FuncId} {args : List AV} {H H2 : List AC} {ch : List PanicEntry} {H' : List AC} (ids : List Nat) (h : FnX P f args H ch H') (hn : nodupB ids = true) (hm : D9 (rn ids H2.length) H2 ids H) (ho : Ae H.length H = true) (ha : AV.oks H.length args = true) :
  FnX P f (AV.Ce (rn ids H2.length) args) H2 ch (M1 ids H2 (GB (rn ids H2.length) H')):=by
 have hn:=HB hn
 refine ⟨h.1,fun G w vs hG hr hargs => ?_⟩
 obtain ⟨h1,h2⟩:=Mq hG hn hm hr ho
 refine (h.2 _ w vs rfl h1 (h2 ha hargs)).mono ?_
 rintro e w' ⟨G0',rfl,hH,hr',hfr⟩
 obtain ⟨G'',q1,q2,q3,q4,q5⟩:=JM hG hn hm hr hfr hr'
 exact ⟨G'',rfl,by rw [q1,hH],q2,q3⟩
end Go.Gar
namespace Go.Gar
section
variable {P : Program} {ops : Array Oper} {i : Nat} {rest : List Oper} {S : St} {K : St → Prop} {o : Oper} {E : Nat → Option Ax}
def DV (P : Program) (G : Gh) (f : FuncId) (xs : List AV) (d : Deferred) : Prop :=
 GL P f ∧ ∃ p q : List Value,d = { target:=.fn (.func f) q.toArray,args:=p.toArray } ∧ An G xs (p ++ q)
theorem DV.mono {P : Program} {G G' : Gh} {f : FuncId} {xs : List AV} {d : Deferred} (h : DV P G f xs d) (k : GI G G') : DV P G' f xs d :=
 let ⟨h0,p,q,h1,h2⟩:=h;⟨h0,p,q,h1,An.mono k h2⟩
variable {cs : List Frame} {Q : Exit → St → List Frame → Prop}
def FnR (P : Program) (f : FuncId) (args : List AV) (H : List AC) (u : FrameMode) (H' : List AC) : Prop :=
 ∀ G w (vs : Array Value),G.H = H → Af G w → An G args vs.toList →
  CallsDIn Fence.wide 0 P f vs u w fun e u' w' => ∃ v G',e = .returned v ∧ settle u' = .returning ∧ G'.H = H' ∧ Af G' w' ∧ CM G w G' w'
theorem FnR.ren {f : FuncId} {args : List AV} {H H2 : List AC} {u : FrameMode} {H' : List AC} (ids : List Nat) (h : FnR P f args H u H') (hn : nodupB ids = true) (hm : D9 (rn ids H2.length) H2 ids H) (ho : Ae H.length H = true) (ha : AV.oks H.length args = true) :
  FnR P f (AV.Ce (rn ids H2.length) args) H2 u (M1 ids H2 (GB (rn ids H2.length) H')):=by
 have hn:=HB hn
 intro G w vs hG hr hargs
 obtain ⟨h1,h2⟩:=Mq hG hn hm hr ho
 refine (h _ w vs rfl h1 (h2 ha hargs)).mono ?_
 rintro e u' w' ⟨v,G0',rfl,hu,hH,hr',hfr⟩
 obtain ⟨G'',q1,q2,q3,q4,q5⟩:=JM hG hn hm hr hfr hr'
 exact ⟨v,G'',rfl,hu,by rw [q1,hH],q2,q3⟩
end
end Go.Gar
namespace Go.Gar
end Go.Gar
namespace Go.Gar
section
variable {P : Program} {ro : Option Nat} {ops : Array Oper} {i : Nat} {rest : List Oper} {S0 : St} {en : List (Nat × AV)} {hp : List AC} {nt : Nat} {Q : Exit → St → Prop} {o : Oper} {E : Nat → Option Ax} {A : Prop} {acc : List Rc}
theorem XaB (t : Nat) (q : D) (hE : Bf P E) {f : Nat → AV} {b : AC} {c : Bool} {x' : AV} {e : List (Nat × AV)} {H' : List AC} (_ : Ja o.dst [t] = true) (hg : AH ops en o = some true) (h : Wm E en hp o.op = some (c,f,b)) (hb : b = .a q) (hd : Ac o.dst nt = true) (he : Ay o.dst x' en = some e) (hH : Ef hp (.a q) = some H') (hx : f hp.length = x')
  (k : Wl P ro ops (i + 1) rest ⟨e,H',nt⟩ Q) (hc : c = true) : Wl P ro ops i (o :: rest) ⟨en,hp,nt⟩ Q:=by
 subst hb
 exact Xa hE hg h hd he hH k hc hx
end
theorem A2.cells {S : St} (id : Nat) {cs : List AV} (cs' : List AV) (hid : S.H[id]? = some (.c cs)) (hcl : cs'.length = cs.length) (hw : ∀ (k : Nat) (x : AV),cs'[k]? = some x → ∃ y,cs[k]? = some y ∧ ∀ G v,RV G y v → RV G x v) :
  A2 S ⟨S.env,S.H.set id (.c cs'),S.n⟩:=by
 intro ro N G a w r _
 have hidG : G.H[id]? = some (.c cs):=by rw [r.heap];exact hid
 have hlt : id < G.H.length:=(List.getElem?_eq_some_iff.1 hidG).1
 let c' : AC:=.c cs'
 let G' : Gh:={ ρ:=G.ρ,H:=G.H.set id c',m:=G.m }
 have hst : AI G G' id (.c cs) c':=by simp [c',AI,G',hcl]
 have hget : ∀ j b,G'.H[j]? = some b → (j = id ∧ b = c') ∨ (j ≠ id ∧ G.H[j]? = some b):=by
  intro j b hb
  by_cases hj : j = id
  ·subst hj
   left
   have hb' : (G.H.set j c')[j]? = some b:=hb
   rw [List.getElem?_set_self hlt] at hb'
   exact ⟨rfl,(Option.some.inj hb').symm⟩
  ·right
   have hb' : (G.H.set id c')[j]? = some b:=hb
   rw [List.getElem?_set_ne (Ne.symm hj)] at hb'
   exact ⟨hj,hb'⟩
 have gle : GI G G':=by
  refine ⟨fun j b hb => ?_,Mem.le_refl _⟩
  by_cases hj : j = id
  ·subst hj
   rw [hidG] at hb;cases hb
   exact ⟨c',List.getElem?_set_self hlt,hst⟩
  ·exact ⟨b,by show (G.H.set id c')[j]? = _;rw [List.getElem?_set_ne (Ne.symm hj)];exact hb,AI.refl _ _ _⟩
 have own : ∀ b,Own G' b → Own G b:=by
  rintro b ⟨j,N,blk,hb,hlv,hρ⟩
  rcases hget j blk hb with ⟨rfl,rfl⟩ | ⟨_,h4⟩
  ·exact ⟨j,N,_,hidG,rfl,hρ⟩
  ·exact ⟨j,N,blk,h4,hlv,hρ⟩
 have rel : Af G' w:=by
  refine ⟨fun j b hb => ?_,fun i' j p q' b N N' hp hq lp lq r1 r2 => ?_,r.rel.mem,fun b hb k => r.rel.sep b (own b hb) k,r.rel.st⟩
  ·rcases hget j b hb with ⟨rfl,rfl⟩ | ⟨h3,h4⟩
   ·obtain ⟨b,N,vs,T,g1,g2,g3,g4,g6⟩:=r.rel.blk j _ hidG
    refine ⟨b,N,vs,T,g1,g2,g3,by rw [hcl];exact g4,fun k z hz => ?_⟩
    obtain ⟨y,hy,hyz⟩:=hw k z hz
    obtain ⟨v,hv,hrv⟩:=g6 k _ hy
    exact ⟨v,hv,hyz _ _ (hrv.mono gle)⟩
   ·exact (r.rel.blk j b h4).Lq gle (fun _ _ _ _ => rfl) rfl
  ·have back : ∀ (j : Nat) (b : AC),G'.H[j]? = some b → b.live = true → ∃ b0 : AC,G.H[j]? = some b0 ∧ b0.live = true:=by
    intro j b hb hlv
    rcases hget j b hb with ⟨rfl,rfl⟩ | ⟨_,h4⟩
    ·exact ⟨_,hidG,rfl⟩
    ·exact ⟨b,h4,hlv⟩
   obtain ⟨p0,e1,e2⟩:=back i' p hp lp
   obtain ⟨q0,e3,e4⟩:=back j q' hq lq
   exact r.rel.inj i' j p0 q0 b N N' e1 e3 e2 e4 r1 r2
 have Pn : SJ G G':=by
  refine ⟨fun j b b' hb hb' => ?_,Mem.le_refl _,fun b hb => own b hb,fun _ _ _ h => .inl h⟩
  obtain ⟨b'',hb'',hs''⟩:=gle.blk j b hb
  rw [hb'] at hb'';cases hb''
  exact hs''
 refine ⟨G',⟨?_,rel,r.size,fun u z hz => ?_,r.marks.Pn Pn,fun k hk => ?_⟩,Pn⟩
 ·show G.H.set id c' = _
  rw [r.heap]
 ·obtain ⟨v,hv,hrv⟩:=r.env u z hz
  exact ⟨v,hv,hrv.mono gle⟩
 ·obtain ⟨q',l,M,q1,q2⟩:=r.round k hk
  rw [← r.heap] at q1
  have hne : k ≠ id:=fun e => by subst e;rw [hidG] at q1;cases q1
  refine ⟨q',l,M,?_,q2⟩
  show (S.H.set id c')[k]? = _
  rw [List.getElem?_set_ne (Ne.symm hne),← r.heap]
  exact q1
theorem A2.us {S : St} (id : Nat) {cs : List AV} (n : Nat) (hid : S.H[id]? = some (.c cs)) (hn : n = cs.length) : A2 S ⟨S.env,S.H.set id (.c (List.replicate n .u)),S.n⟩:=by
 subst hn
 refine A2.cells id _ hid (by simp) fun k x hx => ?_
 obtain ⟨h1,h2⟩:=List.getElem?_eq_some_iff.1 hx
 rw [List.getElem_replicate] at h2
 subst h2
 rw [List.length_replicate] at h1
 exact ⟨_,List.getElem?_eq_getElem h1,fun _ _ _ => by simp [RV]⟩
theorem B4.drop {P : Program} {f : FuncId} {args : List AV} {H K : List AC} {r : AV} (H' : List AC) (h : B4 P f args H r K) (hs : C2 H' K) (ho : Ae H'.length H' = true) (hr : r.ok H'.length = true) (hl : Nat.ble H.length H'.length = true) : B4 P f args H r H':=by
 refine ⟨h.1,fun G w vs h1 h2 h3 => (h.2 G w vs h1 h2 h3).mono ?_⟩
 rintro e w' ⟨v,x,G',rfl,⟨rfl,hK⟩,hv,hr',hfr⟩
 have hs' : C2 H' G'.H:=by rw [hK];exact hs
 exact ⟨v,x,G'.cut H',rfl,⟨rfl,rfl⟩,hv.cut hs' hr,hr'.cut hs' ho,hfr.ghost (SJ.cut hs') (by rw [h1];exact Nat.le_of_ble_eq_true hl)⟩
end Go.Gar
