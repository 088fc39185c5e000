/- Part 3 of the texts of this proof, put together by a program and made short.
Conditions: none; what each theorem asks stands in its own hypotheses. -/
import Derived.Test.YtagnjflbhjmefaaGreatRb02
import Derived.ProofKit
import Derived.OpenShut
set_option linter.unusedSimpArgs false
set_option linter.unusedVariables false
set_option linter.unnecessarySimpa false
set_option maxHeartbeats 40000000
namespace Go.Gar
mutual
def AV.EV (id : Nat) (x : D) : AV → AV
 | .sl i n sz => match Nat.beq i id with
  | true => if n = A6 x then .d x else .sl i n sz
  | false => .sl i n sz
 | .ag cs => .ag (AV.J3 id x cs)
 | .tup cs => .tup (AV.J3 id x cs)
 | .fn f a b => .fn f (AV.J3 id x a) (AV.J3 id x b)
 | v => v
def AV.J3 (id : Nat) (x : D) : List AV → List AV
 | [] => []
 | v :: r => v.EV id x :: AV.J3 id x r
end
theorem I1 (id : Nat) (x : D) : ∀ l : List AV,AV.J3 id x l = l.map (AV.EV id x)
 | [] => rfl
 | v :: r => by simp [AV.J3,I1 id x r]
def Vj (id : Nat) (x : D) : List (D × AV) → List (D × AV)
 | [] => []
 | p :: r => (p.1,p.2.EV id x) :: Vj id x r
theorem KT (id : Nat) (x : D) : ∀ l : List (D × AV),Vj id x l = l.map fun p => (p.1,p.2.EV id x)
 | [] => rfl
 | v :: r => by simp [Vj,KT id x r]
def A7.EV (id : Nat) (x : D) : A7 → A7
 | .c cs => .c (AV.J3 id x cs)
 | .m es => .m (Vj id x es)
 | b => b
def Ro (id : Nat) (x : D) : List (Nat × AV) → List (Nat × AV)
 | [] => []
 | p :: r => (p.1,p.2.EV id x) :: Ro id x r
def E5 (id : Nat) (x : D) : Nat → List A7 → List A7
 | _,[] => []
 | i,b :: r => (match Nat.beq i id with | true => .gone | false => b.EV id x) :: E5 id x (i + 1) r
theorem NZ {id : Nat} {x : D} : ∀ {e : List (Nat × AV)} {t : Nat} {y : AV},get (Ro id x e) t = some y → ∃ z,get e t = some z ∧ y = z.EV id x
 | [],t,y,h => by simp [Ro,get] at h
 | p :: r,t,y,h => by
  obtain ⟨k,v⟩:=p
  simp only [Ro,get] at h ⊢
  split at h
  ·rename_i hb;rw [if_pos hb];cases h;exact ⟨v,rfl,rfl⟩
  ·rename_i hb;rw [if_neg hb];exact NZ h
theorem Fi {id : Nat} {x : D} : ∀ {l : List A7} {i j : Nat} {b : A7},(E5 id x i l)[j]? = some b → ∃ b0,l[j]? = some b0 ∧ ((i + j = id ∧ b = .gone) ∨ (i + j ≠ id ∧ b = b0.EV id x))
 | [],i,j,b,h => by simp [E5] at h
 | c :: r,i,0,b,h => by
  simp only [E5,List.getElem?_cons_zero,Option.some.injEq] at h
  refine ⟨c,by simp,?_⟩
  cases hb : Nat.beq i id with
  | true => rw [hb] at h;exact .inl ⟨by have:=Nat.eq_of_beq_eq_true hb;omega,h.symm⟩
  | false => rw [hb] at h;exact .inr ⟨fun e => by rw [Nat.add_zero] at e;subst e;simp at hb,h.symm⟩
 | c :: r,i,j + 1,b,h => by
  simp only [E5,List.getElem?_cons_succ] at h
  obtain ⟨b0,h1,h2⟩:=Fi h
  refine ⟨b0,by simpa using h1,?_⟩
  rw [show i + (j + 1) = i + 1 + j by omega]
  exact h2
theorem Gj {id : Nat} {x : D} : ∀ {l : List A7} {i j : Nat} {b0 : A7},l[j]? = some b0 → (E5 id x i l)[j]? = some (if i + j = id then .gone else b0.EV id x)
 | [],i,j,b,h => by simp at h
 | c :: r,i,0,b,h => by
  simp only [List.getElem?_cons_zero,Option.some.injEq] at h
  subst h
  simp only [E5,List.getElem?_cons_zero,Nat.add_zero]
  cases hb : Nat.beq i id with
  | true => have:=Nat.eq_of_beq_eq_true hb;subst this;simp
  | false => rw [if_neg (fun e => by subst e;simp at hb)]
 | c :: r,i,j + 1,b,h => by
  simp only [E5,List.getElem?_cons_succ] at h ⊢
  rw [show i + (j + 1) = i + 1 + j by omega]
  exact Gj h
theorem Hs {id : Nat} {x : D} : ∀ {l : List A7} {i : Nat},(E5 id x i l).length = l.length
 | [],i => by simp [E5]
 | c :: r,i => by simp [E5,Hs (l:=r)]
def Gh.freeze (G : Gh) (w : World) (id : Nat) (x : D) : Gh where
 ρ:=G.ρ
 H:=E5 id x 0 G.H
 m:=fun b k => match G.ρ id with
  | some p => if b = p.1 then w.cell? ⟨b,k,none⟩ else G.m b k
  | none => G.m b k
theorem Iu {G : Gh} {w : World} {id : Nat} {x : D} (hid : G.H[id]? = some (.a x)) {j : Nat} {b : A7} (hb : G.H[j]? = some b) : ∃ b',(G.freeze w id x).H[j]? = some b' ∧ AF G (G.freeze w id x) j b b':=by
 refine ⟨_,Gj hb,?_⟩
 rw [Nat.zero_add]
 by_cases hj : j = id
 ·subst hj
  rw [hid] at hb;cases hb
  simp [AF]
 ·rw [if_neg hj]
  cases b <;> simp [AF,A7.EV,Gh.freeze,I1]
theorem As {G : Gh} {w : World} (hr : AU G w) {id : Nat} {x : D} (hid : G.H[id]? = some (.a x)) : GA G (G.freeze w id x):=by
 refine ⟨fun j b hb => Iu hid hb,fun b k v hv => ?_⟩
 show (match G.ρ id with | some p => if b = p.1 then w.cell? ⟨b,k,none⟩ else G.m b k | none => G.m b k) = some v
 split
 ·split
  ·exact hr.mem b k v hv
  ·exact hv
 ·exact hv
mutual
theorem RV.EV {G : Gh} {w : World} (hr : AU G w) {id : Nat} {x : D} (hid : G.H[id]? = some (.a x)) : ∀ {y : AV} {v : Value},RV G y v → RV (G.freeze w id x) (y.EV id x) v
 | .sl i n sz,v,r => by
  have hm:=RV.mono (As hr hid) r
  simp only [AV.EV]
  split
  ·rename_i hb
   have hi:=Nat.eq_of_beq_eq_true hb
   subst hi
   split
   ·rename_i hn
    simp only [RV] at r ⊢
    obtain ⟨_,blk,hblk,hp⟩:=r
    rw [hid] at hblk;cases hblk
    obtain ⟨g1,g2,g3⟩:=hp
    obtain ⟨k1,k2,k3⟩:=hr.blk i _ hid
    rcases g3 hn with ⟨g4,a,rfl⟩ | ⟨b,N,cap,g4,rfl,g6,_⟩
    ·exact (CO k1).2 ⟨a,0,by rw [← hn,g4],by omega,k2,.inl (by omega)⟩
    ·rcases k3 with ⟨k3,k4⟩ | ⟨b',N',vs,T,k4,k5,k6,k7⟩
     ·exact (CO k1).2 ⟨_,cap,by rw [← hn],by omega,k2,.inl k3⟩
     ·rw [g4] at k4;cases k4
      refine (CO k1).2 ⟨_,cap,by rw [← hn],by omega,k2,.inr ⟨b,0,rfl,fun k d hd => ?_⟩⟩
      obtain ⟨u,hu,h1c,hru⟩:=k7 k d hd
      refine ⟨u,?_,h1c,hru.mono (As hr hid).mem⟩
      show (match G.ρ i with | some p => if b = p.1 then w.cell? ⟨b,0 + k,none⟩ else G.m b (0 + k) | none => G.m b (0 + k)) = some u
      rw [g4]
      simp only [if_true,Nat.zero_add]
      rw [CS k5];exact hu
   ·exact hm
  ·exact hm
 | .ag cs,v,r => by
  simp only [AV.EV,RV] at r ⊢
  obtain ⟨vs,hv,h⟩:=r
  exact ⟨vs,hv,Aj.EV hr hid h⟩
 | .tup cs,v,r => by
  simp only [AV.EV,RV] at r ⊢
  obtain ⟨vs,hv,h⟩:=r
  exact ⟨vs,hv,Aj.EV hr hid h⟩
 | .fn f a b,v,r => by
  simp only [AV.EV,RV] at r ⊢
  obtain ⟨p,q,hv,h1,h2⟩:=r
  exact ⟨p,q,hv,Aj.EV hr hid h1,Aj.EV hr hid h2⟩
 | .d y,v,r => by have:=RV.mono (As hr hid) r;simpa only [AV.EV] using this
 | .u,v,r => by have:=RV.mono (As hr hid) r;simpa only [AV.EV] using this
 | .e0,v,r => by have:=RV.mono (As hr hid) r;simpa only [AV.EV] using this
 | .ptr _ _ _,v,r => by have:=RV.mono (As hr hid) r;simpa only [AV.EV] using this
 | .bs _ _ _ _ _,v,r => by have:=RV.mono (As hr hid) r;simpa only [AV.EV] using this
 | .ep _ _ _ _ _,v,r => by have:=RV.mono (As hr hid) r;simpa only [AV.EV] using this
 | .yl _,v,r => by have:=RV.mono (As hr hid) r;simpa only [AV.EV] using this
 | .dp _,v,r => by have:=RV.mono (As hr hid) r;simpa only [AV.EV] using this
 | .mp _,v,r => by have:=RV.mono (As hr hid) r;simpa only [AV.EV] using this
theorem Aj.EV {G : Gh} {w : World} (hr : AU G w) {id : Nat} {x : D} (hid : G.H[id]? = some (.a x)) : ∀ {ys : List AV} {vs : List Value},Aj G ys vs → Aj (G.freeze w id x) (AV.J3 id x ys) vs
 | [],vs,r => by simpa [AV.J3,Aj] using r
 | y :: ys,vs,r => by
  simp only [AV.J3,Aj] at r ⊢
  obtain ⟨v,q,hv,h1,h2⟩:=r
  exact ⟨v,q,hv,RV.EV hr hid h1,Aj.EV hr hid h2⟩
end
theorem BR.EV {G : Gh} {w : World} (hr : AU G w) {id : Nat} {x : D} (hid : G.H[id]? = some (.a x)) {j : Nat} : ∀ {b : A7},BR G w j b → BR (G.freeze w id x) w j (b.EV id x)
 | .gone,_ => trivial
 | .c cs,h => by
  obtain ⟨b,N,vs,T,h1,h2,h3,h4,h6⟩:=h
  refine ⟨b,N,vs,T,h1,h2,h3,by rw [I1];simpa using h4,fun k y hy => ?_⟩
  rw [I1,List.getElem?_map,Option.map_eq_some_iff] at hy
  obtain ⟨z,hz,rfl⟩:=hy
  obtain ⟨v,hv,hrv⟩:=h6 k z hz
  exact ⟨v,hv,hrv.EV hr hid⟩
 | .a y,h => by
  obtain ⟨h1,h2,h3⟩:=h
  refine ⟨h1,h2,h3.imp_right ?_⟩
  rintro ⟨b,N,vs,T,g1,g2,g3,g4⟩
  refine ⟨b,N,vs,T,g1,g2,g3,fun k d hd => ?_⟩
  obtain ⟨v,hv,h1c,hrd⟩:=g4 k d hd
  exact ⟨v,hv,h1c,hrd.mono (As hr hid).mem⟩
 | .m es,h => by
  obtain ⟨b,N,ms,cl,h1,h2,h3,h4⟩:=h
  refine ⟨b,N,ms,cl,h1,h2,by rw [KT];simpa using h3,fun k q hq => ?_⟩
  rw [KT,List.getElem?_map,Option.map_eq_some_iff] at hq
  obtain ⟨z,hz,rfl⟩:=hq
  obtain ⟨e,he,hd,hrv⟩:=h4 k z hz
  exact ⟨e,he,hd.mono (As hr hid).mem,hrv.EV hr hid⟩
 | .lp r,h => by
  obtain ⟨l,N,df,tmps,h1,h2,h3,h4⟩:=h
  exact ⟨l,N,df,tmps,h1,h2,h3,h4.mono (As hr hid)⟩
theorem Kg {G : Gh} {w : World} (hr : AU G w) {id : Nat} {x : D} (hid : G.H[id]? = some (.a x)) {b : Nat} (h : Own (G.freeze w id x) b) : Own G b ∧ ∀ N,G.ρ id ≠ some (b,N):=by
 obtain ⟨j,N,blk,hb,hl,hρ⟩:=h
 obtain ⟨b0,h1,h2⟩:=Fi hb
 rw [Nat.zero_add] at h2
 rcases h2 with ⟨_,rfl⟩ | ⟨h2,rfl⟩
 ·simp [A7.live] at hl
 ·have hl0 : b0.live = true:=by cases b0 <;> simp_all [A7.live,A7.EV]
  refine ⟨⟨j,N,b0,h1,hl0,hρ⟩,fun N' hN' => h2 ?_⟩
  exact hr.inj j id b0 _ b N N' h1 hid hl0 rfl hρ hN'
theorem Ko {G : Gh} {w : World} (hr : AU G w) {id : Nat} {x : D} (hid : G.H[id]? = some (.a x)) : AU (G.freeze w id x) w ∧ Sf G (G.freeze w id x):=by
 have hmem : ∀ b k v,(G.freeze w id x).m b k = some v → G.m b k = some v ∨ (∃ N,G.ρ id = some (b,N) ∧ w.cell? ⟨b,k,none⟩ = some v):=by
  intro b k v hv
  change (match G.ρ id with | some p => if b = p.1 then w.cell? ⟨b,k,none⟩ else G.m b k | none => G.m b k) = some v at hv
  split at hv
  ·rename_i p hp
   split at hv
   ·rename_i he;subst he;exact .inr ⟨p.2,hp,hv⟩
   ·exact .inl hv
  ·exact .inl hv
 refine ⟨⟨fun j b hb => ?_,fun i j p q b N N' hp hq lp lq r1 r2 => ?_,fun b k v hv => ?_,fun b hb k => ?_,fun b k v hv => (As hr hid).mem b k v (hr.st b k v hv)⟩,⟨fun j b b' hb hb' => ?_,(As hr hid).mem,fun b hb => (Kg hr hid hb).1,fun b k v hv => ?_⟩⟩
 ·obtain ⟨b0,h1,h2⟩:=Fi hb
  rcases h2 with ⟨_,rfl⟩ | ⟨_,rfl⟩
  ·trivial
  ·exact (hr.blk j b0 h1).EV hr hid
 ·obtain ⟨p0,h1,h2⟩:=Fi hp
  obtain ⟨q0,h3,h4⟩:=Fi hq
  have e1 : p0.live = true:=by
   rcases h2 with ⟨_,rfl⟩ | ⟨_,rfl⟩
   ·simp [A7.live] at lp
   ·cases p0 <;> simp_all [A7.live,A7.EV]
  have e2 : q0.live = true:=by
   rcases h4 with ⟨_,rfl⟩ | ⟨_,rfl⟩
   ·simp [A7.live] at lq
   ·cases q0 <;> simp_all [A7.live,A7.EV]
  exact hr.inj i j p0 q0 b N N' h1 h3 e1 e2 r1 r2
 ·rcases hmem b k v hv with h | ⟨_,_,h⟩
  ·exact hr.mem b k v h
  ·exact h
 ·obtain ⟨h1,h2⟩:=Kg hr hid hb
  cases hm : (G.freeze w id x).m b k with
  | none => rfl
  | some v =>
   rcases hmem b k v hm with h | ⟨N,h,_⟩
   ·rw [hr.sep b h1 k] at h;cases h
   ·exact absurd h (h2 N)
 ·obtain ⟨c,hc,hs⟩:=Iu (w:=w) hid hb
  rw [hb'] at hc;cases hc
  exact hs
 ·rcases hmem b k v hv with h | ⟨N,h,_⟩
  ·exact .inl h
  ·exact .inr ⟨id,N,_,hid,rfl,h⟩
theorem Marks.PZ {N : NB} {G G' : Gh} {a : Act} {w : World} (h : Marks N G a w) (t : Sf G G') : Marks N G' a w:=by
 obtain ⟨h0,ms,h1,h2,h3⟩:=h
 exact ⟨h0,ms,h1,h2,fun q hq => ⟨(h3 q hq).1,(h3 q hq).2.1,fun ho' => (h3 q hq).2.2 (t.own q ho')⟩⟩
theorem A0.freeze {S : St} (id : Nat) {x : D} (hid : S.H[id]? = some (.a x)) : A0 S ⟨Ro id x S.env,E5 id x 0 S.H,S.n⟩:=by
 intro ro N G a w r _
 have hid' : G.H[id]? = some (.a x):=by rw [r.heap];exact hid
 obtain ⟨h1,h2⟩:=Ko r.rel hid'
 refine ⟨G.freeze w id x,⟨by show E5 id x 0 G.H = _;rw [r.heap],h1,r.size,fun t y hy => ?_,r.marks.PZ h2,fun i hi => ?_⟩,h2⟩
 ·obtain ⟨z,hz,rfl⟩:=NZ hy
  obtain ⟨v,hv,hrv⟩:=r.env t z hz
  exact ⟨v,hv,hrv.EV r.rel hid'⟩
 ·obtain ⟨q,l,M,q1,q2⟩:=r.round i hi
  refine ⟨q,l,M,?_,q2⟩
  have:=Gj (id:=id) (x:=x) (i:=0) q1
  rw [Nat.zero_add,if_neg (fun e => by subst e;rw [hid] at q1;cases q1)] at this
  exact this
theorem A0.trans {A B C : St} (h : A0 A B) (hl : B.H.length ≤ A.H.length → True) (k : A0 B C) (hlt : C.H.length ≤ B.H.length) : A0 A C:=by
 intro ro N G a w r hc
 obtain ⟨G1,r1,t1⟩:=h ro N G a w r (fun id hid => Nat.lt_of_lt_of_le (hc id hid) hlt)
 obtain ⟨G2,r2,t2⟩:=k ro N G1 a w r1 hc
 refine ⟨G2,r2,⟨fun id b b' hb hb' => ?_,Mem.le_trans t1.mem t2.mem,fun b hb => t1.own b (t2.own b hb),fun b k v hv => ?_⟩⟩
 ·have hlt1 : id < G1.H.length:=by
   have : id < G2.H.length:=(List.getElem?_eq_some_iff.1 hb').1
   rw [r2.heap] at this
   rw [r1.heap];omega
  exact (t1.blk id b _ hb (List.getElem?_eq_getElem hlt1)).trans (t2.blk id _ b' (List.getElem?_eq_getElem hlt1) hb')
 ·rcases t2.memNew b k v hv with h | h
  ·exact t1.memNew b k v h
  ·exact .inr (t1.own b h)
theorem A0.e0 {S : St} (t : Nat) (q : D) (h : get S.env t = some .e0) (hs : A5 q = true) (hl : A6 q = 0) (ho : A4 q) : A0 S ⟨(t,.d q) :: S.env,S.H,S.n⟩:=by
 intro ro N G a w r _
 refine ⟨G,⟨r.heap,r.rel,r.size,fun u y hy => ?_,r.marks,r.round⟩,⟨fun id b b' hb hb' => by rw [hb] at hb';cases hb';exact AF.refl _ _ _,Mem.le_refl _,fun _ h => h,fun _ _ _ h => .inl h⟩⟩
 simp only [get] at hy
 split at hy
 ·rename_i hb
  cases hy
  have:=Nat.eq_of_beq_eq_true hb
  subst this
  obtain ⟨v,hv,hrv⟩:=r.env t _ h
  refine ⟨v,hv,?_⟩
  simp only [RV] at hrv ⊢
  obtain ⟨a,rfl⟩:=hrv
  exact (CO hs).2 ⟨a,0,by rw [hl],by omega,ho,.inl hl⟩
 ·exact r.env u y hy
def Gh.nil (G : Gh) (q : D) : Gh:={ ρ:=fun id => if id = G.H.length then none else G.ρ id,H:=G.H ++ [.a q],m:=G.m }
theorem FG {G : Gh} {q : D} {id : Nat} {b : A7} (h : G.H[id]? = some b) : (G.nil q).H[id]? = some b ∧ (G.nil q).ρ id = G.ρ id:=by
 have hlt:=(List.getElem?_eq_some_iff.1 h).1
 refine ⟨by show (G.H ++ [.a q])[id]? = _;rw [List.getElem?_append_left hlt];exact h,?_⟩
 show (if id = G.H.length then none else G.ρ id) = _
 rw [if_neg (by omega)]
theorem JQ (G : Gh) (q : D) : GA G (G.nil q):=by
 refine ⟨fun id b hb => ?_,Mem.le_refl _⟩
 obtain ⟨h1,h2⟩:=FG (q:=q) hb
 exact ⟨b,h1,(AF.refl G id b).congr rfl h2⟩
theorem JK {G : Gh} {q : D} {id : Nat} {b : A7} (h : (G.nil q).H[id]? = some b) : (G.H[id]? = some b ∧ (G.nil q).ρ id = G.ρ id) ∨ (id = G.H.length ∧ b = .a q ∧ (G.nil q).ρ id = none):=by
 rcases Nat.lt_or_ge id G.H.length with hlt | hge
 ·have h' : G.H[id]? = some b:=by
   change (G.H ++ [.a q])[id]? = _ at h
   rwa [List.getElem?_append_left hlt] at h
  exact .inl ⟨h',(FG h').2⟩
 ·change (G.H ++ [.a q])[id]? = _ at h
  rw [List.getElem?_append_right hge] at h
  have h0 : id - G.H.length = 0:=by
   rcases Nat.eq_zero_or_pos (id - G.H.length) with h0 | h0
   ·exact h0
   ·rw [List.getElem?_eq_none (by simp;omega)] at h;cases h
  rw [h0] at h
  simp only [List.getElem?_cons_zero,Option.some.injEq] at h
  have hid : id = G.H.length:=by omega
  refine .inr ⟨hid,h.symm,?_⟩
  show (if id = G.H.length then none else G.ρ id) = none
  rw [if_pos hid]
theorem MS {G : Gh} {w : World} (hr : AU G w) {q : D} (hs : A5 q = true) (hl : A6 q = 0) (ho : A4 q) : AU (G.nil q) w ∧ Sf G (G.nil q):=by
 have own : ∀ b,Own (G.nil q) b → Own G b:=by
  rintro b ⟨id,N,blk,hb,hlv,hρ⟩
  rcases JK hb with ⟨h1,h2⟩ | ⟨_,_,h3⟩
  ·exact ⟨id,N,blk,h1,hlv,by rw [← h2];exact hρ⟩
  ·rw [h3] at hρ;cases hρ
 refine ⟨⟨fun id b hb => ?_,fun i j p q' b N N' hp hq lp lq r1 r2 => ?_,hr.mem,fun b hb k => hr.sep b (own b hb) k,hr.st⟩,⟨fun id b b' hb hb' => ?_,Mem.le_refl _,own,fun _ _ _ h => .inl h⟩⟩
 ·rcases JK hb with ⟨h1,h2⟩ | ⟨h1,rfl,h3⟩
  ·exact (hr.blk id b h1).LO (JQ G q) (fun _ _ _ _ => rfl) h2
  ·exact ⟨hs,ho,.inl ⟨hl,h3⟩⟩
 ·rcases JK hp with ⟨h1,h2⟩ | ⟨_,_,h3⟩
  ·rcases JK hq with ⟨h4,h5⟩ | ⟨_,_,h6⟩
   ·exact hr.inj i j p q' b N N' h1 h4 lp lq (by rw [← h2];exact r1) (by rw [← h5];exact r2)
   ·rw [h6] at r2;cases r2
  ·rw [h3] at r1;cases r1
 ·obtain ⟨h1,h2⟩:=FG (q:=q) hb
  rw [h1] at hb';cases hb'
  exact (AF.refl G id b).congr rfl h2
theorem A0.J1 {S : St} (t : Nat) (q : D) (h : get S.env t = some .e0) (hs : A5 q = true) (hl : A6 q = 0) (ho : A4 q) : A0 S ⟨(t,.sl S.H.length 0 (Av q)) :: S.env,S.H ++ [.a q],S.n⟩:=by
 intro ro N G a w r _
 obtain ⟨h1,h2⟩:=MS r.rel hs hl ho
 refine ⟨G.nil q,⟨by show G.H ++ [.a q] = _;rw [r.heap],h1,r.size,fun u y hy => ?_,r.marks.PZ h2,fun i hi => ?_⟩,h2⟩
 ·simp only [get] at hy
  split at hy
  ·rename_i hb
   cases hy
   have:=Nat.eq_of_beq_eq_true hb
   subst this
   obtain ⟨v,hv,hrv⟩:=r.env t _ h
   refine ⟨v,hv,?_⟩
   simp only [RV] at hrv ⊢
   obtain ⟨a,rfl⟩:=hrv
   refine ⟨rfl,.a q,by show (G.H ++ [A7.a q])[S.H.length]? = _;rw [← r.heap];simp,rfl,by omega,fun _ => .inl ⟨trivial,a,rfl⟩⟩
  ·obtain ⟨v,hv,hrv⟩:=r.env u y hy
   exact ⟨v,hv,hrv.mono (JQ G q)⟩
 ·obtain ⟨q',l,M,q1,q2⟩:=r.round i hi
  rw [← r.heap] at q1
  obtain ⟨n1,n2⟩:=FG (q:=q) q1
  exact ⟨q',l,M,by rw [← r.heap];exact n1,by rw [n2];exact q2⟩
theorem A0.Mr {S : St} (id i : Nat) (q : D) {cs : List AV} (hid : S.H[id]? = some (.c cs)) (h : cs[i]? = some .e0) (hs : A5 q = true) (hl : A6 q = 0) (ho : A4 q) :
  A0 S ⟨S.env,S.H.set id (.c (cs.set i (.sl S.H.length 0 (Av q)))) ++ [.a q],S.n⟩:=by
 intro ro N G a w r _
 obtain ⟨h1,h2⟩:=MS r.rel hs hl ho
 have hidG : G.H[id]? = some (.c cs):=by rw [r.heap];exact hid
 have hlt : id < G.H.length:=(List.getElem?_eq_some_iff.1 hidG).1
 let c' : A7:=.c (cs.set i (.sl S.H.length 0 (Av q)))
 let G' : Gh:={ ρ:=(G.nil q).ρ,H:=(G.nil q).H.set id c',m:=(G.nil q).m }
 have hst : AF (G.nil q) G' id (.c cs) c':=by simp [c',AF,G']
 have hlow:=FG (q:=q) hidG
 have hget : ∀ j b,G'.H[j]? = some b → (j = id ∧ b = c') ∨ (j ≠ id ∧ (G.nil q).H[j]? = some b):=by
  intro j b hb
  by_cases hj : j = id
  ·subst hj
   left
   have hb' : ((G.nil q).H.set j c')[j]? = some b:=hb
   rw [List.getElem?_set_self (List.getElem?_eq_some_iff.1 hlow.1).1] at hb'
   exact ⟨rfl,(Option.some.inj hb').symm⟩
  ·right
   have hb' : ((G.nil q).H.set id c')[j]? = some b:=hb
   rw [List.getElem?_set_ne (Ne.symm hj)] at hb'
   exact ⟨hj,hb'⟩
 have gle : GA (G.nil q) G':=by
  refine ⟨fun j b hb => ?_,Mem.le_refl _⟩
  by_cases hj : j = id
  ·subst hj
   rw [hlow.1] at hb;cases hb
   exact ⟨c',List.getElem?_set_self (List.getElem?_eq_some_iff.1 hlow.1).1,hst⟩
  ·exact ⟨b,by show ((G.nil q).H.set id c')[j]? = _;rw [List.getElem?_set_ne (Ne.symm hj)];exact hb,AF.refl _ _ _⟩
 have hnew : G'.H[G.H.length]? = some (.a q):=by
  show ((G.nil q).H.set id c')[G.H.length]? = _
  rw [List.getElem?_set_ne (by omega)]
  show (G.H ++ [.a q])[G.H.length]? = _
  simp
 have own : ∀ b,Own G' b → Own (G.nil q) b:=by
  rintro b ⟨j,N,blk,hb,hlv,hρ⟩
  rcases hget j blk hb with ⟨rfl,rfl⟩ | ⟨_,h4⟩
  ·exact ⟨j,N,_,hlow.1,rfl,hρ⟩
  ·exact ⟨j,N,blk,h4,hlv,hρ⟩
 have rel : AU G' w:=by
  refine ⟨fun j b hb => ?_,fun i' j p q' b N N' hp hq lp lq r1 r2 => ?_,h1.mem,fun b hb k => h1.sep b (own b hb) k,h1.st⟩
  ·rcases hget j b hb with ⟨rfl,rfl⟩ | ⟨h3,h4⟩
   ·obtain ⟨b,N,vs,T,g1,g2,g3,g4,g6⟩:=h1.blk j _ hlow.1
    refine ⟨b,N,vs,T,g1,g2,g3,by simpa using g4,fun k y hy => ?_⟩
    rw [List.getElem?_set] at hy
    split at hy
    ·rename_i hki
     subst hki
     split at hy
     ·cases hy
      obtain ⟨v,hv,hrv⟩:=g6 i _ h
      refine ⟨v,hv,?_⟩
      simp only [RV] at hrv ⊢
      obtain ⟨a,rfl⟩:=hrv
      refine ⟨rfl,.a q,by rw [← r.heap];exact hnew,rfl,by omega,fun _ => .inl ⟨trivial,a,rfl⟩⟩
     ·cases hy
    ·obtain ⟨v,hv,hrv⟩:=g6 k _ hy
     exact ⟨v,hv,hrv.mono gle⟩
   ·exact (h1.blk j b h4).LO gle (fun _ _ _ _ => rfl) rfl
  ·have back : ∀ (j : Nat) (b : A7),G'.H[j]? = some b → b.live = true → ∃ b0 : A7,(G.nil q).H[j]? = some b0 ∧ b0.live = true:=by
    intro j b hb hlv
    rcases hget j b hb with ⟨rfl,rfl⟩ | ⟨_,h4⟩
    ·exact ⟨_,hlow.1,rfl⟩
    ·exact ⟨b,h4,hlv⟩
   obtain ⟨p0,e1,e2⟩:=back i' p hp lp
   obtain ⟨q0,e3,e4⟩:=back j q' hq lq
   exact h1.inj i' j p0 q0 b N N' e1 e3 e2 e4 r1 r2
 have PZ : Sf G G':=by
  refine ⟨fun j b b' hb hb' => ?_,Mem.le_refl _,fun b hb => h2.own b (own b hb),fun _ _ _ h => .inl h⟩
  obtain ⟨n1,n2⟩:=FG (q:=q) hb
  obtain ⟨b'',hb'',hs''⟩:=gle.blk j b n1
  rw [hb'] at hb'';cases hb''
  exact (h2.blk j b b hb n1).trans hs''
 refine ⟨G',⟨?_,rel,r.size,fun u y hy => ?_,r.marks.PZ PZ,fun k hk => ?_⟩,PZ⟩
 ·show (G.H ++ [A7.a q]).set id c' = _
  rw [List.set_append_left _ _ hlt,r.heap]
 ·obtain ⟨v,hv,hrv⟩:=r.env u y hy
  exact ⟨v,hv,(hrv.mono (JQ G q)).mono gle⟩
 ·obtain ⟨q',l,M,q1,q2⟩:=r.round k hk
  rw [← r.heap] at q1
  obtain ⟨n1,n2⟩:=FG (q:=q) q1
  have hne : k ≠ id:=fun e => by subst e;rw [hidG] at q1;cases q1
  refine ⟨q',l,M,?_,by show (G.nil q).ρ k = _;rw [n2];exact q2⟩
  show (S.H.set id c' ++ [A7.a q])[k]? = _
  have : (G.H.set id c' ++ [A7.a q])[k]? = some (.lp q'):=by
   rw [List.getElem?_append_left (by simp;exact (List.getElem?_eq_some_iff.1 q1).1),List.getElem?_set_ne (Ne.symm hne)]
   exact q1
  rw [← r.heap];exact this
section
variable {P : Program} {ro : Option Nat} {ops : Array Oper} {i : Nat} {rest : List Oper} {S : St} {Q : Exit → St → Prop} {E : Nat → Option Ap}
theorem O3 {S' : St} (t : A0 S S') (hl : S.H.length ≤ S'.H.length) (k : Wl P ro ops i rest S' Q) : Wl P ro ops i rest S Q:=by
 intro hops N G a w r
 obtain ⟨G',r',t'⟩:=t ro N G a w r (fun id h => Nat.lt_of_lt_of_le (r.OV id h) hl)
 have kf : BZ G w G' w:=(BZ.refl G w).ghost t' (by rw [r.heap,r'.heap];exact hl)
 have hy:=k hops N G' a w r'
 rw [DO r r' kf] at hy
 exact Ah (fun _ _ _ p => p.trans kf) _ _ _ hy
theorem BP {f : FuncId} {fn : Func} {c : Code} (hE : B8 P E) (hf : P.funcs[f]? = some fn) (hb : fn.body = some c) (hname : (fn.name == "runtime.NumGoroutine") = false) {args : List AV} {H : List A7} (hn : args.length ≤ fn.ntmps) {R : AV → List A7 → Prop}
  (h : W P none c ⟨Dy 0 args,H,fn.ntmps⟩ (Nz fun S0 => ∃ S',A0 S0 S' ∧ H.length ≤ S'.H.length ∧ ∃ cc x,Ew E S'.env S'.H fn.results.toList = some (cc,x) ∧ cc = true ∧ R x S'.H)) : J9 P f args H R:=by
 refine U1 hE hf hb hname hn (Qr h ?_)
 intro e S' q
 cases e with
 | normal => obtain ⟨S'',t,hl,q'⟩:=q;exact ⟨S'',t,hl,q'⟩
 | ret => obtain ⟨S'',t,hl,q'⟩:=q;exact ⟨S'',t,hl,q'⟩
 | _ => exact q.elim
end
end Go.Gar
namespace Go.Gar
def rn : List Nat → Nat → Nat → Nat
 | [],k,i => k + i
 | a :: _,_,0 => a
 | _ :: r,k,i + 1 => rn r k i
theorem QY : ∀ {ids : List Nat} {k i a : Nat},ids[i]? = some a → rn ids k i = a
 | [],k,i,a,h => by simp at h
 | b :: r,k,0,a,h => by simpa [rn] using h
 | b :: r,k,i + 1,a,h => by simp only [rn];exact QY (by simpa using h)
theorem WI : ∀ {ids : List Nat} {k i : Nat},ids.length ≤ i → rn ids k i = k + (i - ids.length)
 | [],k,i,h => by simp [rn]
 | b :: r,k,0,h => by simp at h
 | b :: r,k,i + 1,h => by simp only [rn,List.length_cons];rw [WI (by simpa using h)];congr 1;omega
mutual
def AV.ren (ι : Nat → Nat) : AV → AV
 | .ptr id o c => .ptr (ι id) o c
 | .sl id n sz => .sl (ι id) n sz
 | .bs id o n sz c => .bs (ι id) o n sz c
 | .ep id i o n sz => .ep (ι id) i o n sz
 | .ag cs => .ag (AV.C7 ι cs)
 | .tup cs => .tup (AV.C7 ι cs)
 | .fn f a b => .fn f (AV.C7 ι a) (AV.C7 ι b)
 | .yl id => .yl (ι id)
 | .mp id => .mp (ι id)
 | v => v
def AV.C7 (ι : Nat → Nat) : List AV → List AV
 | [] => []
 | v :: r => v.ren ι :: AV.C7 ι r
end
theorem D2 (ι : Nat → Nat) : ∀ l : List AV,AV.C7 ι l = l.map (AV.ren ι)
 | [] => rfl
 | v :: r => by simp [AV.C7,D2 ι r]
def Vf (ι : Nat → Nat) : List (D × AV) → List (D × AV)
 | [] => []
 | p :: r => (p.1,p.2.ren ι) :: Vf ι r
theorem HN (ι : Nat → Nat) : ∀ l : List (D × AV),Vf ι l = l.map fun p => (p.1,p.2.ren ι)
 | [] => rfl
 | v :: r => by simp [Vf,HN ι r]
def PG (ι : Nat → Nat) : List (Nat × AV) → List (Nat × AV)
 | [] => []
 | p :: r => (p.1,p.2.ren ι) :: PG ι r
theorem Jl {ι : Nat → Nat} : ∀ {e : List (Nat × AV)} {t : Nat},get (PG ι e) t = (get e t).map (AV.ren ι)
 | [],t => by simp [PG,get]
 | p :: r,t => by
  obtain ⟨k,v⟩:=p
  simp only [PG,get]
  split
  ·rfl
  ·exact Jl
def A7.ren (ι : Nat → Nat) : A7 → A7
 | .gone => .gone
 | .c cs => .c (AV.C7 ι cs)
 | .a x => .a x
 | .m es => .m (Vf ι es)
 | .lp r => .lp { r with env:=PG ι r.env }
def E4 (ι : Nat → Nat) : List A7 → List A7
 | [] => []
 | b :: r => b.ren ι :: E4 ι r
theorem Ol (ι : Nat → Nat) : ∀ l : List A7,E4 ι l = l.map (A7.ren ι)
 | [] => rfl
 | v :: r => by simp [E4,Ol ι r]
theorem D8 (ι : Nat → Nat) (b : A7) : (b.ren ι).live = b.live:=by cases b <;> rfl
mutual
theorem RV.ren {G0 G : Gh} {ι : Nat → Nat} (hm : G0.m.le G.m) (hb : ∀ id b,G0.H[id]? = some b → G.H[ι id]? = some (b.ren ι) ∧ G.ρ (ι id) = G0.ρ id) : ∀ {x : AV} {v : Value},RV G0 x v → RV G (x.ren ι) v
 | .d x,v,r => by simp only [AV.ren,RV] at r ⊢;exact r.mono hm
 | .u,_,_ => by simp [AV.ren,RV]
 | .e0,_,r => by simpa only [AV.ren,RV] using r
 | .dp cs,v,r => by
  simp only [AV.ren,RV] at r ⊢
  obtain ⟨b,off,hv,hr⟩:=r
  exact ⟨b,off,hv,Hd.mono hm hr⟩
 | .ptr id o c,v,r => by
  simp only [AV.ren,RV] at r ⊢
  obtain ⟨h1,blk,h2,h3⟩:=r
  obtain ⟨k1,k2⟩:=hb id blk h2
  refine ⟨h1,_,k1,?_⟩
  cases blk <;> simp_all [A7.ren,D2]
 | .sl id n sz,v,r => by
  simp only [AV.ren,RV] at r ⊢
  obtain ⟨h1,blk,h2,h3⟩:=r
  obtain ⟨k1,k2⟩:=hb id blk h2
  refine ⟨h1,_,k1,?_⟩
  cases blk <;> simp_all [A7.ren]
 | .bs id o n sz c,v,r => by
  simp only [AV.ren,RV] at r ⊢
  obtain ⟨h1,blk,h2,h3⟩:=r
  obtain ⟨k1,k2⟩:=hb id blk h2
  refine ⟨h1,_,k1,?_⟩
  cases blk <;> simp_all [A7.ren,D2]
 | .ep id i o n sz,v,r => by
  simp only [AV.ren,RV] at r ⊢
  obtain ⟨h1,blk,h2,h3⟩:=r
  obtain ⟨k1,k2⟩:=hb id blk h2
  refine ⟨h1,_,k1,?_⟩
  cases blk <;> simp_all [A7.ren]
 | .yl id,v,r => by
  simp only [AV.ren,RV] at r ⊢
  obtain ⟨h1,blk,h2,h3⟩:=r
  obtain ⟨k1,k2⟩:=hb id blk h2
  refine ⟨h1,_,k1,?_⟩
  cases blk <;> simp_all [A7.ren]
 | .mp id,v,r => by
  simp only [AV.ren,RV] at r ⊢
  obtain ⟨h1,blk,h2,h3⟩:=r
  obtain ⟨k1,k2⟩:=hb id blk h2
  refine ⟨h1,_,k1,?_⟩
  cases blk <;> simp_all [A7.ren]
 | .ag cs,v,r => by
  simp only [AV.ren,RV] at r ⊢
  obtain ⟨vs,hv,h⟩:=r
  exact ⟨vs,hv,Aj.ren hm hb h⟩
 | .tup cs,v,r => by
  simp only [AV.ren,RV] at r ⊢
  obtain ⟨vs,hv,h⟩:=r
  exact ⟨vs,hv,Aj.ren hm hb h⟩
 | .fn f a b,v,r => by
  simp only [AV.ren,RV] at r ⊢
  obtain ⟨p,q,hv,h1,h2⟩:=r
  exact ⟨p,q,hv,Aj.ren hm hb h1,Aj.ren hm hb h2⟩
theorem Aj.ren {G0 G : Gh} {ι : Nat → Nat} (hm : G0.m.le G.m) (hb : ∀ id b,G0.H[id]? = some b → G.H[ι id]? = some (b.ren ι) ∧ G.ρ (ι id) = G0.ρ id) : ∀ {xs : List AV} {vs : List Value},Aj G0 xs vs → Aj G (AV.C7 ι xs) vs
 | [],_,r => by simpa [AV.C7,Aj] using r
 | x :: xs,vs,r => by
  simp only [AV.C7,Aj] at r ⊢
  obtain ⟨v,q,hv,h1,h2⟩:=r
  exact ⟨v,q,hv,RV.ren hm hb h1,Aj.ren hm hb h2⟩
end
mutual
theorem RV.F1 {G0 G : Gh} {ι : Nat → Nat} {n : Nat} (hm : G.m.le G0.m) (hb : ∀ id,id < n → ∃ b,G0.H[id]? = some b ∧ G.H[ι id]? = some (b.ren ι) ∧ G.ρ (ι id) = G0.ρ id) : ∀ {x : AV} {v : Value},x.ok n = true → RV G (x.ren ι) v → RV G0 x v
 | .d x,v,_,r => by simp only [AV.ren,RV] at r ⊢;exact r.mono hm
 | .u,_,_,_ => by simp [RV]
 | .e0,_,_,r => by simpa only [AV.ren,RV] using r
 | .dp cs,v,_,r => by
  simp only [AV.ren,RV] at r ⊢
  obtain ⟨b,off,hv,hr⟩:=r
  exact ⟨b,off,hv,Hd.mono hm hr⟩
 | .ptr id o c,v,ho,r => by
  simp only [AV.ren,RV] at r ⊢
  obtain ⟨h1,blk,h2,h3⟩:=r
  obtain ⟨b,k0,k1,k2⟩:=hb id (by simpa [AV.ok,Nat.blt_eq] using ho)
  rw [k1] at h2;cases h2
  refine ⟨h1,_,k0,?_⟩
  cases b <;> simp_all [A7.ren,D2]
 | .sl id n sz,v,ho,r => by
  simp only [AV.ren,RV] at r ⊢
  obtain ⟨h1,blk,h2,h3⟩:=r
  obtain ⟨b,k0,k1,k2⟩:=hb id (by simpa [AV.ok,Nat.blt_eq] using ho)
  rw [k1] at h2;cases h2
  refine ⟨h1,_,k0,?_⟩
  cases b <;> simp_all [A7.ren]
 | .bs id o n sz c,v,ho,r => by
  simp only [AV.ren,RV] at r ⊢
  obtain ⟨h1,blk,h2,h3⟩:=r
  obtain ⟨b,k0,k1,k2⟩:=hb id (by simpa [AV.ok,Nat.blt_eq] using ho)
  rw [k1] at h2;cases h2
  refine ⟨h1,_,k0,?_⟩
  cases b <;> simp_all [A7.ren,D2]
 | .ep id i o n sz,v,ho,r => by
  simp only [AV.ren,RV] at r ⊢
  obtain ⟨h1,blk,h2,h3⟩:=r
  obtain ⟨b,k0,k1,k2⟩:=hb id (by simpa [AV.ok,Nat.blt_eq] using ho)
  rw [k1] at h2;cases h2
  refine ⟨h1,_,k0,?_⟩
  cases b <;> simp_all [A7.ren]
 | .yl id,v,ho,r => by
  simp only [AV.ren,RV] at r ⊢
  obtain ⟨h1,blk,h2,h3⟩:=r
  obtain ⟨b,k0,k1,k2⟩:=hb id (by simpa [AV.ok,Nat.blt_eq] using ho)
  rw [k1] at h2;cases h2
  refine ⟨h1,_,k0,?_⟩
  cases b <;> simp_all [A7.ren]
 | .mp id,v,ho,r => by
  simp only [AV.ren,RV] at r ⊢
  obtain ⟨h1,blk,h2,h3⟩:=r
  obtain ⟨b,k0,k1,k2⟩:=hb id (by simpa [AV.ok,Nat.blt_eq] using ho)
  rw [k1] at h2;cases h2
  refine ⟨h1,_,k0,?_⟩
  cases b <;> simp_all [A7.ren]
 | .ag cs,v,ho,r => by
  simp only [AV.ren,RV] at r ⊢
  obtain ⟨vs,hv,h⟩:=r
  exact ⟨vs,hv,Aj.F1 hm hb (by simpa [AV.ok] using ho) h⟩
 | .tup cs,v,ho,r => by
  simp only [AV.ren,RV] at r ⊢
  obtain ⟨vs,hv,h⟩:=r
  exact ⟨vs,hv,Aj.F1 hm hb (by simpa [AV.ok] using ho) h⟩
 | .fn f a b,v,ho,r => by
  simp only [AV.ren,RV] at r ⊢
  simp only [AV.ok,Bool.and_eq_true] at ho
  obtain ⟨p,q,hv,h1,h2⟩:=r
  exact ⟨p,q,hv,Aj.F1 hm hb ho.1 h1,Aj.F1 hm hb ho.2 h2⟩
theorem Aj.F1 {G0 G : Gh} {ι : Nat → Nat} {n : Nat} (hm : G.m.le G0.m) (hb : ∀ id,id < n → ∃ b,G0.H[id]? = some b ∧ G.H[ι id]? = some (b.ren ι) ∧ G.ρ (ι id) = G0.ρ id) : ∀ {xs : List AV} {vs : List Value},AV.oks n xs = true → Aj G (AV.C7 ι xs) vs → Aj G0 xs vs
 | [],_,_,r => by simpa [AV.C7,Aj] using r
 | x :: xs,vs,ho,r => by
  simp only [AV.C7,Aj] at r ⊢
  simp only [AV.oks,Bool.and_eq_true] at ho
  obtain ⟨v,q,hv,h1,h2⟩:=r
  exact ⟨v,q,hv,RV.F1 hm hb ho.1 h1,Aj.F1 hm hb ho.2 h2⟩
end
theorem BR.ren {G0 G : Gh} {w : World} {ι : Nat → Nat} (hm : G0.m.le G.m) (hb : ∀ id b,G0.H[id]? = some b → G.H[ι id]? = some (b.ren ι) ∧ G.ρ (ι id) = G0.ρ id) {i : Nat} (hρ : G.ρ (ι i) = G0.ρ i) : ∀ {b : A7},BR G0 w i b → BR G w (ι i) (b.ren ι)
 | .gone,_ => trivial
 | .c cs,h => by
  obtain ⟨b,N,vs,T,h1,h2,h3,h4,h6⟩:=h
  refine ⟨b,N,vs,T,hρ.trans h1,h2,h3,by rw [D2];simpa using h4,fun k y hy => ?_⟩
  rw [D2,List.getElem?_map,Option.map_eq_some_iff] at hy
  obtain ⟨z,hz,rfl⟩:=hy
  obtain ⟨v,hv,hrv⟩:=h6 k z hz
  exact ⟨v,hv,hrv.ren hm hb⟩
 | .a y,h => by
  obtain ⟨h1,h2,h3⟩:=h
  refine ⟨h1,h2,?_⟩
  rcases h3 with ⟨h3,h4⟩ | ⟨b,N,vs,T,g1,g2,g3,g4⟩
  ·exact .inl ⟨h3,hρ.trans h4⟩
  ·refine .inr ⟨b,N,vs,T,hρ.trans g1,g2,g3,fun k d hd => ?_⟩
   obtain ⟨v,hv,h1c,hrd⟩:=g4 k d hd
   exact ⟨v,hv,h1c,hrd.mono hm⟩
 | .m es,h => by
  obtain ⟨b,N,ms,cl,h1,h2,h3,h4⟩:=h
  refine ⟨b,N,ms,cl,hρ.trans h1,h2,by rw [HN];simpa using h3,fun k q hq => ?_⟩
  rw [HN,List.getElem?_map,Option.map_eq_some_iff] at hq
  obtain ⟨z,hz,rfl⟩:=hq
  obtain ⟨e,he,hd,hrv⟩:=h4 k z hz
  exact ⟨e,he,hd.mono hm,hrv.ren hm hb⟩
 | .lp r,h => by
  obtain ⟨l,N,df,tmps,h1,h2,h3,h4⟩:=h
  refine ⟨l,N,df,tmps,hρ.trans h1,h2,h3,fun t x hx => ?_⟩
  change get (PG ι r.env) t = some x at hx
  rw [Jl,Option.map_eq_some_iff] at hx
  obtain ⟨z,hz,rfl⟩:=hx
  obtain ⟨v,hv,hrv⟩:=h4 t z hz
  exact ⟨v,hv,hrv.ren hm hb⟩
theorem BR.F1 {G0 G : Gh} {w : World} {ι : Nat → Nat} {n : Nat} (hm : G.m.le G0.m) (hb : ∀ id,id < n → ∃ b,G0.H[id]? = some b ∧ G.H[ι id]? = some (b.ren ι) ∧ G.ρ (ι id) = G0.ρ id) {i : Nat} (hρ : G.ρ (ι i) = G0.ρ i) : ∀ {b : A7},b.ok n = true → BR G w (ι i) (b.ren ι) → BR G0 w i b
 | .gone,_,_ => trivial
 | .c cs,ho,h => by
  obtain ⟨b,N,vs,T,h1,h2,h3,h4,h6⟩:=h
  rw [D2] at h4 h6
  refine ⟨b,N,vs,T,hρ.symm.trans h1,h2,h3,by simpa using h4,fun k y hy => ?_⟩
  obtain ⟨v,hv,hrv⟩:=h6 k (y.ren ι) (by simp [hy])
  exact ⟨v,hv,hrv.F1 hm hb (QD ho hy)⟩
 | .a y,_,h => by
  obtain ⟨h1,h2,h3⟩:=h
  refine ⟨h1,h2,?_⟩
  rcases h3 with ⟨h3,h4⟩ | ⟨b,N,vs,T,g1,g2,g3,g4⟩
  ·exact .inl ⟨h3,hρ.symm.trans h4⟩
  ·refine .inr ⟨b,N,vs,T,hρ.symm.trans g1,g2,g3,fun k d hd => ?_⟩
   obtain ⟨v,hv,h1c,hrd⟩:=g4 k d hd
   exact ⟨v,hv,h1c,hrd.mono hm⟩
 | .m es,ho,h => by
  obtain ⟨b,N,ms,cl,h1,h2,h3,h4⟩:=h
  rw [HN] at h3 h4
  refine ⟨b,N,ms,cl,hρ.symm.trans h1,h2,by simpa using h3,fun k q hq => ?_⟩
  obtain ⟨e,he,hd,hrv⟩:=h4 k (q.1,q.2.ren ι) (by simp [hq])
  exact ⟨e,he,hd.mono hm,hrv.F1 hm hb (M9 ho hq)⟩
 | .lp r,ho,h => by
  obtain ⟨l,N,df,tmps,h1,h2,h3,h4⟩:=h
  refine ⟨l,N,df,tmps,hρ.symm.trans h1,h2,h3,fun t x hx => ?_⟩
  obtain ⟨v,hv,hrv⟩:=h4 t (x.ren ι) (by show get (PG ι r.env) t = _;rw [Jl,hx];rfl)
  exact ⟨v,hv,hrv.F1 hm hb (IP ho hx)⟩
theorem AF.ren {G0 G0' G G' : Gh} {ι : Nat → Nat} {i j : Nat} {b b' : A7} (h : AF G0 G0' i b b') (e : G.ρ j = G0.ρ i) (e' : G'.ρ j = G0'.ρ i) : AF G G' j (b.ren ι) (b'.ren ι):=by
 cases b <;> cases b' <;> simp only [AF,A7.ren] at h ⊢ <;> simp_all [D2]
def J5 : List Nat → List A7 → List A7 → List A7
 | [],H,l => H ++ l
 | a :: r,H,b :: l => J5 r (H.set a b) l
 | _ :: _,H,[] => H
theorem QP : ∀ {ids : List Nat} {H l : List A7} {j : Nat},ids.Nodup → ids.length ≤ l.length → (∀ a ∈ ids,a < H.length) →
  (J5 ids H l)[j]? = if j ∈ ids then l[ids.idxOf j]? else if j < H.length then H[j]? else l[ids.length + (j - H.length)]?
 | [],H,l,j,_,_,_ => by
  simp only [J5,List.not_mem_nil,if_false,List.length_nil,Nat.zero_add]
  split
  ·rename_i h;rw [List.getElem?_append_left h]
  ·rename_i h;rw [List.getElem?_append_right (by omega)]
 | a :: r,H,[],j,_,hl,_ => by simp at hl
 | a :: r,H,b :: l,j,hn,hl,ha => by
  obtain ⟨h1,h2⟩:=List.nodup_cons.1 hn
  simp only [J5]
  rw [QP h2 (by simpa using hl) (fun c hc => by simpa using ha c (by simp [hc]))]
  by_cases hj : j = a
  ·subst hj
   have hlt:=ha j (by simp)
   have e1 : (H.set j b).length = H.length:=by simp
   have e2 : j ∈ j :: r:=by simp
   simp only [h1,if_false,e1,hlt,if_true,e2,List.getElem?_set_self,List.idxOf_cons_self,List.getElem?_cons_zero]
  ·have e3 : (j ∈ a :: r) ↔ (j ∈ r):=by simp [hj]
   by_cases hr : j ∈ r
   ·have e4 : (a :: r).idxOf j = r.idxOf j + 1:=by
     rw [List.idxOf_cons]
     have : (a == j) = false:=by simpa using (Ne.symm hj)
     rw [this];rfl
    simp only [hr,if_true,e3,e4,List.getElem?_cons_succ]
   ·simp only [hr,if_false,e3,List.length_set]
    split
    ·rw [List.getElem?_set_ne (Ne.symm hj)]
    ·simp only [List.length_cons]
     rw [show r.length + 1 + (j - H.length) = r.length + (j - H.length) + 1 by omega]
     simp
def Bw (ι : Nat → Nat) (H2 : List A7) : List Nat → List A7 → Prop
 | [],[] => True
 | a :: r,b :: l => H2[a]? = some (b.ren ι) ∧ Bw ι H2 r l
 | _,_ => False
theorem KD {ι : Nat → Nat} {H2 : List A7} : ∀ {ids : List Nat} {H : List A7},Bw ι H2 ids H → ids.length = H.length
 | [],[],_ => rfl
 | a :: r,b :: l,h => by simp only [List.length_cons];rw [KD h.2]
 | [],_ :: _,h => h.elim
 | _ :: _,[],h => h.elim
theorem FJ {ι : Nat → Nat} {H2 : List A7} : ∀ {ids : List Nat} {H : List A7},Bw ι H2 ids H → ∀ {i : Nat} {b : A7},H[i]? = some b → ∃ a,ids[i]? = some a ∧ H2[a]? = some (b.ren ι)
 | [],[],_,i,b,hb => by simp at hb
 | a :: r,c :: l,h,0,b,hb => by simp at hb;subst hb;exact ⟨a,by simp,h.1⟩
 | a :: r,c :: l,h,i + 1,b,hb => by
  obtain ⟨x,h1,h2⟩:=FJ h.2 (i:=i) (by simpa using hb)
  exact ⟨x,by simpa using h1,h2⟩
 | [],_ :: _,h,_,_,_ => h.elim
 | _ :: _,[],h,_,_,_ => h.elim
theorem ID {G G0' : Gh} {w w' : World} {H H2 : List A7} {ids : List Nat} (hG : G.H = H2) (hn : ids.Nodup) (hm : Bw (rn ids H2.length) H2 ids H) (hr : AU G w)
  (hf : BZ ⟨fun i => G.ρ (rn ids H2.length i),H,G.m⟩ w G0' w') (h' : AU G0' w') :
  ∃ G'' : Gh,G''.H = J5 ids H2 (E4 (rn ids H2.length) G0'.H) ∧ AU G'' w' ∧ BZ G w G'' w' ∧ G0'.m.le G''.m ∧ (∀ id b,G0'.H[id]? = some b → G''.H[rn ids H2.length id]? = some (b.ren (rn ids H2.length)) ∧ G''.ρ (rn ids H2.length id) = G0'.ρ id):=by
 generalize hι : rn ids H2.length = ι at *
 have hlen : ids.length = H.length:=KD hm
 have hgl : H.length ≤ G0'.H.length:=hf.gle.len
 have hid : ∀ a ∈ ids,a < H2.length:=by
  intro a ha
  obtain ⟨i,hi,rfl⟩:=List.mem_iff_getElem.1 ha
  obtain ⟨x,h1,h2⟩:=FJ hm (i:=i) (b:=H[i]'(by omega)) (by simp)
  rw [List.getElem?_eq_getElem hi] at h1
  cases h1
  exact (List.getElem?_eq_some_iff.1 h2).1
 have lowι : ∀ i (hi : i < ids.length),ι i = ids[i]:=fun i hi => by rw [← hι];exact QY (List.getElem?_eq_getElem hi)
 have highι : ∀ i,ids.length ≤ i → ι i = H2.length + (i - ids.length):=fun i hi => by rw [← hι];exact WI hi
 let κ : Nat → Option Nat:=fun j => if j ∈ ids then some (ids.idxOf j) else if j < H2.length then none else some (ids.length + (j - H2.length))
 have κι : ∀ i,κ (ι i) = some i:=by
  intro i
  rcases Nat.lt_or_ge i ids.length with hi | hi
  ·rw [lowι i hi]
   simp only [κ]
   rw [if_pos (List.getElem_mem hi),hn.idxOf_getElem i hi]
  ·rw [highι i hi]
   simp only [κ]
   rw [if_neg (fun h => by have:=hid _ h;omega),if_neg (by omega)]
   congr 1;omega
 have ικ : ∀ j i,κ j = some i → ι i = j:=by
  intro j i h
  simp only [κ] at h
  split at h
  ·rename_i hj
   cases h
   rw [lowι _ (List.idxOf_lt_length_of_mem hj),List.getElem_idxOf]
  ·split at h
   ·cases h
   ·cases h
    rw [highι _ (by omega)];omega
 let K : Gh:=⟨fun j => match κ j with | some i => G0'.ρ i | none => G.ρ j,J5 ids H2 (E4 ι G0'.H),G0'.m⟩
 have kρ1 : ∀ i,K.ρ (ι i) = G0'.ρ i:=fun i => by show (match κ (ι i) with | some i => G0'.ρ i | none => G.ρ (ι i)) = _;rw [κι]
 have kρ2 : ∀ j,κ j = none → K.ρ j = G.ρ j:=fun j h => by show (match κ j with | some i => G0'.ρ i | none => G.ρ j) = _;rw [h]
 have kget : ∀ j,K.H[j]? = match κ j with | some i => (G0'.H[i]?).map (A7.ren ι) | none => H2[j]?:=by
  intro j
  show (J5 ids H2 (E4 ι G0'.H))[j]? = _
  rw [Ol,QP hn (by simp;omega) hid]
  simp only [κ]
  split
  ·simp
  ·split
   ·rfl
   ·simp
 have kup : ∀ id b,G0'.H[id]? = some b → K.H[ι id]? = some (b.ren ι) ∧ K.ρ (ι id) = G0'.ρ id:=by
  intro id b hb
  refine ⟨?_,kρ1 id⟩
  rw [kget,κι]
  simp [hb]
 have up0 : ∀ id b,H[id]? = some b → G.H[ι id]? = some (b.ren ι):=by
  intro id b hb
  obtain ⟨a,h1,h2⟩:=FJ hm hb
  have : ι id = a:=by rw [← hι];exact QY h1
  rw [this,hG];exact h2
 have own0 : ∀ b,Own ⟨fun i => G.ρ (ι i),H,G.m⟩ b → Own G b:=by
  rintro b ⟨i,N,q,hq,hl,hρ⟩
  exact ⟨ι i,N,_,up0 i q hq,by rw [D8];exact hl,hρ⟩
 have split : ∀ j b,K.H[j]? = some b → (∃ i b0,ι i = j ∧ κ j = some i ∧ G0'.H[i]? = some b0 ∧ b = b0.ren ι) ∨ (κ j = none ∧ G.H[j]? = some b):=by
  intro j b hb
  rw [kget] at hb
  cases hk : κ j with
  | none => rw [hk] at hb;exact .inr ⟨rfl,by rw [hG];exact hb⟩
  | some i =>
   rw [hk] at hb
   simp only [Option.map_eq_some_iff] at hb
   obtain ⟨b0,h1,h2⟩:=hb
   exact .inl ⟨i,b0,ικ j i hk,rfl,h1,h2.symm⟩
 have far : ∀ j b N q,κ j = none → G.H[j]? = some q → q.live = true → G.ρ j = some (b,N) → b < w.heap.size ∧ ¬ Own ⟨fun i => G.ρ (ι i),H,G.m⟩ b:=by
  intro j b N q hk hq hl hρ
  refine ⟨D7 hr ⟨j,N,q,hq,hl,hρ⟩,?_⟩
  rintro ⟨i,N',q',hq',hl',hρ'⟩
  have:=hr.inj j (ι i) q _ b N N' hq (up0 i q' hq') hl (by rw [D8];exact hl') hρ hρ'
  rw [this,κι] at hk;cases hk
 have ownK : ∀ b,Own K b → Own G0' b ∨ (Own G b ∧ b < w.heap.size ∧ ¬ Own ⟨fun i => G.ρ (ι i),H,G.m⟩ b):=by
  rintro b ⟨j,N,q,hq,hl,hρ⟩
  rcases split j q hq with ⟨i,b0,rfl,_,h3,rfl⟩ | ⟨h1,h2⟩
  ·exact .inl ⟨i,N,b0,h3,by rw [D8] at hl;exact hl,by rw [← kρ1];exact hρ⟩
  ·rw [kρ2 j h1] at hρ
   exact .inr ⟨⟨j,N,q,h2,hl,hρ⟩,far j b N q h1 h2 hl hρ⟩
 have g2 : GA G K:=by
  refine ⟨fun j b hb => ?_,hf.gle.mem⟩
  cases hk : κ j with
  | none => exact ⟨b,by rw [kget,hk,← hG];exact hb,(AF.refl G j b).congr rfl (kρ2 j hk)⟩
  | some i =>
   have hj : j < H2.length:=by rw [← hG];exact (List.getElem?_eq_some_iff.1 hb).1
   have hi : i < ids.length:=by
    simp only [κ] at hk
    split at hk
    ·rename_i hm;cases hk;exact List.idxOf_lt_length_of_mem hm
    ·simp [hj] at hk
   have hji:=ικ j i hk
   subst hji
   have hb1:=up0 i _ (List.getElem?_eq_getElem (l:=H) (by omega : i < H.length))
   rw [hb] at hb1
   cases hb1
   obtain ⟨b',hb',hs⟩:=hf.gle.blk i H[i] (List.getElem?_eq_getElem (by omega : i < H.length))
   exact ⟨_,(kup i b' hb').1,hs.ren rfl (kρ1 i)⟩
 refine ⟨K,rfl,⟨fun j b hb => ?_,fun i j p q b N N' hp hq lp lq r1 r2 => ?_,h'.mem,fun b hb k => ?_,h'.st⟩,⟨hf.os,hf.tape,hf.output,hf.size,fun b hb ho => ?_,fun b k v hv => ?_,g2⟩,Mem.le_refl _,kup⟩
 ·rcases split j b hb with ⟨i,b0,rfl,_,h3,rfl⟩ | ⟨h1,h2⟩
  ·exact BR.ren (G0:=G0') (G:=K) (ι:=ι) (Mem.le_refl _) kup (kρ1 i) (h'.blk i b0 h3)
  ·refine (hr.blk j b h2).LO g2 (fun q N hl hρ => ?_) (kρ2 j h1)
   obtain ⟨f1,f2⟩:=far j q N b h1 h2 hl hρ
   exact (hf.keep q f1 f2).1
 ·rcases split i p hp with ⟨i0,p0,rfl,_,h3,rfl⟩ | ⟨h1,h2⟩
  ·rw [kρ1] at r1
   rw [D8] at lp
   rcases split j q hq with ⟨j0,q0,rfl,_,h6,rfl⟩ | ⟨h4,h5⟩
   ·rw [kρ1] at r2
    rw [D8] at lq
    rw [h'.inj i0 j0 p0 q0 b N N' h3 h6 lp lq r1 r2]
   ·rw [kρ2 j h4] at r2
    obtain ⟨f1,f2⟩:=far j b N' q h4 h5 lq r2
    exact absurd ⟨i0,N,p0,h3,lp,r1⟩ (hf.keep b f1 f2).2
  ·rw [kρ2 i h1] at r1
   rcases split j q hq with ⟨j0,q0,rfl,_,h6,rfl⟩ | ⟨h4,h5⟩
   ·rw [kρ1] at r2
    rw [D8] at lq
    obtain ⟨f1,f2⟩:=far i b N p h1 h2 lp r1
    exact absurd ⟨j0,N',q0,h6,lq,r2⟩ (hf.keep b f1 f2).2
   ·rw [kρ2 j h4] at r2
    exact hr.inj i j p q b N N' h2 h5 lp lq r1 r2
 ·rcases ownK b hb with h | ⟨h1,h2,h3⟩
  ·exact h'.sep b h k
  ·cases hm : G0'.m b k with
   | none => rfl
   | some v =>
    rcases hf.memNew b k v hm with h | h | h
    ·have:=hr.sep b h1 k
     rw [show G.m b k = some v from h] at this;cases this
    ·exact absurd h h3
    ·omega
 ·obtain ⟨h1,h2⟩:=hf.keep b hb (fun h => ho (own0 b h))
  refine ⟨h1,fun h => ?_⟩
  rcases ownK b h with h | ⟨h,_⟩
  ·exact h2 h
  ·exact ho h
 ·rcases hf.memNew b k v hv with h | h | h
  ·exact .inl h
  ·exact .inr (.inl (own0 b h))
  ·exact .inr (.inr h)
theorem MU {G : Gh} {w : World} {H H2 : List A7} {ids : List Nat} (hG : G.H = H2) (hn : ids.Nodup) (hm : Bw (rn ids H2.length) H2 ids H) (hr : AU G w) (ho : AT H.length H = true) :
  AU ⟨fun i => G.ρ (rn ids H2.length i),H,G.m⟩ w ∧ ∀ {x : List AV} {vs : List Value},AV.oks H.length x = true → Aj G (AV.C7 (rn ids H2.length) x) vs → Aj ⟨fun i => G.ρ (rn ids H2.length i),H,G.m⟩ x vs:=by
 generalize hι : rn ids H2.length = ι at *
 have up0 : ∀ id b,H[id]? = some b → G.H[ι id]? = some (b.ren ι) ∧ ∃ h : id < ids.length,ι id = ids[id]:=by
  intro id b hb
  obtain ⟨a,h1,h2⟩:=FJ hm hb
  have e : ι id = a:=by rw [← hι];exact QY h1
  obtain ⟨h3,h4⟩:=List.getElem?_eq_some_iff.1 h1
  exact ⟨by rw [e,hG];exact h2,h3,by rw [e,h4]⟩
 let G0 : Gh:=⟨fun i => G.ρ (ι i),H,G.m⟩
 have hb : ∀ id,id < H.length → ∃ b,G0.H[id]? = some b ∧ G.H[ι id]? = some (b.ren ι) ∧ G.ρ (ι id) = G0.ρ id :=
  fun id hid => ⟨H[id],List.getElem?_eq_getElem hid,(up0 id _ (List.getElem?_eq_getElem hid)).1,rfl⟩
 refine ⟨⟨fun i b hbi => ?_,fun i j p q b N N' hp hq lp lq r1 r2 => ?_,hr.mem,fun b hb k => ?_,hr.st⟩,fun hx h => Aj.F1 (G0:=G0) (G:=G) (ι:=ι) (Mem.le_refl _) hb hx h⟩
 ·exact BR.F1 (G0:=G0) (G:=G) (ι:=ι) (Mem.le_refl _) hb rfl (K5 ho hbi) (hr.blk _ _ (up0 i b hbi).1)
 ·obtain ⟨e1,e2,e3⟩:=up0 i p hp
  obtain ⟨f1,f2,f3⟩:=up0 j q hq
  have:=hr.inj _ _ _ _ b N N' e1 f1 (by rw [D8];exact lp) (by rw [D8];exact lq) r1 r2
  rw [e3,f3] at this
  exact (List.getElem_inj hn).1 this
 ·obtain ⟨i,N,q,hq,hl,hρ⟩:=hb
  exact hr.sep b ⟨ι i,N,_,(up0 i q hq).1,by rw [D8];exact hl,hρ⟩ k
theorem J9.ren {P : Program} {f : FuncId} {args : List AV} {H H2 : List A7} {R : AV → List A7 → Prop} (ids : List Nat) (h : J9 P f args H R) (hn : ids.Nodup) (hm : Bw (rn ids H2.length) H2 ids H) (ho : AT H.length H = true) (ha : AV.oks H.length args = true) :
  J9 P f (AV.C7 (rn ids H2.length) args) H2 fun r H2' => ∃ r' H',R r' H' ∧ r = r'.ren (rn ids H2.length) ∧ H2' = J5 ids H2 (E4 (rn ids H2.length) H'):=by
 refine ⟨h.1,fun G w vs hG hr hargs => ?_⟩
 obtain ⟨h1,h2⟩:=MU hG hn hm hr ho
 refine (h.2 _ w vs rfl h1 (h2 ha hargs)).mono ?_
 rintro e w' ⟨v,r,G0',rfl,hR,hv,hr',hfr⟩
 obtain ⟨G'',q1,q2,q3,q4,q5⟩:=ID hG hn hm hr hfr hr'
 exact ⟨v,_,G'',rfl,⟨r,G0'.H,hR,rfl,q1⟩,hv.ren q4 q5,q2,q3⟩
end Go.Gar
namespace Go.Gar
def BK (P : Program) (f : FuncId) (args : List AV) (H : List A7) (r : AV) (H' : List A7) : Prop:=J9 P f args H fun x K => x = r ∧ K = H'
def nodupB : List Nat → Bool
 | [] => true
 | a :: r => (r.all fun b => !(Nat.beq a b)) && nodupB r
theorem GQ : ∀ {l : List Nat},nodupB l = true → l.Nodup
 | [],_ => List.nodup_nil
 | a :: r,h => by
  simp only [nodupB,Bool.and_eq_true,List.all_eq_true] at h
  refine List.nodup_cons.2 ⟨fun ha => ?_,GQ h.2⟩
  have:=h.1 a ha
  simp at this
theorem BK.ren {P : Program} {f : FuncId} {args : List AV} {H H2 : List A7} {r : AV} {H' : List A7} (ids : List Nat) (h : BK P f args H r H') (hn : nodupB ids = true) (hm : Bw (rn ids H2.length) H2 ids H) (ho : AT H.length H = true) (ha : AV.oks H.length args = true) :
  BK P f (AV.C7 (rn ids H2.length) args) H2 (r.ren (rn ids H2.length)) (J5 ids H2 (E4 (rn ids H2.length) H')) :=
 (J9.ren ids h (GQ hn) hm ho ha).mono fun x K ⟨r',H'',⟨h1,h2⟩,h3,h4⟩ => by subst h1;subst h2;exact ⟨h3,h4⟩
section
variable {P : Program} {ro : Option Nat} {ops : Array Oper} {i : Nat} {rest : List Oper} {S S0 : St} {Q : Exit → St → Prop} {o : Oper} {E : Nat → Option Ap} {A : Prop} {acc : List Rc}
theorem Wl_D {g : Nat} {args : List AV} {H : List A7} {r : AV} {H' : List A7} (ids : List Nat) (hF : BK P g args H r H') (hg : A9 ops S.env o = some true) (h : BA S.env o.op = some (g,AV.C7 (rn ids S.H.length) args)) (hd : AJ o.dst S.n = true)
  (hm : Bw (rn ids S.H.length) S.H ids H) (hn : nodupB ids = true) (ho : AT H.length H = true) (ha : AV.oks H.length args = true)
  (k : Wl P ro ops (i + 1) rest ⟨Am o.dst (r.ren (rn ids S.H.length)) S.env,J5 ids S.H (E4 (rn ids S.H.length) H'),S.n⟩ Q) : Wl P ro ops i (o :: rest) S Q :=
 Xh hg h hd (hF.ren ids hn hm ho ha) fun x K ⟨h1,h2⟩ => by subst h1;subst h2;exact k
theorem Wd_D {g : Nat} {args : List AV} {H : List A7} {r : AV} {H' : List A7} (ids : List Nat) (hF : BK P g args H r H') (hg : A9 ops (Cu (looks ops o) S.env) o = some true) (h : BA (Cu (looks ops o) S.env) o.op = some (g,AV.C7 (rn ids S.H.length) args)) (hd : AJ o.dst S.n = true)
  (hm : Bw (rn ids S.H.length) S.H ids H) (hn : nodupB ids = true) (ho : AT H.length H = true) (ha : AV.oks H.length args = true)
  (hk : Wd P ro E ops S0 A (⟨Cu (looks ops o) S.env,S.H,r.ren (rn ids S.H.length),.eff⟩ :: acc) rest ⟨Am o.dst (r.ren (rn ids S.H.length)) S.env,J5 ids S.H (E4 (rn ids S.H.length) H'),S.n⟩) : Wd P ro E ops S0 A acc (o :: rest) S :=
 Wd_T hg h hd (hF.ren ids hn hm ho ha) hk
theorem AB {f : FuncId} {fn : Func} {c : Code} (hE : B8 P E) (hf : P.funcs[f]? = some fn) (hb : fn.body = some c) (hname : (fn.name == "runtime.NumGoroutine") = false) {args : List AV} {H : List A7} {r : AV} {H' : List A7} (hn : args.length ≤ fn.ntmps)
  (h : W P none c ⟨Dy 0 args,H,fn.ntmps⟩ (Nz fun S0 => ∃ S',A0 S0 S' ∧ H.length ≤ S'.H.length ∧ ∃ cc x,Ew E S'.env S'.H fn.results.toList = some (cc,x) ∧ cc = true ∧ x = r ∧ S'.H = H')) : BK P f args H r H' :=
 BP hE hf hb hname hn h
def Lp.is (r : Lp) (n : Nat) (env : List (Nat × AV)) (ps : Array Tmp) (asg body : Code) : Prop :=
 r.state = .ready ∧ r.pending = none ∧ r.n = n ∧ r.env = env ∧ r.params = ps ∧ r.assign = asg ∧ r.body = body
def Lp.busy (r : Lp) : Lp:=r.at_ .busy none
def Lp.left (r : Lp) (c : Code) : Lp:=r.at_ .done (some c)
def Lp.out (r : Lp) : Lp:=r.at_ .exhausted r.pending
theorem TB {g : Operand} {ps : Array Tmp} {asg body : Code} {f : FuncId} {first cap : List AV} (K : Lp → AV → List A7 → Prop) (hg : Cc S.env g = some (.fn (.func f) first cap))
  (seq : ∀ r,r.is S.n S.env ps asg body → J9 P f (first ++ [.yl S.H.length] ++ cap) (S.H ++ [.lp r]) (K r))
  (k : ∀ r,r.is S.n S.env ps asg body → ∀ x H',K r x H' →
   (H'[S.H.length]? = some (.lp r) ∧ Q .normal ⟨S.env,H'.set S.H.length (.lp r.out),S.n⟩) ∨
   ∃ c,H'[S.H.length]? = some (.lp (r.left c)) ∧ W P ro c ⟨S.env,H'.set S.H.length (.lp (r.left c).out),S.n⟩ Q) : W P ro (.rangeFunc g ps asg body) S Q:=by
 refine V5 (K:=fun x H' => ∃ fn,K ⟨.ready,none,fn,S.n,S.env,ps,asg,body⟩ x H') hg (fun fn => (seq _ ⟨rfl,rfl,rfl,rfl,rfl,rfl,rfl⟩).mono fun x H h => ⟨fn,h⟩) ?_
 rintro x H' ⟨fn,h⟩
 rcases k _ ⟨rfl,rfl,rfl,rfl,rfl,rfl,rfl⟩ x H' h with ⟨h1,h2⟩ | ⟨c,h1,h2⟩
 ·exact ⟨_,h1,rfl,h2⟩
 ·exact ⟨_,h1,rfl,h2⟩
def QYl (id n : Nat) (r : Lp) (R : AV → List A7 → Prop) (e : Exit) (S : St) : Prop :=
 ∃ S'',A0 S S'' ∧ n ≤ S''.H.length ∧ S''.H[id]? = some (.lp r.busy) ∧
  match e with
  | .normal => R (.d (.b true)) (S''.H.set id (.lp r))
  | .ret => R (.d (.b false)) (S''.H.set id (.lp (r.left .ret)))
  | .exit i => R (.d (.b false)) (S''.H.set id (.lp (r.left (.exit i))))
  | .goto l => R (.d (.b false)) (S''.H.set id (.lp (r.left (.goto l))))
  | _ => False
def QAs (P : Program) (id n : Nat) (r : Lp) (body : Code) (R : AV → List A7 → Prop) : Exit → St → Prop
 | .normal,S => S.H[id]? = some (.lp r) ∧ W P (some id) body ⟨S.env,S.H.set id (.lp r.busy),S.n⟩ (QYl id n r R)
 | _,_ => False
theorem Lp.Va {r : Lp} (h : r.state = .ready) (h2 : r.pending = none) : r.busy.at_ .ready none = r:=by
 obtain ⟨a,b,c,d,e,f,g,i⟩:=r
 subst h;subst h2;rfl
theorem B0 {id n : Nat} {env : List (Nat × AV)} {ps : Array Tmp} {asg body : Code} {r : Lp} {H : List A7} {args : List AV} {R : AV → List A7 → Prop} (hr : r.is n env ps asg body) (hid : H[id]? = some (.lp r)) (hlen : args.length = ps.size) (hps : (ps.toList.all fun t => Nat.blt t n) = true)
  (hb : W P (some id) asg ⟨Nt ps.toList args env,H,n⟩ (QAs P id H.length r body R)) : YT P id args H R:=by
 obtain ⟨h1,h2,h3,h4,h5,h6,h7⟩:=hr
 subst h3;subst h4;subst h5;subst h6;subst h7
 refine VC hid h1 hlen (fun t ht => ?_) (hb.mono ?_)
 ·rw [List.all_eq_true] at hps
  have:=hps t ht
  simpa [Nat.blt_eq] using this
 ·intro e S q
  cases e with
  | normal =>
   obtain ⟨q1,q2⟩:=q
   refine ⟨r,q1,h1,?_⟩
   rw [h2]
   refine W.mono q2 ?_
   rintro e S' ⟨S'',t,hl,hi,hm⟩
   have hlt:=(List.getElem?_eq_some_iff.1 hi).1
   cases e with
   | normal => exact ⟨none,rfl,S'',t,hl,hlt,_,hi,by rw [show JJ none = .ready from rfl,Lp.Va h1 h2];exact hm⟩
   | ret => exact ⟨some .ret,rfl,S'',t,hl,hlt,_,hi,hm⟩
   | exit i => exact ⟨some (.exit i),rfl,S'',t,hl,hlt,_,hi,hm⟩
   | goto l => exact ⟨some (.goto l),rfl,S'',t,hl,hlt,_,hi,hm⟩
   | _ => exact hm.elim
  | _ => exact q.elim
end
end Go.Gar
namespace Go.Gar
theorem Ad (u : UInt8) : E0 .i64 (u.toNat : Int) = true:=by
 have:=u.toNat_lt;simp [E0];omega
theorem u8z {u : UInt8} (h : u.toNat = 0) : u = 0:=UInt8.toNat_inj.1 h
theorem Y6 (a b : Nat) : Nat.beq a b = decide (a = b):=by
 by_cases h : a = b
 ·subst h;simp
 ·rw [decide_eq_false h];cases hb : Nat.beq a b with
  | false => rfl
  | true => exact absurd (Nat.eq_of_beq_eq_true hb) h
theorem RB (n : Int) : Dw .i64 n = n:=rfl
theorem UG (n : Int) : Dw .u8 n = n % 256:=by
 simp [Dw,IntKind.wrap,IntKind.bits,IntKind.signed]
theorem R6 (n : Int) : Dw .u64 n = n % 18446744073709551616:=by
 simp [Dw,IntKind.wrap,IntKind.bits,IntKind.signed]
theorem Sv (n : Int) : IntKind.wrap .u8 n = n % 256:=by
 simp [IntKind.wrap,IntKind.bits,IntKind.signed]
theorem Kh (n : Int) (k : Nat) : n.fdiv ((k : Nat) : Int) = n / (k : Int):=Int.fdiv_eq_ediv_of_nonneg n (Int.natCast_nonneg k)
theorem shr8 (n : Int) : n.fdiv (2 ^ min 8 64) = n / 256:=Kh n 256
theorem YZ (n : Int) : n.fdiv (2 ^ min 16 64) = n / 65536:=Kh n 65536
theorem Yb (n : Int) : n.fdiv (2 ^ min 32 64) = n / 4294967296:=Kh n 4294967296
theorem tF {p : Prop} (h : true = false) : p:=absurd h (by decide)
theorem fT {p : Prop} (h : false = true) : p:=absurd h (by decide)
theorem A1 : (∀ (p : Prop) [Decidable p],(decide p = true) ↔ p) ∧ (∀ (p : Prop) [Decidable p],(decide p = false) ↔ ¬ p) ∧ (∀ b : Bool,((!b) = true) ↔ b = false) ∧ (∀ b : Bool,((!b) = false) ↔ b = true) ∧
  (∀ (α : Type) [BEq α] [LawfulBEq α] (a b : α),((a == b) = true) ↔ a = b) ∧ (∀ (α : Type) [BEq α] [LawfulBEq α] (a b : α),((a == b) = false) ↔ ¬ a = b) ∧ (∀ (α : Type) [BEq α] [LawfulBEq α] (a b : α),((a != b) = true) ↔ ¬ a = b) ∧ (∀ (α : Type) [BEq α] [LawfulBEq α] (a b : α),((a != b) = false) ↔ a = b) ∧
  (∀ (α : Type) (a b : α),(a ≠ b) ↔ ¬ a = b) ∧ (∀ a b : Int,(¬ a < b) ↔ b ≤ a) ∧ (∀ a b : Int,(¬ a ≤ b) ↔ b < a) ∧ (∀ (α : Type) [LE α] (a b : α),(a ≥ b) ↔ b ≤ a) ∧ (∀ (α : Type) [LT α] (a b : α),(a > b) ↔ b < a) :=
 ⟨fun p _ => decide_eq_true_iff,fun p _ => decide_eq_false_iff_not,fun b => by cases b <;> simp,fun b => by cases b <;> simp,fun α _ _ a b => beq_iff_eq,fun α _ _ a b => beq_eq_false_iff_ne,fun α _ _ a b => bne_iff_ne,fun α _ _ a b => bne_eq_false_iff_eq,fun α a b => Iff.rfl,fun a b => Int.not_lt,fun a b => Int.not_le,fun α _ a b => Iff.rfl,fun α _ a b => Iff.rfl⟩
theorem Ai : (∀ n,Dw .i64 n = n) ∧ (∀ n,Dw .u8 n = n % 256) ∧ (∀ n,Dw .u64 n = n % 18446744073709551616) ∧ (∀ n,IntKind.wrap .u8 n = n % 256) ∧ IntKind.bits .i64 = 64 ∧ IntKind.bits .u8 = 8 ∧ IntKind.bits .u64 = 64 ∧
  (∀ n : Int,n.fdiv (2 ^ min 8 64) = n / 256) ∧ (∀ n : Int,n.fdiv (2 ^ min 16 64) = n / 65536) ∧ (∀ n : Int,n.fdiv (2 ^ min 32 64) = n / 4294967296) ∧
  (∀ l,A6 (.by l) = l.length) ∧ (∀ l,A6 (.is l) = l.length) ∧ (∀ k l,A6 (.sl k l) = l.length) ∧ (∀ l,Av (.by l) = 1) ∧ (∀ l,Av (.is l) = 1) ∧ (∀ k l,Av (.sl k l) = k) ∧
  (∀ {α : Type} (a : α) (l : List α),(a :: l).length = l.length + 1) ∧ (∀ {α : Type},([] : List α).length = 0) ∧ (∀ {α β : Type} (f : α → β) (l : List α),(l.map f).length = l.length) ∧
  (∀ n : Int,0 + n = n) ∧ (∀ n : Int,n + 0 = n) ∧ (∀ n : Nat,0 + n = n) ∧ (∀ n : Nat,n + 0 = n) ∧ (∀ n : Nat,(n : Int).toNat = n) ∧
  (∀ {α : Type} (a : α) (l : List α) (d : α),(a :: l).getD 0 d = a) ∧ (∀ {α : Type} (a : α) (l : List α) (n : Nat) (d : α),(a :: l).getD (n + 1) d = l.getD n d) ∧
  (∀ n l,Ct n (.by l) = .by (l.drop n)) ∧ (∀ n l,Ct n (.is l) = .is (l.drop n)) ∧ (∀ n k l,Ct n (.sl k l) = .sl k (l.drop n)) ∧ (∀ n l,takeD n (.by l) = .by (l.take n)) ∧ (∀ n l,takeD n (.is l) = .is (l.take n)) ∧ (∀ n k l,takeD n (.sl k l) = .sl k (l.take n)) ∧
  (∀ {α : Type} (a b c : List α),a ++ b ++ c = a ++ (b ++ c)) ∧ (∀ {α : Type} (a : List α),[] ++ a = a) ∧ (∀ {α : Type} (x : α) (a b : List α),x :: a ++ b = x :: (a ++ b)) ∧ (∀ {α : Type} (a : List α),a ++ [] = a) ∧
  (∀ {α : Type} (n : Nat) (x : α) (l : List α),(x :: l).drop (n + 1) = l.drop n) ∧ (∀ {α : Type} (l : List α),l.drop 0 = l) ∧ (∀ {α : Type} (n : Nat) (x : α) (l : List α),(x :: l).take (n + 1) = x :: l.take n) ∧ (∀ {α : Type} (l : List α),l.take 0 = []) ∧
  (!true) = false ∧ (!false) = true ∧ (∀ l : List UInt8,(l == l) = true) ∧ (∀ n : Int,(n == n) = true) ∧ (∀ b : Bool,(b == b) = true) ∧ (∀ n : Int,(n != n) = false) ∧ (∀ l : List UInt8,(l != l) = false) ∧ (∀ l : List Int,decide (l = l) = true) ∧ (∀ l : List UInt8,decide (l = l) = true):=by
 refine ⟨RB,UG,R6,Sv,rfl,rfl,rfl,shr8,YZ,Yb,fun _ => rfl,fun _ => rfl,fun _ _ => rfl,fun _ => rfl,fun _ => rfl,fun _ _ => rfl,fun _ _ => rfl,rfl,fun _ _ => List.length_map _,Int.zero_add,Int.add_zero,Nat.zero_add,Nat.add_zero,Int.toNat_natCast,?_⟩
 refine ⟨fun _ _ _ => rfl,fun _ _ _ _ => rfl,fun _ _ => rfl,fun _ _ => rfl,fun _ _ _ => rfl,fun _ _ => rfl,fun _ _ => rfl,fun _ _ _ => rfl,List.append_assoc,fun _ => rfl,fun _ _ _ => rfl,List.append_nil,fun _ _ _ => rfl,fun _ => rfl,fun _ _ _ => rfl,fun _ => rfl,rfl,rfl,?_⟩
 simp
theorem Ae : (∀ (ι : Nat → Nat) x,AV.ren ι (.d x) = .d x) ∧ (∀ (ι : Nat → Nat),AV.ren ι .u = .u) ∧ (∀ (ι : Nat → Nat),AV.ren ι .e0 = .e0) ∧ (∀ (ι : Nat → Nat) x,AV.ren ι (.dp x) = .dp x) ∧ (∀ (ι : Nat → Nat) a b c,AV.ren ι (.ptr a b c) = .ptr (ι a) b c) ∧ (∀ (ι : Nat → Nat) a b c,AV.ren ι (.sl a b c) = .sl (ι a) b c) ∧
  (∀ (ι : Nat → Nat) a,AV.ren ι (.ag a) = .ag (AV.C7 ι a)) ∧ (∀ (ι : Nat → Nat) a,AV.ren ι (.tup a) = .tup (AV.C7 ι a)) ∧ (∀ (ι : Nat → Nat) f a b,AV.ren ι (.fn f a b) = .fn f (AV.C7 ι a) (AV.C7 ι b)) ∧ (∀ (ι : Nat → Nat),AV.C7 ι [] = []) ∧ (∀ (ι : Nat → Nat) x l,AV.C7 ι (x :: l) = x.ren ι :: AV.C7 ι l) ∧
  (∀ k i,rn [] k i = k + i) ∧ (∀ a r k,rn (a :: r) k 0 = a) ∧ (∀ a r k i,rn (a :: r) k (i + 1) = rn r k i) ∧
  (∀ H l,J5 [] H l = H ++ l) ∧ (∀ a r H b l,J5 (a :: r) H (b :: l) = J5 r (H.set a b) l) ∧ (∀ ι : Nat → Nat,E4 ι [] = []) ∧ (∀ (ι : Nat → Nat) b l,E4 ι (b :: l) = b.ren ι :: E4 ι l) ∧
  (∀ (ι : Nat → Nat),A7.ren ι .gone = .gone) ∧ (∀ (ι : Nat → Nat) l,A7.ren ι (.c l) = .c (AV.C7 ι l)) ∧ (∀ (ι : Nat → Nat) x,A7.ren ι (.a x) = .a x) ∧
  (∀ {α : Type} (x a : α) (l : List α),(x :: l).set 0 a = a :: l) ∧ (∀ {α : Type} (x a : α) (l : List α) (n : Nat),(x :: l).set (n + 1) a = x :: l.set n a) ∧ (∀ {α : Type} (a : α) (n : Nat),[].set n a = []) ∧
  (∀ {α : Type} (a : List α),[] ++ a = a) ∧ (∀ {α : Type} (x : α) (a b : List α),x :: a ++ b = x :: (a ++ b)) ∧ (∀ {α : Type} (a : List α),a ++ [] = a) ∧ (∀ {α : Type} (a : α) (l : List α),(a :: l).length = l.length + 1) ∧ (∀ {α : Type},([] : List α).length = 0) ∧ (∀ n : Nat,0 + n = n) ∧ (∀ n : Nat,n + 0 = n):=by
 refine ⟨fun _ _ => rfl,fun _ => rfl,fun _ => rfl,fun _ _ => rfl,fun _ _ _ _ => rfl,fun _ _ _ _ => rfl,fun _ _ => rfl,fun _ _ => rfl,fun _ _ _ _ => rfl,fun _ => rfl,fun _ _ _ => rfl,fun _ _ => rfl,fun _ _ _ => rfl,fun _ _ _ _ => rfl,fun _ _ => rfl,fun _ _ _ _ _ => rfl,fun _ => rfl,fun _ _ _ => rfl,fun _ => rfl,fun _ _ => rfl,fun _ _ => rfl,fun _ _ _ => rfl,fun _ _ _ _ => rfl,fun _ _ => rfl,fun _ => rfl,fun _ _ _ => rfl,List.append_nil,fun _ _ => rfl,rfl,Nat.zero_add,Nat.add_zero⟩
theorem Bl : (∀ a b,Nat.beq a b = decide (a = b)) ∧ (∀ n len,(M3 n len = true) = (0 ≤ n ∧ n < (len : Int))) ∧ (∀ n,(E0 .i64 n = true) = (-9223372036854775808 ≤ n ∧ n ≤ 9223372036854775807)) ∧ (∀ n,E0 .u8 n = true) ∧ (∀ n,E0 .u64 n = true) ∧
  (∀ l,A6 (.by l) = l.length) ∧ (∀ l,A6 (.is l) = l.length) ∧ (∀ k l,A6 (.sl k l) = l.length) ∧ (∀ l,Av (.by l) = 1) ∧ (∀ l,Av (.is l) = 1) ∧ (∀ k l,Av (.sl k l) = k) ∧
  (∀ l,A5 (.by l) = true) ∧ (∀ l,A5 (.is l) = true) ∧ (∀ k l,A5 (.sl k l) = true) ∧ (∀ {α : Type} (a b : List α),(a ++ b).length = a.length + b.length) ∧ (∀ n : Nat,n * 1 = n) ∧ (∀ n : Nat,1 * n = n):=by
 refine ⟨Y6,fun n len => propext CI,fun n => ?_,fun _ => rfl,fun _ => rfl,fun _ => rfl,fun _ => rfl,fun _ _ => rfl,fun _ => rfl,fun _ => rfl,fun _ _ => rfl,fun _ => rfl,fun _ => rfl,fun _ _ => rfl,fun _ _ => List.length_append,Nat.mul_one,Nat.one_mul⟩
 simp only [E0,Bool.and_eq_true,decide_eq_true_eq]
mutual
theorem AV.QL {k k' : Nat} (hk : k ≤ k') : ∀ {x : AV},x.ok k = true → x.ok k' = true
 | .d _,_ => rfl
 | .u,_ => rfl
 | .e0,_ => rfl
 | .dp _,_ => rfl
 | .ptr _ _ _,h => by simp only [AV.ok,Nat.blt_eq] at h ⊢;omega
 | .sl _ _ _,h => by simp only [AV.ok,Nat.blt_eq] at h ⊢;omega
 | .bs _ _ _ _ _,h => by simp only [AV.ok,Nat.blt_eq] at h ⊢;omega
 | .ep _ _ _ _ _,h => by simp only [AV.ok,Nat.blt_eq] at h ⊢;omega
 | .yl _,h => by simp only [AV.ok,Nat.blt_eq] at h ⊢;omega
 | .mp _,h => by simp only [AV.ok,Nat.blt_eq] at h ⊢;omega
 | .ag cs,h => by simp only [AV.ok] at h ⊢;exact AV.GC hk h
 | .tup cs,h => by simp only [AV.ok] at h ⊢;exact AV.GC hk h
 | .fn _ a b,h => by simp only [AV.ok,Bool.and_eq_true] at h ⊢;exact ⟨AV.GC hk h.1,AV.GC hk h.2⟩
theorem AV.GC {k k' : Nat} (hk : k ≤ k') : ∀ {l : List AV},AV.oks k l = true → AV.oks k' l = true
 | [],_ => rfl
 | x :: r,h => by simp only [AV.oks,Bool.and_eq_true] at h ⊢;exact ⟨AV.QL hk h.1,AV.GC hk h.2⟩
end
theorem FO {H : List A7} {xs : List AV} {l : List D} : BQ H (.tup xs) (.tup l) ↔ Bt H xs l:=by simp [BQ]
theorem II {H : List A7} {xs : List AV} {l : List D} : BQ H (.ag xs) (.agg l) ↔ Bt H xs l:=by simp [BQ]
theorem CC {H : List A7} {x : AV} {xs : List AV} {y : D} {l : List D} : Bt H (x :: xs) (y :: l) ↔ BQ H x y ∧ Bt H xs l:=by
 simp only [Bt]
 constructor
 ·rintro ⟨_,_,h,h1,h2⟩;cases h;exact ⟨h1,h2⟩
 ·rintro ⟨h1,h2⟩;exact ⟨_,_,rfl,h1,h2⟩
theorem Co {H : List A7} : Bt H [] [] ↔ True:=by simp [Bt]
theorem Ao {H : List A7} {x y : D} : BQ H (.d x) y ↔ y = x:=by simp [BQ]
theorem Jq {H : List A7} {y : D} : BQ H .e0 y ↔ A5 y = true ∧ A6 y = 0 ∧ A4 y:=by simp [BQ]
theorem HF {H : List A7} {i n sz : Nat} {y : D} : BQ H (.sl i n sz) y ↔ H[i]? = some (.a y) ∧ n = A6 y:=by simp [BQ]
def Af (dst : Option Tmp) (x : AV) (env : List (Nat × AV)) : Option (List (Nat × AV)) :=
 match dst with
 | some d => some ((d,x) :: env)
 | none => some env
theorem AO {dst : Option Tmp} {x : AV} {env e : List (Nat × AV)} (h : Af dst x env = some e) : e = Am dst x env:=by
 cases dst <;> simp_all [Af,Am]
def Cx : List Nat → List (Nat × AV) → Option (List (Nat × AV))
 | [],_ => some []
 | t :: r,env => match get env t with
  | some x => match Cx r env with
   | some l => some ((t,x) :: l)
   | none => none
  | none => Cx r env
theorem BU : ∀ {l : List Nat} {env e : List (Nat × AV)},Cx l env = some e → e = Cu l env
 | [],env,e,h => by simp [Cx] at h;simp [Cu,h]
 | t :: r,env,e,h => by
  simp only [Cx] at h
  simp only [Cu]
  split at h
  ·rename_i x hx
   rw [hx]
   split at h
   ·rename_i l hl;cases h;rw [BU hl]
   ·cases h
  ·rename_i hx
   rw [hx]
   exact BU h
def Dv : List A7 → A7 → Option (List A7)
 | [],b => some [b]
 | x :: r,b => match Dv r b with
  | some l => some (x :: l)
  | none => none
theorem ER : ∀ {H : List A7} {b : A7} {l : List A7},Dv H b = some l → l = H ++ [b]
 | [],b,l,h => by simp [Dv] at h;simp [h]
 | x :: r,b,l,h => by
  simp only [Dv] at h
  split at h
  ·rename_i q hq;cases h;rw [ER hq];rfl
  ·cases h
section
variable {P : Program} {ro : Option Nat} {ops : Array Oper} {i : Nat} {rest : List Oper} {S0 : St} {en : List (Nat × AV)} {hp : List A7} {nt : Nat} {Q : Exit → St → Prop} {o : Oper} {E : Nat → Option Ap} {A : Prop} {acc : List Rc}
theorem Xn (live : List Nat) {e : List (Nat × AV)} (h : Cx live en = some e) (k : Q .normal ⟨e,hp,nt⟩) : Wl P ro ops i [] ⟨en,hp,nt⟩ Q:=by
 have:=BU h
 subst this
 exact P6 (fun t x hx => (Ga hx).2) (NC k)
theorem Xq (hE : B8 P E) {x x' : AV} {c : Bool} {e : List (Nat × AV)} (hg : A9 ops en o = some true) (h : JA E en hp o.op = some (c,x)) (hd : AJ o.dst nt = true) (he : Af o.dst x' en = some e)
  (k : Wl P ro ops (i + 1) rest ⟨e,hp,nt⟩ Q) (hc : c = true) (hx : x = x':=by first | (simp only [Ai,Ae,Nat.reduceAdd,Int.reduceAdd,Int.reduceSub,Int.reduceMul,Int.reduceToNat,nS];rfl) | rfl) : Wl P ro ops i (o :: rest) ⟨en,hp,nt⟩ Q:=by
 subst hx
 rw [AO he] at k
 exact Wp hE hg h hd hc k
def YU : Op → Bool
 | .move _ | .assign _ | .extract _ _ | .pick _ _ _ => true
 | _ => false
theorem sg {b : Bool} (h : b = true) : b = true:=h
theorem WX {S : St} (k : Wl P ro ops i rest S Q) : Wl P ro ops i rest S Q:=k
theorem gWd {S : St} (k : Wd P ro E ops S0 A acc rest S) : Wd P ro E ops S0 A acc rest S:=k
theorem EZ {S : St} (_ : YU o.op = true) (k : Wl P ro ops i (o :: rest) S Q) : Wl P ro ops i (o :: rest) S Q:=k
theorem QI {S : St} (_ : YU o.op = true) (k : Wd P ro E ops S0 A acc (o :: rest) S) : Wd P ro E ops S0 A acc (o :: rest) S:=k
theorem WT (hE : B8 P E) {x : AV} {e : List (Nat × AV)} (hg : A9 ops en o = some true) (h : JA E en hp o.op = some (true,x)) (hd : AJ o.dst nt = true) (he : Af o.dst x en = some e)
  (k : Wl P ro ops (i + 1) rest ⟨e,hp,nt⟩ Q) : Wl P ro ops i (o :: rest) ⟨en,hp,nt⟩ Q:=by
 rw [AO he] at k
 exact Wp hE hg h hd rfl k
theorem Xa (hE : B8 P E) {f : Nat → AV} {b : A7} {c : Bool} {x' : AV} {e : List (Nat × AV)} {H' : List A7} (hg : A9 ops en o = some true) (h : Uw E en hp o.op = some (c,f,b)) (hd : AJ o.dst nt = true) (he : Af o.dst x' en = some e) (hH : Dv hp b = some H')
  (k : Wl P ro ops (i + 1) rest ⟨e,H',nt⟩ Q) (hc : c = true) (hx : f hp.length = x':=by first | (simp only [Ai,Ae,Nat.reduceAdd,Int.reduceAdd,Int.reduceSub,Int.reduceMul,Int.reduceToNat,nS];rfl) | rfl) : Wl P ro ops i (o :: rest) ⟨en,hp,nt⟩ Q:=by
 subst hx
 rw [AO he,ER hH] at k
 exact Wl_a hE hg h hd hc k
theorem Xao (hE : B8 P E) {q : D} {c : Bool} {x' : AV} {e : List (Nat × AV)} {H' : List A7} (hg : A9 ops en o = some true) (h : K3 E en hp o.op = some (c,q)) (hd : AJ o.dst nt = true) (he : Af o.dst x' en = some e) (hH : Dv hp (.a q) = some H')
  (k : Wl P ro ops (i + 1) rest ⟨e,H',nt⟩ Q) (hc : c = true) (hx : .sl hp.length (A6 q) (Av q) = x':=by first | (simp only [Ai,Ae,Nat.reduceAdd,Int.reduceAdd,Int.reduceSub,Int.reduceMul,Int.reduceToNat,nS];rfl) | rfl) : Wl P ro ops i (o :: rest) ⟨en,hp,nt⟩ Q:=by
 subst hx
 rw [AO he,ER hH] at k
 exact Ye hE hg h hd hc k
def Iy (dst : Option Tmp) (L : List Nat) : Bool :=
 match dst with
 | some d => L.any (Nat.beq d)
 | none => false
theorem Xd (L : List Nat) (hE : B8 P E) {q : D} {c : Bool} {x' : AV} {e : List (Nat × AV)} {H' : List A7} (_ : Iy o.dst L = true) (hg : A9 ops en o = some true) (h : K3 E en hp o.op = some (c,q)) (hd : AJ o.dst nt = true) (he : Af o.dst x' en = some e) (hH : Dv hp (.a q) = some H')
  (k : Wl P ro ops (i + 1) rest ⟨e,H',nt⟩ Q) (hc : c = true) (hx : .sl hp.length (A6 q) (Av q) = x':=by first | (simp only [Ai,Ae,Nat.reduceAdd,Int.reduceAdd,Int.reduceSub,Int.reduceMul,Int.reduceToNat,nS];rfl) | rfl) : Wl P ro ops i (o :: rest) ⟨en,hp,nt⟩ Q:=Xao hE hg h hd he hH k hc hx
theorem Xw (hE : B8 P E) {x x' : AV} {H' : List A7} {c : Bool} {e : List (Nat × AV)} (hg : A9 ops en o = some true) (h : WQ E en hp o.op = some (c,x,H')) (hd : AJ o.dst nt = true) (he : Af o.dst x' en = some e)
  (k : Wl P ro ops (i + 1) rest ⟨e,H',nt⟩ Q) (hc : c = true) (hx : x = x':=by first | (simp only [Ai,Ae,Nat.reduceAdd,Int.reduceAdd,Int.reduceSub,Int.reduceMul,Int.reduceToNat,nS];rfl) | rfl) : Wl P ro ops i (o :: rest) ⟨en,hp,nt⟩ Q:=by
 subst hx
 rw [AO he] at k
 exact Wl_w hE hg h hd hc k
theorem Xs {e : List (Nat × AV)} (hg : A9 ops en o = some false) (hd : AJ o.dst nt = true) (he : Af o.dst (.d (.tup [])) en = some e) (k : Wl P ro ops (i + 1) rest ⟨e,hp,nt⟩ Q) : Wl P ro ops i (o :: rest) ⟨en,hp,nt⟩ Q:=by
 rw [AO he] at k
 exact VI hg hd k
theorem Sg (hE : B8 P E) {es : List (List D)} {n : Int} {b : Bool} {e : List D} {e' : List (Nat × AV)} (hg : A9 ops en o = some true) (h : JA E en hp o.op = some (M3 n es.length && b,.dp (es.getD n.toNat []))) (hd : AJ o.dst nt = true) (he' : Af o.dst (.dp e) en = some e')
  (hb : b = true) (hn : 0 ≤ n) (he : es[n.toNat]? = some e)
  (k : Wl P ro ops (i + 1) rest ⟨e',hp,nt⟩ Q) : Wl P ro ops i (o :: rest) ⟨en,hp,nt⟩ Q:=by
 rw [AO he'] at k
 exact Ym hE hg h hd hb hn he k
theorem T5 {d : Nat} {b : Bool} (hg : R8 ops o = some d) (hb : get en d = some (.d (.b b)))
  (ht : b = true → Wl P ro ops i (o :: rest) ⟨(d,.d (.b true)) :: en,hp,nt⟩ Q) (hf : b = false → Wl P ro ops i (o :: rest) ⟨(d,.d (.b false)) :: en,hp,nt⟩ Q) : Wl P ro ops i (o :: rest) ⟨en,hp,nt⟩ Q :=
 Tx hg hb ht hf
theorem Xg {d : Nat} {b : Bool} (hg : R8 ops o = some d) (hb : get en d = some (.d (.b b)))
  (ht : b = true → Wd P ro E ops S0 A acc (o :: rest) ⟨(d,.d (.b true)) :: en,hp,nt⟩) (hf : b = false → Wd P ro E ops S0 A acc (o :: rest) ⟨(d,.d (.b false)) :: en,hp,nt⟩) : Wd P ro E ops S0 A acc (o :: rest) ⟨en,hp,nt⟩ :=
 TA hg hb ht hf
theorem XF {g : Nat} {ds : List D} {r r' : D} {e : List (Nat × AV)} (hF : Go.Gar.Fn P g ds r) (hg : A9 ops en o = some true) (h : BA en o.op = some (g,ds.map .d)) (hd : AJ o.dst nt = true) (he : Af o.dst (.d r') en = some e)
  (k : Wl P ro ops (i + 1) rest ⟨e,hp,nt⟩ Q) (hr : r = r':=by first | (simp only [Ai,Ae,Nat.reduceAdd,Int.reduceAdd,Int.reduceSub,Int.reduceMul,Int.reduceToNat,nS];rfl) | rfl) : Wl P ro ops i (o :: rest) ⟨en,hp,nt⟩ Q:=by
 subst hr
 rw [AO he] at k
 exact Z0 hF hg h hd k
theorem WF {g : Nat} {xs : List AV} {ds : List D} {r r' : D} {e : List (Nat × AV)} (hF : Go.Gar.Fn P g ds r) (hg : A9 ops en o = some true) (h : BA en o.op = some (g,xs)) (hd : AJ o.dst nt = true) (he : Af o.dst (.d r') en = some e) (hx : IQ xs ds)
  (k : Wl P ro ops (i + 1) rest ⟨e,hp,nt⟩ Q) (hr : r = r':=by first | (simp only [Ai,Ae,Nat.reduceAdd,Int.reduceAdd,Int.reduceSub,Int.reduceMul,Int.reduceToNat,nS];rfl) | rfl) : Wl P ro ops i (o :: rest) ⟨en,hp,nt⟩ Q:=by
 subst hr
 rw [AO he] at k
 exact YB hg h hd hF hx k
theorem XD {g : Nat} {args : List AV} {H : List A7} {r r' : AV} {H' H'' : List A7} {e : List (Nat × AV)} (ids : List Nat) (hF : BK P g args H r H') (hg : A9 ops en o = some true) (h : BA en o.op = some (g,AV.C7 (rn ids hp.length) args)) (hd : AJ o.dst nt = true)
  (hm : Bw (rn ids hp.length) hp ids H) (hn : nodupB ids = true) (ho : AT H.length H = true) (ha : AV.oks H.length args = true) (he : Af o.dst r' en = some e)
  (k : Wl P ro ops (i + 1) rest ⟨e,H'',nt⟩ Q) (hr : r.ren (rn ids hp.length) = r':=by first | (simp only [Ai,Ae,Nat.reduceAdd,Int.reduceAdd,Int.reduceSub,Int.reduceMul,Int.reduceToNat,nS];rfl) | rfl) (hH : J5 ids hp (E4 (rn ids hp.length) H') = H'':=by first | (simp only [Ae,Nat.reduceAdd];rfl) | rfl) : Wl P ro ops i (o :: rest) ⟨en,hp,nt⟩ Q:=by
 subst hr;subst hH
 rw [AO he] at k
 exact Wl_D ids hF hg h hd hm hn ho ha k
theorem Xy {id : Nat} {xs : List AV} {r0 : Lp} {x : AV} {H' : List A7} {e : List (Nat × AV)} (hT : YT P id xs hp fun r K => r = x ∧ K = H') (hg : A9 ops en o = some true) (h : HL en o.op = some (id,xs)) (hd : AJ o.dst nt = true) (hlp : hp[id]? = some (.lp r0)) (he : Af o.dst x en = some e)
  (k : Wl P ro ops (i + 1) rest ⟨e,H',nt⟩ Q) : Wl P ro ops i (o :: rest) ⟨en,hp,nt⟩ Q:=by
 rw [AO he] at k
 exact Wl_y hg h hd hlp hT fun r K ⟨h1,h2⟩ => by subst h1;subst h2;exact k
theorem Bn {g : Operand} {ps : Array Tmp} {asg body : Code} {f : FuncId} {first cap xs : List AV} {L : Nat} {F : Lp → List A7} (K : Lp → AV → List A7 → Prop) (hg : Cc en g = some (.fn (.func f) first cap)) (hL : hp.length = L) (hxs : first ++ [.yl L] ++ cap = xs) (hF : ∀ r,hp ++ [.lp r] = F r)
  (seq : ∀ r,r.is nt en ps asg body → J9 P f xs (F r) (K r))
  (k : ∀ r,r.is nt en ps asg body → ∀ x H',K r x H' →
   (H'[L]? = some (.lp r) ∧ Q .normal ⟨en,H'.set L (.lp r.out),nt⟩) ∨
   ∃ c,H'[L]? = some (.lp (r.left c)) ∧ W P ro c ⟨en,H'.set L (.lp (r.left c).out),nt⟩ Q) : W P ro (.rangeFunc g ps asg body) ⟨en,hp,nt⟩ Q:=by
 subst hL;subst hxs
 exact TB (S:=⟨en,hp,nt⟩) K hg (fun r hr => by have:=seq r hr;rw [← hF] at this;exact this) k
theorem CB {c : Code} {hp' : List A7} (h : hp = hp') (k : W P ro c ⟨en,hp',nt⟩ Q) : W P ro c ⟨en,hp,nt⟩ Q:=by subst h;exact k
theorem A0.refl (S : St) : A0 S S:=fun _ _ G _ _ r _ => ⟨G,r,⟨fun id b b' hb hb' => by rw [hb] at hb';cases hb';exact AF.refl _ _ _,Mem.le_refl _,fun _ h => h,fun _ _ _ h => .inl h⟩⟩
def YC {α : Type} (I : α → Prop) (St0 : α → St) (lt : α → Prop) (k : Nat) (Q : Exit → St → Prop) : Exit → St → Prop
 | .normal,S' => ∃ y,I y ∧ lt y ∧ k ≤ (St0 y).H.length ∧ A0 S' (St0 y)
 | e,S' => Q e S'
theorem Aq {α : Type} {c : Code} {S : St} (I : α → Prop) (St0 : α → St) (μ : α → Nat) (x0 : α) (h0 : I x0) (t : A0 S (St0 x0)) (hl : S.H.length ≤ (St0 x0).H.length)
  (body : ∀ x,I x → W P ro c (St0 x) (YC I St0 (fun y => μ y < μ x) (St0 x).H.length Q)) : W P ro (.loop c) S Q:=by
 refine XW (α:={x // I x}) (fun x => St0 x.1) (fun x => μ x.1) ⟨x0,h0⟩ t hl (fun x => (body x.1 x.2).mono ?_)
 intro e S' q
 cases e with
 | normal => obtain ⟨y,h1,h2,h3,h4⟩:=q;exact ⟨⟨y,h1⟩,h2,h3,h4⟩
 | _ => exact q
theorem PN {k k' : Nat} (hk : k ≤ k') {e : List (Nat × AV)} (h : Dz k e = true) : Dz k' e = true:=by
 induction e with
 | nil => rfl
 | cons p r ih => simp only [Dz,Bool.and_eq_true] at h ⊢;exact ⟨AV.QL hk h.1,ih h.2⟩
theorem Lp.is.ok {r : Lp} {n : Nat} {env : List (Nat × AV)} {ps : Array Tmp} {asg body : Code} (h : r.is n env ps asg body) {k : Nat} (hk : Dz k env = true) : ∀ k',(decide (k ≤ k')) = true → Dz k' r.env = true ∧ Dz k' r.busy.env = true ∧ Dz k' r.out.env = true ∧ ∀ c,Dz k' (r.left c).env = true:=by
 intro k' hle
 have : Dz k' r.env = true:=by rw [h.2.2.2.1];exact PN (of_decide_eq_true hle) hk
 exact ⟨this,this,this,fun _ => this⟩
theorem Yn {id : Nat} (live : List Nat) {e : List (Nat × AV)} (l : List (Nat × Nat)) (hm : P.follows .mixedOrders = true) (hE : B8 P E) (hd : Fy ops (acc.reverse.map Rc.k) l = true) (hx : C0 E ops acc.reverse hp l) (he : Cx live en = some e) (hQ : Q .normal ⟨e,hp,nt⟩) : Wd P ro E ops S0 (W P ro (.region id ops true) S0 Q) acc [] ⟨en,hp,nt⟩:=by
 have:=BU he
 subst this
 exact Q2 (fun t x hx => (Ga hx).2) (XN (S:=⟨Cu live en,hp,nt⟩) l hm hE hd hx hQ)
theorem Yp (hE : B8 P E) {x x' : AV} {c : Bool} {e0 e : List (Nat × AV)} (hl : Cx (looks ops o) en = some e0) (hg : A9 ops e0 o = some true) (h : ∀ H,JA E e0 H o.op = some (c,x)) (hd : AJ o.dst nt = true) (he : Af o.dst x' en = some e)
  (hk : Wd P ro E ops S0 A (⟨e0,hp,x',.any⟩ :: acc) rest ⟨e,hp,nt⟩) (hc : c = true) (hx : x = x':=by first | (simp only [Ai,Ae,Nat.reduceAdd,Int.reduceAdd,Int.reduceSub,Int.reduceMul,Int.reduceToNat,nS];rfl) | rfl) : Wd P ro E ops S0 A acc (o :: rest) ⟨en,hp,nt⟩:=by
 subst hx
 rw [AO he] at hk
 have:=BU hl
 subst this
 exact XU hE hg h hd hc hk
theorem Ymv (hE : B8 P E) {x : AV} {e0 e : List (Nat × AV)} (hl : Cx (looks ops o) en = some e0) (hg : A9 ops e0 o = some true) (h : ∀ H,JA E e0 H o.op = some (true,x)) (hd : AJ o.dst nt = true) (he : Af o.dst x en = some e)
  (hk : Wd P ro E ops S0 A (⟨e0,hp,x,.any⟩ :: acc) rest ⟨e,hp,nt⟩) : Wd P ro E ops S0 A acc (o :: rest) ⟨en,hp,nt⟩:=by
 rw [AO he] at hk
 have:=BU hl
 subst this
 exact XU hE hg h hd rfl hk
theorem Yq {x x' : AV} {c : Bool} {e0 e : List (Nat × AV)} (hl : Cx (looks ops o) en = some e0) (hg : A9 ops e0 o = some true) (h : JA E e0 hp o.op = some (c,x)) (hd : AJ o.dst nt = true) (he : Af o.dst x' en = some e)
  (hk : Wd P ro E ops S0 A (⟨e0,hp,x',.quiet⟩ :: acc) rest ⟨e,hp,nt⟩) (hc : c = true) (hx : x = x':=by first | (simp only [Ai,Ae,Nat.reduceAdd,Int.reduceAdd,Int.reduceSub,Int.reduceMul,Int.reduceToNat,nS];rfl) | rfl) : Wd P ro E ops S0 A acc (o :: rest) ⟨en,hp,nt⟩:=by
 subst hx
 rw [AO he] at hk
 have:=BU hl
 subst this
 exact Wd_q hg h hd hc hk
theorem Ys {e0 e : List (Nat × AV)} (hl : Cx (looks ops o) en = some e0) (hg : A9 ops e0 o = some false) (hd : AJ o.dst nt = true) (he : Af o.dst (.d (.tup [])) en = some e)
  (hk : Wd P ro E ops S0 A (⟨e0,hp,.d (.tup []),.skip⟩ :: acc) rest ⟨e,hp,nt⟩) : Wd P ro E ops S0 A acc (o :: rest) ⟨en,hp,nt⟩:=by
 rw [AO he] at hk
 have:=BU hl
 subst this
 exact WG hg hd hk
theorem YF {g : Nat} {ds : List D} {q q' : D} {e0 e : List (Nat × AV)} (hF : Go.Gar.Fn P g ds q) (hl : Cx (looks ops o) en = some e0) (hg : A9 ops e0 o = some true) (h : BA e0 o.op = some (g,ds.map .d)) (hd : AJ o.dst nt = true) (he : Af o.dst (.d q') en = some e)
  (hk : Wd P ro E ops S0 A (⟨e0,hp,.d q',.any⟩ :: acc) rest ⟨e,hp,nt⟩) (hr : q = q':=by first | (simp only [Ai,Ae,Nat.reduceAdd,Int.reduceAdd,Int.reduceSub,Int.reduceMul,Int.reduceToNat,nS];rfl) | rfl) : Wd P ro E ops S0 A acc (o :: rest) ⟨en,hp,nt⟩:=by
 subst hr
 rw [AO he] at hk
 have:=BU hl
 subst this
 exact Yf hF hg h hd hk
theorem Xu {g : Nat} {xs : List AV} {ds : List D} {q q' : D} {e0 e : List (Nat × AV)} (hF : Go.Gar.Fn P g ds q) (hl : Cx (looks ops o) en = some e0) (hg : A9 ops e0 o = some true) (h : BA e0 o.op = some (g,xs)) (hd : AJ o.dst nt = true) (he : Af o.dst (.d q') en = some e) (hx : IQ xs ds)
  (hk : Wd P ro E ops S0 A (⟨e0,hp,.d q',.any⟩ :: acc) rest ⟨e,hp,nt⟩) (hr : q = q':=by first | (simp only [Ai,Ae,Nat.reduceAdd,Int.reduceAdd,Int.reduceSub,Int.reduceMul,Int.reduceToNat,nS];rfl) | rfl) : Wd P ro E ops S0 A acc (o :: rest) ⟨en,hp,nt⟩:=by
 subst hr
 rw [AO he] at hk
 have:=BU hl
 subst this
 exact Yo hg h hd hF hx hk
theorem YD {g : Nat} {args : List AV} {H : List A7} {r r' : AV} {H' H'' : List A7} {e0 e : List (Nat × AV)} (ids : List Nat) (hF : BK P g args H r H') (hl : Cx (looks ops o) en = some e0) (hg : A9 ops e0 o = some true) (h : BA e0 o.op = some (g,AV.C7 (rn ids hp.length) args)) (hd : AJ o.dst nt = true)
  (hm : Bw (rn ids hp.length) hp ids H) (hn : nodupB ids = true) (ho : AT H.length H = true) (ha : AV.oks H.length args = true) (he : Af o.dst r' en = some e)
  (hk : Wd P ro E ops S0 A (⟨e0,hp,r',.eff⟩ :: acc) rest ⟨e,H'',nt⟩) (hr : r.ren (rn ids hp.length) = r':=by first | (simp only [Ai,Ae,Nat.reduceAdd,Int.reduceAdd,Int.reduceSub,Int.reduceMul,Int.reduceToNat,nS];rfl) | rfl) (hH : J5 ids hp (E4 (rn ids hp.length) H') = H'':=by first | (simp only [Ae,Nat.reduceAdd];rfl) | rfl) : Wd P ro E ops S0 A acc (o :: rest) ⟨en,hp,nt⟩:=by
 subst hr;subst hH
 rw [AO he] at hk
 have:=BU hl
 subst this
 exact Wd_D ids hF hg h hd hm hn ho ha hk
theorem Ya (hE : B8 P E) {f : Nat → AV} {b : A7} {c : Bool} {x' : AV} {e0 e : List (Nat × AV)} {H' : List A7} (hl : Cx (looks ops o) en = some e0) (hg : A9 ops e0 o = some true) (h : Uw E e0 hp o.op = some (c,f,b)) (hd : AJ o.dst nt = true) (he : Af o.dst x' en = some e) (hH : Dv hp b = some H')
  (hk : Wd P ro E ops S0 A (⟨e0,hp,x',.eff⟩ :: acc) rest ⟨e,H',nt⟩) (hc : c = true) (hx : f hp.length = x':=by first | (simp only [Ai,Ae,Nat.reduceAdd,Int.reduceAdd,Int.reduceSub,Int.reduceMul,Int.reduceToNat,nS];rfl) | rfl) : Wd P ro E ops S0 A acc (o :: rest) ⟨en,hp,nt⟩:=by
 subst hx
 rw [AO he,ER hH] at hk
 have:=BU hl
 subst this
 exact Wd_a hE hg h hd hc hk
theorem Yao (hE : B8 P E) {q : D} {c : Bool} {x' : AV} {e0 e : List (Nat × AV)} {H' : List A7} (hl : Cx (looks ops o) en = some e0) (hg : A9 ops e0 o = some true) (h : K3 E e0 hp o.op = some (c,q)) (hd : AJ o.dst nt = true) (he : Af o.dst x' en = some e) (hH : Dv hp (.a q) = some H')
  (hk : Wd P ro E ops S0 A (⟨e0,hp,x',.eff⟩ :: acc) rest ⟨e,H',nt⟩) (hc : c = true) (hx : .sl hp.length (A6 q) (Av q) = x':=by first | (simp only [Ai,Ae,Nat.reduceAdd,Int.reduceAdd,Int.reduceSub,Int.reduceMul,Int.reduceToNat,nS];rfl) | rfl) : Wd P ro E ops S0 A acc (o :: rest) ⟨en,hp,nt⟩:=by
 subst hx
 rw [AO he,ER hH] at hk
 have:=BU hl
 subst this
 exact YR hE hg h hd hc hk
theorem YaoL (L : List Nat) (hE : B8 P E) {q : D} {c : Bool} {x' : AV} {e0 e : List (Nat × AV)} {H' : List A7} (_ : Iy o.dst L = true) (hl : Cx (looks ops o) en = some e0) (hg : A9 ops e0 o = some true) (h : K3 E e0 hp o.op = some (c,q)) (hd : AJ o.dst nt = true) (he : Af o.dst x' en = some e) (hH : Dv hp (.a q) = some H')
  (hk : Wd P ro E ops S0 A (⟨e0,hp,x',.eff⟩ :: acc) rest ⟨e,H',nt⟩) (hc : c = true) (hx : .sl hp.length (A6 q) (Av q) = x':=by first | (simp only [Ai,Ae,Nat.reduceAdd,Int.reduceAdd,Int.reduceSub,Int.reduceMul,Int.reduceToNat,nS];rfl) | rfl) : Wd P ro E ops S0 A acc (o :: rest) ⟨en,hp,nt⟩:=Yao hE hl hg h hd he hH hk hc hx
theorem Yw (hE : B8 P E) {x x' : AV} {H' : List A7} {c : Bool} {e0 e : List (Nat × AV)} (hl : Cx (looks ops o) en = some e0) (hg : A9 ops e0 o = some true) (h : WQ E e0 hp o.op = some (c,x,H')) (hd : AJ o.dst nt = true) (he : Af o.dst x' en = some e)
  (hk : Wd P ro E ops S0 A (⟨e0,hp,x',.eff⟩ :: acc) rest ⟨e,H',nt⟩) (hc : c = true) (hx : x = x':=by first | (simp only [Ai,Ae,Nat.reduceAdd,Int.reduceAdd,Int.reduceSub,Int.reduceMul,Int.reduceToNat,nS];rfl) | rfl) : Wd P ro E ops S0 A acc (o :: rest) ⟨en,hp,nt⟩:=by
 subst hx
 rw [AO he] at hk
 have:=BU hl
 subst this
 exact Wd_w hE hg h hd hc hk
theorem WK (hE : B8 P E) {es : List (List D)} {n : Int} {b : Bool} {e : List D} {e0 e' : List (Nat × AV)} (hl : Cx (looks ops o) en = some e0) (hg : A9 ops e0 o = some true) (h : ∀ H,JA E e0 H o.op = some (M3 n es.length && b,.dp (es.getD n.toNat []))) (hd : AJ o.dst nt = true) (he' : Af o.dst (.dp e) en = some e')
  (hb : b = true) (hn : 0 ≤ n) (he : es[n.toNat]? = some e)
  (hk : Wd P ro E ops S0 A (⟨e0,hp,.dp e,.any⟩ :: acc) rest ⟨e',hp,nt⟩) : Wd P ro E ops S0 A acc (o :: rest) ⟨en,hp,nt⟩:=by
 rw [AO he'] at hk
 have:=BU hl
 subst this
 exact Yh hE hg h hd hb hn he hk
end
theorem A0.trans' {A B C : St} (h : A0 A B) (k : A0 B C) (hlt : C.H.length ≤ B.H.length) : A0 A C:=h.trans (fun _ => trivial) k hlt
theorem A0.Sx {S : St} (t id : Nat) {x : D} {n sz : Nat} (hid : S.H[id]? = some (.a x)) (ht : get S.env t = some (.sl id n sz)) (hn : n = A6 x) : A0 S ⟨(t,.d x) :: S.env,E5 id x 0 S.H,S.n⟩:=by
 intro ro N G a w r _
 have hid' : G.H[id]? = some (.a x):=by rw [r.heap];exact hid
 obtain ⟨h1,h2⟩:=Ko r.rel hid'
 refine ⟨G.freeze w id x,⟨by show E5 id x 0 G.H = _;rw [r.heap],h1,r.size,fun u y hy => ?_,r.marks.PZ h2,fun i hi => ?_⟩,h2⟩
 ·simp only [get] at hy
  split at hy
  ·rename_i hb
   cases hy
   have:=Nat.eq_of_beq_eq_true hb
   subst this
   obtain ⟨v,hv,hrv⟩:=r.env t _ ht
   refine ⟨v,hv,?_⟩
   have:=hrv.EV r.rel hid'
   simpa [AV.EV,hn] using this
  ·obtain ⟨v,hv,hrv⟩:=r.env u y hy
   exact ⟨v,hv,hrv.mono (As r.rel hid')⟩
 ·obtain ⟨q,l,M,q1,q2⟩:=r.round i hi
  refine ⟨q,l,M,?_,q2⟩
  have:=Gj (id:=id) (x:=x) (i:=0) q1
  rw [Nat.zero_add,if_neg (fun e => by subst e;rw [hid] at q1;cases q1)] at this
  exact this
theorem J9.e0 {P : Program} {f : FuncId} {rest : List AV} {H : List A7} {R : AV → List A7 → Prop} (q : D) (hs : A5 q = true) (hl : A6 q = 0) (ho : A4 q) (h : J9 P f (.sl H.length 0 (Av q) :: rest) (H ++ [.a q]) R) : J9 P f (.e0 :: rest) H R:=by
 refine ⟨h.1,fun G w vs hG hr hargs => ?_⟩
 obtain ⟨h1,h2⟩:=MS hr hs hl ho
 have hfr : BZ G w (G.nil q) w:=(BZ.refl G w).ghost h2 (by show G.H.length ≤ (G.H ++ [A7.a q]).length;simp)
 have hGH : (G.nil q).H = H ++ [.a q]:=by show G.H ++ [A7.a q] = _;rw [hG]
 have ha : Aj (G.nil q) (.sl H.length 0 (Av q) :: rest) vs.toList:=by
  simp only [Aj] at hargs ⊢
  obtain ⟨v,r,hv,⟨a,rfl⟩,hr⟩:=hargs
  refine ⟨_,r,hv,?_,hr.mono (JQ G q)⟩
  simp only [RV]
  exact ⟨rfl,.a q,by rw [hGH];simp,rfl,by omega,fun _ => .inl ⟨trivial,a,rfl⟩⟩
 refine (h.2 (G.nil q) w vs hGH h1 ha).mono ?_
 rintro e w' ⟨v,r,G',rfl,hR,hv,hr',hf⟩
 exact ⟨v,r,G',rfl,hR,hv,hr',hfr.trans hf⟩
end Go.Gar
namespace Go.Gar
inductive Sh where
 | int (k : IntKind)
 | bool
 | str
 | by
 | is
 | sl (l : List Sh)
mutual
def LF : List Sh → Nat
 | [] => 0
 | _ :: l => LF l + 1
end
def T3 : Nat → List Sh → List Sh
 | 0,_ => []
 | n + 1,l => l ++ T3 n l
mutual
def Uy (E : Nat → Option Ap) : Nat → Nat → Option (List Sh)
 | 0,_ => none
 | n + 1,t => match E t with
  | none => none
  | some y => match y.k with
   | .int k => some [.int k]
   | .bool => some [.bool]
   | .str => some [.str]
   | .sl e => match E e with
    | none => none
    | some z => match z.k with
     | .int .u8 => match Nat.beq z.size 1 with
      | true => some [.by]
      | false => none
     | .int .i64 => match Nat.beq z.size 1 with
      | true => some [.is]
      | false => none
     | _ => match Uy E n e with
      | some l => match Nat.beq (LF l) z.size,Nat.beq z.size 0 with
       | true,false => some [.sl l]
       | _,_ => none
      | none => none
   | .st fs => match Y1 E n 0 fs with
    | some l => match Nat.beq (LF l) y.size with
     | true => some l
     | false => none
    | none => none
   | .arr k e => match E e,Uy E n e with
    | some z,some l => match Nat.beq (LF l) z.size,Nat.beq (k * z.size) y.size with
     | true,true => some (T3 k l)
     | _,_ => none
    | _,_ => none
   | _ => none
def Y1 (E : Nat → Option Ap) : Nat → Nat → List (Nat × Nat) → Option (List Sh)
 | _,_,[] => some []
 | 0,_,_ :: _ => none
 | n + 1,o,(off,ft) :: r => match Nat.beq o off,E ft,Uy E n ft with
  | true,some z,some l => match Nat.beq (LF l) z.size with
   | true => match Y1 E n (o + z.size) r with
    | some l' => some (l ++ l')
    | none => none
   | false => none
  | _,_,_ => none
end
theorem F8 : ∀ l : List Sh,LF l = l.length
 | [] => rfl
 | _ :: l => by simp [LF,F8 l]
def Dt (w : World) : Mem:=fun b k => w.cell? ⟨b,k,none⟩
theorem MQ {m : Mem} : ∀ {a b : List D} {x y : List Value},CF m a x → CF m b y → CF m (a ++ b) (x ++ y)
 | [],b,x,y,h,k => by simp only [CF] at h;subst h;exact k
 | s :: a,b,x,y,h,k => by
  simp only [CF] at h
  obtain ⟨d,r,rfl,h1,h2⟩:=h
  simp only [List.cons_append,CF]
  exact ⟨d,r ++ y,rfl,h1,MQ h2 k⟩
theorem Ts {n : Int} (h : (Lit.int .u8 n).wf = true) : n = ((UInt8.ofNat n.toNat).toNat : Int):=by
 simp [Lit.wf,IntKind.min,IntKind.max,IntKind.signed,IntKind.bits] at h
 rw [UInt8.toNat_ofNat']
 omega
section
variable {P : Program} {E : Nat → Option Ap} {H : Type} {enc : TypeId × Value → H} {w : World} {base : Nat} {sp : Nat → Bool} {held : Bool}
theorem EO {t : Nat} {y : Ap} (h : DL P t = some y) : P.cellsOf t = y.size:=by
 obtain ⟨i,d,z,h1,_,_,_,h5,_⟩:=BE h
 simp [Program.cellsOf,h1,h5]
theorem HR {t : Nat} {y : Ap} (h : DL P t = some y) : ∃ d,P.underlying t = some d ∧ I9 d = y.k:=by
 obtain ⟨i,d,z,_,h2,_,h4,_⟩:=BE h
 exact ⟨d,h2,h4.symm⟩
theorem OR {α : Type} {g : Nat → Option α} : ∀ {n s : Nat} {l : List α},((List.range' s n).mapM g) = some l → l.length = n ∧ ∀ i,i < n → l[i]? = g (s + i)
 | 0,s,l,h => by simp at h;subst h;simp
 | n + 1,s,l,h => by
  rw [List.range'_succ,List.mapM_cons] at h
  simp only [Option.bind_eq_bind,Option.pure_def,Option.bind_eq_some_iff,Option.some.injEq] at h
  obtain ⟨a,ha,r,hr,rfl⟩:=h
  obtain ⟨h1,h2⟩:=OR hr
  refine ⟨by simp [h1],fun i hi => ?_⟩
  cases i with
  | zero => simp [ha]
  | succ i =>
   simp only [List.getElem?_cons_succ]
   rw [h2 i (by omega),show s + 1 + i = s + (i + 1) by omega]
theorem JY {a : Addr} {n : Nat} {cs : List Value} (h : w.cells? base a n = some cs) : cs.length = n ∧ ∀ i,i < n → cs[i]? = w.cell? (a.add i):=by
 unfold World.cells? at h
 split at h
 ·rw [List.range_eq_range'] at h
  obtain ⟨h1,h2⟩:=OR h
  exact ⟨h1,fun i hi => by rw [h2 i hi,Nat.zero_add]⟩
 ·cases h
theorem cell_spot {a : Addr} {v : Value} (h : w.cell? a = some v) : a.spot = none:=by
 unfold World.cell? at h
 split at h
 ·split at h
  ·cases h
  ·rename_i hs;cases hsp : a.spot with
   | none => rfl
   | some _ => rw [hsp] at hs;simp at hs
 ·cases h
theorem OY (b off k : Nat) : (Addr.mk b off none).add k = ⟨b,off + k,none⟩:=addr_add b off k
end
end Go.Gar
namespace Go.Gar
open Go.ChangeShapes Go.WideShapes Go.ChangeAt Go.RowKit
def W6 (E : Nat → Option Ap) (t : Nat) : Bool :=
 match E t,Uy E 40 t with
 | some y,some shs => match y.agg,y.k,shs with
  | true,.st _,_ => true
  | true,.arr _ _,_ => true
  | false,.int _,[_] => true
  | false,.bool,[_] => true
  | false,.str,[_] => true
  | false,.sl _,[_] => true
  | _,_,_ => false
 | _,_ => false
section
variable {P : Program} {E : Nat → Option Ap} {H : Type} {enc : TypeId × Value → H} {W : World} {base : Nat} {sp : Nat → Bool} {held : Bool}
theorem Gm (hl : laidOutB P = true) {W' : World} (hb : Below W.heap.size W W') : ∀ {ts : List Nat} {vs : List Value} {ds : List (DataW H)} {ps : List MemPlace},(ts.all fun t => P.readableRec t && decide (t < P.types.size)) = true → DataW.TrodAll enc P W 0 (fun _ => true) true ts vs ds ps → (∀ x ∈ ps,x.block < W.heap.size) →
  DataW.TrodAll enc P W' 0 (fun b => decide (b < W.heap.size)) true ts vs ds ps
 | [],[],[],_,_,h,_ => h
 | t :: ts,v :: vs,d :: ds,ps,hr,h,hlt => by
  simp only [List.all_cons,Bool.and_eq_true,decide_eq_true_eq] at hr
  obtain ⟨p,q,h1,h2,rfl⟩:=h
  exact ⟨p,q,Below.trod hl hr.1.1 hr.1.2 h1 hb (fun x hx => hlt x (by simp [hx])),Gm hl hb (by simpa using hr.2) h2 (fun x hx => hlt x (by simp [hx])),rfl⟩
 | [],[],_ :: _,_,_,h,_ => h.elim
 | [],_ :: _,_,_,_,h,_ => by cases h
 | _ :: _,[],_,_,_,h,_ => by cases h
 | _ :: _,_ :: _,[],_,_,h,_ => by cases h
theorem Pw {W W' : World} (ho : W'.os = W.os) (hout : W'.output = W.output) (h : ∀ b,b < W.heap.size → W'.heap[b]? = W.heap[b]?) (may : MemPlace → Prop) : W.keptBut W' may:=by
 refine ⟨ho,hout,fun i hi => ?_⟩
 rw [h i hi]
 exact (World.keptBut_refl W may).2.2 i hi
end
end Go.Gar
