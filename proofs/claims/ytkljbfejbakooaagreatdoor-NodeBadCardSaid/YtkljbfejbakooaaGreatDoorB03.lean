/- Part 3 of a proof, put together by a program. Conditions: none beyond those that a theorem states. -/
import Derived.Test.YtkljbfejbakooaaGreatDoorB02
import Derived.ProofKit
import Derived.OpenShut
set_option linter.unusedSimpArgs false
set_option linter.unusedVariables false
set_option linter.unnecessarySimpa false
set_option maxHeartbeats 40000000
namespace Go.Gar
mutual
def AV.Ef (id : Nat) (x : D) : AV → AV
 | .sl i n sz => match Nat.beq i id with
  | true => if n = A9 x then .d x else .sl i n sz
  | false => .sl i n sz
 | .ag cs => .ag (AV.Jm id x cs)
 | .tup cs => .tup (AV.Jm id x cs)
 | .fn f a b => .fn f (AV.Jm id x a) (AV.Jm id x b)
 | v => v
def AV.Jm (id : Nat) (x : D) : List AV → List AV
 | [] => []
 | v :: r => v.Ef id x :: AV.Jm id x r
end
theorem J0 (id : Nat) (x : D) : ∀ l : List AV,AV.Jm id x l = l.map (AV.Ef id x)
 | [] => rfl
 | v :: r => by simp [AV.Jm,J0 id x r]
def Z4 (id : Nat) (x : D) : List (D × AV) → List (D × AV)
 | [] => []
 | p :: r => (p.1,p.2.Ef id x) :: Z4 id x r
theorem Lf (id : Nat) (x : D) : ∀ l : List (D × AV),Z4 id x l = l.map fun p => (p.1,p.2.Ef id x)
 | [] => rfl
 | v :: r => by simp [Z4,Lf id x r]
def A2.Ef (id : Nat) (x : D) : A2 → A2
 | .c cs => .c (AV.Jm id x cs)
 | .m es => .m (Z4 id x es)
 | b => b
def MW (id : Nat) (x : D) : List (Nat × AV) → List (Nat × AV)
 | [] => []
 | p :: r => (p.1,p.2.Ef id x) :: MW id x r
def Dg (id : Nat) (x : D) : Nat → List A2 → List A2
 | _,[] => []
 | i,b :: r => (match Nat.beq i id with | true => .gone | false => b.Ef id x) :: Dg id x (i + 1) r
theorem Pe {id : Nat} {x : D} : ∀ {e : List (Nat × AV)} {t : Nat} {y : AV},get (MW id x e) t = some y → ∃ z,get e t = some z ∧ y = z.Ef id x
 | [],t,y,h => by simp [MW,get] at h
 | p :: r,t,y,h => by
  obtain ⟨k,v⟩:=p;simp only [MW,get] at h ⊢;split at h
  ·rename_i hb;rw [if_pos hb];cases h;exact ⟨v,rfl,rfl⟩
  ·rename_i hb;rw [if_neg hb];exact Pe h
theorem H5 {id : Nat} {x : D} : ∀ {l : List A2} {i j : Nat} {b : A2},(Dg id x i l)[j]? = some b → ∃ b0,l[j]? = some b0 ∧ ((i + j = id ∧ b = .gone) ∨ (i + j ≠ id ∧ b = b0.Ef id x))
 | [],i,j,b,h => by simp [Dg] at h
 | c :: r,i,0,b,h => by
  simp only [Dg,List.getElem?_cons_zero,Option.some.injEq] at h;refine ⟨c,by simp,?_⟩
  cases hb : Nat.beq i id with
  | true => rw [hb] at h;exact .inl ⟨by have:=Nat.eq_of_beq_eq_true hb;omega,h.symm⟩
  | false => rw [hb] at h;exact .inr ⟨fun e => by rw [Nat.add_zero] at e;subst e;simp at hb,h.symm⟩
 | c :: r,i,j + 1,b,h => by
  simp only [Dg,List.getElem?_cons_succ] at h;obtain ⟨b0,h1,h2⟩:=H5 h;refine ⟨b0,by simpa using h1,?_⟩;rw [show i + (j + 1) = i + 1 + j by omega];exact h2
theorem Hd {id : Nat} {x : D} : ∀ {l : List A2} {i j : Nat} {b0 : A2},l[j]? = some b0 → (Dg id x i l)[j]? = some (if i + j = id then .gone else b0.Ef id x)
 | [],i,j,b,h => by simp at h
 | c :: r,i,0,b,h => by
  simp only [List.getElem?_cons_zero,Option.some.injEq] at h;subst h;simp only [Dg,List.getElem?_cons_zero,Nat.add_zero]
  cases hb : Nat.beq i id with
  | true => have:=Nat.eq_of_beq_eq_true hb;subst this;simp
  | false => rw [if_neg (fun e => by subst e;simp at hb)]
 | c :: r,i,j + 1,b,h => by
  simp only [Dg,List.getElem?_cons_succ] at h ⊢;rw [show i + (j + 1) = i + 1 + j by omega];exact Hd h
theorem H6 {id : Nat} {x : D} : ∀ {l : List A2} {i : Nat},(Dg id x i l).length = l.length
 | [],i => by simp [Dg]
 | c :: r,i => by simp [Dg,H6 (l:=r)]
def Gh.freeze (G : Gh) (w : World) (id : Nat) (x : D) : Gh where
 ρ:=G.ρ
 H:=Dg id x 0 G.H
 m:=fun b k => match G.ρ id with
  | some p => if b = p.1 then w.cell? ⟨b,k,none⟩ else G.m b k
  | none => G.m b k
variable {G : Gh} {w : World} {id : Nat} {x : D} {b : A2}
theorem KI (hid : G.H[id]? = some (.a x)) {j : Nat} (hb : G.H[j]? = some b) : ∃ b',(G.freeze w id x).H[j]? = some b' ∧ AC G (G.freeze w id x) j b b':=by
 refine ⟨_,Hd hb,?_⟩;rw [Nat.zero_add]
 by_cases hj : j = id
 ·subst hj;rw [hid] at hb;cases hb;simp [AC]
 ·rw [if_neg hj];cases b <;> simp [AC,A2.Ef,Gh.freeze,J0]
theorem Ao (hr : AN G w) (hid : G.H[id]? = some (.a x)) : Gs G (G.freeze w id x):=by
 refine ⟨fun j b hb => KI hid hb,fun b k v hv => ?_⟩;show (match G.ρ id with | some p => if b = p.1 then w.cell? ⟨b,k,none⟩ else G.m b k | none => G.m b k) = some v;split
 ·split
  ·exact hr.mem b k v hv
  ·exact hv
 ·exact hv
mutual
theorem RV.Ef {G : Gh} {w : World} (hr : AN G w) {id : Nat} {x : D} (hid : G.H[id]? = some (.a x)) : ∀ {y : AV} {v : Value},RV G y v → RV (G.freeze w id x) (y.Ef id x) v
 | .sl i n sz,v,r => by
  have hm:=RV.mono (Ao hr hid) r;simp only [AV.Ef];split
  ·rename_i hb;have hi:=Nat.eq_of_beq_eq_true hb;subst hi;split
   ·rename_i hn;simp only [RV] at r ⊢;obtain ⟨_,blk,hblk,hp⟩:=r;rw [hid] at hblk;cases hblk;obtain ⟨g1,g2,g3⟩:=hp;obtain ⟨k1,k2,k3⟩:=hr.blk i _ hid;rcases g3 hn with ⟨g4,a,rfl⟩ | ⟨b,N,cap,g4,rfl,g6,_⟩
    ·exact (Cd k1).2 ⟨a,0,by rw [← hn,g4],by omega,k2,.inl (by omega)⟩
    ·rcases k3 with ⟨k3,k4⟩ | ⟨b',N',vs,T,k4,k5,k6,k7⟩
     ·exact (Cd k1).2 ⟨_,cap,by rw [← hn],by omega,k2,.inl k3⟩
     ·rw [g4] at k4;cases k4;refine (Cd k1).2 ⟨_,cap,by rw [← hn],by omega,k2,.inr ⟨b,0,rfl,fun k d hd => ?_⟩⟩;obtain ⟨u,hu,h1c,hru⟩:=k7 k d hd;refine ⟨u,?_,h1c,hru.mono (Ao hr hid).mem⟩;show (match G.ρ i with | some p => if b = p.1 then w.cell? ⟨b,0 + k,none⟩ else G.m b (0 + k) | none => G.m b (0 + k)) = some u;rw [g4];simp only [if_true,Nat.zero_add];rw [Ce k5];exact hu
   ·exact hm
  ·exact hm
 | .ag cs,v,r => by
  simp only [AV.Ef,RV] at r ⊢;obtain ⟨vs,hv,h⟩:=r;exact ⟨vs,hv,AS.Ef hr hid h⟩
 | .tup cs,v,r => by
  simp only [AV.Ef,RV] at r ⊢;obtain ⟨vs,hv,h⟩:=r;exact ⟨vs,hv,AS.Ef hr hid h⟩
 | .fn f a b,v,r => by
  simp only [AV.Ef,RV] at r ⊢;obtain ⟨p,q,hv,h1,h2⟩:=r;exact ⟨p,q,hv,AS.Ef hr hid h1,AS.Ef hr hid h2⟩
 | .d y,v,r => by have:=RV.mono (Ao hr hid) r;simpa only [AV.Ef] using this
 | .u,v,r => by have:=RV.mono (Ao hr hid) r;simpa only [AV.Ef] using this
 | .e0,v,r => by have:=RV.mono (Ao hr hid) r;simpa only [AV.Ef] using this
 | .ptr _ _ _,v,r => by have:=RV.mono (Ao hr hid) r;simpa only [AV.Ef] using this
 | .bs _ _ _ _ _,v,r => by have:=RV.mono (Ao hr hid) r;simpa only [AV.Ef] using this
 | .ep _ _ _ _ _,v,r => by have:=RV.mono (Ao hr hid) r;simpa only [AV.Ef] using this
 | .yl _,v,r => by have:=RV.mono (Ao hr hid) r;simpa only [AV.Ef] using this
 | .dp _,v,r => by have:=RV.mono (Ao hr hid) r;simpa only [AV.Ef] using this
 | .mp _,v,r => by have:=RV.mono (Ao hr hid) r;simpa only [AV.Ef] using this
theorem AS.Ef {G : Gh} {w : World} (hr : AN G w) {id : Nat} {x : D} (hid : G.H[id]? = some (.a x)) : ∀ {ys : List AV} {vs : List Value},AS G ys vs → AS (G.freeze w id x) (AV.Jm id x ys) vs
 | [],vs,r => by simpa [AV.Jm,AS] using r
 | y :: ys,vs,r => by
  simp only [AV.Jm,AS] at r ⊢;obtain ⟨v,q,hv,h1,h2⟩:=r;exact ⟨v,q,hv,RV.Ef hr hid h1,AS.Ef hr hid h2⟩
end
theorem BR.Ef (hr : AN G w) (hid : G.H[id]? = some (.a x)) {j : Nat} : ∀ {b : A2},BR G w j b → BR (G.freeze w id x) w j (b.Ef id x)
 | .gone,_ => trivial
 | .c cs,h => by
  obtain ⟨b,N,vs,T,h1,h2,h3,h4,h6⟩:=h;refine ⟨b,N,vs,T,h1,h2,h3,by rw [J0];simpa using h4,fun k y hy => ?_⟩;rw [J0,List.getElem?_map,Option.map_eq_some_iff] at hy;obtain ⟨z,hz,rfl⟩:=hy;obtain ⟨v,hv,hrv⟩:=h6 k z hz;exact ⟨v,hv,hrv.Ef hr hid⟩
 | .a y,h => by
  obtain ⟨h1,h2,h3⟩:=h;refine ⟨h1,h2,h3.imp_right ?_⟩;rintro ⟨b,N,vs,T,g1,g2,g3,g4⟩;refine ⟨b,N,vs,T,g1,g2,g3,fun k d hd => ?_⟩;obtain ⟨v,hv,h1c,hrd⟩:=g4 k d hd;exact ⟨v,hv,h1c,hrd.mono (Ao hr hid).mem⟩
 | .m es,h => by
  obtain ⟨b,N,ms,cl,h1,h2,h3,h4⟩:=h;refine ⟨b,N,ms,cl,h1,h2,by rw [Lf];simpa using h3,fun k q hq => ?_⟩;rw [Lf,List.getElem?_map,Option.map_eq_some_iff] at hq;obtain ⟨z,hz,rfl⟩:=hq;obtain ⟨e,he,hd,hrv⟩:=h4 k z hz;exact ⟨e,he,hd.mono (Ao hr hid).mem,hrv.Ef hr hid⟩
 | .lp r,h => by
  obtain ⟨l,N,df,tmps,h1,h2,h3,h4⟩:=h;exact ⟨l,N,df,tmps,h1,h2,h3,h4.mono (Ao hr hid)⟩
theorem M4 (hr : AN G w) (hid : G.H[id]? = some (.a x)) {b : Nat} (h : Own (G.freeze w id x) b) : Own G b ∧ ∀ N,G.ρ id ≠ some (b,N):=by
 obtain ⟨j,N,blk,hb,hl,hρ⟩:=h;obtain ⟨b0,h1,h2⟩:=H5 hb;rw [Nat.zero_add] at h2;rcases h2 with ⟨_,rfl⟩ | ⟨h2,rfl⟩
 ·simp [A2.live] at hl
 ·have hl0 : b0.live = true:=by cases b0 <;> simp_all [A2.live,A2.Ef]
  refine ⟨⟨j,N,b0,h1,hl0,hρ⟩,fun N' hN' => h2 ?_⟩;exact hr.inj j id b0 _ b N N' h1 hid hl0 rfl hρ hN'
theorem IL (hr : AN G w) (hid : G.H[id]? = some (.a x)) : AN (G.freeze w id x) w ∧ SQ G (G.freeze w id x):=by
 have hmem : ∀ b k v,(G.freeze w id x).m b k = some v → G.m b k = some v ∨ (∃ N,G.ρ id = some (b,N) ∧ w.cell? ⟨b,k,none⟩ = some v):=by
  intro b k v hv;change (match G.ρ id with | some p => if b = p.1 then w.cell? ⟨b,k,none⟩ else G.m b k | none => G.m b k) = some v at hv;split at hv
  ·rename_i p hp;split at hv
   ·rename_i he;subst he;exact .inr ⟨p.2,hp,hv⟩
   ·exact .inl hv
  ·exact .inl hv
 refine ⟨⟨fun j b hb => ?_,fun i j p q b N N' hp hq lp lq r1 r2 => ?_,fun b k v hv => ?_,fun b hb k => ?_,fun b k v hv => (Ao hr hid).mem b k v (hr.st b k v hv)⟩,⟨fun j b b' hb hb' => ?_,(Ao hr hid).mem,fun b hb => (M4 hr hid hb).1,fun b k v hv => ?_⟩⟩
 ·obtain ⟨b0,h1,h2⟩:=H5 hb;rcases h2 with ⟨_,rfl⟩ | ⟨_,rfl⟩
  ·trivial
  ·exact (hr.blk j b0 h1).Ef hr hid
 ·obtain ⟨p0,h1,h2⟩:=H5 hp;obtain ⟨q0,h3,h4⟩:=H5 hq
  have e1 : p0.live = true:=by
   rcases h2 with ⟨_,rfl⟩ | ⟨_,rfl⟩
   ·simp [A2.live] at lp
   ·cases p0 <;> simp_all [A2.live,A2.Ef]
  have e2 : q0.live = true:=by
   rcases h4 with ⟨_,rfl⟩ | ⟨_,rfl⟩
   ·simp [A2.live] at lq
   ·cases q0 <;> simp_all [A2.live,A2.Ef]
  exact hr.inj i j p0 q0 b N N' h1 h3 e1 e2 r1 r2
 ·rcases hmem b k v hv with h | ⟨_,_,h⟩
  ·exact hr.mem b k v h
  ·exact h
 ·obtain ⟨h1,h2⟩:=M4 hr hid hb
  cases hm : (G.freeze w id x).m b k with
  | none => rfl
  | some v =>
   rcases hmem b k v hm with h | ⟨N,h,_⟩
   ·rw [hr.sep b h1 k] at h;cases h
   ·exact absurd h (h2 N)
 ·obtain ⟨c,hc,hs⟩:=KI (w:=w) hid hb;rw [hb'] at hc;cases hc;exact hs
 ·rcases hmem b k v hv with h | ⟨N,h,_⟩
  ·exact .inl h
  ·exact .inr ⟨id,N,_,hid,rfl,h⟩
theorem Marks.SE {N : NB} {G' : Gh} {a : Act} (h : Marks N G a w) (t : SQ G G') : Marks N G' a w:=by
 obtain ⟨h0,ms,h1,h2,h3⟩:=h;exact ⟨h0,ms,h1,h2,fun q hq => ⟨(h3 q hq).1,(h3 q hq).2.1,fun ho' => (h3 q hq).2.2 (t.own q ho')⟩⟩
variable {S : St}
theorem A1.freeze (id : Nat) (hid : S.H[id]? = some (.a x)) : A1 S ⟨MW id x S.env,Dg id x 0 S.H,S.n⟩:=by
 intro ro N G a w r _;have hid' : G.H[id]? = some (.a x):=by rw [r.heap];exact hid
 obtain ⟨h1,h2⟩:=IL r.rel hid';refine ⟨G.freeze w id x,⟨by show Dg id x 0 G.H = _;rw [r.heap],h1,r.size,fun t y hy => ?_,r.marks.SE h2,fun i hi => ?_⟩,h2⟩
 ·obtain ⟨z,hz,rfl⟩:=Pe hy;obtain ⟨v,hv,hrv⟩:=r.env t z hz;exact ⟨v,hv,hrv.Ef r.rel hid'⟩
 ·obtain ⟨q,l,M,q1,q2⟩:=r.round i hi;refine ⟨q,l,M,?_,q2⟩;have:=Hd (id:=id) (x:=x) (i:=0) q1;rw [Nat.zero_add,if_neg (fun e => by subst e;rw [hid] at q1;cases q1)] at this;exact this
theorem A1.trans {A B C : St} (h : A1 A B) (hl : B.H.length ≤ A.H.length → True) (k : A1 B C) (hlt : C.H.length ≤ B.H.length) : A1 A C:=by
 intro ro N G a w r hc;obtain ⟨G1,r1,t1⟩:=h ro N G a w r (fun id hid => Nat.lt_of_lt_of_le (hc id hid) hlt);obtain ⟨G2,r2,t2⟩:=k ro N G1 a w r1 hc;refine ⟨G2,r2,⟨fun id b b' hb hb' => ?_,Mem.le_trans t1.mem t2.mem,fun b hb => t1.own b (t2.own b hb),fun b k v hv => ?_⟩⟩
 ·have hlt1 : id < G1.H.length:=by
   have : id < G2.H.length:=(List.getElem?_eq_some_iff.1 hb').1;rw [r2.heap] at this;rw [r1.heap];omega
  exact (t1.blk id b _ hb (List.getElem?_eq_getElem hlt1)).trans (t2.blk id _ b' (List.getElem?_eq_getElem hlt1) hb')
 ·rcases t2.memNew b k v hv with h | h
  ·exact t1.memNew b k v h
  ·exact .inr (t1.own b h)
theorem A1.e0 (t : Nat) (q : D) (h : get S.env t = some .e0) (hs : A4 q = true) (hl : A9 q = 0) (ho : A3 q) : A1 S ⟨(t,.d q) :: S.env,S.H,S.n⟩:=by
 intro ro N G a w r _;refine ⟨G,⟨r.heap,r.rel,r.size,fun u y hy => ?_,r.marks,r.round⟩,⟨fun id b b' hb hb' => by rw [hb] at hb';cases hb';exact AC.refl _ _ _,Mem.le_refl _,fun _ h => h,fun _ _ _ h => .inl h⟩⟩;simp only [get] at hy;split at hy
 ·rename_i hb;cases hy;have:=Nat.eq_of_beq_eq_true hb;subst this;obtain ⟨v,hv,hrv⟩:=r.env t _ h;refine ⟨v,hv,?_⟩;simp only [RV] at hrv ⊢;obtain ⟨a,rfl⟩:=hrv;exact (Cd hs).2 ⟨a,0,by rw [hl],by omega,ho,.inl hl⟩
 ·exact r.env u y hy
def Gh.nil (G : Gh) (q : D) : Gh:={ ρ:=fun id => if id = G.H.length then none else G.ρ id,H:=G.H ++ [.a q],m:=G.m }
theorem GR {q : D} (h : G.H[id]? = some b) : (G.nil q).H[id]? = some b ∧ (G.nil q).ρ id = G.ρ id:=by
 have hlt:=(List.getElem?_eq_some_iff.1 h).1;refine ⟨by show (G.H ++ [.a q])[id]? = _;rw [List.getElem?_append_left hlt];exact h,?_⟩;show (if id = G.H.length then none else G.ρ id) = _;rw [if_neg (by omega)]
theorem Kx (G : Gh) (q : D) : Gs G (G.nil q):=by
 refine ⟨fun id b hb => ?_,Mem.le_refl _⟩;obtain ⟨h1,h2⟩:=GR (q:=q) hb;exact ⟨b,h1,(AC.refl G id b).congr rfl h2⟩
theorem Kv {q : D} (h : (G.nil q).H[id]? = some b) : (G.H[id]? = some b ∧ (G.nil q).ρ id = G.ρ id) ∨ (id = G.H.length ∧ b = .a q ∧ (G.nil q).ρ id = none):=by
 rcases Nat.lt_or_ge id G.H.length with hlt | hge
 ·have h' : G.H[id]? = some b:=by
   change (G.H ++ [.a q])[id]? = _ at h;rwa [List.getElem?_append_left hlt] at h
  exact .inl ⟨h',(GR h').2⟩
 ·change (G.H ++ [.a q])[id]? = _ at h;rw [List.getElem?_append_right hge] at h
  have h0 : id - G.H.length = 0:=by
   rcases Nat.eq_zero_or_pos (id - G.H.length) with h0 | h0
   ·exact h0
   ·rw [List.getElem?_eq_none (by simp;omega)] at h;cases h
  rw [h0] at h;simp only [List.getElem?_cons_zero,Option.some.injEq] at h;have hid : id = G.H.length:=by omega
  refine .inr ⟨hid,h.symm,?_⟩;show (if id = G.H.length then none else G.ρ id) = none;rw [if_pos hid]
theorem ON (hr : AN G w) {q : D} (hs : A4 q = true) (hl : A9 q = 0) (ho : A3 q) : AN (G.nil q) w ∧ SQ G (G.nil q):=by
 have own : ∀ b,Own (G.nil q) b → Own G b:=by
  rintro b ⟨id,N,blk,hb,hlv,hρ⟩;rcases Kv hb with ⟨h1,h2⟩ | ⟨_,_,h3⟩
  ·exact ⟨id,N,blk,h1,hlv,by rw [← h2];exact hρ⟩
  ·rw [h3] at hρ;cases hρ
 refine ⟨⟨fun id b hb => ?_,fun i j p q' b N N' hp hq lp lq r1 r2 => ?_,hr.mem,fun b hb k => hr.sep b (own b hb) k,hr.st⟩,⟨fun id b b' hb hb' => ?_,Mem.le_refl _,own,fun _ _ _ h => .inl h⟩⟩
 ·rcases Kv hb with ⟨h1,h2⟩ | ⟨h1,rfl,h3⟩
  ·exact (hr.blk id b h1).Mz (Kx G q) (fun _ _ _ _ => rfl) h2
  ·exact ⟨hs,ho,.inl ⟨hl,h3⟩⟩
 ·rcases Kv hp with ⟨h1,h2⟩ | ⟨_,_,h3⟩
  ·rcases Kv hq with ⟨h4,h5⟩ | ⟨_,_,h6⟩
   ·exact hr.inj i j p q' b N N' h1 h4 lp lq (by rw [← h2];exact r1) (by rw [← h5];exact r2)
   ·rw [h6] at r2;cases r2
  ·rw [h3] at r1;cases r1
 ·obtain ⟨h1,h2⟩:=GR (q:=q) hb;rw [h1] at hb';cases hb';exact (AC.refl G id b).congr rfl h2
theorem A1.Sm (t : Nat) (q : D) (h : get S.env t = some .e0) (hs : A4 q = true) (hl : A9 q = 0) (ho : A3 q) : A1 S ⟨(t,.sl S.H.length 0 (An q)) :: S.env,S.H ++ [.a q],S.n⟩:=by
 intro ro N G a w r _;obtain ⟨h1,h2⟩:=ON r.rel hs hl ho;refine ⟨G.nil q,⟨by show G.H ++ [.a q] = _;rw [r.heap],h1,r.size,fun u y hy => ?_,r.marks.SE h2,fun i hi => ?_⟩,h2⟩
 ·simp only [get] at hy;split at hy
  ·rename_i hb;cases hy;have:=Nat.eq_of_beq_eq_true hb;subst this;obtain ⟨v,hv,hrv⟩:=r.env t _ h;refine ⟨v,hv,?_⟩;simp only [RV] at hrv ⊢;obtain ⟨a,rfl⟩:=hrv;refine ⟨rfl,.a q,by show (G.H ++ [A2.a q])[S.H.length]? = _;rw [← r.heap];simp,rfl,by omega,fun _ => .inl ⟨trivial,a,rfl⟩⟩
  ·obtain ⟨v,hv,hrv⟩:=r.env u y hy;exact ⟨v,hv,hrv.mono (Kx G q)⟩
 ·obtain ⟨q',l,M,q1,q2⟩:=r.round i hi;rw [← r.heap] at q1;obtain ⟨n1,n2⟩:=GR (q:=q) q1;exact ⟨q',l,M,by rw [← r.heap];exact n1,by rw [n2];exact q2⟩
theorem A1.W6 (id i : Nat) (q : D) {cs : List AV} (hid : S.H[id]? = some (.c cs)) (h : cs[i]? = some .e0) (hs : A4 q = true) (hl : A9 q = 0) (ho : A3 q) :
  A1 S ⟨S.env,S.H.set id (.c (cs.set i (.sl S.H.length 0 (An q)))) ++ [.a q],S.n⟩:=by
 intro ro N G a w r _;obtain ⟨h1,h2⟩:=ON r.rel hs hl ho;have hidG : G.H[id]? = some (.c cs):=by rw [r.heap];exact hid
 have hlt : id < G.H.length:=(List.getElem?_eq_some_iff.1 hidG).1;let c' : A2:=.c (cs.set i (.sl S.H.length 0 (An q)));let G' : Gh:={ ρ:=(G.nil q).ρ,H:=(G.nil q).H.set id c',m:=(G.nil q).m };have hst : AC (G.nil q) G' id (.c cs) c':=by simp [c',AC,G']
 have hlow:=GR (q:=q) hidG
 have hget : ∀ j b,G'.H[j]? = some b → (j = id ∧ b = c') ∨ (j ≠ id ∧ (G.nil q).H[j]? = some b):=by
  intro j b hb
  by_cases hj : j = id
  ·subst hj;left;have hb' : ((G.nil q).H.set j c')[j]? = some b:=hb;rw [List.getElem?_set_self (List.getElem?_eq_some_iff.1 hlow.1).1] at hb';exact ⟨rfl,(Option.some.inj hb').symm⟩
  ·right;have hb' : ((G.nil q).H.set id c')[j]? = some b:=hb;rw [List.getElem?_set_ne (Ne.symm hj)] at hb';exact ⟨hj,hb'⟩
 have gle : Gs (G.nil q) G':=by
  refine ⟨fun j b hb => ?_,Mem.le_refl _⟩
  by_cases hj : j = id
  ·subst hj;rw [hlow.1] at hb;cases hb;exact ⟨c',List.getElem?_set_self (List.getElem?_eq_some_iff.1 hlow.1).1,hst⟩
  ·exact ⟨b,by show ((G.nil q).H.set id c')[j]? = _;rw [List.getElem?_set_ne (Ne.symm hj)];exact hb,AC.refl _ _ _⟩
 have hnew : G'.H[G.H.length]? = some (.a q):=by
  show ((G.nil q).H.set id c')[G.H.length]? = _;rw [List.getElem?_set_ne (by omega)];show (G.H ++ [.a q])[G.H.length]? = _;simp
 have own : ∀ b,Own G' b → Own (G.nil q) b:=by
  rintro b ⟨j,N,blk,hb,hlv,hρ⟩;rcases hget j blk hb with ⟨rfl,rfl⟩ | ⟨_,h4⟩
  ·exact ⟨j,N,_,hlow.1,rfl,hρ⟩
  ·exact ⟨j,N,blk,h4,hlv,hρ⟩
 have rel : AN G' w:=by
  refine ⟨fun j b hb => ?_,fun i' j p q' b N N' hp hq lp lq r1 r2 => ?_,h1.mem,fun b hb k => h1.sep b (own b hb) k,h1.st⟩
  ·rcases hget j b hb with ⟨rfl,rfl⟩ | ⟨h3,h4⟩
   ·obtain ⟨b,N,vs,T,g1,g2,g3,g4,g6⟩:=h1.blk j _ hlow.1;refine ⟨b,N,vs,T,g1,g2,g3,by simpa using g4,fun k y hy => ?_⟩;rw [List.getElem?_set] at hy;split at hy
    ·rename_i hki;subst hki;split at hy
     ·cases hy;obtain ⟨v,hv,hrv⟩:=g6 i _ h;refine ⟨v,hv,?_⟩;simp only [RV] at hrv ⊢;obtain ⟨a,rfl⟩:=hrv;refine ⟨rfl,.a q,by rw [← r.heap];exact hnew,rfl,by omega,fun _ => .inl ⟨trivial,a,rfl⟩⟩
     ·cases hy
    ·obtain ⟨v,hv,hrv⟩:=g6 k _ hy;exact ⟨v,hv,hrv.mono gle⟩
   ·exact (h1.blk j b h4).Mz gle (fun _ _ _ _ => rfl) rfl
  ·have back : ∀ (j : Nat) (b : A2),G'.H[j]? = some b → b.live = true → ∃ b0 : A2,(G.nil q).H[j]? = some b0 ∧ b0.live = true:=by
    intro j b hb hlv;rcases hget j b hb with ⟨rfl,rfl⟩ | ⟨_,h4⟩
    ·exact ⟨_,hlow.1,rfl⟩
    ·exact ⟨b,h4,hlv⟩
   obtain ⟨p0,e1,e2⟩:=back i' p hp lp;obtain ⟨q0,e3,e4⟩:=back j q' hq lq;exact h1.inj i' j p0 q0 b N N' e1 e3 e2 e4 r1 r2
 have SE : SQ G G':=by
  refine ⟨fun j b b' hb hb' => ?_,Mem.le_refl _,fun b hb => h2.own b (own b hb),fun _ _ _ h => .inl h⟩;obtain ⟨n1,n2⟩:=GR (q:=q) hb;obtain ⟨b'',hb'',hs''⟩:=gle.blk j b n1;rw [hb'] at hb'';cases hb'';exact (h2.blk j b b hb n1).trans hs''
 refine ⟨G',⟨?_,rel,r.size,fun u y hy => ?_,r.marks.SE SE,fun k hk => ?_⟩,SE⟩
 ·show (G.H ++ [A2.a q]).set id c' = _;rw [List.set_append_left _ _ hlt,r.heap]
 ·obtain ⟨v,hv,hrv⟩:=r.env u y hy;exact ⟨v,hv,(hrv.mono (Kx G q)).mono gle⟩
 ·obtain ⟨q',l,M,q1,q2⟩:=r.round k hk;rw [← r.heap] at q1;obtain ⟨n1,n2⟩:=GR (q:=q) q1;have hne : k ≠ id:=fun e => by subst e;rw [hidG] at q1;cases q1
  refine ⟨q',l,M,?_,by show (G.nil q).ρ k = _;rw [n2];exact q2⟩;show (S.H.set id c' ++ [A2.a q])[k]? = _
  have : (G.H.set id c' ++ [A2.a q])[k]? = some (.lp q'):=by
   rw [List.getElem?_append_left (by simp;exact (List.getElem?_eq_some_iff.1 q1).1),List.getElem?_set_ne (Ne.symm hne)];exact q1
  rw [← r.heap];exact this
section
variable {P : Program} {ro : Option Nat} {ops : Array Oper} {i : Nat} {rest : List Oper} {S : St} {Q : Exit → St → Prop} {E : Nat → Option AT}
theorem Gx {S' : St} (t : A1 S S') (hl : S.H.length ≤ S'.H.length) (k : Wl P ro ops i rest S' Q) : Wl P ro ops i rest S Q:=by
 intro hops N G a w r;obtain ⟨G',r',t'⟩:=t ro N G a w r (fun id h => Nat.lt_of_lt_of_le (r.NN id h) hl);have kf : BW G w G' w:=(BW.refl G w).ghost t' (by rw [r.heap,r'.heap];exact hl);have hy:=k hops N G' a w r';rw [Dr r r' kf] at hy;exact Aa (fun _ _ _ p => p.trans kf) _ _ _ hy
theorem L6 {f : FuncId} {fn : Func} {c : Code} (hE : Ay P E) (hf : P.funcs[f]? = some fn) (hb : fn.body = some c) (hname : (fn.name == "runtime.NumGoroutine") = false) {args : List AV} {H : List A2} (hn : args.length ≤ fn.ntmps) {R : AV → List A2 → Prop}
  (h : W P none c ⟨Bz 0 args,H,fn.ntmps⟩ (IG fun S0 => ∃ S',A1 S0 S' ∧ H.length ≤ S'.H.length ∧ ∃ cc x,CZ E S'.env S'.H fn.results.toList = some (cc,x) ∧ cc = true ∧ R x S'.H)) : I5 P f args H R:=by
 refine Ow hE hf hb hname hn (SS h ?_);intro e S' q
 cases e with
 | normal => obtain ⟨S'',t,hl,q'⟩:=q;exact ⟨S'',t,hl,q'⟩
 | ret => obtain ⟨S'',t,hl,q'⟩:=q;exact ⟨S'',t,hl,q'⟩
 | _ => exact q.elim
end
end Go.Gar
namespace Go.Gar
def rn : List Nat → Nat → Nat → Nat
 | [],k,i => k + i
 | a :: _,_,0 => a
 | _ :: r,k,i + 1 => rn r k i
theorem TW : ∀ {ids : List Nat} {k i a : Nat},ids[i]? = some a → rn ids k i = a
 | [],k,i,a,h => by simp at h
 | b :: r,k,0,a,h => by simpa [rn] using h
 | b :: r,k,i + 1,a,h => by simp only [rn];exact TW (by simpa using h)
theorem aK : ∀ {ids : List Nat} {k i : Nat},ids.length ≤ i → rn ids k i = k + (i - ids.length)
 | [],k,i,h => by simp [rn]
 | b :: r,k,0,h => by simp at h
 | b :: r,k,i + 1,h => by simp only [rn,List.length_cons];rw [aK (by simpa using h)];congr 1;omega
mutual
def AV.ren (ι : Nat → Nat) : AV → AV
 | .ptr id o c => .ptr (ι id) o c
 | .sl id n sz => .sl (ι id) n sz
 | .bs id o n sz c => .bs (ι id) o n sz c
 | .ep id i o n sz => .ep (ι id) i o n sz
 | .ag cs => .ag (AV.CF ι cs)
 | .tup cs => .tup (AV.CF ι cs)
 | .fn f a b => .fn f (AV.CF ι a) (AV.CF ι b)
 | .yl id => .yl (ι id)
 | .mp id => .mp (ι id)
 | v => v
def AV.CF (ι : Nat → Nat) : List AV → List AV
 | [] => []
 | v :: r => v.ren ι :: AV.CF ι r
end
theorem Df (ι : Nat → Nat) : ∀ l : List AV,AV.CF ι l = l.map (AV.ren ι)
 | [] => rfl
 | v :: r => by simp [AV.CF,Df ι r]
def Up (ι : Nat → Nat) : List (D × AV) → List (D × AV)
 | [] => []
 | p :: r => (p.1,p.2.ren ι) :: Up ι r
theorem JI (ι : Nat → Nat) : ∀ l : List (D × AV),Up ι l = l.map fun p => (p.1,p.2.ren ι)
 | [] => rfl
 | v :: r => by simp [Up,JI ι r]
def JH (ι : Nat → Nat) : List (Nat × AV) → List (Nat × AV)
 | [] => []
 | p :: r => (p.1,p.2.ren ι) :: JH ι r
theorem J2 {ι : Nat → Nat} : ∀ {e : List (Nat × AV)} {t : Nat},get (JH ι e) t = (get e t).map (AV.ren ι)
 | [],t => by simp [JH,get]
 | p :: r,t => by
  obtain ⟨k,v⟩:=p;simp only [JH,get];split
  ·rfl
  ·exact J2
def A2.ren (ι : Nat → Nat) : A2 → A2
 | .gone => .gone
 | .c cs => .c (AV.CF ι cs)
 | .a x => .a x
 | .m es => .m (Up ι es)
 | .lp r => .lp { r with env:=JH ι r.env }
def Dp (ι : Nat → Nat) : List A2 → List A2
 | [] => []
 | b :: r => b.ren ι :: Dp ι r
theorem QR (ι : Nat → Nat) : ∀ l : List A2,Dp ι l = l.map (A2.ren ι)
 | [] => rfl
 | v :: r => by simp [Dp,QR ι r]
theorem Cj (ι : Nat → Nat) (b : A2) : (b.ren ι).live = b.live:=by cases b <;> rfl
mutual
theorem RV.ren {G0 G : Gh} {ι : Nat → Nat} (hm : G0.m.le G.m) (hb : ∀ id b,G0.H[id]? = some b → G.H[ι id]? = some (b.ren ι) ∧ G.ρ (ι id) = G0.ρ id) : ∀ {x : AV} {v : Value},RV G0 x v → RV G (x.ren ι) v
 | .d x,v,r => by simp only [AV.ren,RV] at r ⊢;exact r.mono hm
 | .u,_,_ => by simp [AV.ren,RV]
 | .e0,_,r => by simpa only [AV.ren,RV] using r
 | .dp cs,v,r => by
  simp only [AV.ren,RV] at r ⊢;obtain ⟨b,off,hv,hr⟩:=r;exact ⟨b,off,hv,IH.mono hm hr⟩
 | .ptr id o c,v,r => by
  simp only [AV.ren,RV] at r ⊢;obtain ⟨h1,blk,h2,h3⟩:=r;obtain ⟨k1,k2⟩:=hb id blk h2;refine ⟨h1,_,k1,?_⟩;cases blk <;> simp_all [A2.ren,Df]
 | .sl id n sz,v,r => by
  simp only [AV.ren,RV] at r ⊢;obtain ⟨h1,blk,h2,h3⟩:=r;obtain ⟨k1,k2⟩:=hb id blk h2;refine ⟨h1,_,k1,?_⟩;cases blk <;> simp_all [A2.ren]
 | .bs id o n sz c,v,r => by
  simp only [AV.ren,RV] at r ⊢;obtain ⟨h1,blk,h2,h3⟩:=r;obtain ⟨k1,k2⟩:=hb id blk h2;refine ⟨h1,_,k1,?_⟩;cases blk <;> simp_all [A2.ren,Df]
 | .ep id i o n sz,v,r => by
  simp only [AV.ren,RV] at r ⊢;obtain ⟨h1,blk,h2,h3⟩:=r;obtain ⟨k1,k2⟩:=hb id blk h2;refine ⟨h1,_,k1,?_⟩;cases blk <;> simp_all [A2.ren]
 | .yl id,v,r => by
  simp only [AV.ren,RV] at r ⊢;obtain ⟨h1,blk,h2,h3⟩:=r;obtain ⟨k1,k2⟩:=hb id blk h2;refine ⟨h1,_,k1,?_⟩;cases blk <;> simp_all [A2.ren]
 | .mp id,v,r => by
  simp only [AV.ren,RV] at r ⊢;obtain ⟨h1,blk,h2,h3⟩:=r;obtain ⟨k1,k2⟩:=hb id blk h2;refine ⟨h1,_,k1,?_⟩;cases blk <;> simp_all [A2.ren]
 | .ag cs,v,r => by
  simp only [AV.ren,RV] at r ⊢;obtain ⟨vs,hv,h⟩:=r;exact ⟨vs,hv,AS.ren hm hb h⟩
 | .tup cs,v,r => by
  simp only [AV.ren,RV] at r ⊢;obtain ⟨vs,hv,h⟩:=r;exact ⟨vs,hv,AS.ren hm hb h⟩
 | .fn f a b,v,r => by
  simp only [AV.ren,RV] at r ⊢;obtain ⟨p,q,hv,h1,h2⟩:=r;exact ⟨p,q,hv,AS.ren hm hb h1,AS.ren hm hb h2⟩
theorem AS.ren {G0 G : Gh} {ι : Nat → Nat} (hm : G0.m.le G.m) (hb : ∀ id b,G0.H[id]? = some b → G.H[ι id]? = some (b.ren ι) ∧ G.ρ (ι id) = G0.ρ id) : ∀ {xs : List AV} {vs : List Value},AS G0 xs vs → AS G (AV.CF ι xs) vs
 | [],_,r => by simpa [AV.CF,AS] using r
 | x :: xs,vs,r => by
  simp only [AV.CF,AS] at r ⊢;obtain ⟨v,q,hv,h1,h2⟩:=r;exact ⟨v,q,hv,RV.ren hm hb h1,AS.ren hm hb h2⟩
end
mutual
theorem RV.G7 {G0 G : Gh} {ι : Nat → Nat} {n : Nat} (hm : G.m.le G0.m) (hb : ∀ id,id < n → ∃ b,G0.H[id]? = some b ∧ G.H[ι id]? = some (b.ren ι) ∧ G.ρ (ι id) = G0.ρ id) : ∀ {x : AV} {v : Value},x.ok n = true → RV G (x.ren ι) v → RV G0 x v
 | .d x,v,_,r => by simp only [AV.ren,RV] at r ⊢;exact r.mono hm
 | .u,_,_,_ => by simp [RV]
 | .e0,_,_,r => by simpa only [AV.ren,RV] using r
 | .dp cs,v,_,r => by
  simp only [AV.ren,RV] at r ⊢;obtain ⟨b,off,hv,hr⟩:=r;exact ⟨b,off,hv,IH.mono hm hr⟩
 | .ptr id o c,v,ho,r => by
  simp only [AV.ren,RV] at r ⊢;obtain ⟨h1,blk,h2,h3⟩:=r;obtain ⟨b,k0,k1,k2⟩:=hb id (by simpa [AV.ok,Nat.blt_eq] using ho);rw [k1] at h2;cases h2;refine ⟨h1,_,k0,?_⟩;cases b <;> simp_all [A2.ren,Df]
 | .sl id n sz,v,ho,r => by
  simp only [AV.ren,RV] at r ⊢;obtain ⟨h1,blk,h2,h3⟩:=r;obtain ⟨b,k0,k1,k2⟩:=hb id (by simpa [AV.ok,Nat.blt_eq] using ho);rw [k1] at h2;cases h2;refine ⟨h1,_,k0,?_⟩;cases b <;> simp_all [A2.ren]
 | .bs id o n sz c,v,ho,r => by
  simp only [AV.ren,RV] at r ⊢;obtain ⟨h1,blk,h2,h3⟩:=r;obtain ⟨b,k0,k1,k2⟩:=hb id (by simpa [AV.ok,Nat.blt_eq] using ho);rw [k1] at h2;cases h2;refine ⟨h1,_,k0,?_⟩;cases b <;> simp_all [A2.ren,Df]
 | .ep id i o n sz,v,ho,r => by
  simp only [AV.ren,RV] at r ⊢;obtain ⟨h1,blk,h2,h3⟩:=r;obtain ⟨b,k0,k1,k2⟩:=hb id (by simpa [AV.ok,Nat.blt_eq] using ho);rw [k1] at h2;cases h2;refine ⟨h1,_,k0,?_⟩;cases b <;> simp_all [A2.ren]
 | .yl id,v,ho,r => by
  simp only [AV.ren,RV] at r ⊢;obtain ⟨h1,blk,h2,h3⟩:=r;obtain ⟨b,k0,k1,k2⟩:=hb id (by simpa [AV.ok,Nat.blt_eq] using ho);rw [k1] at h2;cases h2;refine ⟨h1,_,k0,?_⟩;cases b <;> simp_all [A2.ren]
 | .mp id,v,ho,r => by
  simp only [AV.ren,RV] at r ⊢;obtain ⟨h1,blk,h2,h3⟩:=r;obtain ⟨b,k0,k1,k2⟩:=hb id (by simpa [AV.ok,Nat.blt_eq] using ho);rw [k1] at h2;cases h2;refine ⟨h1,_,k0,?_⟩;cases b <;> simp_all [A2.ren]
 | .ag cs,v,ho,r => by
  simp only [AV.ren,RV] at r ⊢;obtain ⟨vs,hv,h⟩:=r;exact ⟨vs,hv,AS.G7 hm hb (by simpa [AV.ok] using ho) h⟩
 | .tup cs,v,ho,r => by
  simp only [AV.ren,RV] at r ⊢;obtain ⟨vs,hv,h⟩:=r;exact ⟨vs,hv,AS.G7 hm hb (by simpa [AV.ok] using ho) h⟩
 | .fn f a b,v,ho,r => by
  simp only [AV.ren,RV] at r ⊢;simp only [AV.ok,Bool.and_eq_true] at ho;obtain ⟨p,q,hv,h1,h2⟩:=r;exact ⟨p,q,hv,AS.G7 hm hb ho.1 h1,AS.G7 hm hb ho.2 h2⟩
theorem AS.G7 {G0 G : Gh} {ι : Nat → Nat} {n : Nat} (hm : G.m.le G0.m) (hb : ∀ id,id < n → ∃ b,G0.H[id]? = some b ∧ G.H[ι id]? = some (b.ren ι) ∧ G.ρ (ι id) = G0.ρ id) : ∀ {xs : List AV} {vs : List Value},AV.oks n xs = true → AS G (AV.CF ι xs) vs → AS G0 xs vs
 | [],_,_,r => by simpa [AV.CF,AS] using r
 | x :: xs,vs,ho,r => by
  simp only [AV.CF,AS] at r ⊢;simp only [AV.oks,Bool.and_eq_true] at ho;obtain ⟨v,q,hv,h1,h2⟩:=r;exact ⟨v,q,hv,RV.G7 hm hb ho.1 h1,AS.G7 hm hb ho.2 h2⟩
end
variable {G0 G : Gh} {w : World} {ι : Nat → Nat} {i : Nat}
theorem BR.ren (hm : G0.m.le G.m) (hb : ∀ id b,G0.H[id]? = some b → G.H[ι id]? = some (b.ren ι) ∧ G.ρ (ι id) = G0.ρ id) (hρ : G.ρ (ι i) = G0.ρ i) : ∀ {b : A2},BR G0 w i b → BR G w (ι i) (b.ren ι)
 | .gone,_ => trivial
 | .c cs,h => by
  obtain ⟨b,N,vs,T,h1,h2,h3,h4,h6⟩:=h;refine ⟨b,N,vs,T,hρ.trans h1,h2,h3,by rw [Df];simpa using h4,fun k y hy => ?_⟩;rw [Df,List.getElem?_map,Option.map_eq_some_iff] at hy;obtain ⟨z,hz,rfl⟩:=hy;obtain ⟨v,hv,hrv⟩:=h6 k z hz;exact ⟨v,hv,hrv.ren hm hb⟩
 | .a y,h => by
  obtain ⟨h1,h2,h3⟩:=h;refine ⟨h1,h2,?_⟩;rcases h3 with ⟨h3,h4⟩ | ⟨b,N,vs,T,g1,g2,g3,g4⟩
  ·exact .inl ⟨h3,hρ.trans h4⟩
  ·refine .inr ⟨b,N,vs,T,hρ.trans g1,g2,g3,fun k d hd => ?_⟩;obtain ⟨v,hv,h1c,hrd⟩:=g4 k d hd;exact ⟨v,hv,h1c,hrd.mono hm⟩
 | .m es,h => by
  obtain ⟨b,N,ms,cl,h1,h2,h3,h4⟩:=h;refine ⟨b,N,ms,cl,hρ.trans h1,h2,by rw [JI];simpa using h3,fun k q hq => ?_⟩;rw [JI,List.getElem?_map,Option.map_eq_some_iff] at hq;obtain ⟨z,hz,rfl⟩:=hq;obtain ⟨e,he,hd,hrv⟩:=h4 k z hz;exact ⟨e,he,hd.mono hm,hrv.ren hm hb⟩
 | .lp r,h => by
  obtain ⟨l,N,df,tmps,h1,h2,h3,h4⟩:=h;refine ⟨l,N,df,tmps,hρ.trans h1,h2,h3,fun t x hx => ?_⟩;change get (JH ι r.env) t = some x at hx;rw [J2,Option.map_eq_some_iff] at hx;obtain ⟨z,hz,rfl⟩:=hx;obtain ⟨v,hv,hrv⟩:=h4 t z hz;exact ⟨v,hv,hrv.ren hm hb⟩
theorem BR.G7 {n : Nat} (hm : G.m.le G0.m) (hb : ∀ id,id < n → ∃ b,G0.H[id]? = some b ∧ G.H[ι id]? = some (b.ren ι) ∧ G.ρ (ι id) = G0.ρ id) (hρ : G.ρ (ι i) = G0.ρ i) : ∀ {b : A2},b.ok n = true → BR G w (ι i) (b.ren ι) → BR G0 w i b
 | .gone,_,_ => trivial
 | .c cs,ho,h => by
  obtain ⟨b,N,vs,T,h1,h2,h3,h4,h6⟩:=h;rw [Df] at h4 h6;refine ⟨b,N,vs,T,hρ.symm.trans h1,h2,h3,by simpa using h4,fun k y hy => ?_⟩;obtain ⟨v,hv,hrv⟩:=h6 k (y.ren ι) (by simp [hy]);exact ⟨v,hv,hrv.G7 hm hb (TH ho hy)⟩
 | .a y,_,h => by
  obtain ⟨h1,h2,h3⟩:=h;refine ⟨h1,h2,?_⟩;rcases h3 with ⟨h3,h4⟩ | ⟨b,N,vs,T,g1,g2,g3,g4⟩
  ·exact .inl ⟨h3,hρ.symm.trans h4⟩
  ·refine .inr ⟨b,N,vs,T,hρ.symm.trans g1,g2,g3,fun k d hd => ?_⟩;obtain ⟨v,hv,h1c,hrd⟩:=g4 k d hd;exact ⟨v,hv,h1c,hrd.mono hm⟩
 | .m es,ho,h => by
  obtain ⟨b,N,ms,cl,h1,h2,h3,h4⟩:=h;rw [JI] at h3 h4;refine ⟨b,N,ms,cl,hρ.symm.trans h1,h2,by simpa using h3,fun k q hq => ?_⟩;obtain ⟨e,he,hd,hrv⟩:=h4 k (q.1,q.2.ren ι) (by simp [hq]);exact ⟨e,he,hd.mono hm,hrv.G7 hm hb (N6 ho hq)⟩
 | .lp r,ho,h => by
  obtain ⟨l,N,df,tmps,h1,h2,h3,h4⟩:=h;refine ⟨l,N,df,tmps,hρ.symm.trans h1,h2,h3,fun t x hx => ?_⟩;obtain ⟨v,hv,hrv⟩:=h4 t (x.ren ι) (by show get (JH ι r.env) t = _;rw [J2,hx];rfl);exact ⟨v,hv,hrv.G7 hm hb (Jf ho hx)⟩
theorem AC.ren {G0' G' : Gh} {j : Nat} {b b' : A2} (h : AC G0 G0' i b b') (e : G.ρ j = G0.ρ i) (e' : G'.ρ j = G0'.ρ i) : AC G G' j (b.ren ι) (b'.ren ι):=by
 cases b <;> cases b' <;> simp only [AC,A2.ren] at h ⊢ <;> simp_all [Df]
def KY : List Nat → List A2 → List A2 → List A2
 | [],H,l => H ++ l
 | a :: r,H,b :: l => KY r (H.set a b) l
 | _ :: _,H,[] => H
theorem Sk : ∀ {ids : List Nat} {H l : List A2} {j : Nat},ids.Nodup → ids.length ≤ l.length → (∀ a ∈ ids,a < H.length) →
  (KY ids H l)[j]? = if j ∈ ids then l[ids.idxOf j]? else if j < H.length then H[j]? else l[ids.length + (j - H.length)]?
 | [],H,l,j,_,_,_ => by
  simp only [KY,List.not_mem_nil,if_false,List.length_nil,Nat.zero_add];split
  ·rename_i h;rw [List.getElem?_append_left h]
  ·rename_i h;rw [List.getElem?_append_right (by omega)]
 | a :: r,H,[],j,_,hl,_ => by simp at hl
 | a :: r,H,b :: l,j,hn,hl,ha => by
  obtain ⟨h1,h2⟩:=List.nodup_cons.1 hn;simp only [KY];rw [Sk h2 (by simpa using hl) (fun c hc => by simpa using ha c (by simp [hc]))]
  by_cases hj : j = a
  ·subst hj;have hlt:=ha j (by simp);have e1 : (H.set j b).length = H.length:=by simp
   have e2 : j ∈ j :: r:=by simp
   simp only [h1,if_false,e1,hlt,if_true,e2,List.getElem?_set_self,List.idxOf_cons_self,List.getElem?_cons_zero]
  ·have e3 : (j ∈ a :: r) ↔ (j ∈ r):=by simp [hj]
   by_cases hr : j ∈ r
   ·have e4 : (a :: r).idxOf j = r.idxOf j + 1:=by
     rw [List.idxOf_cons];have : (a == j) = false:=by simpa using (Ne.symm hj)
     rw [this];rfl
    simp only [hr,if_true,e3,e4,List.getElem?_cons_succ]
   ·simp only [hr,if_false,e3,List.length_set];split
    ·rw [List.getElem?_set_ne (Ne.symm hj)]
    ·simp only [List.length_cons];rw [show r.length + 1 + (j - H.length) = r.length + (j - H.length) + 1 by omega];simp
def C6 (ι : Nat → Nat) (H2 : List A2) : List Nat → List A2 → Prop
 | [],[] => True
 | a :: r,b :: l => H2[a]? = some (b.ren ι) ∧ C6 ι H2 r l
 | _,_ => False
theorem Ln {ι : Nat → Nat} {H2 : List A2} : ∀ {ids : List Nat} {H : List A2},C6 ι H2 ids H → ids.length = H.length
 | [],[],_ => rfl
 | a :: r,b :: l,h => by simp only [List.length_cons];rw [Ln h.2]
 | [],_ :: _,h => h.elim
 | _ :: _,[],h => h.elim
theorem GQ {ι : Nat → Nat} {H2 : List A2} : ∀ {ids : List Nat} {H : List A2},C6 ι H2 ids H → ∀ {i : Nat} {b : A2},H[i]? = some b → ∃ a,ids[i]? = some a ∧ H2[a]? = some (b.ren ι)
 | [],[],_,i,b,hb => by simp at hb
 | a :: r,c :: l,h,0,b,hb => by simp at hb;subst hb;exact ⟨a,by simp,h.1⟩
 | a :: r,c :: l,h,i + 1,b,hb => by
  obtain ⟨x,h1,h2⟩:=GQ h.2 (i:=i) (by simpa using hb);exact ⟨x,by simpa using h1,h2⟩
 | [],_ :: _,h,_,_,_ => h.elim
 | _ :: _,[],h,_,_,_ => h.elim
variable {H H2 : List A2} {ids : List Nat}
theorem K2 {G0' : Gh} {w' : World} (hG : G.H = H2) (hn : ids.Nodup) (hm : C6 (rn ids H2.length) H2 ids H) (hr : AN G w) (hf : BW ⟨fun i => G.ρ (rn ids H2.length i),H,G.m⟩ w G0' w') (h' : AN G0' w') :
  ∃ G'' : Gh,G''.H = KY ids H2 (Dp (rn ids H2.length) G0'.H) ∧ AN G'' w' ∧ BW G w G'' w' ∧ G0'.m.le G''.m ∧ (∀ id b,G0'.H[id]? = some b → G''.H[rn ids H2.length id]? = some (b.ren (rn ids H2.length)) ∧ G''.ρ (rn ids H2.length id) = G0'.ρ id):=by
 generalize hι : rn ids H2.length = ι at *;have hlen : ids.length = H.length:=Ln hm;have hgl : H.length ≤ G0'.H.length:=hf.gle.len
 have hid : ∀ a ∈ ids,a < H2.length:=by
  intro a ha;obtain ⟨i,hi,rfl⟩:=List.mem_iff_getElem.1 ha;obtain ⟨x,h1,h2⟩:=GQ hm (i:=i) (b:=H[i]'(by omega)) (by simp);rw [List.getElem?_eq_getElem hi] at h1;cases h1;exact (List.getElem?_eq_some_iff.1 h2).1
 have lowι : ∀ i (hi : i < ids.length),ι i = ids[i]:=fun i hi => by rw [← hι];exact TW (List.getElem?_eq_getElem hi)
 have highι : ∀ i,ids.length ≤ i → ι i = H2.length + (i - ids.length):=fun i hi => by rw [← hι];exact aK hi
 let κ : Nat → Option Nat:=fun j => if j ∈ ids then some (ids.idxOf j) else if j < H2.length then none else some (ids.length + (j - H2.length))
 have κι : ∀ i,κ (ι i) = some i:=by
  intro i;rcases Nat.lt_or_ge i ids.length with hi | hi
  ·rw [lowι i hi];simp only [κ];rw [if_pos (List.getElem_mem hi),hn.idxOf_getElem i hi]
  ·rw [highι i hi];simp only [κ];rw [if_neg (fun h => by have:=hid _ h;omega),if_neg (by omega)]
   congr 1;omega
 have ικ : ∀ j i,κ j = some i → ι i = j:=by
  intro j i h;simp only [κ] at h;split at h
  ·rename_i hj;cases h;rw [lowι _ (List.idxOf_lt_length_of_mem hj),List.getElem_idxOf]
  ·split at h
   ·cases h
   ·cases h;rw [highι _ (by omega)];omega
 let K : Gh:=⟨fun j => match κ j with | some i => G0'.ρ i | none => G.ρ j,KY ids H2 (Dp ι G0'.H),G0'.m⟩;have kρ1 : ∀ i,K.ρ (ι i) = G0'.ρ i:=fun i => by show (match κ (ι i) with | some i => G0'.ρ i | none => G.ρ (ι i)) = _;rw [κι]
 have kρ2 : ∀ j,κ j = none → K.ρ j = G.ρ j:=fun j h => by show (match κ j with | some i => G0'.ρ i | none => G.ρ j) = _;rw [h]
 have kget : ∀ j,K.H[j]? = match κ j with | some i => (G0'.H[i]?).map (A2.ren ι) | none => H2[j]?:=by
  intro j;show (KY ids H2 (Dp ι G0'.H))[j]? = _;rw [QR,Sk hn (by simp;omega) hid];simp only [κ];split
  ·simp
  ·split
   ·rfl
   ·simp
 have kup : ∀ id b,G0'.H[id]? = some b → K.H[ι id]? = some (b.ren ι) ∧ K.ρ (ι id) = G0'.ρ id:=by
  intro id b hb;refine ⟨?_,kρ1 id⟩;rw [kget,κι];simp [hb]
 have up0 : ∀ id b,H[id]? = some b → G.H[ι id]? = some (b.ren ι):=by
  intro id b hb;obtain ⟨a,h1,h2⟩:=GQ hm hb;have : ι id = a:=by rw [← hι];exact TW h1
  rw [this,hG];exact h2
 have own0 : ∀ b,Own ⟨fun i => G.ρ (ι i),H,G.m⟩ b → Own G b:=by
  rintro b ⟨i,N,q,hq,hl,hρ⟩;exact ⟨ι i,N,_,up0 i q hq,by rw [Cj];exact hl,hρ⟩
 have split : ∀ j b,K.H[j]? = some b → (∃ i b0,ι i = j ∧ κ j = some i ∧ G0'.H[i]? = some b0 ∧ b = b0.ren ι) ∨ (κ j = none ∧ G.H[j]? = some b):=by
  intro j b hb;rw [kget] at hb
  cases hk : κ j with
  | none => rw [hk] at hb;exact .inr ⟨rfl,by rw [hG];exact hb⟩
  | some i =>
   rw [hk] at hb;simp only [Option.map_eq_some_iff] at hb;obtain ⟨b0,h1,h2⟩:=hb;exact .inl ⟨i,b0,ικ j i hk,rfl,h1,h2.symm⟩
 have far : ∀ j b N q,κ j = none → G.H[j]? = some q → q.live = true → G.ρ j = some (b,N) → b < w.heap.size ∧ ¬ Own ⟨fun i => G.ρ (ι i),H,G.m⟩ b:=by
  intro j b N q hk hq hl hρ;refine ⟨Dc hr ⟨j,N,q,hq,hl,hρ⟩,?_⟩;rintro ⟨i,N',q',hq',hl',hρ'⟩;have:=hr.inj j (ι i) q _ b N N' hq (up0 i q' hq') hl (by rw [Cj];exact hl') hρ hρ';rw [this,κι] at hk;cases hk
 have ownK : ∀ b,Own K b → Own G0' b ∨ (Own G b ∧ b < w.heap.size ∧ ¬ Own ⟨fun i => G.ρ (ι i),H,G.m⟩ b):=by
  rintro b ⟨j,N,q,hq,hl,hρ⟩;rcases split j q hq with ⟨i,b0,rfl,_,h3,rfl⟩ | ⟨h1,h2⟩
  ·exact .inl ⟨i,N,b0,h3,by rw [Cj] at hl;exact hl,by rw [← kρ1];exact hρ⟩
  ·rw [kρ2 j h1] at hρ;exact .inr ⟨⟨j,N,q,h2,hl,hρ⟩,far j b N q h1 h2 hl hρ⟩
 have g2 : Gs G K:=by
  refine ⟨fun j b hb => ?_,hf.gle.mem⟩
  cases hk : κ j with
  | none => exact ⟨b,by rw [kget,hk,← hG];exact hb,(AC.refl G j b).congr rfl (kρ2 j hk)⟩
  | some i =>
   have hj : j < H2.length:=by rw [← hG];exact (List.getElem?_eq_some_iff.1 hb).1
   have hi : i < ids.length:=by
    simp only [κ] at hk;split at hk
    ·rename_i hm;cases hk;exact List.idxOf_lt_length_of_mem hm
    ·simp [hj] at hk
   have hji:=ικ j i hk;subst hji;have hb1:=up0 i _ (List.getElem?_eq_getElem (l:=H) (by omega : i < H.length));rw [hb] at hb1;cases hb1;obtain ⟨b',hb',hs⟩:=hf.gle.blk i H[i] (List.getElem?_eq_getElem (by omega : i < H.length));exact ⟨_,(kup i b' hb').1,hs.ren rfl (kρ1 i)⟩
 refine ⟨K,rfl,⟨fun j b hb => ?_,fun i j p q b N N' hp hq lp lq r1 r2 => ?_,h'.mem,fun b hb k => ?_,h'.st⟩,⟨hf.os,hf.tape,hf.output,hf.size,fun b hb ho => ?_,fun b k v hv => ?_,g2⟩,Mem.le_refl _,kup⟩
 ·rcases split j b hb with ⟨i,b0,rfl,_,h3,rfl⟩ | ⟨h1,h2⟩
  ·exact BR.ren (G0:=G0') (G:=K) (ι:=ι) (Mem.le_refl _) kup (kρ1 i) (h'.blk i b0 h3)
  ·refine (hr.blk j b h2).Mz g2 (fun q N hl hρ => ?_) (kρ2 j h1);obtain ⟨f1,f2⟩:=far j q N b h1 h2 hl hρ;exact (hf.keep q f1 f2).1
 ·rcases split i p hp with ⟨i0,p0,rfl,_,h3,rfl⟩ | ⟨h1,h2⟩
  ·rw [kρ1] at r1;rw [Cj] at lp;rcases split j q hq with ⟨j0,q0,rfl,_,h6,rfl⟩ | ⟨h4,h5⟩
   ·rw [kρ1] at r2;rw [Cj] at lq;rw [h'.inj i0 j0 p0 q0 b N N' h3 h6 lp lq r1 r2]
   ·rw [kρ2 j h4] at r2;obtain ⟨f1,f2⟩:=far j b N' q h4 h5 lq r2;exact absurd ⟨i0,N,p0,h3,lp,r1⟩ (hf.keep b f1 f2).2
  ·rw [kρ2 i h1] at r1;rcases split j q hq with ⟨j0,q0,rfl,_,h6,rfl⟩ | ⟨h4,h5⟩
   ·rw [kρ1] at r2;rw [Cj] at lq;obtain ⟨f1,f2⟩:=far i b N p h1 h2 lp r1;exact absurd ⟨j0,N',q0,h6,lq,r2⟩ (hf.keep b f1 f2).2
   ·rw [kρ2 j h4] at r2;exact hr.inj i j p q b N N' h2 h5 lp lq r1 r2
 ·rcases ownK b hb with h | ⟨h1,h2,h3⟩
  ·exact h'.sep b h k
  ·cases hm : G0'.m b k with
   | none => rfl
   | some v =>
    rcases hf.memNew b k v hm with h | h | h
    ·have:=hr.sep b h1 k;rw [show G.m b k = some v from h] at this;cases this
    ·exact absurd h h3
    ·omega
 ·obtain ⟨h1,h2⟩:=hf.keep b hb (fun h => ho (own0 b h));refine ⟨h1,fun h => ?_⟩;rcases ownK b h with h | ⟨h,_⟩
  ·exact h2 h
  ·exact ho h
 ·rcases hf.memNew b k v hv with h | h | h
  ·exact .inl h
  ·exact .inr (.inl (own0 b h))
  ·exact .inr (.inr h)
theorem Oc (hG : G.H = H2) (hn : ids.Nodup) (hm : C6 (rn ids H2.length) H2 ids H) (hr : AN G w) (ho : AY H.length H = true) :
  AN ⟨fun i => G.ρ (rn ids H2.length i),H,G.m⟩ w ∧ ∀ {x : List AV} {vs : List Value},AV.oks H.length x = true → AS G (AV.CF (rn ids H2.length) x) vs → AS ⟨fun i => G.ρ (rn ids H2.length i),H,G.m⟩ x vs:=by
 generalize hι : rn ids H2.length = ι at *
 have up0 : ∀ id b,H[id]? = some b → G.H[ι id]? = some (b.ren ι) ∧ ∃ h : id < ids.length,ι id = ids[id]:=by
  intro id b hb;obtain ⟨a,h1,h2⟩:=GQ hm hb;have e : ι id = a:=by rw [← hι];exact TW h1
  obtain ⟨h3,h4⟩:=List.getElem?_eq_some_iff.1 h1;exact ⟨by rw [e,hG];exact h2,h3,by rw [e,h4]⟩
 let G0 : Gh:=⟨fun i => G.ρ (ι i),H,G.m⟩
 have hb : ∀ id,id < H.length → ∃ b,G0.H[id]? = some b ∧ G.H[ι id]? = some (b.ren ι) ∧ G.ρ (ι id) = G0.ρ id :=
  fun id hid => ⟨H[id],List.getElem?_eq_getElem hid,(up0 id _ (List.getElem?_eq_getElem hid)).1,rfl⟩
 refine ⟨⟨fun i b hbi => ?_,fun i j p q b N N' hp hq lp lq r1 r2 => ?_,hr.mem,fun b hb k => ?_,hr.st⟩,fun hx h => AS.G7 (G0:=G0) (G:=G) (ι:=ι) (Mem.le_refl _) hb hx h⟩
 ·exact BR.G7 (G0:=G0) (G:=G) (ι:=ι) (Mem.le_refl _) hb rfl (GM ho hbi) (hr.blk _ _ (up0 i b hbi).1)
 ·obtain ⟨e1,e2,e3⟩:=up0 i p hp;obtain ⟨f1,f2,f3⟩:=up0 j q hq;have:=hr.inj _ _ _ _ b N N' e1 f1 (by rw [Cj];exact lp) (by rw [Cj];exact lq) r1 r2;rw [e3,f3] at this;exact (List.getElem_inj hn).1 this
 ·obtain ⟨i,N,q,hq,hl,hρ⟩:=hb;exact hr.sep b ⟨ι i,N,_,(up0 i q hq).1,by rw [Cj];exact hl,hρ⟩ k
theorem I5.ren {P : Program} {f : FuncId} {args : List AV} {R : AV → List A2 → Prop} (ids : List Nat) (h : I5 P f args H R) (hn : ids.Nodup) (hm : C6 (rn ids H2.length) H2 ids H) (ho : AY H.length H = true) (ha : AV.oks H.length args = true) :
  I5 P f (AV.CF (rn ids H2.length) args) H2 fun r H2' => ∃ r' H',R r' H' ∧ r = r'.ren (rn ids H2.length) ∧ H2' = KY ids H2 (Dp (rn ids H2.length) H'):=by
 refine ⟨h.1,fun G w vs hG hr hargs => ?_⟩;obtain ⟨h1,h2⟩:=Oc hG hn hm hr ho;refine (h.2 _ w vs rfl h1 (h2 ha hargs)).mono ?_;rintro e w' ⟨v,r,G0',rfl,hR,hv,hr',hfr⟩;obtain ⟨G'',q1,q2,q3,q4,q5⟩:=K2 hG hn hm hr hfr hr';exact ⟨v,_,G'',rfl,⟨r,G0'.H,hR,rfl,q1⟩,hv.ren q4 q5,q2,q3⟩
end Go.Gar
namespace Go.Gar
def B4 (P : Program) (f : FuncId) (args : List AV) (H : List A2) (r : AV) (H' : List A2) : Prop:=I5 P f args H fun x K => x = r ∧ K = H'
def nodupB : List Nat → Bool
 | [] => true
 | a :: r => (r.all fun b => !(Nat.beq a b)) && nodupB r
theorem Hg : ∀ {l : List Nat},nodupB l = true → l.Nodup
 | [],_ => List.nodup_nil
 | a :: r,h => by
  simp only [nodupB,Bool.and_eq_true,List.all_eq_true] at h;refine List.nodup_cons.2 ⟨fun ha => ?_,Hg h.2⟩;have:=h.1 a ha;simp at this
theorem B4.ren {P : Program} {f : FuncId} {args : List AV} {H H2 : List A2} {r : AV} {H' : List A2} (ids : List Nat) (h : B4 P f args H r H') (hn : nodupB ids = true) (hm : C6 (rn ids H2.length) H2 ids H) (ho : AY H.length H = true) (ha : AV.oks H.length args = true) :
  B4 P f (AV.CF (rn ids H2.length) args) H2 (r.ren (rn ids H2.length)) (KY ids H2 (Dp (rn ids H2.length) H')) :=
 (I5.ren ids h (Hg hn) hm ho ha).mono fun x K ⟨r',H'',⟨h1,h2⟩,h3,h4⟩ => by subst h1;subst h2;exact ⟨h3,h4⟩
section
variable {P : Program} {ro : Option Nat} {ops : Array Oper} {i : Nat} {rest : List Oper} {S S0 : St} {Q : Exit → St → Prop} {o : Oper} {E : Nat → Option AT} {A : Prop} {acc : List Rc}
variable {args : List AV} {H : List A2} {r : AV} {H' : List A2}
theorem Wl_D {g : Nat} (ids : List Nat) (hF : B4 P g args H r H') (hg : A7 ops S.env o = some true) (h : Am S.env o.op = some (g,AV.CF (rn ids S.H.length) args)) (hd : AD o.dst S.n = true) (hm : C6 (rn ids S.H.length) S.H ids H) (hn : nodupB ids = true) (ho : AY H.length H = true) (ha : AV.oks H.length args = true) (k : Wl P ro ops (i + 1) rest ⟨AU o.dst (r.ren (rn ids S.H.length)) S.env,KY ids S.H (Dp (rn ids S.H.length) H'),S.n⟩ Q) : Wl P ro ops i (o :: rest) S Q :=
 YW hg h hd (hF.ren ids hn hm ho ha) fun x K ⟨h1,h2⟩ => by subst h1;subst h2;exact k
theorem Wd_D {g : Nat} (ids : List Nat) (hF : B4 P g args H r H') (hg : A7 ops (Cm (looks ops o) S.env) o = some true) (h : Am (Cm (looks ops o) S.env) o.op = some (g,AV.CF (rn ids S.H.length) args)) (hd : AD o.dst S.n = true) (hm : C6 (rn ids S.H.length) S.H ids H) (hn : nodupB ids = true) (ho : AY H.length H = true) (ha : AV.oks H.length args = true) (hk : Wd P ro E ops S0 A (⟨Cm (looks ops o) S.env,S.H,r.ren (rn ids S.H.length),.eff⟩ :: acc) rest ⟨AU o.dst (r.ren (rn ids S.H.length)) S.env,KY ids S.H (Dp (rn ids S.H.length) H'),S.n⟩) : Wd P ro E ops S0 A acc (o :: rest) S :=
 Wd_T hg h hd (hF.ren ids hn hm ho ha) hk
theorem VL {f : FuncId} {fn : Func} {c : Code} (hE : Ay P E) (hf : P.funcs[f]? = some fn) (hb : fn.body = some c) (hname : (fn.name == "runtime.NumGoroutine") = false) (hn : args.length ≤ fn.ntmps) (h : W P none c ⟨Bz 0 args,H,fn.ntmps⟩ (IG fun S0 => ∃ S',A1 S0 S' ∧ H.length ≤ S'.H.length ∧ ∃ cc x,CZ E S'.env S'.H fn.results.toList = some (cc,x) ∧ cc = true ∧ x = r ∧ S'.H = H')) : B4 P f args H r H' :=
 L6 hE hf hb hname hn h
def Lp.is (r : Lp) (n : Nat) (env : List (Nat × AV)) (ps : Array Tmp) (asg body : Code) : Prop :=
 r.state = .ready ∧ r.pending = none ∧ r.n = n ∧ r.env = env ∧ r.params = ps ∧ r.assign = asg ∧ r.body = body
def Lp.busy (r : Lp) : Lp:=r.at_ .busy none
def Lp.left (r : Lp) (c : Code) : Lp:=r.at_ .done (some c)
def Lp.out (r : Lp) : Lp:=r.at_ .exhausted r.pending
variable {ps : Array Tmp}
theorem VW {g : Operand} {asg body : Code} {f : FuncId} {first cap : List AV} (K : Lp → AV → List A2 → Prop) (hg : Bh S.env g = some (.fn (.func f) first cap)) (seq : ∀ r,r.is S.n S.env ps asg body → I5 P f (first ++ [.yl S.H.length] ++ cap) (S.H ++ [.lp r]) (K r)) (k : ∀ r,r.is S.n S.env ps asg body → ∀ x H',K r x H' →
   (H'[S.H.length]? = some (.lp r) ∧ Q .normal ⟨S.env,H'.set S.H.length (.lp r.out),S.n⟩) ∨
   ∃ c,H'[S.H.length]? = some (.lp (r.left c)) ∧ W P ro c ⟨S.env,H'.set S.H.length (.lp (r.left c).out),S.n⟩ Q) : W P ro (.rangeFunc g ps asg body) S Q:=by
 refine YQ (K:=fun x H' => ∃ fn,K ⟨.ready,none,fn,S.n,S.env,ps,asg,body⟩ x H') hg (fun fn => (seq _ ⟨rfl,rfl,rfl,rfl,rfl,rfl,rfl⟩).mono fun x H h => ⟨fn,h⟩) ?_;rintro x H' ⟨fn,h⟩;rcases k _ ⟨rfl,rfl,rfl,rfl,rfl,rfl,rfl⟩ x H' h with ⟨h1,h2⟩ | ⟨c,h1,h2⟩
 ·exact ⟨_,h1,rfl,h2⟩
 ·exact ⟨_,h1,rfl,h2⟩
def el (id n : Nat) (r : Lp) (R : AV → List A2 → Prop) (e : Exit) (S : St) : Prop :=
 ∃ S'',A1 S S'' ∧ n ≤ S''.H.length ∧ S''.H[id]? = some (.lp r.busy) ∧
  match e with
  | .normal => R (.d (.b true)) (S''.H.set id (.lp r))
  | .ret => R (.d (.b false)) (S''.H.set id (.lp (r.left .ret)))
  | .exit i => R (.d (.b false)) (S''.H.set id (.lp (r.left (.exit i))))
  | .goto l => R (.d (.b false)) (S''.H.set id (.lp (r.left (.goto l))))
  | _ => False
def QAs (P : Program) (id n : Nat) (r : Lp) (body : Code) (R : AV → List A2 → Prop) : Exit → St → Prop
 | .normal,S => S.H[id]? = some (.lp r) ∧ W P (some id) body ⟨S.env,S.H.set id (.lp r.busy),S.n⟩ (el id n r R)
 | _,_ => False
theorem Lp.Yk {r : Lp} (h : r.state = .ready) (h2 : r.pending = none) : r.busy.at_ .ready none = r:=by
 obtain ⟨a,b,c,d,e,f,g,i⟩:=r;subst h;subst h2;rfl
theorem BG {id n : Nat} {env : List (Nat × AV)} {asg body : Code} {r : Lp} {R : AV → List A2 → Prop} (hr : r.is n env ps asg body) (hid : H[id]? = some (.lp r)) (hlen : args.length = ps.size) (hps : (ps.toList.all fun t => Nat.blt t n) = true) (hb : W P (some id) asg ⟨MY ps.toList args env,H,n⟩ (QAs P id H.length r body R)) : YT P id args H R:=by
 obtain ⟨h1,h2,h3,h4,h5,h6,h7⟩:=hr;subst h3;subst h4;subst h5;subst h6;subst h7;refine Sb hid h1 hlen (fun t ht => ?_) (hb.mono ?_)
 ·rw [List.all_eq_true] at hps;have:=hps t ht;simpa [Nat.blt_eq] using this
 ·intro e S q
  cases e with
  | normal =>
   obtain ⟨q1,q2⟩:=q;refine ⟨r,q1,h1,?_⟩;rw [h2];refine W.mono q2 ?_;rintro e S' ⟨S'',t,hl,hi,hm⟩;have hlt:=(List.getElem?_eq_some_iff.1 hi).1
   cases e with
   | normal => exact ⟨none,rfl,S'',t,hl,hlt,_,hi,by rw [show GY none = .ready from rfl,Lp.Yk h1 h2];exact hm⟩
   | ret => exact ⟨some .ret,rfl,S'',t,hl,hlt,_,hi,hm⟩
   | exit i => exact ⟨some (.exit i),rfl,S'',t,hl,hlt,_,hi,hm⟩
   | goto l => exact ⟨some (.goto l),rfl,S'',t,hl,hlt,_,hi,hm⟩
   | _ => exact hm.elim
  | _ => exact q.elim
end
end Go.Gar
namespace Go.Gar
theorem AO (u : UInt8) : Dh .i64 (u.toNat : Int) = true:=by
 have:=u.toNat_lt;simp [Dh];omega
theorem u8z {u : UInt8} (h : u.toNat = 0) : u = 0:=UInt8.toNat_inj.1 h
theorem Lr (a b : Nat) : Nat.beq a b = decide (a = b):=by
 by_cases h : a = b
 ·subst h;simp
 ·rw [decide_eq_false h];cases hb : Nat.beq a b with
  | false => rfl
  | true => exact absurd (Nat.eq_of_beq_eq_true hb) h
theorem VD (n : Int) : EY .i64 n = n:=rfl
theorem Y2 (n : Int) : EY .u8 n = n % 256:=by
 simp [EY,IntKind.wrap,IntKind.bits,IntKind.signed]
theorem VE (n : Int) : EY .u64 n = n % 18446744073709551616:=by
 simp [EY,IntKind.wrap,IntKind.bits,IntKind.signed]
theorem Wv (n : Int) : IntKind.wrap .u8 n = n % 256:=by
 simp [IntKind.wrap,IntKind.bits,IntKind.signed]
theorem Ld (n : Int) (k : Nat) : n.fdiv ((k : Nat) : Int) = n / (k : Int):=Int.fdiv_eq_ediv_of_nonneg n (Int.natCast_nonneg k)
theorem shr8 (n : Int) : n.fdiv (2 ^ min 8 64) = n / 256:=Ld n 256
theorem ec (n : Int) : n.fdiv (2 ^ min 16 64) = n / 65536:=Ld n 65536
theorem ed (n : Int) : n.fdiv (2 ^ min 32 64) = n / 4294967296:=Ld n 4294967296
theorem tF {p : Prop} (h : true = false) : p:=absurd h (by decide)
theorem fT {p : Prop} (h : false = true) : p:=absurd h (by decide)
theorem AB : (∀ (p : Prop) [Decidable p],(decide p = true) ↔ p) ∧ (∀ (p : Prop) [Decidable p],(decide p = false) ↔ ¬ p) ∧ (∀ b : Bool,((!b) = true) ↔ b = false) ∧ (∀ b : Bool,((!b) = false) ↔ b = true) ∧
  (∀ (α : Type) [BEq α] [LawfulBEq α] (a b : α),((a == b) = true) ↔ a = b) ∧ (∀ (α : Type) [BEq α] [LawfulBEq α] (a b : α),((a == b) = false) ↔ ¬ a = b) ∧ (∀ (α : Type) [BEq α] [LawfulBEq α] (a b : α),((a != b) = true) ↔ ¬ a = b) ∧ (∀ (α : Type) [BEq α] [LawfulBEq α] (a b : α),((a != b) = false) ↔ a = b) ∧
  (∀ (α : Type) (a b : α),(a ≠ b) ↔ ¬ a = b) ∧ (∀ a b : Int,(¬ a < b) ↔ b ≤ a) ∧ (∀ a b : Int,(¬ a ≤ b) ↔ b < a) ∧ (∀ (α : Type) [LE α] (a b : α),(a ≥ b) ↔ b ≤ a) ∧ (∀ (α : Type) [LT α] (a b : α),(a > b) ↔ b < a) :=
 ⟨fun p _ => decide_eq_true_iff,fun p _ => decide_eq_false_iff_not,fun b => by cases b <;> simp,fun b => by cases b <;> simp,fun α _ _ a b => beq_iff_eq,fun α _ _ a b => beq_eq_false_iff_ne,fun α _ _ a b => bne_iff_ne,fun α _ _ a b => bne_eq_false_iff_eq,fun α a b => Iff.rfl,fun a b => Int.not_lt,fun a b => Int.not_le,fun α _ a b => Iff.rfl,fun α _ a b => Iff.rfl⟩
theorem Ie : (∀ n,EY .i64 n = n) ∧ (∀ n,EY .u8 n = n % 256) ∧ (∀ n,EY .u64 n = n % 18446744073709551616) ∧ (∀ n,IntKind.wrap .u8 n = n % 256) ∧ IntKind.bits .i64 = 64 ∧ IntKind.bits .u8 = 8 ∧ IntKind.bits .u64 = 64 ∧
  (∀ n : Int,n.fdiv (2 ^ min 8 64) = n / 256) ∧ (∀ n : Int,n.fdiv (2 ^ min 16 64) = n / 65536) ∧ (∀ n : Int,n.fdiv (2 ^ min 32 64) = n / 4294967296) ∧
  (∀ l,A9 (.by l) = l.length) ∧ (∀ l,A9 (.is l) = l.length) ∧ (∀ k l,A9 (.sl k l) = l.length) ∧ (∀ l,An (.by l) = 1) ∧ (∀ l,An (.is l) = 1) ∧ (∀ k l,An (.sl k l) = k) ∧
  (∀ {α : Type} (a : α) (l : List α),(a :: l).length = l.length + 1) ∧ (∀ {α : Type},([] : List α).length = 0) ∧ (∀ {α β : Type} (f : α → β) (l : List α),(l.map f).length = l.length) ∧
  (∀ n : Int,0 + n = n) ∧ (∀ n : Int,n + 0 = n) ∧ (∀ n : Nat,0 + n = n) ∧ (∀ n : Nat,n + 0 = n) ∧ (∀ n : Nat,(n : Int).toNat = n) ∧
  (∀ {α : Type} (a : α) (l : List α) (d : α),(a :: l).getD 0 d = a) ∧ (∀ {α : Type} (a : α) (l : List α) (n : Nat) (d : α),(a :: l).getD (n + 1) d = l.getD n d) ∧
  (∀ n l,DC n (.by l) = .by (l.drop n)) ∧ (∀ n l,DC n (.is l) = .is (l.drop n)) ∧ (∀ n k l,DC n (.sl k l) = .sl k (l.drop n)) ∧ (∀ n l,takeD n (.by l) = .by (l.take n)) ∧ (∀ n l,takeD n (.is l) = .is (l.take n)) ∧ (∀ n k l,takeD n (.sl k l) = .sl k (l.take n)) ∧
  (∀ {α : Type} (a b c : List α),a ++ b ++ c = a ++ (b ++ c)) ∧ (∀ {α : Type} (a : List α),[] ++ a = a) ∧ (∀ {α : Type} (x : α) (a b : List α),x :: a ++ b = x :: (a ++ b)) ∧ (∀ {α : Type} (a : List α),a ++ [] = a) ∧
  (∀ {α : Type} (n : Nat) (x : α) (l : List α),(x :: l).drop (n + 1) = l.drop n) ∧ (∀ {α : Type} (l : List α),l.drop 0 = l) ∧ (∀ {α : Type} (n : Nat) (x : α) (l : List α),(x :: l).take (n + 1) = x :: l.take n) ∧ (∀ {α : Type} (l : List α),l.take 0 = []) ∧
  (!true) = false ∧ (!false) = true ∧ (∀ l : List UInt8,(l == l) = true) ∧ (∀ n : Int,(n == n) = true) ∧ (∀ b : Bool,(b == b) = true) ∧ (∀ n : Int,(n != n) = false) ∧ (∀ l : List UInt8,(l != l) = false) ∧ (∀ l : List Int,decide (l = l) = true) ∧ (∀ l : List UInt8,decide (l = l) = true):=by
 refine ⟨VD,Y2,VE,Wv,rfl,rfl,rfl,shr8,ec,ed,fun _ => rfl,fun _ => rfl,fun _ _ => rfl,fun _ => rfl,fun _ => rfl,fun _ _ => rfl,fun _ _ => rfl,rfl,fun _ _ => List.length_map _,Int.zero_add,Int.add_zero,Nat.zero_add,Nat.add_zero,Int.toNat_natCast,?_⟩;refine ⟨fun _ _ _ => rfl,fun _ _ _ _ => rfl,fun _ _ => rfl,fun _ _ => rfl,fun _ _ _ => rfl,fun _ _ => rfl,fun _ _ => rfl,fun _ _ _ => rfl,List.append_assoc,fun _ => rfl,fun _ _ _ => rfl,List.append_nil,fun _ _ _ => rfl,fun _ => rfl,fun _ _ _ => rfl,fun _ => rfl,rfl,rfl,?_⟩;simp
theorem Ec : (∀ (ι : Nat → Nat) x,AV.ren ι (.d x) = .d x) ∧ (∀ (ι : Nat → Nat),AV.ren ι .u = .u) ∧ (∀ (ι : Nat → Nat),AV.ren ι .e0 = .e0) ∧ (∀ (ι : Nat → Nat) x,AV.ren ι (.dp x) = .dp x) ∧ (∀ (ι : Nat → Nat) a b c,AV.ren ι (.ptr a b c) = .ptr (ι a) b c) ∧ (∀ (ι : Nat → Nat) a b c,AV.ren ι (.sl a b c) = .sl (ι a) b c) ∧
  (∀ (ι : Nat → Nat) a,AV.ren ι (.ag a) = .ag (AV.CF ι a)) ∧ (∀ (ι : Nat → Nat) a,AV.ren ι (.tup a) = .tup (AV.CF ι a)) ∧ (∀ (ι : Nat → Nat) f a b,AV.ren ι (.fn f a b) = .fn f (AV.CF ι a) (AV.CF ι b)) ∧ (∀ (ι : Nat → Nat),AV.CF ι [] = []) ∧ (∀ (ι : Nat → Nat) x l,AV.CF ι (x :: l) = x.ren ι :: AV.CF ι l) ∧
  (∀ k i,rn [] k i = k + i) ∧ (∀ a r k,rn (a :: r) k 0 = a) ∧ (∀ a r k i,rn (a :: r) k (i + 1) = rn r k i) ∧
  (∀ H l,KY [] H l = H ++ l) ∧ (∀ a r H b l,KY (a :: r) H (b :: l) = KY r (H.set a b) l) ∧ (∀ ι : Nat → Nat,Dp ι [] = []) ∧ (∀ (ι : Nat → Nat) b l,Dp ι (b :: l) = b.ren ι :: Dp ι l) ∧
  (∀ (ι : Nat → Nat),A2.ren ι .gone = .gone) ∧ (∀ (ι : Nat → Nat) l,A2.ren ι (.c l) = .c (AV.CF ι l)) ∧ (∀ (ι : Nat → Nat) x,A2.ren ι (.a x) = .a x) ∧
  (∀ {α : Type} (x a : α) (l : List α),(x :: l).set 0 a = a :: l) ∧ (∀ {α : Type} (x a : α) (l : List α) (n : Nat),(x :: l).set (n + 1) a = x :: l.set n a) ∧ (∀ {α : Type} (a : α) (n : Nat),[].set n a = []) ∧
  (∀ {α : Type} (a : List α),[] ++ a = a) ∧ (∀ {α : Type} (x : α) (a b : List α),x :: a ++ b = x :: (a ++ b)) ∧ (∀ {α : Type} (a : List α),a ++ [] = a) ∧ (∀ {α : Type} (a : α) (l : List α),(a :: l).length = l.length + 1) ∧ (∀ {α : Type},([] : List α).length = 0) ∧ (∀ n : Nat,0 + n = n) ∧ (∀ n : Nat,n + 0 = n):=by
 refine ⟨fun _ _ => rfl,fun _ => rfl,fun _ => rfl,fun _ _ => rfl,fun _ _ _ _ => rfl,fun _ _ _ _ => rfl,fun _ _ => rfl,fun _ _ => rfl,fun _ _ _ _ => rfl,fun _ => rfl,fun _ _ _ => rfl,fun _ _ => rfl,fun _ _ _ => rfl,fun _ _ _ _ => rfl,fun _ _ => rfl,fun _ _ _ _ _ => rfl,fun _ => rfl,fun _ _ _ => rfl,fun _ => rfl,fun _ _ => rfl,fun _ _ => rfl,fun _ _ _ => rfl,fun _ _ _ _ => rfl,fun _ _ => rfl,fun _ => rfl,fun _ _ _ => rfl,List.append_nil,fun _ _ => rfl,rfl,Nat.zero_add,Nat.add_zero⟩
theorem BU : (∀ a b,Nat.beq a b = decide (a = b)) ∧ (∀ n len,(OC n len = true) = (0 ≤ n ∧ n < (len : Int))) ∧ (∀ n,(Dh .i64 n = true) = (-9223372036854775808 ≤ n ∧ n ≤ 9223372036854775807)) ∧ (∀ n,Dh .u8 n = true) ∧ (∀ n,Dh .u64 n = true) ∧
  (∀ l,A9 (.by l) = l.length) ∧ (∀ l,A9 (.is l) = l.length) ∧ (∀ k l,A9 (.sl k l) = l.length) ∧ (∀ l,An (.by l) = 1) ∧ (∀ l,An (.is l) = 1) ∧ (∀ k l,An (.sl k l) = k) ∧
  (∀ l,A4 (.by l) = true) ∧ (∀ l,A4 (.is l) = true) ∧ (∀ k l,A4 (.sl k l) = true) ∧ (∀ {α : Type} (a b : List α),(a ++ b).length = a.length + b.length) ∧ (∀ n : Nat,n * 1 = n) ∧ (∀ n : Nat,1 * n = n):=by
 refine ⟨Lr,fun n len => propext Cp,fun n => ?_,fun _ => rfl,fun _ => rfl,fun _ => rfl,fun _ => rfl,fun _ _ => rfl,fun _ => rfl,fun _ => rfl,fun _ _ => rfl,fun _ => rfl,fun _ => rfl,fun _ _ => rfl,fun _ _ => List.length_append,Nat.mul_one,Nat.one_mul⟩;simp only [Dh,Bool.and_eq_true,decide_eq_true_eq]
mutual
theorem AV.TG {k k' : Nat} (hk : k ≤ k') : ∀ {x : AV},x.ok k = true → x.ok k' = true
 | .d _,_ => rfl
 | .u,_ => rfl
 | .e0,_ => rfl
 | .dp _,_ => rfl
 | .ptr _ _ _,h => by simp only [AV.ok,Nat.blt_eq] at h ⊢;omega
 | .sl _ _ _,h => by simp only [AV.ok,Nat.blt_eq] at h ⊢;omega
 | .bs _ _ _ _ _,h => by simp only [AV.ok,Nat.blt_eq] at h ⊢;omega
 | .ep _ _ _ _ _,h => by simp only [AV.ok,Nat.blt_eq] at h ⊢;omega
 | .yl _,h => by simp only [AV.ok,Nat.blt_eq] at h ⊢;omega
 | .mp _,h => by simp only [AV.ok,Nat.blt_eq] at h ⊢;omega
 | .ag cs,h => by simp only [AV.ok] at h ⊢;exact AV.HG hk h
 | .tup cs,h => by simp only [AV.ok] at h ⊢;exact AV.HG hk h
 | .fn _ a b,h => by simp only [AV.ok,Bool.and_eq_true] at h ⊢;exact ⟨AV.HG hk h.1,AV.HG hk h.2⟩
theorem AV.HG {k k' : Nat} (hk : k ≤ k') : ∀ {l : List AV},AV.oks k l = true → AV.oks k' l = true
 | [],_ => rfl
 | x :: r,h => by simp only [AV.oks,Bool.and_eq_true] at h ⊢;exact ⟨AV.TG hk h.1,AV.HG hk h.2⟩
end
variable {H : List A2} {xs : List AV} {l : List D}
theorem Eb : B9 H (.tup xs) (.tup l) ↔ BX H xs l:=by simp [B9]
theorem Ja : B9 H (.ag xs) (.agg l) ↔ BX H xs l:=by simp [B9]
variable {y : D}
theorem BS {x : AV} : BX H (x :: xs) (y :: l) ↔ B9 H x y ∧ BX H xs l:=by
 simp only [BX];constructor
 ·rintro ⟨_,_,h,h1,h2⟩;cases h;exact ⟨h1,h2⟩
 ·rintro ⟨h1,h2⟩;exact ⟨_,_,rfl,h1,h2⟩
theorem C4 : BX H [] [] ↔ True:=by simp [BX]
theorem By {x : D} : B9 H (.d x) y ↔ y = x:=by simp [B9]
theorem Jb : B9 H .e0 y ↔ A4 y = true ∧ A9 y = 0 ∧ A3 y:=by simp [B9]
theorem IF {i n sz : Nat} : B9 H (.sl i n sz) y ↔ H[i]? = some (.a y) ∧ n = A9 y:=by simp [B9]
def AW (dst : Option Tmp) (x : AV) (env : List (Nat × AV)) : Option (List (Nat × AV)) :=
 match dst with
 | some d => some ((d,x) :: env)
 | none => some env
theorem AL {dst : Option Tmp} {x : AV} {env e : List (Nat × AV)} (h : AW dst x env = some e) : e = AU dst x env:=by
 cases dst <;> simp_all [AW,AU]
def D8 : List Nat → List (Nat × AV) → Option (List (Nat × AV))
 | [],_ => some []
 | t :: r,env => match get env t with
  | some x => match D8 r env with
   | some l => some ((t,x) :: l)
   | none => none
  | none => D8 r env
theorem BO : ∀ {l : List Nat} {env e : List (Nat × AV)},D8 l env = some e → e = Cm l env
 | [],env,e,h => by simp [D8] at h;simp [Cm,h]
 | t :: r,env,e,h => by
  simp only [D8] at h;simp only [Cm];split at h
  ·rename_i x hx;rw [hx];split at h
   ·rename_i l hl;cases h;rw [BO hl]
   ·cases h
  ·rename_i hx;rw [hx];exact BO h
def EX : List A2 → A2 → Option (List A2)
 | [],b => some [b]
 | x :: r,b => match EX r b with
  | some l => some (x :: l)
  | none => none
theorem F6 : ∀ {H : List A2} {b : A2} {l : List A2},EX H b = some l → l = H ++ [b]
 | [],b,l,h => by simp [EX] at h;simp [h]
 | x :: r,b,l,h => by
  simp only [EX] at h;split at h
  ·rename_i q hq;cases h;rw [F6 hq];rfl
  ·cases h
section
variable {P : Program} {ro : Option Nat} {ops : Array Oper} {i : Nat} {rest : List Oper} {S0 : St} {en : List (Nat × AV)} {hp : List A2} {nt : Nat} {Q : Exit → St → Prop} {o : Oper} {E : Nat → Option AT} {A : Prop} {acc : List Rc}
variable {e : List (Nat × AV)}
theorem Xn (live : List Nat) (h : D8 live en = some e) (k : Q .normal ⟨e,hp,nt⟩) : Wl P ro ops i [] ⟨en,hp,nt⟩ Q:=by
 have:=BO h;subst this;exact Qk (fun t x hx => (GW hx).2) (LF k)
variable {x x' : AV} {c : Bool}
theorem Xq (hE : Ay P E) (hg : A7 ops en o = some true) (h : GG E en hp o.op = some (c,x)) (hd : AD o.dst nt = true) (he : AW o.dst x' en = some e) (k : Wl P ro ops (i + 1) rest ⟨e,hp,nt⟩ Q) (hc : c = true) (hx : x = x':=by first | (simp only [Ie,Ec,Nat.reduceAdd,Int.reduceAdd,Int.reduceSub,Int.reduceMul,Int.reduceToNat,nS];rfl) | rfl) : Wl P ro ops i (o :: rest) ⟨en,hp,nt⟩ Q:=by
 subst hx;rw [AL he] at k;exact ap hE hg h hd hc k
def eI : Op → Bool
 | .move _ | .assign _ | .extract _ _ | .pick _ _ _ => true
 | _ => false
variable {b : Bool}
theorem sg (h : b = true) : b = true:=h
variable {S : St}
theorem Y7 (k : Wl P ro ops i rest S Q) : Wl P ro ops i rest S Q:=k
theorem gWd (k : Wd P ro E ops S0 A acc rest S) : Wd P ro E ops S0 A acc rest S:=k
theorem E0 (_ : eI o.op = true) (k : Wl P ro ops i (o :: rest) S Q) : Wl P ro ops i (o :: rest) S Q:=k
theorem Ni (_ : eI o.op = true) (k : Wd P ro E ops S0 A acc (o :: rest) S) : Wd P ro E ops S0 A acc (o :: rest) S:=k
theorem Y5 (hE : Ay P E) (hg : A7 ops en o = some true) (h : GG E en hp o.op = some (true,x)) (hd : AD o.dst nt = true) (he : AW o.dst x en = some e) (k : Wl P ro ops (i + 1) rest ⟨e,hp,nt⟩ Q) : Wl P ro ops i (o :: rest) ⟨en,hp,nt⟩ Q:=by
 rw [AL he] at k;exact ap hE hg h hd rfl k
variable {f : Nat → AV} {H' : List A2}
theorem Xa (hE : Ay P E) {b : A2} (hg : A7 ops en o = some true) (h : VG E en hp o.op = some (c,f,b)) (hd : AD o.dst nt = true) (he : AW o.dst x' en = some e) (hH : EX hp b = some H') (k : Wl P ro ops (i + 1) rest ⟨e,H',nt⟩ Q) (hc : c = true) (hx : f hp.length = x':=by first | (simp only [Ie,Ec,Nat.reduceAdd,Int.reduceAdd,Int.reduceSub,Int.reduceMul,Int.reduceToNat,nS];rfl) | rfl) : Wl P ro ops i (o :: rest) ⟨en,hp,nt⟩ Q:=by
 subst hx;rw [AL he,F6 hH] at k;exact Wl_a hE hg h hd hc k
variable {q : D}
theorem Xao (hE : Ay P E) (hg : A7 ops en o = some true) (h : Jg E en hp o.op = some (c,q)) (hd : AD o.dst nt = true) (he : AW o.dst x' en = some e) (hH : EX hp (.a q) = some H') (k : Wl P ro ops (i + 1) rest ⟨e,H',nt⟩ Q) (hc : c = true) (hx : .sl hp.length (A9 q) (An q) = x':=by first | (simp only [Ie,Ec,Nat.reduceAdd,Int.reduceAdd,Int.reduceSub,Int.reduceMul,Int.reduceToNat,nS];rfl) | rfl) : Wl P ro ops i (o :: rest) ⟨en,hp,nt⟩ Q:=by
 subst hx;rw [AL he,F6 hH] at k;exact dh hE hg h hd hc k
def KG (dst : Option Tmp) (L : List Nat) : Bool :=
 match dst with
 | some d => L.any (Nat.beq d)
 | none => false
theorem YZ (L : List Nat) (hE : Ay P E) (_ : KG o.dst L = true) (hg : A7 ops en o = some true) (h : Jg E en hp o.op = some (c,q)) (hd : AD o.dst nt = true) (he : AW o.dst x' en = some e) (hH : EX hp (.a q) = some H') (k : Wl P ro ops (i + 1) rest ⟨e,H',nt⟩ Q) (hc : c = true) (hx : .sl hp.length (A9 q) (An q) = x':=by first | (simp only [Ie,Ec,Nat.reduceAdd,Int.reduceAdd,Int.reduceSub,Int.reduceMul,Int.reduceToNat,nS];rfl) | rfl) : Wl P ro ops i (o :: rest) ⟨en,hp,nt⟩ Q:=Xao hE hg h hd he hH k hc hx
theorem Xw (hE : Ay P E) (hg : A7 ops en o = some true) (h : Y6 E en hp o.op = some (c,x,H')) (hd : AD o.dst nt = true) (he : AW o.dst x' en = some e) (k : Wl P ro ops (i + 1) rest ⟨e,H',nt⟩ Q) (hc : c = true) (hx : x = x':=by first | (simp only [Ie,Ec,Nat.reduceAdd,Int.reduceAdd,Int.reduceSub,Int.reduceMul,Int.reduceToNat,nS];rfl) | rfl) : Wl P ro ops i (o :: rest) ⟨en,hp,nt⟩ Q:=by
 subst hx;rw [AL he] at k;exact Wl_w hE hg h hd hc k
theorem Xs (hg : A7 ops en o = some false) (hd : AD o.dst nt = true) (he : AW o.dst (.d (.tup [])) en = some e) (k : Wl P ro ops (i + 1) rest ⟨e,hp,nt⟩ Q) : Wl P ro ops i (o :: rest) ⟨en,hp,nt⟩ Q:=by
 rw [AL he] at k;exact SZ hg hd k
variable {es : List (List D)} {e' : List (Nat × AV)}
theorem VF (hE : Ay P E) {n : Int} {e : List D} (hg : A7 ops en o = some true) (h : GG E en hp o.op = some (OC n es.length && b,.dp (es.getD n.toNat []))) (hd : AD o.dst nt = true) (he' : AW o.dst (.dp e) en = some e') (hb : b = true) (hn : 0 ≤ n) (he : es[n.toNat]? = some e) (k : Wl P ro ops (i + 1) rest ⟨e',hp,nt⟩ Q) : Wl P ro ops i (o :: rest) ⟨en,hp,nt⟩ Q:=by
 rw [AL he'] at k;exact di hE hg h hd hb hn he k
theorem Vg {d : Nat} (hg : UF ops o = some d) (hb : get en d = some (.d (.b b))) (ht : b = true → Wl P ro ops i (o :: rest) ⟨(d,.d (.b true)) :: en,hp,nt⟩ Q) (hf : b = false → Wl P ro ops i (o :: rest) ⟨(d,.d (.b false)) :: en,hp,nt⟩ Q) : Wl P ro ops i (o :: rest) ⟨en,hp,nt⟩ Q :=
 Vf hg hb ht hf
theorem Vh {d : Nat} (hg : UF ops o = some d) (hb : get en d = some (.d (.b b))) (ht : b = true → Wd P ro E ops S0 A acc (o :: rest) ⟨(d,.d (.b true)) :: en,hp,nt⟩) (hf : b = false → Wd P ro E ops S0 A acc (o :: rest) ⟨(d,.d (.b false)) :: en,hp,nt⟩) : Wd P ro E ops S0 A acc (o :: rest) ⟨en,hp,nt⟩ :=
 VZ hg hb ht hf
variable {g : Nat} {ds : List D}
theorem XF {r r' : D} (hF : Go.Gar.Fn P g ds r) (hg : A7 ops en o = some true) (h : Am en o.op = some (g,ds.map .d)) (hd : AD o.dst nt = true) (he : AW o.dst (.d r') en = some e) (k : Wl P ro ops (i + 1) rest ⟨e,hp,nt⟩ Q) (hr : r = r':=by first | (simp only [Ie,Ec,Nat.reduceAdd,Int.reduceAdd,Int.reduceSub,Int.reduceMul,Int.reduceToNat,nS];rfl) | rfl) : Wl P ro ops i (o :: rest) ⟨en,hp,nt⟩ Q:=by
 subst hr;rw [AL he] at k;exact de hF hg h hd k
variable {xs : List AV}
theorem YY {r r' : D} (hF : Go.Gar.Fn P g ds r) (hg : A7 ops en o = some true) (h : Am en o.op = some (g,xs)) (hd : AD o.dst nt = true) (he : AW o.dst (.d r') en = some e) (hx : I7 xs ds) (k : Wl P ro ops (i + 1) rest ⟨e,hp,nt⟩ Q) (hr : r = r':=by first | (simp only [Ie,Ec,Nat.reduceAdd,Int.reduceAdd,Int.reduceSub,Int.reduceMul,Int.reduceToNat,nS];rfl) | rfl) : Wl P ro ops i (o :: rest) ⟨en,hp,nt⟩ Q:=by
 subst hr;rw [AL he] at k;exact dc hg h hd hF hx k
theorem XD {args : List AV} {H : List A2} {r r' : AV} {H'' : List A2} (ids : List Nat) (hF : B4 P g args H r H') (hg : A7 ops en o = some true) (h : Am en o.op = some (g,AV.CF (rn ids hp.length) args)) (hd : AD o.dst nt = true) (hm : C6 (rn ids hp.length) hp ids H) (hn : nodupB ids = true) (ho : AY H.length H = true) (ha : AV.oks H.length args = true) (he : AW o.dst r' en = some e) (k : Wl P ro ops (i + 1) rest ⟨e,H'',nt⟩ Q) (hr : r.ren (rn ids hp.length) = r':=by first | (simp only [Ie,Ec,Nat.reduceAdd,Int.reduceAdd,Int.reduceSub,Int.reduceMul,Int.reduceToNat,nS];rfl) | rfl) (hH : KY ids hp (Dp (rn ids hp.length) H') = H'':=by first | (simp only [Ec,Nat.reduceAdd];rfl) | rfl) : Wl P ro ops i (o :: rest) ⟨en,hp,nt⟩ Q:=by
 subst hr;subst hH;rw [AL he] at k;exact Wl_D ids hF hg h hd hm hn ho ha k
theorem Xy {id : Nat} {r0 : Lp} (hT : YT P id xs hp fun r K => r = x ∧ K = H') (hg : A7 ops en o = some true) (h : E3 en o.op = some (id,xs)) (hd : AD o.dst nt = true) (hlp : hp[id]? = some (.lp r0)) (he : AW o.dst x en = some e) (k : Wl P ro ops (i + 1) rest ⟨e,H',nt⟩ Q) : Wl P ro ops i (o :: rest) ⟨en,hp,nt⟩ Q:=by
 rw [AL he] at k;exact dj hg h hd hlp hT fun r K ⟨h1,h2⟩ => by subst h1;subst h2;exact k
variable {ps : Array Tmp}
theorem VX {g : Operand} {asg body : Code} {f : FuncId} {first cap : List AV} {L : Nat} {F : Lp → List A2} (K : Lp → AV → List A2 → Prop) (hg : Bh en g = some (.fn (.func f) first cap)) (hL : hp.length = L) (hxs : first ++ [.yl L] ++ cap = xs) (hF : ∀ r,hp ++ [.lp r] = F r) (seq : ∀ r,r.is nt en ps asg body → I5 P f xs (F r) (K r)) (k : ∀ r,r.is nt en ps asg body → ∀ x H',K r x H' →
   (H'[L]? = some (.lp r) ∧ Q .normal ⟨en,H'.set L (.lp r.out),nt⟩) ∨
   ∃ c,H'[L]? = some (.lp (r.left c)) ∧ W P ro c ⟨en,H'.set L (.lp (r.left c).out),nt⟩ Q) : W P ro (.rangeFunc g ps asg body) ⟨en,hp,nt⟩ Q:=by
 subst hL;subst hxs;exact VW (S:=⟨en,hp,nt⟩) K hg (fun r hr => by have:=seq r hr;rw [← hF] at this;exact this) k
theorem A1.refl (S : St) : A1 S S:=fun _ _ G _ _ r _ => ⟨G,r,⟨fun id b b' hb hb' => by rw [hb] at hb';cases hb';exact AC.refl _ _ _,Mem.le_refl _,fun _ h => h,fun _ _ _ h => .inl h⟩⟩
def dJ {α : Type} (I : α → Prop) (St0 : α → St) (lt : α → Prop) (k : Nat) (Q : Exit → St → Prop) : Exit → St → Prop
 | .normal,S' => ∃ y,I y ∧ lt y ∧ k ≤ (St0 y).H.length ∧ A1 S' (St0 y)
 | e,S' => Q e S'
theorem Ae {α : Type} {c : Code} (I : α → Prop) (St0 : α → St) (μ : α → Nat) (x0 : α) (h0 : I x0) (t : A1 S (St0 x0)) (hl : S.H.length ≤ (St0 x0).H.length) (body : ∀ x,I x → W P ro c (St0 x) (dJ I St0 (fun y => μ y < μ x) (St0 x).H.length Q)) : W P ro (.loop c) S Q:=by
 refine ah (α:={x // I x}) (fun x => St0 x.1) (fun x => μ x.1) ⟨x0,h0⟩ t hl (fun x => (body x.1 x.2).mono ?_);intro e S' q
 cases e with
 | normal => obtain ⟨y,h1,h2,h3,h4⟩:=q;exact ⟨⟨y,h1⟩,h2,h3,h4⟩
 | _ => exact q
theorem Qq {k k' : Nat} (hk : k ≤ k') (h : Cy k e = true) : Cy k' e = true:=by
 induction e with
 | nil => rfl
 | cons p r ih => simp only [Cy,Bool.and_eq_true] at h ⊢;exact ⟨AV.TG hk h.1,ih h.2⟩
theorem Lp.is.ok {r : Lp} {n : Nat} {env : List (Nat × AV)} {asg body : Code} (h : r.is n env ps asg body) {k : Nat} (hk : Cy k env = true) : ∀ k',(decide (k ≤ k')) = true → Cy k' r.env = true ∧ Cy k' r.busy.env = true ∧ Cy k' r.out.env = true ∧ ∀ c,Cy k' (r.left c).env = true:=by
 intro k' hle;have : Cy k' r.env = true:=by rw [h.2.2.2.1];exact Qq (of_decide_eq_true hle) hk
 exact ⟨this,this,this,fun _ => this⟩
theorem Yn {id : Nat} (live : List Nat) (l : List (Nat × Nat)) (hm : P.follows .mixedOrders = true) (hE : Ay P E) (hd : FY ops (acc.reverse.map Rc.k) l = true) (hx : Ba E ops acc.reverse hp l) (he : D8 live en = some e) (hQ : Q .normal ⟨e,hp,nt⟩) : Wd P ro E ops S0 (W P ro (.region id ops true) S0 Q) acc [] ⟨en,hp,nt⟩:=by
 have:=BO he;subst this;exact Nh (fun t x hx => (GW hx).2) (aj (S:=⟨Cm live en,hp,nt⟩) l hm hE hd hx hQ)
variable {e0 : List (Nat × AV)}
theorem Yp (hE : Ay P E) (hl : D8 (looks ops o) en = some e0) (hg : A7 ops e0 o = some true) (h : ∀ H,GG E e0 H o.op = some (c,x)) (hd : AD o.dst nt = true) (he : AW o.dst x' en = some e) (hk : Wd P ro E ops S0 A (⟨e0,hp,x',.any⟩ :: acc) rest ⟨e,hp,nt⟩) (hc : c = true) (hx : x = x':=by first | (simp only [Ie,Ec,Nat.reduceAdd,Int.reduceAdd,Int.reduceSub,Int.reduceMul,Int.reduceToNat,nS];rfl) | rfl) : Wd P ro E ops S0 A acc (o :: rest) ⟨en,hp,nt⟩:=by
 subst hx;rw [AL he] at hk;have:=BO hl;subst this;exact YU hE hg h hd hc hk
theorem Ymv (hE : Ay P E) (hl : D8 (looks ops o) en = some e0) (hg : A7 ops e0 o = some true) (h : ∀ H,GG E e0 H o.op = some (true,x)) (hd : AD o.dst nt = true) (he : AW o.dst x en = some e) (hk : Wd P ro E ops S0 A (⟨e0,hp,x,.any⟩ :: acc) rest ⟨e,hp,nt⟩) : Wd P ro E ops S0 A acc (o :: rest) ⟨en,hp,nt⟩:=by
 rw [AL he] at hk;have:=BO hl;subst this;exact YU hE hg h hd rfl hk
theorem Yq (hl : D8 (looks ops o) en = some e0) (hg : A7 ops e0 o = some true) (h : GG E e0 hp o.op = some (c,x)) (hd : AD o.dst nt = true) (he : AW o.dst x' en = some e) (hk : Wd P ro E ops S0 A (⟨e0,hp,x',.quiet⟩ :: acc) rest ⟨e,hp,nt⟩) (hc : c = true) (hx : x = x':=by first | (simp only [Ie,Ec,Nat.reduceAdd,Int.reduceAdd,Int.reduceSub,Int.reduceMul,Int.reduceToNat,nS];rfl) | rfl) : Wd P ro E ops S0 A acc (o :: rest) ⟨en,hp,nt⟩:=by
 subst hx;rw [AL he] at hk;have:=BO hl;subst this;exact da hg h hd hc hk
theorem Ys (hl : D8 (looks ops o) en = some e0) (hg : A7 ops e0 o = some false) (hd : AD o.dst nt = true) (he : AW o.dst (.d (.tup [])) en = some e) (hk : Wd P ro E ops S0 A (⟨e0,hp,.d (.tup []),.skip⟩ :: acc) rest ⟨e,hp,nt⟩) : Wd P ro E ops S0 A acc (o :: rest) ⟨en,hp,nt⟩:=by
 rw [AL he] at hk;have:=BO hl;subst this;exact SX hg hd hk
theorem YF {q' : D} (hF : Go.Gar.Fn P g ds q) (hl : D8 (looks ops o) en = some e0) (hg : A7 ops e0 o = some true) (h : Am e0 o.op = some (g,ds.map .d)) (hd : AD o.dst nt = true) (he : AW o.dst (.d q') en = some e) (hk : Wd P ro E ops S0 A (⟨e0,hp,.d q',.any⟩ :: acc) rest ⟨e,hp,nt⟩) (hr : q = q':=by first | (simp only [Ie,Ec,Nat.reduceAdd,Int.reduceAdd,Int.reduceSub,Int.reduceMul,Int.reduceToNat,nS];rfl) | rfl) : Wd P ro E ops S0 A acc (o :: rest) ⟨en,hp,nt⟩:=by
 subst hr;rw [AL he] at hk;have:=BO hl;subst this;exact dX hF hg h hd hk
theorem cr {q' : D} (hF : Go.Gar.Fn P g ds q) (hl : D8 (looks ops o) en = some e0) (hg : A7 ops e0 o = some true) (h : Am e0 o.op = some (g,xs)) (hd : AD o.dst nt = true) (he : AW o.dst (.d q') en = some e) (hx : I7 xs ds) (hk : Wd P ro E ops S0 A (⟨e0,hp,.d q',.any⟩ :: acc) rest ⟨e,hp,nt⟩) (hr : q = q':=by first | (simp only [Ie,Ec,Nat.reduceAdd,Int.reduceAdd,Int.reduceSub,Int.reduceMul,Int.reduceToNat,nS];rfl) | rfl) : Wd P ro E ops S0 A acc (o :: rest) ⟨en,hp,nt⟩:=by
 subst hr;rw [AL he] at hk;have:=BO hl;subst this;exact dW hg h hd hF hx hk
theorem YD {args : List AV} {H : List A2} {r r' : AV} {H'' : List A2} (ids : List Nat) (hF : B4 P g args H r H') (hl : D8 (looks ops o) en = some e0) (hg : A7 ops e0 o = some true) (h : Am e0 o.op = some (g,AV.CF (rn ids hp.length) args)) (hd : AD o.dst nt = true) (hm : C6 (rn ids hp.length) hp ids H) (hn : nodupB ids = true) (ho : AY H.length H = true) (ha : AV.oks H.length args = true) (he : AW o.dst r' en = some e) (hk : Wd P ro E ops S0 A (⟨e0,hp,r',.eff⟩ :: acc) rest ⟨e,H'',nt⟩) (hr : r.ren (rn ids hp.length) = r':=by first | (simp only [Ie,Ec,Nat.reduceAdd,Int.reduceAdd,Int.reduceSub,Int.reduceMul,Int.reduceToNat,nS];rfl) | rfl) (hH : KY ids hp (Dp (rn ids hp.length) H') = H'':=by first | (simp only [Ec,Nat.reduceAdd];rfl) | rfl) : Wd P ro E ops S0 A acc (o :: rest) ⟨en,hp,nt⟩:=by
 subst hr;subst hH;rw [AL he] at hk;have:=BO hl;subst this;exact Wd_D ids hF hg h hd hm hn ho ha hk
theorem Ya (hE : Ay P E) {b : A2} (hl : D8 (looks ops o) en = some e0) (hg : A7 ops e0 o = some true) (h : VG E e0 hp o.op = some (c,f,b)) (hd : AD o.dst nt = true) (he : AW o.dst x' en = some e) (hH : EX hp b = some H') (hk : Wd P ro E ops S0 A (⟨e0,hp,x',.eff⟩ :: acc) rest ⟨e,H',nt⟩) (hc : c = true) (hx : f hp.length = x':=by first | (simp only [Ie,Ec,Nat.reduceAdd,Int.reduceAdd,Int.reduceSub,Int.reduceMul,Int.reduceToNat,nS];rfl) | rfl) : Wd P ro E ops S0 A acc (o :: rest) ⟨en,hp,nt⟩:=by
 subst hx;rw [AL he,F6 hH] at hk;have:=BO hl;subst this;exact Wd_a hE hg h hd hc hk
theorem Yao (hE : Ay P E) (hl : D8 (looks ops o) en = some e0) (hg : A7 ops e0 o = some true) (h : Jg E e0 hp o.op = some (c,q)) (hd : AD o.dst nt = true) (he : AW o.dst x' en = some e) (hH : EX hp (.a q) = some H') (hk : Wd P ro E ops S0 A (⟨e0,hp,x',.eff⟩ :: acc) rest ⟨e,H',nt⟩) (hc : c = true) (hx : .sl hp.length (A9 q) (An q) = x':=by first | (simp only [Ie,Ec,Nat.reduceAdd,Int.reduceAdd,Int.reduceSub,Int.reduceMul,Int.reduceToNat,nS];rfl) | rfl) : Wd P ro E ops S0 A acc (o :: rest) ⟨en,hp,nt⟩:=by
 subst hx;rw [AL he,F6 hH] at hk;have:=BO hl;subst this;exact dY hE hg h hd hc hk
theorem dm (L : List Nat) (hE : Ay P E) (_ : KG o.dst L = true) (hl : D8 (looks ops o) en = some e0) (hg : A7 ops e0 o = some true) (h : Jg E e0 hp o.op = some (c,q)) (hd : AD o.dst nt = true) (he : AW o.dst x' en = some e) (hH : EX hp (.a q) = some H') (hk : Wd P ro E ops S0 A (⟨e0,hp,x',.eff⟩ :: acc) rest ⟨e,H',nt⟩) (hc : c = true) (hx : .sl hp.length (A9 q) (An q) = x':=by first | (simp only [Ie,Ec,Nat.reduceAdd,Int.reduceAdd,Int.reduceSub,Int.reduceMul,Int.reduceToNat,nS];rfl) | rfl) : Wd P ro E ops S0 A acc (o :: rest) ⟨en,hp,nt⟩:=Yao hE hl hg h hd he hH hk hc hx
theorem Yw (hE : Ay P E) (hl : D8 (looks ops o) en = some e0) (hg : A7 ops e0 o = some true) (h : Y6 E e0 hp o.op = some (c,x,H')) (hd : AD o.dst nt = true) (he : AW o.dst x' en = some e) (hk : Wd P ro E ops S0 A (⟨e0,hp,x',.eff⟩ :: acc) rest ⟨e,H',nt⟩) (hc : c = true) (hx : x = x':=by first | (simp only [Ie,Ec,Nat.reduceAdd,Int.reduceAdd,Int.reduceSub,Int.reduceMul,Int.reduceToNat,nS];rfl) | rfl) : Wd P ro E ops S0 A acc (o :: rest) ⟨en,hp,nt⟩:=by
 subst hx;rw [AL he] at hk;have:=BO hl;subst this;exact Wd_w hE hg h hd hc hk
theorem Zu (hE : Ay P E) {n : Int} {e : List D} (hl : D8 (looks ops o) en = some e0) (hg : A7 ops e0 o = some true) (h : ∀ H,GG E e0 H o.op = some (OC n es.length && b,.dp (es.getD n.toNat []))) (hd : AD o.dst nt = true) (he' : AW o.dst (.dp e) en = some e') (hb : b = true) (hn : 0 ≤ n) (he : es[n.toNat]? = some e) (hk : Wd P ro E ops S0 A (⟨e0,hp,.dp e,.any⟩ :: acc) rest ⟨e',hp,nt⟩) : Wd P ro E ops S0 A acc (o :: rest) ⟨en,hp,nt⟩:=by
 rw [AL he'] at hk;have:=BO hl;subst this;exact dZ hE hg h hd hb hn he hk
end
theorem A1.trans' {A B C : St} (h : A1 A B) (k : A1 B C) (hlt : C.H.length ≤ B.H.length) : A1 A C:=h.trans (fun _ => trivial) k hlt
theorem A1.Z2 {S : St} (t id : Nat) {x : D} {n sz : Nat} (hid : S.H[id]? = some (.a x)) (ht : get S.env t = some (.sl id n sz)) (hn : n = A9 x) : A1 S ⟨(t,.d x) :: S.env,Dg id x 0 S.H,S.n⟩:=by
 intro ro N G a w r _;have hid' : G.H[id]? = some (.a x):=by rw [r.heap];exact hid
 obtain ⟨h1,h2⟩:=IL r.rel hid';refine ⟨G.freeze w id x,⟨by show Dg id x 0 G.H = _;rw [r.heap],h1,r.size,fun u y hy => ?_,r.marks.SE h2,fun i hi => ?_⟩,h2⟩
 ·simp only [get] at hy;split at hy
  ·rename_i hb;cases hy;have:=Nat.eq_of_beq_eq_true hb;subst this;obtain ⟨v,hv,hrv⟩:=r.env t _ ht;refine ⟨v,hv,?_⟩;have:=hrv.Ef r.rel hid';simpa [AV.Ef,hn] using this
  ·obtain ⟨v,hv,hrv⟩:=r.env u y hy;exact ⟨v,hv,hrv.mono (Ao r.rel hid')⟩
 ·obtain ⟨q,l,M,q1,q2⟩:=r.round i hi;refine ⟨q,l,M,?_,q2⟩;have:=Hd (id:=id) (x:=x) (i:=0) q1;rw [Nat.zero_add,if_neg (fun e => by subst e;rw [hid] at q1;cases q1)] at this;exact this
theorem I5.e0 {P : Program} {f : FuncId} {rest : List AV} {R : AV → List A2 → Prop} (q : D) (hs : A4 q = true) (hl : A9 q = 0) (ho : A3 q) (h : I5 P f (.sl H.length 0 (An q) :: rest) (H ++ [.a q]) R) : I5 P f (.e0 :: rest) H R:=by
 refine ⟨h.1,fun G w vs hG hr hargs => ?_⟩;obtain ⟨h1,h2⟩:=ON hr hs hl ho;have hfr : BW G w (G.nil q) w:=(BW.refl G w).ghost h2 (by show G.H.length ≤ (G.H ++ [A2.a q]).length;simp);have hGH : (G.nil q).H = H ++ [.a q]:=by show G.H ++ [A2.a q] = _;rw [hG]
 have ha : AS (G.nil q) (.sl H.length 0 (An q) :: rest) vs.toList:=by
  simp only [AS] at hargs ⊢;obtain ⟨v,r,hv,⟨a,rfl⟩,hr⟩:=hargs;refine ⟨_,r,hv,?_,hr.mono (Kx G q)⟩;simp only [RV];exact ⟨rfl,.a q,by rw [hGH];simp,rfl,by omega,fun _ => .inl ⟨trivial,a,rfl⟩⟩
 refine (h.2 (G.nil q) w vs hGH h1 ha).mono ?_;rintro e w' ⟨v,r,G',rfl,hR,hv,hr',hf⟩;exact ⟨v,r,G',rfl,hR,hv,hr',hfr.trans hf⟩
end Go.Gar
namespace Go.Gar
inductive Sh where
 | int (k : IntKind)
 | bool
 | str
 | by
 | is
 | sl (l : List Sh)
mutual
def Tg : Sh → D → Prop
 | .int k,d => ∃ n,d = .i k n ∧ (Lit.int k n).wf = true
 | .bool,d => ∃ b,d = .b b
 | .str,d => ∃ l,d = .s l ∧ l.length ≤ maxLen
 | .by,d => ∃ l,d = .by l ∧ l.length ≤ maxLen
 | .is,d => ∃ l,d = .is l ∧ l.length ≤ maxLen ∧ ∀ n ∈ l,(Lit.int .i64 n).wf = true
 | .sl shs,d => ∃ es,d = .sl (MX shs) es ∧ es.length ≤ maxLen ∧ ∀ e ∈ es,CI shs e
def CI : List Sh → List D → Prop
 | [],ds => ds = []
 | s :: l,ds => ∃ d r,ds = d :: r ∧ Tg s d ∧ CI l r
def MX : List Sh → Nat
 | [] => 0
 | _ :: l => MX l + 1
end
def XZ : Nat → List Sh → List Sh
 | 0,_ => []
 | n + 1,l => l ++ XZ n l
mutual
def YA (E : Nat → Option AT) : Nat → Nat → Option (List Sh)
 | 0,_ => none
 | n + 1,t => match E t with
  | none => none
  | some y => match y.k with
   | .int k => some [.int k]
   | .bool => some [.bool]
   | .str => some [.str]
   | .sl e => match E e with
    | none => none
    | some z => match z.k with
     | .int .u8 => match Nat.beq z.size 1 with
      | true => some [.by]
      | false => none
     | .int .i64 => match Nat.beq z.size 1 with
      | true => some [.is]
      | false => none
     | _ => match YA E n e with
      | some l => match Nat.beq (MX l) z.size,Nat.beq z.size 0 with
       | true,false => some [.sl l]
       | _,_ => none
      | none => none
   | .st fs => match dC E n 0 fs with
    | some l => match Nat.beq (MX l) y.size with
     | true => some l
     | false => none
    | none => none
   | .arr k e => match E e,YA E n e with
    | some z,some l => match Nat.beq (MX l) z.size,Nat.beq (k * z.size) y.size with
     | true,true => some (XZ k l)
     | _,_ => none
    | _,_ => none
   | _ => none
def dC (E : Nat → Option AT) : Nat → Nat → List (Nat × Nat) → Option (List Sh)
 | _,_,[] => some []
 | 0,_,_ :: _ => none
 | n + 1,o,(off,ft) :: r => match Nat.beq o off,E ft,YA E n ft with
  | true,some z,some l => match Nat.beq (MX l) z.size with
   | true => match dC E n (o + z.size) r with
    | some l' => some (l ++ l')
    | none => none
   | false => none
  | _,_,_ => none
end
theorem Fs : ∀ l : List Sh,MX l = l.length
 | [] => rfl
 | _ :: l => by simp [MX,Fs l]
def EJ (w : World) : Mem:=fun b k => w.cell? ⟨b,k,none⟩
theorem L8 : ∀ {a b : List Sh} {x y : List D},CI a x → CI b y → CI (a ++ b) (x ++ y)
 | [],b,x,y,h,k => by simp only [CI] at h;subst h;exact k
 | s :: a,b,x,y,h,k => by
  simp only [CI] at h;obtain ⟨d,r,rfl,h1,h2⟩:=h;simp only [List.cons_append,CI];exact ⟨d,r ++ y,rfl,h1,L8 h2 k⟩
theorem L9 : ∀ {a : List Sh} {x : List D},CI a x → x.length = a.length
 | [],x,h => by simp only [CI] at h;simp [h]
 | s :: a,x,h => by
  simp only [CI] at h;obtain ⟨d,r,rfl,_,h2⟩:=h;simp [L9 h2]
theorem Nb {m : Mem} : ∀ {a b : List D} {x y : List Value},CU m a x → CU m b y → CU m (a ++ b) (x ++ y)
 | [],b,x,y,h,k => by simp only [CU] at h;subst h;exact k
 | s :: a,b,x,y,h,k => by
  simp only [CU] at h;obtain ⟨d,r,rfl,h1,h2⟩:=h;simp only [List.cons_append,CU];exact ⟨d,r ++ y,rfl,h1,Nb h2 k⟩
theorem Vv {n : Int} (h : (Lit.int .u8 n).wf = true) : n = ((UInt8.ofNat n.toNat).toNat : Int):=by
 simp [Lit.wf,IntKind.min,IntKind.max,IntKind.signed,IntKind.bits] at h;rw [UInt8.toNat_ofNat'];omega
section
variable {P : Program} {E : Nat → Option AT} {H : Type} {enc : TypeId × Value → H} {w : World} {base : Nat} {sp : Nat → Bool} {held : Bool}
theorem Ez {t : Nat} {y : AT} (h : Do P t = some y) : P.cellsOf t = y.size:=by
 obtain ⟨i,d,z,h1,_,_,_,h5,_⟩:=BD h;simp [Program.cellsOf,h1,h5]
theorem JP {t : Nat} {y : AT} (h : Do P t = some y) : ∃ d,P.underlying t = some d ∧ JZ d = y.k:=by
 obtain ⟨i,d,z,_,h2,_,h4,_⟩:=BD h;exact ⟨d,h2,h4.symm⟩
theorem Q2 {α : Type} {g : Nat → Option α} : ∀ {n s : Nat} {l : List α},((List.range' s n).mapM g) = some l → l.length = n ∧ ∀ i,i < n → l[i]? = g (s + i)
 | 0,s,l,h => by simp at h;subst h;simp
 | n + 1,s,l,h => by
  rw [List.range'_succ,List.mapM_cons] at h;simp only [Option.bind_eq_bind,Option.pure_def,Option.bind_eq_some_iff,Option.some.injEq] at h;obtain ⟨a,ha,r,hr,rfl⟩:=h;obtain ⟨h1,h2⟩:=Q2 hr;refine ⟨by simp [h1],fun i hi => ?_⟩
  cases i with
  | zero => simp [ha]
  | succ i =>
   simp only [List.getElem?_cons_succ];rw [h2 i (by omega),show s + 1 + i = s + (i + 1) by omega]
theorem LR {a : Addr} {n : Nat} {cs : List Value} (h : w.cells? base a n = some cs) : cs.length = n ∧ ∀ i,i < n → cs[i]? = w.cell? (a.add i):=by
 unfold World.cells? at h;split at h
 ·rw [List.range_eq_range'] at h;obtain ⟨h1,h2⟩:=Q2 h;exact ⟨h1,fun i hi => by rw [h2 i hi,Nat.zero_add]⟩
 ·cases h
theorem cell_spot {a : Addr} {v : Value} (h : w.cell? a = some v) : a.spot = none:=by
 unfold World.cell? at h;split at h
 ·split at h
  ·cases h
  ·rename_i hs;cases hsp : a.spot with
   | none => rfl
   | some _ => rw [hsp] at hs;simp at hs
 ·cases h
theorem P5 (b off k : Nat) : (Addr.mk b off none).add k = ⟨b,off + k,none⟩:=addr_add b off k
theorem RU {b off sz : Nat} {shs : List Sh} {n : Nat} (hn : shs.length = sz) (h : ∀ i,i < n → ∃ ds vs,CI shs ds ∧ CU (EJ w) ds vs ∧ (∀ c ∈ vs,c.oneCell' = true) ∧ vs.length = sz ∧ ∀ k,k < sz → vs[k]? = w.cell? ⟨b,off + i * sz + k,none⟩) :
  ∃ es : List (List D),es.length = n ∧ (∀ e ∈ es,CI shs e) ∧ Na (EJ w) sz es b off:=by
 induction n generalizing off with
 | zero => exact ⟨[],rfl,by simp,by simp [Na]⟩
 | succ n ih =>
  obtain ⟨ds,vs,h1,h2,h3,h4,h5⟩:=h 0 (by omega)
  obtain ⟨es,k1,k2,k3⟩:=ih (off:=off + sz) (fun i hi => by
   obtain ⟨ds,vs,g1,g2,g3,g4,g5⟩:=h (i + 1) (by omega)
   exact ⟨ds,vs,g1,g2,g3,g4,fun k hk => by rw [g5 k hk,Nat.succ_mul];congr 2;omega⟩)
  refine ⟨ds :: es,by simp [k1],?_,?_⟩
  ·intro e he;rcases List.mem_cons.1 he with rfl | he
   ·exact h1
   ·exact k2 e he
  ·simp only [Na];refine ⟨by rw [L9 h1,hn],Ee.2 fun k d hd => ?_,k3⟩;obtain ⟨hl,hg⟩:=Cn.1 h2;obtain ⟨v,hv,hr⟩:=hg k d hd;have hk : k < sz:=by rw [← h4];exact (List.getElem?_eq_some_iff.1 hv).1
   refine ⟨v,?_,h3 v (List.mem_of_getElem? hv),hr⟩;have:=h5 k hk;rw [hv] at this;show w.cell? ⟨b,off + k,none⟩ = some v;rw [this];congr 2;omega
theorem MF {E : Nat → Option AT} (hE : Ay P E) {cs : List Value} {m : Nat} (ih : ∀ {n t : Nat} {shs : List Sh} {cs : List Value} {x : DataW H × List MemPlace},n < m → YA E n t = some shs → (∃ fuel,DataW.trod enc P w base sp held fuel t cs = some x) → ∃ ds,CI shs ds ∧ CU (EJ w) ds cs ∧ (∀ c ∈ cs,c.oneCell' = true)) :
  ∀ {n o : Nat} {fs : List (Nat × Nat)} {l : List Sh},n ≤ m → dC E n o fs = some l → (∀ off ft,(off,ft) ∈ fs → ∃ fuel x,DataW.trod enc P w base sp held fuel ft ((cs.drop off).take (P.cellsOf ft)) = some x) →
   o + l.length ≤ cs.length → ∃ ds,CI l ds ∧ CU (EJ w) ds ((cs.drop o).take l.length) ∧ (∀ c ∈ (cs.drop o).take l.length,c.oneCell' = true)
 | n,o,[],l,_,h,_,_ => by
  cases n <;> simp [dC] at h <;> subst h <;> exact ⟨[],by simp [CI],by simp [CU],by simp⟩
 | 0,o,_ :: _,l,_,h,_,_ => by simp [dC] at h
 | n + 1,o,(off,ft) :: r,l,hnm,h,hx,hl => by
  simp only [dC] at h;split at h
  ·rename_i z l1 hb hz hs;split at h
   ·rename_i hlen;split at h
    ·rename_i l2 h2;cases h;have ho:=Nat.eq_of_beq_eq_true hb;subst ho;have hsz:=Nat.eq_of_beq_eq_true hlen;rw [Fs] at hsz;have hc:=Ez (hE _ _ hz);simp only [List.length_append] at hl;obtain ⟨fuel,x,hxx⟩:=hx _ _ (List.mem_cons_self);obtain ⟨ds1,a1,a2,a3⟩:=ih (by omega) hs ⟨fuel,hxx⟩;rw [hc,← hsz] at a2 a3;obtain ⟨ds2,b1,b2,b3⟩:=MF hE (fun h => ih h) (n:=n) (by omega) h2 (fun off ft hm => hx off ft (List.mem_cons_of_mem _ hm)) (by omega);rw [← hsz] at b2 b3
     have e : (cs.drop o).take (l1 ++ l2).length = (cs.drop o).take l1.length ++ (cs.drop (o + l1.length)).take l2.length:=by
      rw [List.length_append,List.take_add,List.drop_drop]
     refine ⟨ds1 ++ ds2,L8 a1 b1,by rw [e];exact Nb a2 b2,fun c hc => ?_⟩;rw [e] at hc;rcases List.mem_append.1 hc with hc | hc
     ·exact a3 c hc
     ·exact b3 c hc
    ·cases h
   ·cases h
  ·cases h
theorem NO {sz : Nat} {shs : List Sh} (hn : shs.length = sz) : ∀ {k : Nat} {cs : List Value},cs.length = k * sz → (∀ i,i < k → ∃ ds,CI shs ds ∧ CU (EJ w) ds ((cs.drop (i * sz)).take sz) ∧ ∀ c ∈ (cs.drop (i * sz)).take sz,c.oneCell' = true) →
  ∃ ds,CI (XZ k shs) ds ∧ CU (EJ w) ds cs ∧ ∀ c ∈ cs,c.oneCell' = true
 | 0,cs,hl,_ => by
  have : cs = []:=List.eq_nil_of_length_eq_zero (by simpa using hl);subst this;exact ⟨[],by simp [XZ,CI],by simp [CU],by simp⟩
 | k + 1,cs,hl,h => by
  rw [Nat.succ_mul] at hl;obtain ⟨ds1,a1,a2,a3⟩:=h 0 (by omega);simp only [Nat.zero_mul,List.drop_zero] at a2 a3
  obtain ⟨ds2,b1,b2,b3⟩:=NO hn (k:=k) (cs:=cs.drop sz) (by simp;omega) (fun i hi => by
   obtain ⟨ds,c1,c2,c3⟩:=h (i + 1) (by omega);rw [Nat.succ_mul,Nat.add_comm,← List.drop_drop] at c2 c3
   exact ⟨ds,c1,c2,c3⟩)
  refine ⟨ds1 ++ ds2,by simp only [XZ];exact L8 a1 b1,?_,fun c hc => ?_⟩
  ·rw [← List.take_append_drop sz cs];exact Nb a2 b2
  ·rw [← List.take_append_drop sz cs] at hc;rcases List.mem_append.1 hc with hc | hc
   ·exact a3 c hc
   ·exact b3 c hc
theorem Hr {E : Nat → Option AT} (hE : Ay P E) : ∀ (m : Nat) {n t : Nat} {shs : List Sh} {cs : List Value} {x : DataW H × List MemPlace},n < m → YA E n t = some shs → (∃ fuel,DataW.trod enc P w base sp held fuel t cs = some x) → ∃ ds,CI shs ds ∧ CU (EJ w) ds cs ∧ (∀ c ∈ cs,c.oneCell' = true)
 | 0,_,_,_,_,_,h,_,_ => by omega
 | m + 1,0,t,shs,cs,x,_,h,_ => by simp [YA] at h
 | m + 1,n + 1,t,shs,cs,x,hnm,h,⟨fuel,hx⟩ => by
  simp only [YA] at h;split at h
  ·cases h
  ·rename_i y hy;have hmk:=hE _ _ hy;obtain ⟨dsc,hu,hk⟩:=JP hmk;split at h
   ·rename_i k hyk;cases h;rw [hyk] at hk;rw [FQ hk] at hu;obtain ⟨v,rfl,_,hw⟩:=DataW.trod_int hu hx;exact ⟨[.i k v],by simp [CI,Tg,hw],by simp [CU,RD],by simp [Value.oneCell']⟩
   ·rename_i hyk;cases h;rw [hyk] at hk;rw [J8 hk] at hu;obtain ⟨v,rfl,_⟩:=DataW.trod_bool hu hx;exact ⟨[.b v],by simp [CI,Tg],by simp [CU,RD],by simp [Value.oneCell']⟩
   ·rename_i hyk;cases h;rw [hyk] at hk;rw [Eh hk] at hu;obtain ⟨v,rfl,_,hw⟩:=DataW.trod_string hu hx;exact ⟨[.s v.data.toList],by simp [CI,Tg];simpa using hw,by simp [CU,RD],by simp [Value.oneCell']⟩
   ·rename_i e hyk;rw [hyk] at hk;rw [Cf hk] at hu;split at h
    ·cases h
    ·rename_i z hz;have hmz:=hE _ _ hz;have hc:=Ez hmz;obtain ⟨ez,hez,hkz⟩:=JP hmz
     have key : ∀ {sh : List Sh},sh.length = z.size → z.size ≠ 0 → (∀ {cs : List Value} {x : DataW H × List MemPlace} {fuel : Nat},DataW.trod enc P w base sp held fuel e cs = some x → ∃ ds,CI sh ds ∧ CU (EJ w) ds cs ∧ (∀ c ∈ cs,c.oneCell' = true)) →
       ∃ a cap es,cs = [.slice a es.length cap] ∧ es.length ≤ cap ∧ es.length ≤ maxLen ∧ (∀ e ∈ es,CI sh e) ∧ (es = [] ∨ ∃ b off,a = some ⟨b,off,none⟩ ∧ Na (EJ w) z.size es b off):=by
      intro sh hsh hnz hel;rcases DataW.trod_slice hu hx with ⟨rfl,_⟩ | ⟨a,len,cap,elems,rest,n',rfl,rfl,_,_,hlc,hcm,hlen,hget,_⟩
      ·exact ⟨none,0,[],rfl,by simp,by simp,by simp,.inl rfl⟩
      ·rcases Nat.eq_zero_or_pos len with h0 | h0
       ·subst h0;exact ⟨some a,cap,[],rfl,by simp,by simp,by simp,.inl rfl⟩
       ·have at_ : ∀ i,i < len → ∃ vs x,w.cells? base (a.add (i * z.size)) z.size = some vs ∧ DataW.trod enc P w base sp held n' e vs = some x:=by
         intro i hi;have:=hget i hi;rw [hc,List.getElem?_eq_getElem (by omega)] at this;rw [Option.bind_eq_some_iff] at this;obtain ⟨vs,h1,h2⟩:=this;exact ⟨vs,_,h1,h2⟩
        by_cases hz0 : z.size = 0
        ·exact absurd hz0 hnz
        ·obtain ⟨vs0,x0,h01,h02⟩:=at_ 0 h0;obtain ⟨e01,e02⟩:=LR h01
         have hsp : a.spot = none:=by
          have h3:=e02 0 (by omega);rw [List.getElem?_eq_getElem (by omega)] at h3;have:=cell_spot h3.symm;simpa [Addr.add] using this
         obtain ⟨b,off,spt⟩:=a;simp only at hsp;subst hsp
         obtain ⟨es,k1,k2,k3⟩:=RU (w:=w) (b:=b) (off:=off) (sz:=z.size) (shs:=sh) (n:=len) hsh (fun i hi => by
          obtain ⟨vs,x',h1,h2⟩:=at_ i hi;obtain ⟨ds,d1,d2,d3⟩:=hel h2;obtain ⟨e1,e2⟩:=LR h1;refine ⟨ds,vs,d1,d2,d3,e1,fun k hk => ?_⟩
          rw [e2 k hk,P5,P5])
         exact ⟨some ⟨b,off,none⟩,cap,es,by rw [k1],by omega,by omega,k2,.inr ⟨b,off,rfl,k3⟩⟩
     have conv : ∀ {q : D} {es : List (List D)} {a : Option Addr} {cap : Nat},A4 q = true → A3 q → A9 q = es.length → slc q = es.flatten → es.length ≤ cap → (es = [] ∨ ∃ b off,a = some ⟨b,off,none⟩ ∧ Na (EJ w) z.size es b off) → RD (EJ w) q (.slice a es.length cap):=by
      intro q es a cap q1 q2 q3 q4 hc h5;refine (Cd q1).2 ⟨a,cap,by rw [q3],by omega,q2,?_⟩;rcases h5 with rfl | ⟨b,off,ha,hr⟩
      ·exact .inl (by simpa using q3)
      ·refine .inr ⟨b,off,ha,?_⟩;rw [q4];exact Ee.1 (Ih.1 hr).2
     split at h
     ·rename_i hzk;split at h
      ·rename_i hb;cases h;have hz1:=Nat.eq_of_beq_eq_true hb;rw [hzk] at hkz;rw [FQ hkz] at hez
       obtain ⟨a,cap,es,rfl,h1,h2,h3,h4⟩:=key (sh:=[.int .u8]) (by simp [hz1]) (by omega) (fun hx => by
        obtain ⟨v,rfl,_,hw⟩:=DataW.trod_int hez hx
        exact ⟨[.i .u8 v],by simp [CI,Tg,hw],by simp [CU,RD],by simp [Value.oneCell']⟩)
       obtain ⟨l,l1,l2⟩ : ∃ l : List UInt8,es.flatten = l.map (fun x => D.i .u8 (x.toNat : Int)) ∧ l.length = es.length:=by
        clear h1 h2 h4 conv key hx
        induction es with
        | nil => exact ⟨[],rfl,rfl⟩
        | cons e r ih =>
         obtain ⟨l,l1,l2⟩:=ih (fun e he => h3 e (by simp [he]));have h0:=h3 e (by simp);simp only [CI,Tg] at h0;obtain ⟨d,r',rfl,⟨n,rfl,hw⟩,rfl⟩:=h0;exact ⟨UInt8.ofNat n.toNat :: l,by simp only [List.flatten_cons,l1,List.map_cons,← Vv hw,List.cons_append,List.nil_append],by simp [l2]⟩
       refine ⟨[.by l],by simp [CI,Tg];omega,?_,by simp [Value.oneCell']⟩;simp only [CU];exact ⟨_,[],rfl,conv (q:=.by l) rfl trivial l2 l1.symm h1 h4,rfl⟩
      ·cases h
     ·rename_i hzk;split at h
      ·rename_i hb;cases h;have hz1:=Nat.eq_of_beq_eq_true hb;rw [hzk] at hkz;rw [FQ hkz] at hez
       obtain ⟨a,cap,es,rfl,h1,h2,h3,h4⟩:=key (sh:=[.int .i64]) (by simp [hz1]) (by omega) (fun hx => by
        obtain ⟨v,rfl,_,hw⟩:=DataW.trod_int hez hx
        exact ⟨[.i .i64 v],by simp [CI,Tg,hw],by simp [CU,RD],by simp [Value.oneCell']⟩)
       obtain ⟨l,l1,l2,l3⟩ : ∃ l : List Int,es.flatten = l.map (fun x => D.i .i64 x) ∧ l.length = es.length ∧ ∀ n ∈ l,(Lit.int .i64 n).wf = true:=by
        clear h1 h2 h4 conv key hx
        induction es with
        | nil => exact ⟨[],rfl,rfl,by simp⟩
        | cons e r ih =>
         obtain ⟨l,l1,l2,l3⟩:=ih (fun e he => h3 e (by simp [he]));have h0:=h3 e (by simp);simp only [CI,Tg] at h0;obtain ⟨d,r',rfl,⟨n,rfl,hw⟩,rfl⟩:=h0;refine ⟨n :: l,by simp only [List.flatten_cons,l1,List.map_cons,List.cons_append,List.nil_append],by simp [l2],fun n' hn' => ?_⟩;rcases List.mem_cons.1 hn' with rfl | hn'
         ·exact hw
         ·exact l3 n' hn'
       refine ⟨[.is l],?_,?_,by simp [Value.oneCell']⟩
       ·simp only [CI,Tg];exact ⟨_,[],rfl,⟨l,rfl,by omega,l3⟩,rfl⟩
       ·simp only [CU];exact ⟨_,[],rfl,conv (q:=.is l) rfl trivial l2 l1.symm h1 h4,rfl⟩
      ·cases h
     ·split at h
      ·rename_i l hl;split at h
       ·rename_i hb hb0;cases h;have hz1:=Nat.eq_of_beq_eq_true hb;rw [Fs] at hz1;obtain ⟨a,cap,es,rfl,h1,h2,h3,h4⟩:=key (sh:=l) hz1 (fun e => by rw [e] at hb0;cases hb0) (fun hx => Hr hE m (by omega) hl ⟨_,hx⟩);refine ⟨[.sl (MX l) es],?_,?_,by simp [Value.oneCell']⟩
        ·simp only [CI,Tg];exact ⟨_,[],rfl,⟨es,rfl,h2,h3⟩,rfl⟩
        ·simp only [CU];refine ⟨_,[],rfl,conv (q:=.sl (MX l) es) rfl (fun e he => by rw [L9 (h3 e he),Fs]) rfl rfl h1 h4,rfl⟩
       ·cases h
      ·cases h
   ·rename_i fs hyk;rw [hyk] at hk;obtain ⟨q,rfl,rfl⟩:=Jp hk;split at h
    ·rename_i l hl;split at h
     ·rename_i hb;cases h;have hz1:=Nat.eq_of_beq_eq_true hb;rw [Fs] at hz1;obtain ⟨xs,n',rfl,_,hlen,hxl,hget⟩:=DataW.trod_struct hu hx;rw [Ez hmk] at hlen
      obtain ⟨ds,d1,d2,d3⟩:=MF (m:=m) hE (fun hh hs ⟨fuel,hx⟩ => Hr hE m hh hs ⟨fuel,hx⟩) (cs:=cs) (n:=n) (by omega) hl (fun off ft hm => by
       simp only [List.mem_map,Prod.mk.injEq] at hm;obtain ⟨f,hf,rfl,rfl⟩:=hm;obtain ⟨i,hi,hfi⟩:=List.mem_iff_getElem.1 hf
       have hq : q[i]? = some f:=by
        rw [← Array.getElem?_toList,List.getElem?_eq_getElem hi,hfi]
       have:=hget i f hq;have hi' : i < q.size:=by simpa using hi
       rw [List.getElem?_eq_getElem (by omega)] at this
       exact ⟨n',_,this⟩) (by omega)
      rw [List.drop_zero,hz1,← hlen,List.take_length] at d2 d3;exact ⟨ds,d1,d2,d3⟩
     ·cases h
    ·cases h
   ·rename_i k e hyk;rw [hyk] at hk;rw [GN hk] at hu;split at h
    ·rename_i z l hz hl;split at h
     ·rename_i hb hb2;cases h;have hz1:=Nat.eq_of_beq_eq_true hb;have hz2:=Nat.eq_of_beq_eq_true hb2;rw [Fs] at hz1;have hc:=Ez (hE _ _ hz);obtain ⟨xs,n',rfl,_,hlen,hxl,hget⟩:=DataW.trod_array hu hx;rw [Ez hmk,← hz2] at hlen;refine NO hz1 hlen (fun i hi => ?_);have:=hget i hi;rw [List.getElem?_eq_getElem (by omega),hc] at this;exact Hr hE m (by omega) hl ⟨n',this⟩
     ·cases h
    ·cases h
   ·cases h
end
end Go.Gar
namespace Go.Gar
open Go.ChangeShapes Go.WideShapes Go.ChangeAt Go.RowKit
def NA (E : Nat → Option AT) (t : Nat) (d : D) : Prop :=
 match E t,YA E 40 t with
 | some y,some shs => match y.agg with
  | true => ∃ l,d = .agg l ∧ CI shs l
  | false => ∃ s,shs = [s] ∧ Tg s d
 | _,_ => False
def Lz (E : Nat → Option AT) : List Nat → List D → Prop
 | [],ds => ds = []
 | t :: ts,ds => ∃ d r,ds = d :: r ∧ NA E t d ∧ Lz E ts r
def ZU (E : Nat → Option AT) (t : Nat) : Bool :=
 match E t,YA E 40 t with
 | some y,some shs => match y.agg,y.k,shs with
  | true,.st _,_ => true
  | true,.arr _ _,_ => true
  | false,.int _,[_] => true
  | false,.bool,[_] => true
  | false,.str,[_] => true
  | false,.sl _,[_] => true
  | _,_,_ => false
 | _,_ => false
section
variable {P : Program} {E : Nat → Option AT} {H : Type} {enc : TypeId × Value → H} {W : World} {base : Nat} {sp : Nat → Bool} {held : Bool}
theorem XK (hE : Ay P E) {t : Nat} {v : Value} {d : DataW H} {ps : List MemPlace} {b0 : Nat} {r : Reach} (hb : ZU E t = true) (h : DataW.Trod enc P W base sp held t v d ps) (ho : Value.okWide P W r b0 t v) : ∃ x,NA E t x ∧ RD (EJ W) x v:=by
 unfold ZU at hb;unfold NA
 cases hy : E t with
 | none => rw [hy] at hb;simp at hb
 | some y =>
  cases hs : YA E 40 t with
  | none => rw [hy,hs] at hb;simp at hb
  | some shs =>
   rw [hy,hs] at hb;simp only at hb ⊢;obtain ⟨fuel,hf⟩:=h;obtain ⟨ds,d1,d2,d3⟩:=Hr hE 41 (by omega) hs ⟨fuel,hf⟩;obtain ⟨dsc,hu,hk⟩:=JP (hE _ _ hy);have notagg : (∀ cs,v ≠ .agg cs) → v.cells.toList = [v]:=fun h => by cases v <;> first | rfl | exact absurd rfl (h _)
   have fin : ∀ s,shs = [s] → (∀ cs,v ≠ .agg cs) → ∃ x,(∃ s,shs = [s] ∧ Tg s x) ∧ RD (EJ W) x v:=by
    intro s hs' hna;subst hs';rw [notagg hna] at d2;simp only [CI] at d1;obtain ⟨x,r,rfl,h1,rfl⟩:=d1;simp only [CU] at d2;obtain ⟨u,q,e,h2,rfl⟩:=d2;cases e;exact ⟨x,⟨s,rfl,h1⟩,h2⟩
   split at hb
   ·rename_i ha hk';simp only [ha];obtain ⟨q,hq,_⟩:=Jp (hk.trans hk');subst hq;unfold Value.okWide at ho;rw [hu] at ho;obtain ⟨cs,rfl,_⟩:=ho;exact ⟨.agg ds,⟨ds,rfl,d1⟩,by simp only [RD];exact ⟨cs.toList,by simp,d2⟩⟩
   ·rename_i ha hk';simp only [ha];have hq:=GN (hk.trans hk');subst hq;unfold Value.okWide at ho;rw [hu] at ho;obtain ⟨cs,rfl,_⟩:=ho;exact ⟨.agg ds,⟨ds,rfl,d1⟩,by simp only [RD];exact ⟨cs.toList,by simp,d2⟩⟩
   ·rename_i s ha hk';simp only [ha];have hq:=FQ (hk.trans hk');subst hq;refine fin s rfl fun cs e => ?_
    subst e;simp [Value.okWide,Cell.okWide,Cell.ok,hu] at ho
   ·rename_i s ha hk';simp only [ha];have hq:=J8 (hk.trans hk');subst hq;refine fin s rfl fun cs e => ?_
    subst e;simp [Value.okWide,Cell.okWide,Cell.ok,hu] at ho
   ·rename_i s ha hk';simp only [ha];have hq:=Eh (hk.trans hk');subst hq;refine fin s rfl fun cs e => ?_
    subst e;simp [Value.okWide,Cell.okWide,Cell.ok,hu] at ho
   ·rename_i s ha hk';simp only [ha];have hq:=Cf (hk.trans hk');subst hq;refine fin s rfl fun cs e => ?_
    subst e;simp [Value.okWide,Cell.okWide,Cell.ok,hu] at ho
   ·cases hb
theorem NI (hE : Ay P E) {b0 : Nat} {r : Reach} : ∀ {ts : List Nat} {vs : List Value} {ds : List (DataW H)} {ps : List MemPlace},ts.all (ZU E) = true → DataW.TrodAll enc P W base sp held ts vs ds ps → (∀ (j : Nat) t v,ts[j]? = some t → vs[j]? = some v → Value.okWide P W r b0 t v) →
  (∃ xs,Lz E ts xs ∧ CU (EJ W) xs vs) ∧ ds.length = ts.length
 | [],[],[],_,_,_,_ => ⟨⟨[],by simp [Lz],by simp [CU]⟩,rfl⟩
 | t :: ts,v :: vs,d :: ds,ps,hb,h,ho => by
  simp only [List.all_cons,Bool.and_eq_true] at hb;obtain ⟨p,q,h1,h2,_⟩:=h;obtain ⟨x,x1,x2⟩:=XK hE hb.1 h1 (ho 0 t v rfl rfl);obtain ⟨⟨xs,y1,y2⟩,hl⟩:=NI hE hb.2 h2 (fun j t v ht hv => ho (j + 1) t v (by simpa using ht) (by simpa using hv));exact ⟨⟨x :: xs,by simp only [Lz];exact ⟨x,xs,rfl,x1,y1⟩,by simp only [CU];exact ⟨v,vs,rfl,x2,y2⟩⟩,by simp [hl]⟩
 | [],[],_ :: _,_,_,h,_ => h.elim
 | [],_ :: _,_,_,_,h,_ => by cases h
 | _ :: _,[],_,_,_,h,_ => by cases h
 | _ :: _,_ :: _,[],_,_,h,_ => by cases h
theorem ID (hl : laidOutB P = true) {W' : World} (hb : Below W.heap.size W W') : ∀ {ts : List Nat} {vs : List Value} {ds : List (DataW H)} {ps : List MemPlace},(ts.all fun t => P.readableRec t && decide (t < P.types.size)) = true → DataW.TrodAll enc P W 0 (fun _ => true) true ts vs ds ps → (∀ x ∈ ps,x.block < W.heap.size) →
  DataW.TrodAll enc P W' 0 (fun b => decide (b < W.heap.size)) true ts vs ds ps
 | [],[],[],_,_,h,_ => h
 | t :: ts,v :: vs,d :: ds,ps,hr,h,hlt => by
  simp only [List.all_cons,Bool.and_eq_true,decide_eq_true_eq] at hr;obtain ⟨p,q,h1,h2,rfl⟩:=h;exact ⟨p,q,Below.trod hl hr.1.1 hr.1.2 h1 hb (fun x hx => hlt x (by simp [hx])),ID hl hb (by simpa using hr.2) h2 (fun x hx => hlt x (by simp [hx])),rfl⟩
 | [],[],_ :: _,_,_,h,_ => h.elim
 | [],_ :: _,_,_,_,h,_ => by cases h
 | _ :: _,[],_,_,_,h,_ => by cases h
 | _ :: _,_ :: _,[],_,_,h,_ => by cases h
theorem RF {W W' : World} (ho : W'.os = W.os) (hout : W'.output = W.output) (h : ∀ b,b < W.heap.size → W'.heap[b]? = W.heap[b]?) (may : MemPlace → Prop) : W.keptBut W' may:=by
 refine ⟨ho,hout,fun i hi => ?_⟩;rw [h i hi];exact (World.keptBut_refl W may).2.2 i hi
theorem UN {fn : Func} {f : FuncId} {s : ChangeSpec} {tb : Nat} (hE : Ay P E) (hl : laidOutB P = true) (hr : (fn.params.toList.all fun t => P.readableRec t && decide (t < P.types.size)) = true) (hp : fn.params.toList.all (ZU E) = true)
  (hres : fn.resultTypes.toList = [tb]) (htb : P.underlying tb = some .bool) (hvars : s.vars = []) (hs : ∀ (H : Type) (ds : List (DataW H)),ds.length = fn.params.toList.length → s.fn H ds = { results:=[.lit (.bool true)],args:=ds })
  (hF : ∀ xs,Lz E fn.params.toList xs → Go.Gar.Fn P f xs (.b true)) {args : Array Value} {ds gs : List (DataW H)} {before : List MemPlace}
  (hval : ∀ (j : Nat) t v,fn.params[j]? = some t → args[j]? = some v → Value.okWide P W .any base t v) (hW : DataW.Whole enc P fn.params.toList s.vars false W args.toList ds gs before) (hst : YL (EJ W):=by intro b k v h;cases h) :
  Calls P f args W fun e W' => ∃ v,e = .returned v ∧ s.post enc P fn false true false false W args v W':=by
 have hW':=hW;obtain ⟨p,q,hA,hV,rfl,_,_⟩:=hW;rw [hvars] at hV;obtain ⟨rfl,rfl⟩:=trodVars_none hV;obtain ⟨⟨xs,x1,x2⟩,hlen⟩:=NI hE hp hA (fun j t v ht hv => hval j t v (by simpa using ht) (by simpa using hv));have hc:=(hF xs x1).2 (EJ W) W args (fun b k v h => h) hst x2;rw [callsIn_wide] at hc;refine hc.mono ?_;rintro e W' ⟨v,m',rfl,h1,_,_,_,h5,h6,h7,h8,h9⟩;simp only [RD] at h1;subst h1;have hb : Below W.heap.size W W':=⟨h5,h6,h7,h8,h9⟩;have hlt : ∀ x ∈ p,x.block < W.heap.size:=fun x hx => hW'.lt x (by simp [hx])
 have hsz : fn.resultTypes.size = 1:=by
  have:=congrArg List.length hres;simpa using this
 refine ⟨_,rfl,ds,[],p ++ [],[],p,[],hW',?_,?_,?_,RF h5 h7 h9 _,fun h => by cases h⟩
 ·rw [hs H (ds ++ []) (by simpa using hlen),hres];simp only [Value.resultList,hsz,if_true];exact trodAll_mk1 (shut_bool htb true)
 ·rw [hs H (ds ++ []) (by simpa using hlen)];rw [List.append_nil];exact ID hl hb hr hA hlt
 ·rw [hs H (ds ++ []) (by simpa using hlen),hvars];rfl
end
end Go.Gar
