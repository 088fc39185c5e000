/- Part 5 of the texts of this proof, put together by a program and made short.
Conditions: none; what each theorem asks stands in its own hypotheses. -/
import Derived.Test.YtagnjflbhjmefaaGreatRb04
import Derived.Sort.Grow
import Derived.Laws.Cover3
import Derived.RecoverIn
set_option linter.unusedSimpArgs false
set_option linter.unusedVariables false
set_option linter.unnecessarySimpa false
set_option maxHeartbeats 40000000
namespace Go.Gar
section
variable {F : Fence} {n : Nat} {P : Program} {ops : Array Oper} {Q : Exit → Act → World → Prop}
structure Perm (σ τ : Nat → Nat) (n : Nat) : Prop where
 lt : ∀ j,j < n → σ j < n
 lt' : ∀ j,j < n → τ j < n
 st : ∀ j,j < n → σ (τ j) = j
 ts : ∀ j,j < n → τ (σ j) = j
variable {σ τ : Nat → Nat} {x y : Nat}
end
end Go.Gar
namespace Go.Gar
section
variable {P : Program} {ro : Option Nat} {ops : Array Oper} {S0 S : St} {Q : Exit → St → Prop} {E : Nat → Option Ap} {acc : List Rc} {rest : List Oper} {o : Oper} {en : List (Nat × AV)} {hp : List A7} {nt : Nat}
def Qw (Q : Exit → St → Prop) : Exit → St → Prop:=fun e S' => ∃ env,(∀ t x,get env t = some x → get S'.env t = some x) ∧ Q e ⟨env,S'.H,S'.n⟩
theorem Yn2 (live : List Nat) {e : List (Nat × AV)} (l : List (Nat × Nat)) (hE : B8 P E) (hd : Fy ops (acc.reverse.map Rc.k) l = true) (hx : C0 E ops acc.reverse hp l) (he : Cx live en = some e) (hQ : Q .normal ⟨e,hp,nt⟩) : Wd P ro E ops S0 (TQ P ro ops S0 (Qw Q)) acc [] ⟨en,hp,nt⟩:=by
 have:=BU he
 subst this
 intro Sr ht hH hn he' hr
 refine Ky hE ht hd (by rw [hH];exact hx) ⟨Cu live en,fun t x hx => he' t x (Ga hx).2,?_⟩
 rw [hH,hn];exact hQ
end
end Go.Gar
namespace Go.Gar
def KZ (env : List (Nat × AV)) (op : Op) : Option (Bool × AV) :=
 match op with
 | .binOp op _ p q _ => match Cc env p,Cc env q with
  | some (.d (.i k a)),some (.d (.i k' b)) => match op with
   | .add => some (decide (k = k'),.d (.i k (k.wrap (a + b))))
   | .sub => some (decide (k = k'),.d (.i k (k.wrap (a - b))))
   | .mul => some (decide (k = k'),.d (.i k (k.wrap (a * b))))
   | _ => none
  | _,_ => none
 | _ => none
theorem Ra {P : Program} {S : St} {o : Oper} {x : AV} {c : Bool} (h : KZ S.env o.op = some (c,x)) (hc : c = true) : Cn P o S x S.H:=by
 subst hc
 obtain ⟨dst,op,ty,pos,after,guard⟩:=o
 simp only at h
 unfold KZ at h
 split at h
 ·rename_i op t p q yt
  split at h
  ·rename_i k a k' b hy hz
   have key : ∀ {op' : BinOp} {n : Int},op = op' → (∀ (w : World),(binOp op' t (.int k a) (.int k b)).run P w = .ok (.int k n) w) → (∃ r,R7 op' (.i k a) (.i k' b) = some r) → k = k' → x = .d (.i k n) → Cn P ⟨dst,.binOp op t p q yt,ty,pos,after,guard⟩ S x S.H:=by
    rintro op' n rfl hrun ⟨r0,hb⟩ rfl rfl
    refine .of_run (f:=fun a => do eqGuard op t p q (a.eval p) (a.eval q);binOp op t (a.eval p) (a.eval q)) (fun _ => rfl) fun ro N G a w r => ?_
    have hp:=AM r.env hy
    have hq:=AM r.env hz
    simp only [RV] at hp hq
    have hg:=Ei (P:=P) (op:=op) (t:=t) (x:=p) (y:=q) (v:=a.eval p) (u:=a.eval q) (w:=w) (.inl (NQ (KN hb) hp))
    simp only [RD] at hp hq
    refine ⟨.int k n,?_,by simp [RV,RD]⟩
    simp only [Sem.run_bind,hg,Result.andThen_ok]
    rw [hp,hq]
    exact hrun w
   split at h
   ·simp only [Option.some.injEq,Prod.mk.injEq,decide_eq_true_eq] at h
    exact key rfl (fun w => by simp [binOp,Op.intArith]) ⟨_,rfl⟩ h.1 h.2.symm
   ·simp only [Option.some.injEq,Prod.mk.injEq,decide_eq_true_eq] at h
    exact key rfl (fun w => by simp [binOp,Op.intArith]) ⟨_,rfl⟩ h.1 h.2.symm
   ·simp only [Option.some.injEq,Prod.mk.injEq,decide_eq_true_eq] at h
    exact key rfl (fun w => by simp [binOp,Op.intArith]) ⟨_,rfl⟩ h.1 h.2.symm
   ·cases h
  ·cases h
 ·cases h
theorem Jp {env : List (Nat × AV)} {op : Op} {r : Bool × AV} (h : KZ env op = some r) : ∀ c,op ≠ .defer c:=fun c e => by subst e;cases h
def PM (E : Nat → Option Ap) (env : List (Nat × AV)) (H : List A7) (op : Op) : Option (Bool × List A7) :=
 match op with
 | .store t a x => match E t,Cc env a,Cc env x with
  | some y,some (.ep id i off n sz),some (.d (.i k m)) => match H[id]? with
   | some (.a (.by l)) => match setH id (.a (.by (l.set i (UInt8.ofNat m.toNat)))) H with
    | some H' => some (Nat.beq n l.length && decide (i < n) && Nat.beq y.size 1 && Nat.beq off 0 && Nat.beq sz 1 && decide (k = .u8) && decide (0 ≤ m) && decide (m < 256),H')
    | none => none
   | _ => none
  | _,_,_ => none
 | _ => none
theorem P7 {α : Type} (l : List α) (i : Nat) (x : α) (h : i < l.length) : l.take i ++ [x] ++ l.drop (i + 1) = l.set i x:=by
 rw [List.set_eq_take_append_cons_drop,if_pos h];simp
theorem QR {P : Program} {E : Nat → Option Ap} (hE : B8 P E) {S : St} {o : Oper} {c : Bool} {H' : List A7} (h : PM E S.env S.H o.op = some (c,H')) (hc : c = true) : Cn P o S .u H':=by
 subst hc
 unfold PM at h
 split at h
 ·rename_i t a x ho
  split at h
  ·rename_i y id i off n sz k m hy' ha hx
   split at h
   ·rename_i l hl
    split at h
    ·rename_i q hq
     simp only [Option.some.injEq,Prod.mk.injEq,Bool.and_eq_true,decide_eq_true_eq] at h
     obtain ⟨⟨⟨⟨⟨⟨⟨⟨hn,hi⟩,hsz⟩,hoff⟩,hsz1⟩,rfl⟩,hm0⟩,hm1⟩,rfl⟩:=h
     have hn:=Nat.eq_of_beq_eq_true hn
     have hsz:=Nat.eq_of_beq_eq_true hsz
     have hoff:=Nat.eq_of_beq_eq_true hoff
     have hsz1:=Nat.eq_of_beq_eq_true hsz1
     subst hn;subst hoff;subst hsz1
     obtain ⟨hid,rfl⟩:=Gi hq
     have hy:=hE t y hy'
     intro ro N G act w r
     have hl' : G.H[id]? = some (.a (.by l)):=by rw [r.heap];exact hl
     have hva:=AM r.env ha
     have hvx:=AM r.env hx
     simp only [RV,RD] at hva hvx
     obtain ⟨_,blk,hb,hp⟩:=hva
     rw [hl'] at hb;cases hb
     obtain ⟨_,_,hp⟩:=hp
     obtain ⟨b,M,hρ,hva⟩:=hp rfl
     obtain ⟨_,_,hB⟩:=r.rel.blk id _ hl'
     rcases hB with ⟨h0,hno⟩ | ⟨b',M',vs,T,hρ',hw,hM,hcell⟩
     ·rw [hρ] at hno;cases hno
     rw [hρ] at hρ';cases hρ'
     have hlen : (slc (.by l)).length = l.length:=by simp [slc]
     have hvl : l.length ≤ vs.size:=by
      rcases Nat.eq_zero_or_pos l.length with h0 | h0
      ·omega
      ·obtain ⟨v,hv,_⟩:=hcell (l.length - 1) _ (List.getElem?_eq_getElem (by rw [hlen];omega))
       have:=(Array.getElem?_eq_some_iff.1 hv).1;omega
     have hst:=run_storeCells_at P b i T [.int .u8 m] 0 vs w hw (by simp;omega) (by simp [Value.oneCell'])
     simp only [Nat.add_zero] at hst
     have hmm : (UInt8.ofNat m.toNat).toNat = m.toNat:=by rw [UInt8.toNat_ofNat'];omega
     obtain ⟨r1,r2⟩:=Kp r.rel (cur:=(vs.toList.take i ++ [Value.int .u8 m] ++ vs.toList.drop (i + 1)).toArray) hl' rfl (q:=.a (.by (l.set i (UInt8.ofNat m.toNat)))) rfl hρ (by simp [AF,Gh.put,A6,Av]) (by
      refine ⟨rfl,trivial,.inr ⟨b,M,_,T,hρ,setRow_heap w b vs _ T _ hw,by simp;omega,fun j z hz => ?_⟩⟩
      have e : slc (.by (l.set i (UInt8.ofNat m.toNat))) = (slc (.by l)).take i ++ [D.i .u8 m] ++ (slc (.by l)).drop (i + 1):=by
       rw [P7 _ _ _ (by rw [hlen];exact hi)]
       simp only [slc,List.map_set,hmm]
       congr 2;omega
      rw [e] at hz
      obtain ⟨v,hv,hrv⟩:=FC (R:=fun d v => v.oneCell' = true ∧ RD G.m d v) (cs:=slc (.by l)) (xs:=[D.i .u8 m]) (vs:=vs.toList) (us:=[Value.int .u8 m]) (off:=i) (by rw [hlen];simp;omega) (by rw [hlen];simpa using hvl) rfl
       (fun k x hx => by obtain ⟨v,h1,h2⟩:=hcell k x hx;exact ⟨v,by simpa using h1,h2⟩)
       (fun k x hx => by
        cases k with
        | zero => simp at hx;subst hx;exact ⟨_,rfl,rfl,by simp [RD]⟩
        | succ k => simp at hx) j z hz
      exact ⟨v,by simpa using hv,hrv⟩)
     have key : (Instr.storeAt t (act.eval a) (act.eval x)).run P w = .ok () (w.setRow b (vs.toList.take i ++ [Value.int .u8 m] ++ vs.toList.drop (i + 1)).toArray):=by
      rw [hva,hvx]
      simp only [Instr.storeAt,Instr.sureAddr,Sem.run_bind,Sem.run_pure,Result.andThen_ok,storeVar,An hy,Nat.mul_one,Nat.add_zero]
      rw [hsz]
      simpa [Value.cells] using hst
     refine ⟨.skip,_,_,?_,.inl ⟨rfl,rfl⟩,?_,r1,r2⟩
     ·unfold execOp
      simp only [ho,Sem.run_bind,key,Result.andThen_ok,Sem.run_pure]
     ·show G.H.set id _ = S.H.set id _
      rw [r.heap]
    ·cases h
   ·cases h
  ·cases h
 ·cases h
theorem I3 {E : Nat → Option Ap} {env : List (Nat × AV)} {H : List A7} {op : Op} {r : Bool × List A7} (h : PM E env H op = some r) : ∀ c,op ≠ .defer c:=fun c e => by subst e;cases h
theorem Ee {P : Program} {f : FuncId} {ds : List D} {r : D} {x : AV} {H : List A7} (h : BK P f (ds.map .d) [] x H) (hK : BQ H x r) : Fn P f ds r:=by
 refine ⟨h.1,fun m w vs hm hst hargs => ?_⟩
 let G : Gh:={ ρ:=fun _ => none,H:=[],m:=m }
 have hr : AU G w:=⟨fun id b hb => by simp [G] at hb,fun id id' p q b N N' hp => by simp [G] at hp,hm,fun b ho => by obtain ⟨id,N,q,hq,_⟩:=ho;simp [G] at hq,hst⟩
 have hno : ∀ b,¬ Own G b:=fun b ho => by obtain ⟨id,N,q,hq,_⟩:=ho;simp [G] at hq
 refine (h.2 G w vs rfl hr (LP.2 hargs)).mono ?_
 rintro e w' ⟨v,y,G',rfl,⟨rfl,rfl⟩,hv,h2,hfr⟩
 let m' : Mem:=fun b k => match G'.m b k with
  | some v => some v
  | none => if w.heap.size ≤ b then w'.cell? ⟨b,k,none⟩ else none
 have hle : G'.m.le m':=fun b k v hv => by simp only [m',hv]
 have hmem : OF m' w':=by
  intro b k v hv
  simp only [m'] at hv
  split at hv
  ·rename_i u hu;cases hv;exact h2.mem b k _ hu
  ·split at hv
   ·exact hv
   ·cases hv
 refine ⟨v,m',rfl,Q3 h2 hle ?_ hK hv,Mem.le_trans hfr.gle.mem hle,hmem,?_,hfr.os,hfr.tape,hfr.output,hfr.size,fun b hb => (hfr.keep b hb (hno b)).1⟩
 ·intro b k v ho hc
  have hge : w.heap.size ≤ b:=by
   rcases Nat.lt_or_ge b w.heap.size with hlt | hge
   ·exact absurd ho (hfr.keep b hlt (hno b)).2
   ·exact hge
  simp only [m',h2.sep b ho k,if_pos hge,hc]
 ·intro b k v hv
  simp only [m'] at hv
  split at hv
  ·rename_i u hu
   cases hv
   rcases hfr.memNew b k _ hu with h3 | h3 | h3
   ·exact .inl h3
   ·exact absurd h3 (hno b)
   ·exact .inr h3
  ·split at hv
   ·rename_i hge;exact .inr hge
   ·cases hv
def AZ (n : Nat) : List Nat → Bool
 | [] => false
 | a :: r => Nat.beq n a || AZ n r
section
variable {P : Program} {ro : Option Nat} {E : Nat → Option Ap} {ops : Array Oper} {i : Nat} {rest : List Oper} {Q : Exit → St → Prop} {o : Oper} {en : List (Nat × AV)} {hp : List A7} {nt : Nat} {S0 : St} {A : Prop} {acc : List Rc}
theorem XwL (L : List Nat) {x x' : AV} {c : Bool} {e : List (Nat × AV)} (_ : Iy o.dst L = true) (hg : A9 ops en o = some true) (h : KZ en o.op = some (c,x)) (hd : AJ o.dst nt = true) (he : Af o.dst x' en = some e)
  (k : Wl P ro ops (i + 1) rest ⟨e,hp,nt⟩ Q) (hc : c = true) (hx : x = x':=by rfl) : Wl P ro ops i (o :: rest) ⟨en,hp,nt⟩ Q:=by
 subst hx
 rw [AO he] at k
 exact Ir hg (Ra (S:=⟨en,hp,nt⟩) h hc) (Jp h) hd k
theorem Xsb (hE : B8 P E) {c : Bool} {H' H'' : List A7} {e : List (Nat × AV)} (hg : A9 ops en o = some true) (h : PM E en hp o.op = some (c,H')) (hd : AJ o.dst nt = true) (he : Af o.dst .u en = some e)
  (k : Wl P ro ops (i + 1) rest ⟨e,H'',nt⟩ Q) (hc : c = true) (hH : H' = H'':=by first | (simp only [nS];rfl) | rfl) : Wl P ro ops i (o :: rest) ⟨en,hp,nt⟩ Q:=by
 subst hH
 rw [AO he] at k
 exact Ir hg (QR (S:=⟨en,hp,nt⟩) hE h hc) (I3 h) hd k
theorem Ysb (hE : B8 P E) {c : Bool} {H' H'' : List A7} {e0 e : List (Nat × AV)} (hl : Cx (looks ops o) en = some e0) (hg : A9 ops e0 o = some true) (h : PM E e0 hp o.op = some (c,H')) (hd : AJ o.dst nt = true) (he : Af o.dst .u en = some e)
  (k : Wd P ro E ops S0 A (⟨e0,hp,.u,.eff⟩ :: acc) rest ⟨e,H'',nt⟩) (hc : c = true) (hH : H' = H'':=by first | (simp only [nS];rfl) | rfl) : Wd P ro E ops S0 A acc (o :: rest) ⟨en,hp,nt⟩:=by
 subst hH
 rw [AO he] at k
 have:=BU hl
 subst this
 exact Fx (x:=.u) (k:=.eff) (H':=H') ⟨hd,hg,Cn.step (S:=⟨Cu (looks ops o) en,hp,nt⟩) (QR (S:=⟨Cu (looks ops o) en,hp,nt⟩) hE h hc) (I3 h)⟩ k
theorem Xfu (t : Nat) {id : Nat} {x : D} {n sz : Nat} (_ : AZ t (Xm o.op) = true) (ht : get en t = some (.sl id n sz)) (hid : hp[id]? = some (.a x)) (hn : n = A6 x) (k : Wl P ro ops i (o :: rest) ⟨(t,.d x) :: en,E5 id x 0 hp,nt⟩ Q) : Wl P ro ops i (o :: rest) ⟨en,hp,nt⟩ Q :=
 O3 (A0.Sx (S:=⟨en,hp,nt⟩) t id hid ht hn) (by show hp.length ≤ (E5 id x 0 hp).length;rw [Hs];exact Nat.le_refl _) k
theorem MI (L : List Nat) {id : Nat} {S : St} (_ : AZ id L = false) (h : Wl P ro ops 0 ops.toList S Q) : W P ro (.region id ops false) S Q:=GL h
theorem Xi (L : List Nat) {id : Nat} {S : St} (E : Nat → Option Ap) (_ : AZ id L = false) (h : Wd P ro E ops S (W P ro (.region id ops true) S Q) [] ops.toList S) : W P ro (.region id ops true) S Q:=YS E h
end
end Go.Gar
namespace Go.Gar
theorem A0.cell {S : St} (id i : Nat) {x y : AV} {cs : List AV} (hid : S.H[id]? = some (.c cs)) (h : cs[i]? = some x) (hw : ∀ G v,RV G x v → RV G y v) :
  A0 S ⟨S.env,S.H.set id (.c (cs.set i y)),S.n⟩:=by
 intro ro N G a w r _
 have hidG : G.H[id]? = some (.c cs):=by rw [r.heap];exact hid
 have hlt : id < G.H.length:=(List.getElem?_eq_some_iff.1 hidG).1
 let c' : A7:=.c (cs.set i y)
 let G' : Gh:={ ρ:=G.ρ,H:=G.H.set id c',m:=G.m }
 have hst : AF G G' id (.c cs) c':=by simp [c',AF,G']
 have hget : ∀ j b,G'.H[j]? = some b → (j = id ∧ b = c') ∨ (j ≠ id ∧ G.H[j]? = some b):=by
  intro j b hb
  by_cases hj : j = id
  ·subst hj
   left
   have hb' : (G.H.set j c')[j]? = some b:=hb
   rw [List.getElem?_set_self hlt] at hb'
   exact ⟨rfl,(Option.some.inj hb').symm⟩
  ·right
   have hb' : (G.H.set id c')[j]? = some b:=hb
   rw [List.getElem?_set_ne (Ne.symm hj)] at hb'
   exact ⟨hj,hb'⟩
 have gle : GA G G':=by
  refine ⟨fun j b hb => ?_,Mem.le_refl _⟩
  by_cases hj : j = id
  ·subst hj
   rw [hidG] at hb;cases hb
   exact ⟨c',List.getElem?_set_self hlt,hst⟩
  ·exact ⟨b,by show (G.H.set id c')[j]? = _;rw [List.getElem?_set_ne (Ne.symm hj)];exact hb,AF.refl _ _ _⟩
 have own : ∀ b,Own G' b → Own G b:=by
  rintro b ⟨j,N,blk,hb,hlv,hρ⟩
  rcases hget j blk hb with ⟨rfl,rfl⟩ | ⟨_,h4⟩
  ·exact ⟨j,N,_,hidG,rfl,hρ⟩
  ·exact ⟨j,N,blk,h4,hlv,hρ⟩
 have rel : AU G' w:=by
  refine ⟨fun j b hb => ?_,fun i' j p q' b N N' hp hq lp lq r1 r2 => ?_,r.rel.mem,fun b hb k => r.rel.sep b (own b hb) k,r.rel.st⟩
  ·rcases hget j b hb with ⟨rfl,rfl⟩ | ⟨h3,h4⟩
   ·obtain ⟨b,N,vs,T,g1,g2,g3,g4,g6⟩:=r.rel.blk j _ hidG
    refine ⟨b,N,vs,T,g1,g2,g3,by simpa using g4,fun k z hz => ?_⟩
    rw [List.getElem?_set] at hz
    split at hz
    ·rename_i hki
     subst hki
     split at hz
     ·cases hz
      obtain ⟨v,hv,hrv⟩:=g6 i _ h
      exact ⟨v,hv,hw _ _ (hrv.mono gle)⟩
     ·cases hz
    ·obtain ⟨v,hv,hrv⟩:=g6 k _ hz
     exact ⟨v,hv,hrv.mono gle⟩
   ·exact (r.rel.blk j b h4).LO gle (fun _ _ _ _ => rfl) rfl
  ·have back : ∀ (j : Nat) (b : A7),G'.H[j]? = some b → b.live = true → ∃ b0 : A7,G.H[j]? = some b0 ∧ b0.live = true:=by
    intro j b hb hlv
    rcases hget j b hb with ⟨rfl,rfl⟩ | ⟨_,h4⟩
    ·exact ⟨_,hidG,rfl⟩
    ·exact ⟨b,h4,hlv⟩
   obtain ⟨p0,e1,e2⟩:=back i' p hp lp
   obtain ⟨q0,e3,e4⟩:=back j q' hq lq
   exact r.rel.inj i' j p0 q0 b N N' e1 e3 e2 e4 r1 r2
 have PZ : Sf G G':=by
  refine ⟨fun j b b' hb hb' => ?_,Mem.le_refl _,fun b hb => own b hb,fun _ _ _ h => .inl h⟩
  obtain ⟨b'',hb'',hs''⟩:=gle.blk j b hb
  rw [hb'] at hb'';cases hb''
  exact hs''
 refine ⟨G',⟨?_,rel,r.size,fun u z hz => ?_,r.marks.PZ PZ,fun k hk => ?_⟩,PZ⟩
 ·show G.H.set id c' = _
  rw [r.heap]
 ·obtain ⟨v,hv,hrv⟩:=r.env u z hz
  exact ⟨v,hv,hrv.mono gle⟩
 ·obtain ⟨q',l,M,q1,q2⟩:=r.round k hk
  rw [← r.heap] at q1
  have hne : k ≠ id:=fun e => by subst e;rw [hidG] at q1;cases q1
  refine ⟨q',l,M,?_,q2⟩
  show (S.H.set id c')[k]? = _
  rw [List.getElem?_set_ne (Ne.symm hne),← r.heap]
  exact q1
theorem A0.WR {S : St} (id i : Nat) (q : D) {cs : List AV} (hid : S.H[id]? = some (.c cs)) (h : cs[i]? = some .e0) (hs : A5 q = true) (hl : A6 q = 0) (ho : A4 q) :
  A0 S ⟨S.env,S.H.set id (.c (cs.set i (.d q))),S.n⟩ :=
 A0.cell id i hid h fun G v hv => by
  simp only [RV] at hv ⊢
  obtain ⟨a,rfl⟩:=hv
  exact (CO hs).2 ⟨a,0,by rw [hl],by omega,ho,.inl hl⟩
theorem Cy {E : Nat → Option Ap} {n t : Nat} {cs : List D} (h : Bh E n t cs = true) : Bh E n t cs = true:=h
end Go.Gar
namespace Go.Gar
section
variable {P : Program} {ro : Option Nat} {S : St} {Q : Exit → St → Prop}
def QJ {α : Type} (P : Program) (ro : Option Nat) (c : Code) (l : Nat) (I : α → Prop) (St0 : α → St) (μ : α → Nat) (k : Nat) (Q : Exit → St → Prop) (m : Nat) : Nat → Exit → St → Prop
 | j,.goto l',S' => match Nat.beq l' l with
  | true => ∃ y,I y ∧ μ y < m ∧ k ≤ (St0 y).H.length ∧ A0 S' (St0 y)
  | false => match j with
   | 0 => False
   | j + 1 => match findLabel c l' with
    | some r => W P ro r S' (QJ P ro c l I St0 μ k Q m j)
    | none => Q (.goto l') S'
 | _,e,S' => Q e S'
theorem PY {α : Type} {c rest : Code} {l : Nat} (hfl : findLabel c l = some rest) {I : α → Prop} {St0 : α → St} {μ : α → Nat} {k0 j0 : Nat} (body : ∀ x,I x → W P ro rest (St0 x) (QJ P ro c l I St0 μ k0 Q (μ x) j0))
  {b : Frame} {k : List Item} {cs : List Frame} {F : Fence} (hro : b.roundOf = F.round) (hb : F.fn b.fn) (hr : F.room (cs.length + 1 + 0)) {N : NB} {G0 : Gh} {w0 : World} (hk0 : G0.H.length = k0) (hid : ∀ id,ro = some id → id < k0) (hF : ∀ {S : St} {G : Gh} {a : Act} {w : World},Rel ro N S G a w → BZ G0 w0 G w → F = GE (rl G ro)) :
  ∀ (m j : Nat) (c₁ : Code) (S : St) (G : Gh) (a : Act) (w : World),Rel ro N S G a w → BZ G0 w0 G w → W P ro c₁ S (QJ P ro c l I St0 μ k0 Q m j) →
  ∃ e a' w',Post ro N G0 w0 Q e a' w' ∧ ArrivesIn (Machine.fenced P F) P (lone (b.atR a (.code c₁ :: .inScope c :: k)) cs w) b k cs e a' w':=by
 intro m
 induction m using Nat.strongRecOn with
 | _ m ihm =>
  intro j
  induction j with
  | zero =>
   intro c₁ S G a w r k1 h
   have h1:=h N G a w r
   rw [← hF r k1] at h1
   obtain ⟨e,a',w',⟨S',G',q,r',kk⟩,harr⟩:=h1 b (.inScope c :: k) cs hro hb hr
   cases e with
   | normal => exact ⟨.normal,a',w',⟨S',G',q,r',k1.trans kk⟩,StepsIn.trans harr (.one (fenced_calm (fr:=b.atR a' (.inScope c :: k)) hb hr rfl) DX)⟩
   | exit id =>
    refine ⟨.exit id,a',w',⟨S',G',q,r',k1.trans kk⟩,fun k' hk => harr.1 k' (by simp [exitTo,hk]),fun h1 h2 => harr.2 h1 (by simp [exitTo,h2])⟩
   | goto l' =>
    simp only [QJ] at q
    split at q
    ·rename_i hl
     have hl:=Nat.eq_of_beq_eq_true hl
     subst hl
     obtain ⟨y,hI,hlt,hle,t⟩:=q
     obtain ⟨G'',r'',t''⟩:=t ro N G' a' w' r' (fun id h => Nat.lt_of_lt_of_le (hid id h) hle)
     have k2:=(k1.trans kk).ghost t'' (by rw [hk0,r''.heap];exact hle)
     obtain ⟨e₂,a₂,w₂,p₂,harr₂⟩:=ihm (μ y) hlt j0 rest (St0 y) G'' a' w' r'' k2 (body y hI)
     exact ⟨e₂,a₂,w₂,p₂,.of_steps (harr.1 _ (by simp [gotoIn,hfl])) harr₂⟩
    ·exact q.elim
   | ret => exact ⟨.ret,a',w',⟨S',G',q,r',k1.trans kk⟩,harr⟩
   | panic ch => exact ⟨.panic ch,a',w',⟨S',G',q,r',k1.trans kk⟩,harr⟩
   | outgrown => exact ⟨.outgrown,a',w',⟨S',G',q,r',k1.trans kk⟩,harr⟩
  | succ j ih =>
   intro c₁ S G a w r k1 h
   have h1:=h N G a w r
   rw [← hF r k1] at h1
   obtain ⟨e,a',w',⟨S',G',q,r',kk⟩,harr⟩:=h1 b (.inScope c :: k) cs hro hb hr
   cases e with
   | normal => exact ⟨.normal,a',w',⟨S',G',q,r',k1.trans kk⟩,StepsIn.trans harr (.one (fenced_calm (fr:=b.atR a' (.inScope c :: k)) hb hr rfl) DX)⟩
   | exit id =>
    refine ⟨.exit id,a',w',⟨S',G',q,r',k1.trans kk⟩,fun k' hk => harr.1 k' (by simp [exitTo,hk]),fun h1 h2 => harr.2 h1 (by simp [exitTo,h2])⟩
   | goto l' =>
    simp only [QJ] at q
    split at q
    ·rename_i hl
     have hl:=Nat.eq_of_beq_eq_true hl
     subst hl
     obtain ⟨y,hI,hlt,hle,t⟩:=q
     obtain ⟨G'',r'',t''⟩:=t ro N G' a' w' r' (fun id h => Nat.lt_of_lt_of_le (hid id h) hle)
     have k2:=(k1.trans kk).ghost t'' (by rw [hk0,r''.heap];exact hle)
     obtain ⟨e₂,a₂,w₂,p₂,harr₂⟩:=ihm (μ y) hlt j0 rest (St0 y) G'' a' w' r'' k2 (body y hI)
     exact ⟨e₂,a₂,w₂,p₂,.of_steps (harr.1 _ (by simp [gotoIn,hfl])) harr₂⟩
    ·cases hfl' : findLabel c l' with
     | none =>
      rw [hfl'] at q
      exact ⟨.goto l',a',w',⟨S',G',q,r',k1.trans kk⟩,fun k' hk => harr.1 k' (by simp [gotoIn,hfl',hk]),fun h1 h2 => harr.2 h1 (by simp [gotoIn,hfl',h2])⟩
     | some r2 =>
      rw [hfl'] at q
      obtain ⟨e₂,a₂,w₂,p₂,harr₂⟩:=ih r2 S' G' a' w' r' (k1.trans kk) q
      exact ⟨e₂,a₂,w₂,p₂,.of_steps (harr.1 _ (by simp [gotoIn,hfl'])) harr₂⟩
   | ret => exact ⟨.ret,a',w',⟨S',G',q,r',k1.trans kk⟩,harr⟩
   | panic ch => exact ⟨.panic ch,a',w',⟨S',G',q,r',k1.trans kk⟩,harr⟩
   | outgrown => exact ⟨.outgrown,a',w',⟨S',G',q,r',k1.trans kk⟩,harr⟩
theorem Ud {α : Type} {c : Code} (l : Nat) (rest : Code) (I : α → Prop) (St0 : α → St) (μ : α → Nat) (m j j0 : Nat) (hfl : findLabel c l = some rest)
  (h : W P ro c S (QJ P ro c l I St0 μ S.H.length Q m j)) (body : ∀ x,I x → W P ro rest (St0 x) (QJ P ro c l I St0 μ S.H.length Q (μ x) j0)) : W P ro (.scope c) S Q:=by
 intro N G a w r b k cs hro hb hr
 obtain ⟨e,a',w',p,harr⟩:=PY (Q:=Q) (k:=k) (b:=b) (cs:=cs) hfl body hro hb hr (by rw [r.heap]) r.OV (fun r' k' => by rw [DO r r' k']) m j c S G a w r (BZ.refl G w) h
 exact ⟨e,a',w',p,.of_steps (.one (fenced_calm (fr:=b.atR a (.code (.scope c) :: k)) hb hr rfl) Ik) harr⟩
end
end Go.Gar
namespace Go.Gar
open Go.Sort
theorem Pz {α : Type} [Inhabited α] (enc : α → Value) {w : World} {b : Nat} {vs : Array Value} {T : TypeId} {fr : Nat × Nat} (hw : w.heap[b]? = some (.cells vs T fr)) (d : Array α) : putRow enc w b 0 d = w.setRow b (putCells enc 0 d vs):=by
 unfold putRow mapBlock World.setRow
 congr 1
 apply Array.ext_getElem?
 intro k
 simp only [Array.getElem?_modify]
 by_cases hk : b = k
 ·subst hk
  simp only [if_true,hw]
  rfl
 ·simp [hk]
theorem TU {G : Gh} {w : World} (h : AU G w) (n : Nat) (os : Array Obj) : AU G (grow (Sort.ahead w n) os) ∧ BZ G w G (grow (Sort.ahead w n) os):=by
 have hlow : ∀ b,b < w.heap.size → (grow (Sort.ahead w n) os).heap[b]? = w.heap[b]?:=fun b hb => by
  show (w.heap ++ os)[b]? = _
  rw [Array.getElem?_append_left hb]
 refine ⟨⟨fun id q hq => (h.blk id q hq).LO (GA.refl G) (fun b N hl hρ => hlow b (D7 h ⟨id,N,q,hq,hl,hρ⟩)) rfl,h.inj,fun b k v hv => ?_,h.sep,h.st⟩,⟨rfl,rfl,rfl,by show w.heap.size ≤ (w.heap ++ os).size;simp,fun b hb ho => ⟨hlow b hb,ho⟩,fun _ _ _ hv => .inl hv,GA.refl G⟩⟩
 have hc:=h.mem b k v hv
 have hb : b < w.heap.size:=by
  unfold World.cell? at hc
  rcases Nat.lt_or_ge b w.heap.size with hlt | hge
  ·exact hlt
  ·simp [Array.getElem?_eq_none hge] at hc
 rw [World.cell?_of_block (w:=w) (hlow b hb)]
 exact hc
structure Q9 {α : Type} (enc : α → Value) (x : List α → D) (cell : α → D) : Prop where
 sl : ∀ l,A5 (x l) = true
 ok : ∀ l,A4 (x l)
 c : ∀ l,slc (x l) = l.map cell
 n : ∀ l,A6 (x l) = l.length
 z : ∀ l,Av (x l) = 1
 r : ∀ m a v,RD m (cell a) v ↔ v = enc a
 one : ∀ a,(enc a).oneCell' = true
theorem RF {α : Type} [Inhabited α] {enc : α → Value} {x : List α → D} {cell : α → D} (hx : Q9 enc x cell) {zs : List α} {w : World} {b : Nat} {vs : Array Value} {T : TypeId} {m : Mem} (hw : w.heap[b]? = some (.cells vs T (0,0)))
  (hcell : ∀ (k : Nat) (d : D),(slc (x zs))[k]? = some d → ∃ v,vs[k]? = some v ∧ v.oneCell' = true ∧ RD m d v) : Holds enc w b 0 zs.toArray:=by
 intro j hj
 have hj' : j < zs.length:=by simpa using hj
 obtain ⟨v,h1,_,h3⟩:=hcell j (cell zs[j]) (by rw [hx.c,List.getElem?_map,List.getElem?_eq_getElem hj'];rfl)
 rw [hx.r] at h3
 subst h3
 refine ⟨?_,?_⟩
 ·unfold World.cell?
  simp only [hw,Nat.zero_add,Option.isSome_none,Bool.false_eq_true,if_false,h1]
  congr 2
  rw [getElem!_pos zs.toArray j hj];simp
 ·unfold World.frozen?
  simp [hw]
theorem Ry {α : Type} [Inhabited α] {enc : α → Value} {x : List α → D} {cell : α → D} (hx : Q9 enc x cell) {ys : List α} {d : Array α} {vs : Array Value} {m : Mem} (hd : ∀ k,k < ys.length → k < d.size ∧ d[k]! = ys.getD k default) (hs : ys.length ≤ vs.size) :
  ∀ (k : Nat) (z : D),(slc (x ys))[k]? = some z → ∃ v,(putCells enc 0 d vs)[k]? = some v ∧ v.oneCell' = true ∧ RD m z v:=by
 intro k z hz
 rw [hx.c,List.getElem?_map,Option.map_eq_some_iff] at hz
 obtain ⟨a,ha,rfl⟩:=hz
 have hk:=(List.getElem?_eq_some_iff.1 ha).1
 obtain ⟨h1,h2⟩:=hd k hk
 refine ⟨enc a,?_,hx.one a,(hx.r m a _).2 rfl⟩
 simp only [putCells,Array.getElem?_mapIdx]
 rw [Array.getElem?_eq_getElem (by omega)]
 simp only [Option.map_some,Nat.zero_le,true_and,Nat.zero_add,Nat.sub_zero]
 rw [if_pos h1,h2,List.getD_eq_getElem?_getD,ha]
 rfl
section
variable {P : Program} {f : FuncId}
theorem Vq {α : Type} [Inhabited α] {enc : α → Value} {x : List α → D} {cell : α → D} (hx : Q9 enc x cell) (hcal : EL P f) {zs zs' : List α} (hl : zs'.length = zs.length)
  (hrun : ∀ b cap w,Holds enc w b 0 zs.toArray → b < w.heap.size → zs.length ≤ cap → cap ≤ maxLen → Calls P f #[.slice (some ⟨b,0,none⟩) zs.length cap] w fun e w' => e = .returned (.tuple #[]) ∧ ∃ n os,w' = grow (putRow enc (Sort.ahead w n) b 0 zs'.toArray) os)
  (hnil : zs = [] → ∀ a w,Calls P f #[.slice a 0 0] w fun e w' => e = .returned (.tuple #[]) ∧ w' = w) :
  BK P f [.sl 0 zs.length 1] [.a (x zs)] (.d (.tup [])) [.a (x zs')]:=by
 refine ⟨hcal,fun G w vs hG hR hv => ?_⟩
 rw [callsIn_wide]
 obtain ⟨v,r0,hvs,hv1,hr0⟩:=hv
 simp only [Aj] at hr0
 subst hr0
 have hvs' : vs = #[v]:=by rw [← Array.toArray_toList (xs:=vs),hvs]
 subst hvs'
 simp only [RV] at hv1
 obtain ⟨_,blk,hb,hp⟩:=hv1
 have hb0 : G.H[0]? = some (.a (x zs)):=by rw [hG];rfl
 rw [hb0] at hb;cases hb
 obtain ⟨_,_,hp⟩:=hp
 have tup : RV G (.d (.tup [])) (.tuple #[]):=by simp only [RV,RD];exact ⟨[],rfl,rfl⟩
 rcases hp (by rw [hx.n]) with ⟨h0,a,rfl⟩ | ⟨b,N,cap,hρ,rfl,hnc,hcm,hN⟩
 ·have hz : zs = []:=List.length_eq_zero_iff.1 h0
  subst hz
  have hz' : zs' = []:=List.length_eq_zero_iff.1 (by simpa using hl)
  subst hz'
  refine (hnil rfl a w).mono ?_
  rintro e w' ⟨rfl,rfl⟩
  exact ⟨_,.d (.tup []),G,rfl,⟨rfl,hG⟩,tup,hR,BZ.refl G _⟩
 ·obtain ⟨_,_,hB⟩:=hR.blk 0 _ hb0
  rcases hB with ⟨_,hno⟩ | ⟨b',N',vs,T,hρ',hw,hM,hcell⟩
  ·rw [hρ] at hno;cases hno
  rw [hρ] at hρ';cases hρ'
  have hlt : b < w.heap.size:=(Array.getElem?_eq_some_iff.1 hw).1
  refine (hrun b cap w (RF hx hw hcell) hlt hnc hcm).mono ?_
  rintro e w' ⟨rfl,n,os,rfl⟩
  have hvl : zs.length ≤ vs.size:=by omega
  obtain ⟨r1,r2⟩:=Kp hR (cur:=putCells enc 0 zs'.toArray vs) hb0 rfl (q:=.a (x zs')) rfl hρ (by simp [AF,Gh.put,hx.z,hx.n,hl]) (by
   refine ⟨hx.sl _,hx.ok _,.inr ⟨b,N,_,T,hρ,setRow_heap w b vs _ T _ hw,by simp [putCells];omega,?_⟩⟩
   exact Ry hx (fun k hk => ⟨by simpa using hk,by rw [getElem!_pos zs'.toArray k (by simpa using hk),List.getD_eq_getElem?_getD,List.getElem?_eq_getElem hk];simp⟩) (by omega))
  rw [putRow_ahead,Pz enc hw,show ∀ q,grow (Sort.ahead q n) os = grow (Sort.ahead q n) os from fun _ => rfl]
  obtain ⟨r3,r4⟩:=TU r1 n os
  exact ⟨_,.d (.tup []),G.put 0 (.a (x zs')),rfl,⟨rfl,by show G.H.set 0 _ = _;rw [hG];rfl⟩,by simp only [RV,RD];exact ⟨[],rfl,rfl⟩,r3,r2.trans r4⟩
end
end Go.Gar
namespace Go.Gar
section
variable {P : Program} {ro : Option Nat} {E : Nat → Option Ap} {ops : Array Oper} {i : Nat} {rest : List Oper} {Q : Exit → St → Prop} {o : Oper} {S : St}
theorem WV {x : AV} {H' : List A7} (hg : A9 ops S.env o = some true) (hnd : ∀ c,o.op ≠ .defer c) (hd : AJ o.dst S.n = true) {N : NB} {G : Gh} {a : Act} {w : World} (r : Rel ro N S G a w) (hops : ∀ k : Nat,(o :: rest)[k]? = ops[i + k]?)
  (hop : ∃ r w' G',(execOp a.eval o).run P w = .ok r w' ∧ (r = .skip ∧ x = .u ∨ ∃ v,r = .value v ∧ RV G' x v) ∧ G'.H = H' ∧ AU G' w' ∧ BZ G w G' w')
  (k : Wl P ro ops (i + 1) rest ⟨Am o.dst x S.env,H',S.n⟩ Q) : wpOpsIn (GE (rl G ro)) 0 P ops (Post ro N G w Q) (List.range' i (o :: rest).length) a w:=by
 have ho : ops[i]? = some o:=by have:=hops 0;simpa using this.symm
 simp only [List.length_cons,List.range'_succ,wpOpsIn,ho]
 rw [if_pos (B1 r.env hg)]
 obtain ⟨res,w',G',h1,h2,h3,h4,h5⟩:=hop
 refine ⟨fun _ _ => trivial,?_⟩
 rw [Oper.semAt_eq _ _ _ hnd,h1]
 have hops' : ∀ k : Nat,rest[k]? = ops[i + 1 + k]?:=fun k => by have:=hops (k + 1);simp at this;rw [this];congr 1;omega
 have fin : ∀ v,RV G' x v → wpOpsIn (GE (rl G ro)) 0 P ops (Post ro N G w Q) (List.range' (i + 1) rest.length) (a.put o.dst v) w':=by
  intro v hv
  obtain ⟨e1,e2,e3⟩:=Da (r.env.mono h5.gle) r.size hd hv
  have r' : Rel ro N ⟨Am o.dst x S.env,H',S.n⟩ G' (a.put o.dst v) w':=⟨h3,h4,e2,e1,r.marks.LO h5 e3,fun id hid => by
   obtain ⟨q,l,M,q1,q2⟩:=r.round id hid
   rw [← r.heap] at q1
   obtain ⟨b',hb',hs⟩:=h5.gle.blk id _ q1
   rw [h3] at hb'
   cases b' <;> simp only [AF] at hs
   exact ⟨_,l,M,hb',hs.1.trans q2⟩⟩
  have hk:=k hops' N G' _ w' r'
  rw [DO r r' h5] at hk
  exact Ah (fun _ _ _ p => p.trans h5) _ _ _ hk
 rcases h2 with ⟨rfl,rfl⟩ | ⟨v,rfl,hv⟩
 ·simp only [Oper.uponIn]
  exact fin undef (by simp [RV])
 ·simp only [Oper.uponIn]
  exact fin v hv
def VH (E : Nat → Option Ap) (env : List (Nat × AV)) (op : Op) : Option (AV × Bool) :=
 match op with
 | .binOp op t p (.const (.slice none 0 0)) _ => match E t,Cc env p with
  | some y,some x => match y.k,op with
   | .sl _,.eql => some (x,true)
   | .sl _,.neq => some (x,false)
   | _,_ => none
  | _,_ => none
 | _ => none
def Nr : AV → Prop
 | .d q => A5 q = true ∧ A6 q ≠ 0
 | _ => False
def Nj : AV → Bool
 | .d q => A5 q
 | .e0 => true
 | _ => false
theorem Xsn (hE : B8 P E) {x : AV} {pos : Bool} {en : List (Nat × AV)} {hp : List A7} {nt : Nat} (hg : A9 ops en o = some true) (h : VH E en o.op = some (x,pos)) (hs : Nj x = true) (hd : AJ o.dst nt = true)
  (k : ∀ r : Bool,(r = true → ¬ Nr x) → Wl P ro ops (i + 1) rest ⟨Am o.dst (.d (.b (if pos then r else !r))) en,hp,nt⟩ Q) : Wl P ro ops i (o :: rest) ⟨en,hp,nt⟩ Q:=by
 intro hops N G a w r
 obtain ⟨dst,op,ty,ps,after,guard⟩:=o
 unfold VH at h
 simp only at h
 split at h
 ·rename_i op t p yt
  split at h
  ·rename_i y x' hy hx
   have hv:=AM r.env hx
   have key : ∀ {e : Nat},y.k = .sl e → x' = x → ∃ ad n cap,a.eval p = .slice ad n cap ∧ (ad = none → ¬ Nr x) ∧ P.underlying t = some (.slice e):=by
    intro e hk hxe
    subst hxe
    obtain ⟨_,hu,hkk⟩:=HR (hE t y hy)
    rw [hk] at hkk
    have hds:=Ca hkk
    subst hds
    cases x' with
    | d q =>
     simp only [Nj] at hs
     simp only [RV] at hv
     obtain ⟨ad,cap,e1,_,_,e4⟩:=(CO hs).1 hv
     refine ⟨ad,_,cap,e1,fun hn he => ?_,hu⟩
     rcases e4 with e4 | ⟨b,off,e4,_⟩
     ·exact he.2 e4
     ·rw [hn] at e4;cases e4
    | e0 =>
     simp only [RV] at hv
     obtain ⟨ad,e1⟩:=hv
     exact ⟨ad,0,0,e1,fun _ he => he,hu⟩
    | _ => simp [Nj] at hs
   have run : ∀ {e ad n cap} ,a.eval p = .slice ad n cap → P.underlying t = some (.slice e) → ((eqGuard op t p (.const (.slice none 0 0)) (a.eval p) (.slice none 0 0)).run P w = .ok () w ∧ (Op.equal t (a.eval p) (.slice none 0 0)).run P w = .ok ad.isNone w):=by
    intro e ad n cap e1 e2
    refine ⟨Ei (.inl ?_),?_⟩
    ·rw [e1];exact ⟨fun _ h => (by cases h),fun h => (by cases h)⟩
    ·rw [e1];exact run_equal_slice_nil w t e ad n cap e2
   split at h
   ·rename_i e hk
    simp only [Option.some.injEq,Prod.mk.injEq] at h
    obtain ⟨hxe,rfl⟩:=h
    obtain ⟨ad,n,cap,e1,e2,e3⟩:=key hk hxe
    obtain ⟨g1,g2⟩:=run e1 e3
    refine WV (S:=⟨en,hp,nt⟩) (x:=.d (.b ad.isNone)) (H':=hp) hg (fun c e => by cases e) hd r hops ⟨.value (.bool ad.isNone),w,G,?_,.inr ⟨_,rfl,by simp [RV,RD]⟩,r.heap,r.rel,BZ.refl G w⟩ (k ad.isNone fun hn => e2 (by cases ad with|none => rfl|some _ => cases hn))
    show (do pure (Next.value (← (do eqGuard BinOp.eql t p (.const (.slice none 0 0)) (a.eval p) (.slice none 0 0);binOp .eql t (a.eval p) (.slice none 0 0))))).run P w = _
    have hb : binOp .eql t (a.eval p) (.slice none 0 0) = (do pure (.bool (← Op.equal t (a.eval p) (.slice none 0 0)))):=by rw [e1];rfl
    simp only [Sem.run_bind,g1,Result.andThen_ok,hb,g2,Sem.run_pure]
   ·rename_i e hk
    simp only [Option.some.injEq,Prod.mk.injEq] at h
    obtain ⟨hxe,rfl⟩:=h
    obtain ⟨ad,n,cap,e1,e2,e3⟩:=key hk hxe
    obtain ⟨g1,g2⟩:=run e1 e3
    refine WV (S:=⟨en,hp,nt⟩) (x:=.d (.b (!ad.isNone))) (H':=hp) hg (fun c e => by cases e) hd r hops ⟨.value (.bool (!ad.isNone)),w,G,?_,.inr ⟨_,rfl,by simp [RV,RD]⟩,r.heap,r.rel,BZ.refl G w⟩ (k ad.isNone fun hn => e2 (by cases ad with|none => rfl|some _ => cases hn))
    show (do pure (Next.value (← (do eqGuard BinOp.neq t p (.const (.slice none 0 0)) (a.eval p) (.slice none 0 0);binOp .neq t (a.eval p) (.slice none 0 0))))).run P w = _
    have hb : binOp .neq t (a.eval p) (.slice none 0 0) = (do pure (.bool (!(← Op.equal t (a.eval p) (.slice none 0 0))))):=by rw [e1];rfl
    simp only [Sem.run_bind,g1,Result.andThen_ok,hb,g2,Sem.run_pure]
   ·cases h
  ·cases h
 ·cases h
theorem XsnE (hE : B8 P E) {x : AV} {en e1 e2 : List (Nat × AV)} {hp : List A7} {nt : Nat} (hg : A9 ops en o = some true) (h : VH E en o.op = some (x,true)) (hs : Nj x = true) (hd : AJ o.dst nt = true)
  (h1 : Af o.dst (.d (.b true)) en = some e1) (h2 : Af o.dst (.d (.b false)) en = some e2) (k1 : ¬ Nr x → Wl P ro ops (i + 1) rest ⟨e1,hp,nt⟩ Q) (k2 : Wl P ro ops (i + 1) rest ⟨e2,hp,nt⟩ Q) : Wl P ro ops i (o :: rest) ⟨en,hp,nt⟩ Q:=by
 refine Xsn hE hg h hs hd fun r hr => ?_
 rw [AO h1] at k1
 rw [AO h2] at k2
 cases r with
 | true => exact k1 (hr rfl)
 | false => exact k2
theorem XsnN (hE : B8 P E) {x : AV} {en e1 e2 : List (Nat × AV)} {hp : List A7} {nt : Nat} (hg : A9 ops en o = some true) (h : VH E en o.op = some (x,false)) (hs : Nj x = true) (hd : AJ o.dst nt = true)
  (h1 : Af o.dst (.d (.b false)) en = some e1) (h2 : Af o.dst (.d (.b true)) en = some e2) (k1 : ¬ Nr x → Wl P ro ops (i + 1) rest ⟨e1,hp,nt⟩ Q) (k2 : Wl P ro ops (i + 1) rest ⟨e2,hp,nt⟩ Q) : Wl P ro ops i (o :: rest) ⟨en,hp,nt⟩ Q:=by
 refine Xsn hE hg h hs hd fun r hr => ?_
 rw [AO h1] at k1
 rw [AO h2] at k2
 cases r with
 | true => exact k1 (hr rfl)
 | false => exact k2
theorem is_nil {l : List Int} (h : ¬ Nr (.d (.is l))) : l = []:=by
 cases l with
 | nil => rfl
 | cons a r => exact absurd ⟨rfl,by simp [A6]⟩ h
end
end Go.Gar
namespace Go.Gar
section
variable {P : Program} {ro : Option Nat} {S : St} {Q : Exit → St → Prop}
def Z4 (P : Program) (ro : Option Nat) (c : Code) (Q : Exit → St → Prop) : Nat → Exit → St → Prop
 | 0,.normal,_ => False
 | n + 1,.normal,S' => W P ro c S' (Z4 P ro c Q n)
 | _,e,S' => Q e S'
theorem XE {c : Code} {b : Frame} {k : List Item} {cs : List Frame} {F : Fence} (hro : b.roundOf = F.round) (hb : F.fn b.fn) (hr : F.room (cs.length + 1 + 0)) :
  ∀ (n : Nat) (N : NB) (S : St) (G : Gh) (a : Act) (w : World),Rel ro N S G a w → F = GE (rl G ro) → W P ro c S (Z4 P ro c Q n) →
  ∃ e a' w',Post ro N G w Q e a' w' ∧ ArrivesIn (Machine.fenced P F) P (lone (b.atR a (.code c :: .inLoop c :: k)) cs w) b k cs e a' w':=by
 intro n
 induction n with
 | zero =>
  intro N S G a w r hf h
  have h1:=h N G a w r
  rw [← hf] at h1
  obtain ⟨e,a',w',⟨S',G',q,r',kk⟩,harr⟩:=h1 b (.inLoop c :: k) cs hro hb hr
  cases e with
  | normal => exact q.elim
  | exit id => exact ⟨_,a',w',⟨S',G',q,r',kk⟩,.pass (x:=.inLoop c) rfl (fun _ _ => .inl (by simp)) harr⟩
  | goto l => exact ⟨_,a',w',⟨S',G',q,r',kk⟩,.pass (x:=.inLoop c) rfl (fun _ _ => .inl (by simp)) harr⟩
  | ret => exact ⟨_,a',w',⟨S',G',q,r',kk⟩,.pass (x:=.inLoop c) rfl (fun _ _ => .inl (by simp)) harr⟩
  | panic ch => exact ⟨_,a',w',⟨S',G',q,r',kk⟩,.pass (x:=.inLoop c) rfl (fun _ _ => .inl (by simp)) harr⟩
  | outgrown => exact ⟨_,a',w',⟨S',G',q,r',kk⟩,.pass (x:=.inLoop c) rfl (fun _ _ => .inl (by simp)) harr⟩
 | succ n ih =>
  intro N S G a w r hf h
  have h1:=h N G a w r
  rw [← hf] at h1
  obtain ⟨e,a',w',⟨S',G',q,r',kk⟩,harr⟩:=h1 b (.inLoop c :: k) cs hro hb hr
  cases e with
  | normal =>
   obtain ⟨e₂,a₂,w₂,p₂,harr₂⟩:=ih N S' G' a' w' r' (by rw [DO r r' kk];exact hf) q
   exact ⟨e₂,a₂,w₂,p₂.trans kk,.of_steps (StepsIn.trans harr (.one (fenced_calm (fr:=b.atR a' (.inLoop c :: k)) hb hr rfl) stepR_inLoop)) harr₂⟩
  | exit id => exact ⟨_,a',w',⟨S',G',q,r',kk⟩,.pass (x:=.inLoop c) rfl (fun _ _ => .inl (by simp)) harr⟩
  | goto l => exact ⟨_,a',w',⟨S',G',q,r',kk⟩,.pass (x:=.inLoop c) rfl (fun _ _ => .inl (by simp)) harr⟩
  | ret => exact ⟨_,a',w',⟨S',G',q,r',kk⟩,.pass (x:=.inLoop c) rfl (fun _ _ => .inl (by simp)) harr⟩
  | panic ch => exact ⟨_,a',w',⟨S',G',q,r',kk⟩,.pass (x:=.inLoop c) rfl (fun _ _ => .inl (by simp)) harr⟩
  | outgrown => exact ⟨_,a',w',⟨S',G',q,r',kk⟩,.pass (x:=.inLoop c) rfl (fun _ _ => .inl (by simp)) harr⟩
theorem VZ (n : Nat) {c : Code} (h : W P ro c S (Z4 P ro c Q n)) : W P ro (.loop c) S Q:=by
 intro N G a w r b k cs hro hb hr
 obtain ⟨e,a',w',p,harr⟩:=XE (Q:=Q) (k:=k) (b:=b) (cs:=cs) hro hb hr n N S G a w r rfl h
 exact ⟨e,a',w',p,.of_steps (.one (fenced_calm (fr:=b.atR a (.code (.loop c) :: k)) hb hr rfl) stepR_loop) harr⟩
end
end Go.Gar
namespace Go.Gar
section
variable {P : Program} {ro : Option Nat} {ops : Array Oper} {i : Nat} {rest : List Oper} {Q : Exit → St → Prop} {o : Oper} {en : List (Nat × AV)} {hp : List A7} {nt : Nat}
theorem XyB {id : Nat} {xs : List AV} {r0 : Lp} {H1 H2 : List A7} {e1 e2 : List (Nat × AV)} (b : Bool) (hT : b = true → YT P id xs hp fun r K => r = .d (.b true) ∧ K = H1) (hF : b = false → YT P id xs hp fun r K => r = .d (.b false) ∧ K = H2)
  (hg : A9 ops en o = some true) (h : HL en o.op = some (id,xs)) (hd : AJ o.dst nt = true) (hlp : hp[id]? = some (.lp r0)) (he1 : Af o.dst (.d (.b true)) en = some e1) (he2 : Af o.dst (.d (.b false)) en = some e2)
  (k1 : b = true → Wl P ro ops (i + 1) rest ⟨e1,H1,nt⟩ Q) (k2 : b = false → Wl P ro ops (i + 1) rest ⟨e2,H2,nt⟩ Q) : Wl P ro ops i (o :: rest) ⟨en,hp,nt⟩ Q:=by
 cases b with
 | true => exact Xy (hT rfl) hg h hd hlp he1 (k1 rfl)
 | false => exact Xy (hF rfl) hg h hd hlp he2 (k2 rfl)
end
end Go.Gar
namespace Go.Gar
def HI (P : Program) (f : FuncId) (args : List AV) (H : List A7) (ch : List PanicEntry) (H' : List A7) : Prop :=
 EL P f ∧ ∀ G w (vs : Array Value),G.H = H → AU G w → Aj G args vs.toList →
  CallsIn Fence.wide 0 P f vs w fun e w' => ∃ G',e = .panicked ch ∧ G'.H = H' ∧ AU G' w' ∧ BZ G w G' w'
theorem HI.ren {P : Program} {f : FuncId} {args : List AV} {H H2 : List A7} {ch : List PanicEntry} {H' : List A7} (ids : List Nat) (h : HI P f args H ch H') (hn : nodupB ids = true) (hm : Bw (rn ids H2.length) H2 ids H) (ho : AT H.length H = true) (ha : AV.oks H.length args = true) :
  HI P f (AV.C7 (rn ids H2.length) args) H2 ch (J5 ids H2 (E4 (rn ids H2.length) H')):=by
 have hn:=GQ hn
 refine ⟨h.1,fun G w vs hG hr hargs => ?_⟩
 obtain ⟨h1,h2⟩:=MU hG hn hm hr ho
 refine (h.2 _ w vs rfl h1 (h2 ha hargs)).mono ?_
 rintro e w' ⟨G0',rfl,hH,hr',hfr⟩
 obtain ⟨G'',q1,q2,q3,q4,q5⟩:=ID hG hn hm hr hfr hr'
 exact ⟨G'',rfl,by rw [q1,hH],q2,q3⟩
def YW (ch : List PanicEntry) (K : St → Prop) : Exit → St → Prop
 | .panic c,S => c = ch ∧ K S
 | _,_ => False
section
variable {P : Program} {ro : Option Nat} {ops : Array Oper} {i : Nat} {rest : List Oper} {S : St} {Q : Exit → St → Prop} {o : Oper} {E : Nat → Option Ap}
variable {en : List (Nat × AV)} {hp : List A7} {nt : Nat}
theorem BD {f : FuncId} {fn : Func} {c : Code} (hE : B8 P E) (hf : P.funcs[f]? = some fn) (hb : fn.body = some c) (hname : (fn.name == "runtime.NumGoroutine") = false) {args : List AV} {H : List A7} (hn : args.length ≤ fn.ntmps) {ch : List PanicEntry} {H' : List A7}
  (h : W P none c ⟨Dy 0 args,H,fn.ntmps⟩ (YW ch fun S0 => ∃ S',A0 S0 S' ∧ H.length ≤ S'.H.length ∧ S'.H = H')) : HI P f args H ch H':=by
 have h2:=Qr (Q':=YW ch fun S' => S'.H = H') h (by
  intro e S' q
  cases e with
  | panic c => obtain ⟨rfl,S'',t,hl,q'⟩:=q;exact ⟨S'',t,hl,rfl,q'⟩
  | _ => exact q.elim)
 refine ⟨⟨fn,hf,hname,by rw [hb];rfl⟩,fun G w vs hG hr hargs => Lm (K:=fun _ _ => False) (KP:=fun c K => c = ch ∧ K = H') hE hf hb hn (h2.mono ?_) hG hr hargs (fun _ _ _ _ _ _ h => h.elim) ?_⟩
 ·intro e S' q
  cases e with
  | panic c => exact q
  | _ => exact q.elim
 ·rintro c G' w1 w' ms ⟨rfl,hH⟩ h1 h2 hfr ht hms
  refine ⟨G',rfl,hH,h2,⟨ht.os.trans hfr.os,ht.tape.trans hfr.tape,ht.output.trans hfr.output,by rw [ht.size];exact hfr.size,fun b hb ho => ?_,hfr.memNew,hfr.gle⟩⟩
  obtain ⟨k1,k2⟩:=hfr.keep b hb ho
  exact ⟨(ht.other b fun hm => by have:=hms b hm;omega).trans k1,k2⟩
theorem Tn {x : Operand} {t : TypeId} {v : Value} (ho : o.op = .panic x) (hg : A9 ops S.env o = some true) (hx : Cc S.env x = some (.d (.ifc t v))) (k : Q (.panic [{ v:=.iface t v,recovered:=false }]) S) : Wl P ro ops i (o :: rest) S Q:=by
 intro hops N G a w r
 have ho' : ops[i]? = some o:=by have:=hops 0;simpa using this.symm
 simp only [List.length_cons,List.range'_succ,wpOpsIn,ho']
 rw [if_pos (B1 r.env hg)]
 refine ⟨fun _ _ => trivial,?_⟩
 have hv:=AM r.env hx
 simp only [RV,RD] at hv
 have hrun : (execOp a.eval o).run P w = .halt (.panic (.iface t v)) w:=by
  unfold execOp
  simp only [ho,hv,Instr.panic,Sem.run_bind]
  rfl
 rw [Oper.semAt_eq _ _ _ (fun c e => by rw [ho] at e;cases e),hrun]
 simp only [Oper.uponIn]
 exact ⟨S,G,k,r,BZ.refl G w⟩
theorem UZ {c : Call} {fo : Operand} {g : FuncId} {first cap xs : List AV} {ch : List PanicEntry} {H' : List A7} (ho : o.op = .call c) (hc : c.callee = .value fo) (hg : A9 ops S.env o = some true) (hf : Cc S.env fo = some (.fn (.func g) first cap)) (hxs : Fe S.env c.args.toList = some xs)
  (hT : HI P g (first ++ xs ++ cap) S.H ch H') (k : Q (.panic ch) ⟨S.env,H',S.n⟩) : Wl P ro ops i (o :: rest) S Q:=by
 intro hops N G a w r
 have ho' : ops[i]? = some o:=by have:=hops 0;simpa using this.symm
 simp only [List.length_cons,List.range'_succ,wpOpsIn,ho']
 rw [if_pos (B1 r.env hg)]
 refine ⟨fun _ _ => trivial,?_⟩
 have hfv:=AM r.env hf
 simp only [RV] at hfv
 obtain ⟨p,q,hfv,hp,hq⟩:=hfv
 have hrun:=Fl (P:=P) (f:=g) hc hfv hT.1 ho w
 rw [Oper.semAt_eq _ _ _ (fun c e => by rw [ho] at e;cases e),hrun]
 simp only [Oper.uponIn]
 refine ⟨DT _,?_⟩
 have hargs : Aj G (first ++ xs ++ cap) (p.toArray ++ c.args.map a.eval ++ q.toArray).toList:=by
  have h1:=Bv r.env hxs
  have e : (p.toArray ++ c.args.map a.eval ++ q.toArray).toList = p ++ c.args.toList.map a.eval ++ q:=by simp
  rw [e]
  exact (hp.app h1).app hq
 have hcall:=hT.2 G w _ r.heap r.rel hargs
 have hcall' : CallsIn (GE (rl G ro)) 0 P g (p.toArray ++ c.args.map a.eval ++ q.toArray) w _:=hcall
 refine hcall'.mono ?_
 rintro e w' ⟨G',rfl,hH,hr',hfr⟩
 exact ⟨⟨S.env,H',S.n⟩,G',k,r.step hfr hH hr' rfl r.size (r.env.mono hfr.gle) rfl,hfr⟩
end
end Go.Gar
namespace Go.Gar
section
variable {P : Program} {F : Fence} {n : Nat} {ops : Array Oper} {a : Act} {cs : List Frame} {w : World}
theorem H5 {c : Code} {Q Q' : Exit → Act → List Frame → World → Prop} (h : c.wpSIn F n P Q a cs w) (hq : ∀ e a cs w,Q e a cs w → Q' e a cs w) : c.wpSIn F n P Q' a cs w :=
 fun b k h1 h2 h3 h4 => let ⟨e,a',cs',w',l,q,r⟩:=h b k h1 h2 h3 h4;⟨e,a',cs',w',l,hq _ _ _ _ q,r⟩
theorem BX {Q Q' : Exit → Act → List Frame → World → Prop} (hq : ∀ e a cs w,Q e a cs w → Q' e a cs w) : ∀ (l : List Nat) (a : Act) (cs : List Frame) (w : World),wpOpsSIn F n P ops Q l a cs w → wpOpsSIn F n P ops Q' l a cs w
 | [],a,cs,w,h => hq _ _ _ _ h
 | i :: rest,a,cs,w,h => by
  simp only [wpOpsSIn] at h ⊢
  cases ho : ops[i]? with
  | none => simp only [ho] at h ⊢;exact BX hq rest _ _ _ h
  | some o =>
   simp only [ho] at h ⊢
   refine ⟨h.1,?_⟩
   have h2:=h.2
   by_cases hw : Region.wanted o (yielded ops a.tmps) = true
   ·rw [if_pos hw] at h2 ⊢
    generalize (execOp a.eval o).run P w = res at h2 ⊢
    cases res with
    | ok r w' =>
     cases r with
     | recover =>
      simp only at h2 ⊢
      cases hr : recoverD cs with
      | none => simp only [hr] at h2 ⊢;exact BX hq rest _ _ _ h2
      | some p => obtain ⟨v,cs'⟩:=p;simp only [hr] at h2 ⊢;exact BX hq rest _ _ _ h2
     | value v => exact BX hq rest _ _ _ h2
     | skip => exact BX hq rest _ _ _ h2
     | _ => exact h2.elim
    | halt hh w' =>
     cases hh with
     | panic v => exact hq _ _ _ _ h2
     | _ => exact h2.elim
   ·rw [if_neg hw] at h2 ⊢
    exact BX hq rest _ _ _ h2
end
def Nc (P : Program) (ops : Array Oper) (i : Nat) (rest : List Oper) (S : St) (K : St → Prop) : Prop :=
 (∀ k : Nat,rest[k]? = ops[i + k]?) → ∀ N G a w,Rel none N S G a w →
  wpOpsIn (GE none) 0 P ops (fun e a' w' => e = .normal ∧ a'.defers = a.defers ∧ ∃ S' G',K S' ∧ Rel none N S' G' a' w' ∧ BZ G w G' w') (List.range' i rest.length) a w
section
variable {P : Program} {ops : Array Oper} {i : Nat} {rest : List Oper} {S : St} {K : St → Prop} {o : Oper} {E : Nat → Option Ap}
theorem DU (h : K S) : Nc P ops i [] S K:=by
 intro _ N G a w r
 simp only [List.length_nil,List.range'_zero,wpOpsIn]
 exact ⟨by trivial,by trivial,S,G,h,r,BZ.refl G w⟩
theorem N8 {x : AV} {H' : List A7} (hg : A9 ops S.env o = some true) (hop : Cn P o S x H') (hnd : JH o.op = false) (hd : AJ o.dst S.n = true)
  (k : Nc P ops (i + 1) rest ⟨Am o.dst x S.env,H',S.n⟩ K) : Nc P ops i (o :: rest) S K:=by
 intro hops N G a w r
 have ho : ops[i]? = some o:=by have:=hops 0;simpa using this.symm
 simp only [List.length_cons,List.range'_succ,wpOpsIn,ho]
 rw [if_pos (B1 r.env hg)]
 obtain ⟨res,w',G',h1,h2,h3,h4,h5⟩:=hop none N G a w r
 refine ⟨fun _ _ => trivial,?_⟩
 rw [Oper.semAt_eq _ _ _ (Lx hnd),h1]
 have hops' : ∀ k : Nat,rest[k]? = ops[i + 1 + k]?:=fun k => by have:=hops (k + 1);simp at this;rw [this];congr 1;omega
 have fin : ∀ v,RV G' x v → wpOpsIn (GE none) 0 P ops (fun e a' w' => e = .normal ∧ a'.defers = a.defers ∧ ∃ S' G',K S' ∧ Rel none N S' G' a' w' ∧ BZ G w G' w') (List.range' (i + 1) rest.length) (a.put o.dst v) w':=by
  intro v hv
  obtain ⟨e1,e2,e3⟩:=Da (r.env.mono h5.gle) r.size hd hv
  have r' : Rel none N ⟨Am o.dst x S.env,H',S.n⟩ G' (a.put o.dst v) w':=r.step h5 h3 h4 rfl e2 e1 e3
  have hk:=k hops' N G' _ w' r'
  exact Ah (fun _ _ _ ⟨p1,p2,S',G'',p3,p4,p5⟩ => ⟨p1,p2.trans e3,S',G'',p3,p4,h5.trans p5⟩) _ _ _ hk
 rcases h2 with ⟨rfl,rfl⟩ | ⟨v,rfl,hv⟩
 ·simp only [Oper.uponIn]
  exact fin undef (by simp [RV])
 ·simp only [Oper.uponIn]
  exact fin v hv
theorem YI {c : Call} {fo : Operand} {g : FuncId} {xs : List AV} {ds : List D} {d : D} (ho : o.op = .call c) (hc : c.callee = .value fo) (hg : A9 ops S.env o = some true) (hf : Cc S.env fo = some (.fn (.func g) [] [])) (hxs : Fe S.env c.args.toList = some xs) (hx : IQ xs ds)
  (hd : AJ o.dst S.n = true) (hT : Fn P g ds d) (k : Nc P ops (i + 1) rest ⟨Am o.dst (.d d) S.env,S.H,S.n⟩ K) : Nc P ops i (o :: rest) S K:=by
 intro hops N G a w r
 have ho' : ops[i]? = some o:=by have:=hops 0;simpa using this.symm
 simp only [List.length_cons,List.range'_succ,wpOpsIn,ho']
 rw [if_pos (B1 r.env hg)]
 refine ⟨fun _ _ => trivial,?_⟩
 have hfv:=AM r.env hf
 simp only [RV] at hfv
 obtain ⟨p,q,hfv,hp,hq⟩:=hfv
 simp only [Aj] at hp hq
 subst hp;subst hq
 have hrun:=Fl (P:=P) (f:=g) hc hfv hT.1 ho w
 rw [Oper.semAt_eq _ _ _ (fun c e => by rw [ho] at e;cases e),hrun]
 simp only [Oper.uponIn]
 refine ⟨DT _,?_⟩
 have hops' : ∀ k : Nat,rest[k]? = ops[i + 1 + k]?:=fun k => by have:=hops (k + 1);simp at this;rw [this];congr 1;omega
 have hargs : Aj G xs (([] : List Value).toArray ++ c.args.map a.eval ++ ([] : List Value).toArray).toList:=by
  have h1:=Bv r.env hxs
  simpa using h1
 have hcall:=(hT.toT hx S.H).2 G w _ r.heap r.rel hargs
 have hcall' : CallsIn (GE none) 0 P g (([] : List Value).toArray ++ c.args.map a.eval ++ ([] : List Value).toArray) w _:=hcall
 refine hcall'.mono ?_
 rintro e w' ⟨v,x,G',rfl,⟨rfl,hH⟩,hv,hr',hfr⟩
 obtain ⟨e1,e2,e3⟩:=Da (r.env.mono hfr.gle) r.size hd hv
 have r' : Rel none N ⟨Am o.dst (.d d) S.env,S.H,S.n⟩ G' (a.put o.dst v) w':=r.step hfr hH hr' rfl e2 e1 e3
 have hk:=k hops' N G' _ w' r'
 exact Ah (fun _ _ _ ⟨p1,p2,S',G'',p3,p4,p5⟩ => ⟨p1,p2.trans e3,S',G'',p3,p4,hfr.trans p5⟩) _ _ _ hk
def DV (P : Program) (G : Gh) (f : FuncId) (xs : List AV) (d : Deferred) : Prop :=
 EL P f ∧ ∃ p q : List Value,d = { target:=.fn (.func f) q.toArray,args:=p.toArray } ∧ Aj G xs (p ++ q)
theorem DV.mono {P : Program} {G G' : Gh} {f : FuncId} {xs : List AV} {d : Deferred} (h : DV P G f xs d) (k : GA G G') : DV P G' f xs d :=
 let ⟨h0,p,q,h1,h2⟩:=h;⟨h0,p,q,h1,Aj.mono k h2⟩
def Xx (P : Program) (ops : Array Oper) (i : Nat) (rest : List Oper) (S : St) (f : FuncId) (xs : List AV) (K : St → Prop) : Prop :=
 (∀ k : Nat,rest[k]? = ops[i + k]?) → ∀ N G a w,a.defers = [] → Rel none ⟨N,[]⟩ S G a w →
  wpOpsIn (GE none) 0 P ops (fun e a' w' => e = .normal ∧ ∃ d S' G',K S' ∧ Rel none ⟨N,[d]⟩ S' G' a' w' ∧ BZ G w G' w' ∧ DV P G' f xs d) (List.range' i rest.length) a w
theorem XC {x : AV} {H' : List A7} {f : FuncId} {xs : List AV} (hg : A9 ops S.env o = some true) (hop : Cn P o S x H') (hnd : JH o.op = false) (hd : AJ o.dst S.n = true)
  (k : Xx P ops (i + 1) rest ⟨Am o.dst x S.env,H',S.n⟩ f xs K) : Xx P ops i (o :: rest) S f xs K:=by
 intro hops N G a w ha r
 have ho : ops[i]? = some o:=by have:=hops 0;simpa using this.symm
 simp only [List.length_cons,List.range'_succ,wpOpsIn,ho]
 rw [if_pos (B1 r.env hg)]
 obtain ⟨res,w',G',h1,h2,h3,h4,h5⟩:=hop none _ G a w r
 refine ⟨fun _ _ => trivial,?_⟩
 rw [Oper.semAt_eq _ _ _ (Lx hnd),h1]
 have hops' : ∀ k : Nat,rest[k]? = ops[i + 1 + k]?:=fun k => by have:=hops (k + 1);simp at this;rw [this];congr 1;omega
 have fin : ∀ v,RV G' x v → wpOpsIn (GE none) 0 P ops (fun e a' w' => e = .normal ∧ ∃ d S' G',K S' ∧ Rel none ⟨N,[d]⟩ S' G' a' w' ∧ BZ G w G' w' ∧ DV P G' f xs d) (List.range' (i + 1) rest.length) (a.put o.dst v) w':=by
  intro v hv
  obtain ⟨e1,e2,e3⟩:=Da (r.env.mono h5.gle) r.size hd hv
  have r' : Rel none ⟨N,[]⟩ ⟨Am o.dst x S.env,H',S.n⟩ G' (a.put o.dst v) w':=r.step h5 h3 h4 rfl e2 e1 e3
  have hk:=k hops' N G' _ w' (e3.trans ha) r'
  exact Ah (fun _ _ _ ⟨p1,d,S',G'',p3,p4,p5,p6⟩ => ⟨p1,d,S',G'',p3,p4,h5.trans p5,p6⟩) _ _ _ hk
 rcases h2 with ⟨rfl,rfl⟩ | ⟨v,rfl,hv⟩
 ·simp only [Oper.uponIn]
  exact fin undef (by simp [RV])
 ·simp only [Oper.uponIn]
  exact fin v hv
theorem DI {c : Call} {fo : Operand} {g : FuncId} {first cap xs ys : List AV} (ho : o.op = .defer c) (hc : c.callee = .value fo) (hg : A9 ops S.env o = some true) (hf : Cc S.env fo = some (.fn (.func g) first cap)) (hxs : Fe S.env c.args.toList = some ys) (hx : first ++ ys ++ cap = xs)
  (hcall : EL P g) (hdst : o.dst = none) (k : K S) : Xx P ops i [o] S g xs K:=by
 intro hops N G a w ha r
 have ho' : ops[i]? = some o:=by have:=hops 0;simpa using this.symm
 simp only [List.length_cons,List.length_nil,List.range'_succ,List.range'_zero,wpOpsIn,ho']
 rw [if_pos (B1 r.env hg)]
 refine ⟨fun _ _ => trivial,?_⟩
 have hfv:=AM r.env hf
 simp only [RV] at hfv
 obtain ⟨p,q,hfv,hp,hq⟩:=hfv
 have hrun : (execOp a.eval o).run P w = .ok (.defer { target:=.fn (.func g) q.toArray,args:=(p ++ c.args.toList.map a.eval).toArray }) w:=by
  have e : p.toArray ++ c.args.map a.eval = (p ++ c.args.toList.map a.eval).toArray:=by
   apply Array.toList_inj.1;simp
  rw [← e]
  unfold execOp
  simp only [ho,resolve,hc,hfv,Deferred.ofValue,Sem.run_bind,Sem.run_pure,Result.andThen_ok]
 have hs : (o.semAt (GE none).round a.eval).run P w = .ok (.defer { target:=.fn (.func g) q.toArray,args:=(p ++ c.args.toList.map a.eval).toArray }) w:=hrun
 rw [hs]
 simp only [Oper.uponIn]
 refine ⟨by trivial,_,S,G,k,?_,BZ.refl G w,hcall,p ++ c.args.toList.map a.eval,q,rfl,?_⟩
 ·obtain ⟨m0,ms,m1,m2,m3⟩:=r.marks
  rw [ha] at m1
  have : ms = []:=by
   cases ms with
   | nil => rfl
   | cons x l => simp at m1
  subst this
  rw [hdst]
  refine ⟨r.heap,r.rel,r.size,r.env,⟨m0,[],by simp [Act.put,ha],List.nodup_nil,fun _ h => by cases h⟩,fun _ h => by cases h⟩
 ·rw [← hx]
  exact (hp.app (Bv r.env hxs)).app hq
def WS (P : Program) (c : Code) (S : St) (cs : List Frame) (Q : Exit → St → List Frame → Prop) : Prop :=
 ∀ N G a w,Rel none N S G a w → c.wpSIn (GE none) 0 P (fun e a' cs' w' => a'.defers = a.defers ∧ ∃ S' G',Q e S' cs' ∧ Rel none N S' G' a' w' ∧ BZ G w G' w') a cs w
def Ux (P : Program) (ops : Array Oper) (i : Nat) (rest : List Oper) (S : St) (cs : List Frame) (Q : Exit → St → List Frame → Prop) : Prop :=
 (∀ k : Nat,rest[k]? = ops[i + k]?) → ∀ N G a w,Rel none N S G a w →
  wpOpsSIn (GE none) 0 P ops (fun e a' cs' w' => a'.defers = a.defers ∧ ∃ S' G',Q e S' cs' ∧ Rel none N S' G' a' w' ∧ BZ G w G' w') (List.range' i rest.length) a cs w
variable {cs : List Frame} {Q : Exit → St → List Frame → Prop}
def QThS (K : St → List Frame → Prop) (Q : Exit → St → List Frame → Prop) : Exit → St → List Frame → Prop
 | .normal,S,cs => K S cs
 | e,S,cs => Q e S cs
theorem MX {x y : Code} (h : WS P x S cs (QThS (fun S' cs' => WS P y S' cs' Q) Q)) : WS P (.seq x y) S cs Q:=by
 intro N G a w r
 refine wpSIn_seq (H5 (h N G a w r) ?_)
 rintro e a' cs' w' ⟨hd,S',G',q,r',k⟩
 cases e with
 | normal =>
  have q' : WS P y S' cs' Q:=q
  exact H5 (q' N G' a' w' r') fun _ _ _ _ ⟨hd',S'',G'',q1,q2,q3⟩ => ⟨hd'.trans hd,S'',G'',q1,q2,k.trans q3⟩
 | _ => exact ⟨hd,S',G',q,r',k⟩
theorem Q8 {c : Operand} {x y : Code} {t : Bool} (hc : Cc S.env c = some (.d (.b t))) (h : WS P (if t then x else y) S cs Q) : WS P (.cond c x y) S cs Q:=by
 intro N G a w r
 have hv:=AM r.env hc
 simp only [RV,RD] at hv
 exact wpSIn_cond hv (h N G a w r)
theorem VV (h : Q .normal S cs) : WS P .skip S cs Q:=fun _ G _ w r => wpSIn_of_wpIn rfl (wpIn_skip ⟨rfl,S,G,h,r,BZ.refl G w⟩)
theorem IM (ops : Array Oper) : List.range ops.size = List.range' 0 ops.toList.length:=by rw [List.range_eq_range'];simp
theorem LN {id : Nat} (h : Ux P ops 0 ops.toList S cs Q) : WS P (.region id ops false) S cs Q:=by
 intro N G a w r
 refine wpSIn_region ?_
 have:=h (fun k => by simp) N G a w r
 rw [List.range_eq_range']
 simpa using this
theorem Gz {id : Nat} (h : Nc P ops 0 ops.toList S fun S' => Q .normal S' cs) : WS P (.region id ops false) S cs Q:=by
 intro N G a w r
 refine wpSIn_of_wpIn rfl (wpIn_region ?_)
 have:=h (fun k => by simp) N G a w r
 rw [IM]
 refine Ah ?_ _ _ _ this
 rintro e a' w' ⟨rfl,h1,S',G',h2,h3,h4⟩
 exact ⟨h1,S',G',h2,h3,h4⟩
theorem QO (h : Q .normal S cs) : Ux P ops i [] S cs Q:=by
 intro _ N G a w r
 simp only [List.length_nil,List.range'_zero,wpOpsSIn]
 exact ⟨by trivial,S,G,h,r,BZ.refl G w⟩
theorem Xj {x : AV} {H' : List A7} (hg : A9 ops S.env o = some true) (hop : Cn P o S x H') (hd : AJ o.dst S.n = true)
  (k : Ux P ops (i + 1) rest ⟨Am o.dst x S.env,H',S.n⟩ cs Q) : Ux P ops i (o :: rest) S cs Q:=by
 intro hops N G a w r
 have ho : ops[i]? = some o:=by have:=hops 0;simpa using this.symm
 simp only [List.length_cons,List.range'_succ,wpOpsSIn,ho]
 refine ⟨fun _ _ => trivial,?_⟩
 rw [if_pos (B1 r.env hg)]
 obtain ⟨res,w',G',h1,h2,h3,h4,h5⟩:=hop none N G a w r
 rw [h1]
 have hops' : ∀ k : Nat,rest[k]? = ops[i + 1 + k]?:=fun k => by have:=hops (k + 1);simp at this;rw [this];congr 1;omega
 have fin : ∀ v,RV G' x v → wpOpsSIn (GE none) 0 P ops (fun e a' cs' w' => a'.defers = a.defers ∧ ∃ S' G',Q e S' cs' ∧ Rel none N S' G' a' w' ∧ BZ G w G' w') (List.range' (i + 1) rest.length) (a.put o.dst v) cs w':=by
  intro v hv
  obtain ⟨e1,e2,e3⟩:=Da (r.env.mono h5.gle) r.size hd hv
  have r' : Rel none N ⟨Am o.dst x S.env,H',S.n⟩ G' (a.put o.dst v) w':=r.step h5 h3 h4 rfl e2 e1 e3
  exact BX (fun _ _ _ _ ⟨p2,S',G'',p3,p4,p5⟩ => ⟨p2.trans e3,S',G'',p3,p4,h5.trans p5⟩) _ _ _ _ (k hops' N G' _ w' r')
 rcases h2 with ⟨rfl,rfl⟩ | ⟨v,rfl,hv⟩
 ·exact fin undef (by simp [RV])
 ·exact fin v hv
def isRecover (op : Op) : Bool :=
 match op with
 | .call c => match c.callee with
  | .builtin .recover => true
  | _ => false
 | _ => false
theorem Vy {x : D} {cs' : List Frame} (hr : isRecover o.op = true) (hg : A9 ops S.env o = some true) (hd : AJ o.dst S.n = true)
  (hx : (recoverD cs = none ∧ x = .ni ∧ cs' = cs) ∨ ∃ t v,recoverD cs = some (.iface t v,cs') ∧ x = .ifc t v)
  (k : Ux P ops (i + 1) rest ⟨Am o.dst (.d x) S.env,S.H,S.n⟩ cs' Q) : Ux P ops i (o :: rest) S cs Q:=by
 intro hops N G a w r
 have ho : ops[i]? = some o:=by have:=hops 0;simpa using this.symm
 simp only [List.length_cons,List.range'_succ,wpOpsSIn,ho]
 refine ⟨fun _ _ => trivial,?_⟩
 rw [if_pos (B1 r.env hg)]
 have hrun : (execOp a.eval o).run P w = .ok .recover w:=by
  unfold isRecover at hr
  split at hr
  ·rename_i c hop
   split at hr
   ·rename_i hc
    unfold execOp
    simp only [hop,resolve,hc,Sem.run_bind,Sem.run_pure,Result.andThen_ok]
    rfl
   ·cases hr
  ·cases hr
 rw [hrun]
 have hops' : ∀ k : Nat,rest[k]? = ops[i + 1 + k]?:=fun k => by have:=hops (k + 1);simp at this;rw [this];congr 1;omega
 have fin : ∀ v,RD G.m x v → wpOpsSIn (GE none) 0 P ops (fun e a' cs' w' => a'.defers = a.defers ∧ ∃ S' G',Q e S' cs' ∧ Rel none N S' G' a' w' ∧ BZ G w G' w') (List.range' (i + 1) rest.length) (a.put o.dst v) cs' w:=by
  intro v hv
  obtain ⟨e1,e2,e3⟩:=Da (x:=.d x) r.env r.size hd (by simpa only [RV] using hv)
  have r' : Rel none N ⟨Am o.dst (.d x) S.env,S.H,S.n⟩ G (a.put o.dst v) w:=r.step (BZ.refl G w) r.heap r.rel rfl e2 e1 e3
  exact BX (fun _ _ _ _ ⟨p2,S',G'',p3,p4,p5⟩ => ⟨p2.trans e3,S',G'',p3,p4,p5⟩) _ _ _ _ (k hops' N G _ w r')
 rcases hx with ⟨h1,rfl,rfl⟩ | ⟨t,v,h1,rfl⟩
 ·simp only [h1];exact fin _ (by simp [RD])
 ·simp only [h1];exact fin _ (by simp [RD])
def S9 (P : Program) (f : FuncId) (args : List AV) (H : List A7) (u : FrameMode) (H' : List A7) : Prop :=
 ∀ G w (vs : Array Value),G.H = H → AU G w → Aj G args vs.toList →
  CallsDIn Fence.wide 0 P f vs u w fun e u' w' => ∃ v G',e = .returned v ∧ settle u' = .returning ∧ G'.H = H' ∧ AU G' w' ∧ BZ G w G' w'
theorem S9.ren {f : FuncId} {args : List AV} {H H2 : List A7} {u : FrameMode} {H' : List A7} (ids : List Nat) (h : S9 P f args H u H') (hn : nodupB ids = true) (hm : Bw (rn ids H2.length) H2 ids H) (ho : AT H.length H = true) (ha : AV.oks H.length args = true) :
  S9 P f (AV.C7 (rn ids H2.length) args) H2 u (J5 ids H2 (E4 (rn ids H2.length) H')):=by
 have hn:=GQ hn
 intro G w vs hG hr hargs
 obtain ⟨h1,h2⟩:=MU hG hn hm hr ho
 refine (h _ w vs rfl h1 (h2 ha hargs)).mono ?_
 rintro e u' w' ⟨v,G0',rfl,hu,hH,hr',hfr⟩
 obtain ⟨G'',q1,q2,q3,q4,q5⟩:=ID hG hn hm hr hfr hr'
 exact ⟨v,G'',rfl,hu,by rw [q1,hH],q2,q3⟩
def Z2 (c0 : Frame) (cs : List Frame) (K : FrameMode → St → Prop) : Exit → St → List Frame → Prop
 | .ret,S,cs' => ∃ u',cs' = { c0 with mode:=u' } :: cs ∧ K u' S
 | .normal,S,cs' => ∃ u',cs' = { c0 with mode:=u' } :: cs ∧ K u' S
 | _,_,_ => False
theorem Lz {f : FuncId} {fn : Func} {c : Code} (hf : P.funcs[f]? = some fn) (hb : fn.body = some c) (hres : fn.results = #[]) {args : List AV} {H : List A7} {u : FrameMode} {H' : List A7} (hn : args.length ≤ fn.ntmps)
  (h : ∀ (c0 : Frame) (cs : List Frame),c0.mode = u → WS P c ⟨Dy 0 args,H,fn.ntmps⟩ (c0 :: cs) (Z2 c0 cs fun u' S0 => settle u' = .returning ∧ ∃ S',A0 S0 S' ∧ H.length ≤ S'.H.length ∧ S'.H = H')) : S9 P f args H u H':=by
 intro G w vs hG hr hargs
 have key:=callsDIn_of_wpSIn (F:=GE none) (n:=0) (P:=P) (args:=vs) (u:=u) (w:=w) (R:=fun e u' w' => ∃ v G',e = Ending.returned v ∧ settle u' = .returning ∧ G'.H = H' ∧ AU G' w' ∧ BZ G w G' w') hf hb trivial ?_
 ·exact key
 intro c0 cs hu
 have hl : vs.size = args.length:=by have:=Aj.GI hargs;simpa using this
 have r0 : Rel none ⟨w.heap.size,[]⟩ ⟨Dy 0 args,H,fn.ntmps⟩ G { tmps:=vs ++ Array.replicate (fn.ntmps - vs.size) undef,defers:=[] } w:=by
  refine ⟨hG,hr,by simp;omega,fun t x hx => ?_,⟨Nat.le_refl _,[],rfl,List.nodup_nil,fun _ h => by cases h⟩,fun _ h => by cases h⟩
  obtain ⟨_,h2⟩:=GZ hx
  rw [Nat.sub_zero] at h2
  obtain ⟨v,hv,hrv⟩:=(BG.1 hargs).2 t x h2
  have hlt : t < vs.size:=by simpa using (List.getElem?_eq_some_iff.1 hv).1
  exact ⟨v,by rw [Array.getElem?_append_left hlt];simpa using hv,hrv⟩
 refine H5 (h c0 cs hu _ G _ w r0) ?_
 rintro e a' cs' w' ⟨hd,S0,G0,q,r',k⟩
 have fin : (∃ u',cs' = { c0 with mode:=u' } :: cs ∧ settle u' = .returning ∧ ∃ S',A0 S0 S' ∧ H.length ≤ S'.H.length ∧ S'.H = H') →
   a'.defers = [] ∧ ∃ u',cs' = { c0 with mode:=u' } :: cs ∧ ∃ v,(results fn a'.tmps).run P w' = .ok v w' ∧ ∃ v2 G',(Ending.returned v : Ending) = .returned v2 ∧ settle u' = .returning ∧ G'.H = H' ∧ AU G' w' ∧ BZ G w G' w':=by
  rintro ⟨u',e1,e2,S',t,hlen,hH⟩
  obtain ⟨G',r2,t2⟩:=t none _ G0 a' w' r' (fun id h => by cases h)
  refine ⟨hd,u',e1,.tuple #[],?_,_,G',rfl,e2,by rw [r2.heap,hH],r2.rel,k.ghost t2 (by rw [hG,r2.heap];exact hlen)⟩
  simp [results,hres]
 cases e with
 | normal => exact fin q
 | ret => exact fin q
 | _ => exact q.elim
def QDef (P : Program) (E : Nat → Option Ap) (fn : Func) (g : FuncId) (xs : List AV) (n : Nat) (R : AV → List A7 → Prop) : Exit → St → Prop
 | .ret,S => ∃ H2,S9 P g xs S.H .returning H2 ∧ ∃ S',A0 ⟨S.env,H2,S.n⟩ S' ∧ n ≤ S'.H.length ∧ ∃ cc x,Ew E S'.env S'.H fn.results.toList = some (cc,x) ∧ cc = true ∧ R x S'.H
 | .normal,S => ∃ H2,S9 P g xs S.H .returning H2 ∧ ∃ S',A0 ⟨S.env,H2,S.n⟩ S' ∧ n ≤ S'.H.length ∧ ∃ cc x,Ew E S'.env S'.H fn.results.toList = some (cc,x) ∧ cc = true ∧ R x S'.H
 | .panic ch,S => ∃ H2,S9 P g xs S.H (.panicking ch) H2 ∧ ∃ S',A0 ⟨S.env,H2,S.n⟩ S' ∧ n ≤ S'.H.length ∧ ∃ cc x,Ew E S'.env S'.H fn.results.toList = some (cc,x) ∧ cc = true ∧ R x S'.H
 | _,_ => False
theorem ES {f : FuncId} {fn : Func} {i0 i1 : Nat} {ops0 ops1 : Array Oper} {body : Code} {g : FuncId} {xs : List AV} (hE : B8 P E) (hf : P.funcs[f]? = some fn) (hb : fn.body = some (.seq (.region i0 ops0 false) (.seq (.region i1 ops1 false) body))) (hname : (fn.name == "runtime.NumGoroutine") = false) {args : List AV} {H : List A7} (hn : args.length ≤ fn.ntmps) {R : AV → List A7 → Prop}
  (h : Nc P ops0 0 ops0.toList ⟨Dy 0 args,H,fn.ntmps⟩ fun S1 => Xx P ops1 0 ops1.toList S1 g xs fun S2 => W P none body S2 (QDef P E fn g xs H.length R)) : J9 P f args H R:=by
 refine ⟨⟨fn,hf,hname,by rw [hb];rfl⟩,fun G w vs hG hr hargs => ?_⟩
 refine callsIn_of_wp_marks hf hb trivial ?_
 have hl : vs.size = args.length:=by have:=Aj.GI hargs;simpa using this
 have r0 : Rel none ⟨w.heap.size,[]⟩ ⟨Dy 0 args,H,fn.ntmps⟩ G { tmps:=vs ++ Array.replicate (fn.ntmps - vs.size) undef,defers:=[] } w:=by
  refine ⟨hG,hr,by simp;omega,fun t x hx => ?_,⟨Nat.le_refl _,[],rfl,List.nodup_nil,fun _ h => by cases h⟩,fun _ h => by cases h⟩
  obtain ⟨_,h2⟩:=GZ hx
  rw [Nat.sub_zero] at h2
  obtain ⟨v,hv,hrv⟩:=(BG.1 hargs).2 t x h2
  have hlt : t < vs.size:=by simpa using (List.getElem?_eq_some_iff.1 hv).1
  exact ⟨v,by rw [Array.getElem?_append_left hlt];simpa using hv,hrv⟩
 have hw:=h (fun k => by simp) _ G _ w r0
 refine wpIn_seq (wpIn_region (Ah ?_ _ _ _ (by rw [IM];exact hw)))
 rintro e a1 w1 ⟨rfl,hd1,S1,G1,h1,r1,k1⟩
 have hw1:=h1 (fun k => by simp) _ G1 a1 w1 hd1 r1
 refine wpIn_seq (wpIn_region (Ah ?_ _ _ _ (by rw [IM];exact hw1)))
 rintro e a2 w2 ⟨rfl,d,S2,G2,h2,r2,k2,hdv⟩
 have hw2:=h2 _ G2 a2 w2 r2
 refine wpIn_mono hw2 ?_
 rintro e a3 w3 ⟨S3,G3,q,r3,k3⟩
 have fin : ∀ u : FrameMode,u ≠ .run → (∃ H2,S9 P g xs S3.H u H2 ∧ ∃ S',A0 ⟨S3.env,H2,S3.n⟩ S' ∧ H.length ≤ S'.H.length ∧ ∃ cc x,Ew E S'.env S'.H fn.results.toList = some (cc,x) ∧ cc = true ∧ R x S'.H) →
   LeavesInM Fence.wide 0 P fn a3.tmps (fun e w' => ∃ v r G',e = .returned v ∧ R r G'.H ∧ RV G' r v ∧ AU G' w' ∧ BZ G w G' w') a3.defers u w3:=by
  rintro u hu ⟨H2,hR,S',t,hlen,cc,x,hx1,hx2,hx3⟩
  obtain ⟨_,ms,m1,m2,m3⟩:=r3.marks
  rw [m1]
  refine DY hu ms w3 m2 (fun r hr => (m3 r hr).2.1) (fun w4 ht => ?_)
  have hr4:=Jn r3.rel ht (fun r hr => (m3 r hr).2)
  obtain ⟨hcal,p,qv,rfl,hpq⟩:=hdv.mono k3.gle
  obtain ⟨gfn,g1,g2,g3⟩:=hcal
  have hbn : gfn.body.isNone = false:=by cases hx : gfn.body <;> simp_all
  refine ⟨hu,.inr ⟨fun h => by simp [Fence.wide] at h,.func g,qv.toArray,g,p.toArray ++ qv.toArray,rfl,?_,fun _ _ => trivial,?_⟩⟩
  ·simp only [invoke,callFunc,Sem.run_bind,run_program,Result.andThen_ok,g1,g2,hbn,Bool.false_eq_true,if_false,Sem.run_ite,Sem.run_pure]
  ·refine (hR G3 w4 (p.toArray ++ qv.toArray) r3.heap hr4 (by simpa using hpq)).mono ?_
   rintro e u' w5 ⟨v,G5,rfl,hs,hH5,hr5,hf5⟩
   simp only [hs]
   have r5 : Rel none ⟨w5.heap.size,[]⟩ ⟨S3.env,H2,S3.n⟩ G5 { a3 with defers:=[] } w5:=⟨hH5,hr5,r3.size,r3.env.mono hf5.gle,⟨Nat.le_refl _,[],rfl,List.nodup_nil,fun _ h => by cases h⟩,fun _ h => by cases h⟩
   obtain ⟨G6,r6,t6⟩:=t none _ G5 _ w5 r5 (fun id h => by cases h)
   obtain ⟨rv,hrv,hrr⟩:=NX hE r6.rel r6.env (fn:=fn) (by rw [r6.heap];exact hx1) hx2
   simp only [LeavesInM,LeavesIn]
   refine ⟨rv,hrv,rv,x,G6,rfl,by rw [r6.heap];exact hx3,hrr,r6.rel,?_⟩
   have kk:=(k1.trans k2).trans k3
   have k4 : BZ G w G3 w4:=⟨ht.os.trans kk.os,ht.tape.trans kk.tape,ht.output.trans kk.output,by rw [ht.size];exact kk.size,fun b hb ho => by
    obtain ⟨c1,c2⟩:=kk.keep b hb ho
    exact ⟨(ht.other b fun hm => by have : w.heap.size ≤ b:=(m3 b hm).1;omega).trans c1,c2⟩,kk.memNew,kk.gle⟩
   exact (k4.trans hf5).ghost t6 (by rw [hG,r6.heap];exact hlen)
 cases e with
 | normal => exact fin _ (by simp) q
 | ret => exact fin _ (by simp) q
 | panic ch => exact fin _ (by simp) q
 | _ => exact q.elim
end
end Go.Gar
namespace Go.Gar
def flat : D → Bool
 | .b _ | .i _ _ | .s _ => true
 | _ => false
theorem VL {m m' : Mem} {d : D} {v : Value} (h : flat d = true) (r : RD m d v) : RD m' d v:=by
 cases d <;> simp only [flat,reduceCtorEq] at h <;> simpa only [RD] using r
open Classical in
theorem Fn.read {P : Program} {f : FuncId} {ds : List D} {r : D} (h : Fn P f ds r) (hr : flat r = true) {xs : List AV} {H : List A7} (hx : Bt H xs ds) : J9 P f xs H fun x H' => x = .d r ∧ H' = H:=by
 refine ⟨h.1,fun G w vs hG hrel hargs => ?_⟩
 let m : Mem:=fun b k => if Own G b then w.cell? ⟨b,k,none⟩ else G.m b k
 have hle : G.m.le m:=fun b k v hv => by
  by_cases ho : Own G b
  ·rw [hrel.sep b ho k] at hv;cases hv
  ·simp only [m,if_neg ho,hv]
 have hmem : OF m w:=fun b k v hv => by
  simp only [m] at hv
  split at hv
  ·exact hv
  ·exact hrel.mem b k v hv
 have hds : CF m ds vs.toList:=JS hrel hle (fun b k v ho hc => by simp only [m,if_pos ho,hc]) (by rw [hG];exact hx) hargs
 refine (h.2 m w vs hmem (Mem.le_trans hrel.st hle) hds).mono ?_
 rintro e w' ⟨v,m',rfl,h1,h2,h3,h4,h5,h6,h7,h8,h9⟩
 obtain ⟨k1,k2⟩:=Hn hrel h5 h6 h7 h8 h9 G.m (Mem.le_refl _) (fun _ _ _ h => .inl h) (fun b k u hu => by
  rw [World.cell?_of_block (w:=w) (h9 b (Em hrel hu))]
  exact hrel.mem b k u hu)
 exact ⟨v,.d r,G,rfl,⟨rfl,hG⟩,by simpa only [RV] using VL hr h1,k1,k2⟩
end Go.Gar
namespace Go.Gar
section
variable {P : Program} {ro : Option Nat} {ops : Array Oper} {i : Nat} {rest : List Oper} {S0 : St} {en : List (Nat × AV)} {hp : List A7} {nt : Nat} {Q : Exit → St → Prop} {o : Oper} {E : Nat → Option Ap} {A : Prop} {acc : List Rc}
def WY : Op → Option Operand
 | .panic x => some x
 | _ => none
theorem Xpan {x : Operand} {t : TypeId} {v : Value} (h : WY o.op = some x) (hg : A9 ops en o = some true) (hx : Cc en x = some (.d (.ifc t v))) (k : Q (.panic [{ v:=.iface t v,recovered:=false }]) ⟨en,hp,nt⟩) : Wl P ro ops i (o :: rest) ⟨en,hp,nt⟩ Q:=by
 have ho : o.op = .panic x:=by
  unfold WY at h
  split at h
  ·rename_i y hy;cases h;exact hy
  ·cases h
 exact Tn ho hg hx k
theorem Wl_X {S : St} {g : Nat} {xs : List AV} {ch : List PanicEntry} {H' : List A7} (hg : A9 ops S.env o = some true) (h : BA S.env o.op = some (g,xs)) (hT : HI P g xs S.H ch H') (k : Q (.panic ch) ⟨S.env,H',S.n⟩) : Wl P ro ops i (o :: rest) S Q:=by
 unfold BA at h
 split at h
 ·rename_i f l hcl
  obtain ⟨c,ho,hc,hl⟩:=EB hcl
  subst hl
  split at h
  ·rename_i g' first cap ys hf hxs
   have : g' = g ∧ first ++ ys ++ cap = xs:=by
    split at h
    ·cases h;simp
    ·cases h;exact ⟨rfl,rfl⟩
   obtain ⟨rfl,rfl⟩:=this
   exact UZ ho hc hg hf hxs hT k
  ·cases h
 ·cases h
theorem XX {g : Nat} {args : List AV} {H : List A7} {ch : List PanicEntry} {H' H'' : List A7} (ids : List Nat) (hF : HI P g args H ch H') (hg : A9 ops en o = some true) (h : BA en o.op = some (g,AV.C7 (rn ids hp.length) args))
  (hm : Bw (rn ids hp.length) hp ids H) (hn : nodupB ids = true) (ho : AT H.length H = true) (ha : AV.oks H.length args = true)
  (k : Q (.panic ch) ⟨en,H'',nt⟩) (hH : J5 ids hp (E4 (rn ids hp.length) H') = H'':=by first | (simp only [Ae,Nat.reduceAdd];rfl) | rfl) : Wl P ro ops i (o :: rest) ⟨en,hp,nt⟩ Q:=by
 subst hH
 exact Wl_X (S:=⟨en,hp,nt⟩) hg h (hF.ren ids hn hm ho ha) k
theorem XR {S : St} {g : Nat} {xs : List AV} {ch : List PanicEntry} {H' : List A7} (h : BA S.env o.op = some (g,xs)) (hT : HI P g xs S.H ch H') : U3 P ro o S ch H':=by
 unfold BA at h
 split at h
 ·rename_i f l hcl
  obtain ⟨c,ho,hc,hl⟩:=EB hcl
  subst hl
  split at h
  ·rename_i g' first cap ys hf hxs
   have : g' = g ∧ first ++ ys ++ cap = xs:=by
    split at h
    ·cases h;simp
    ·cases h;exact ⟨rfl,rfl⟩
   obtain ⟨rfl,rfl⟩:=this
   intro N G a w K R r hR
   refine ⟨fun _ _ => trivial,?_⟩
   have hfv:=AM r.env hf
   simp only [RV] at hfv
   obtain ⟨p,q,hfv,hp,hq⟩:=hfv
   have hrun:=Fl (P:=P) (f:=g') hc hfv hT.1 ho w
   rw [Oper.semAt_eq _ _ _ (fun c e => by rw [ho] at e;cases e),hrun]
   simp only [Oper.uponIn]
   refine ⟨DT _,?_⟩
   have hargs : Aj G (first ++ ys ++ cap) (p.toArray ++ c.args.map a.eval ++ q.toArray).toList:=by
    have h1:=Bv r.env hxs
    have e : (p.toArray ++ c.args.map a.eval ++ q.toArray).toList = p ++ c.args.toList.map a.eval ++ q:=by simp
    rw [e]
    exact (hp.app h1).app hq
   have hcall:=hT.2 G w _ r.heap r.rel hargs
   have hcall' : CallsIn (GE (rl G ro)) 0 P g' (p.toArray ++ c.args.map a.eval ++ q.toArray) w _:=hcall
   refine hcall'.mono ?_
   rintro e w' ⟨G',rfl,hH,hr',hfr⟩
   exact hR w' G' hH hr' hfr
  ·cases h
 ·cases h
theorem YX {g : Nat} {args : List AV} {H : List A7} {ch : List PanicEntry} {H' H'' : List A7} {e0 e : List (Nat × AV)} (ids : List Nat) (hF : HI P g args H ch H') (hl : Cx (looks ops o) en = some e0) (hg : A9 ops e0 o = some true) (h : BA e0 o.op = some (g,AV.C7 (rn ids hp.length) args)) (hd : AJ o.dst nt = true)
  (hm : Bw (rn ids hp.length) hp ids H) (hn : nodupB ids = true) (ho : AT H.length H = true) (ha : AV.oks H.length args = true) (he : Af o.dst .u en = some e)
  (hk : Wd P ro E ops S0 A (⟨e0,hp,.u,.pan ch⟩ :: acc) rest ⟨e,H'',nt⟩) (hH : J5 ids hp (E4 (rn ids hp.length) H') = H'':=by first | (simp only [Ae,Nat.reduceAdd];rfl) | rfl) : Wd P ro E ops S0 A acc (o :: rest) ⟨en,hp,nt⟩:=by
 subst hH
 rw [AO he] at hk
 have:=BU hl
 subst this
 exact X2 (S:=⟨en,hp,nt⟩) hg (XR (S:=⟨Cu (looks ops o) en,hp,nt⟩) h (hF.ren ids hn hm ho ha)) hd hk
def Sm (ops : Array Oper) (acc : List Rc) : Bool :=
 match Fp (acc.reverse.map Rc.k) with
 | some (i,_) => (N5 ops acc.length).testBit i
 | none => false
theorem Yd {e0 e : List (Nat × AV)} (_ : Sm ops acc = true) (hl : Cx (looks ops o) en = some e0) (hd : AJ o.dst nt = true) (he : Af o.dst .u en = some e) (hk : Wd P ro E ops S0 A (⟨e0,hp,.u,.dead⟩ :: acc) rest ⟨e,hp,nt⟩) : Wd P ro E ops S0 A acc (o :: rest) ⟨en,hp,nt⟩:=by
 rw [AO he] at hk
 have:=BU hl
 subst this
 exact WB (S:=⟨en,hp,nt⟩) hd hk
theorem YnX {id : Nat} (l : List (Nat × Nat)) {i0 : Nat} {ch : List PanicEntry} (hm : P.follows .mixedOrders = true) (hE : B8 P E) (hp' : Fp (acc.reverse.map Rc.k) = some (i0,ch)) (hd : Eb ops (acc.reverse.map Rc.k) l = true) (hx : C0 E ops acc.reverse hp l) (hQ : Q (.panic ch) ⟨[],hp,nt⟩) : Wd P ro E ops S0 (W P ro (.region id ops true) S0 Q) acc [] ⟨en,hp,nt⟩ :=
 VY (S:=⟨en,hp,nt⟩) l hm hE hp' hd hx hQ
theorem XaB (t : Nat) (q : D) (hE : B8 P E) {f : Nat → AV} {b : A7} {c : Bool} {x' : AV} {e : List (Nat × AV)} {H' : List A7} (_ : Iy o.dst [t] = true) (hg : A9 ops en o = some true) (h : Uw E en hp o.op = some (c,f,b)) (hb : b = .a q) (hd : AJ o.dst nt = true) (he : Af o.dst x' en = some e) (hH : Dv hp (.a q) = some H') (hx : f hp.length = x')
  (k : Wl P ro ops (i + 1) rest ⟨e,H',nt⟩ Q) (hc : c = true) : Wl P ro ops i (o :: rest) ⟨en,hp,nt⟩ Q:=by
 subst hb
 exact Xa hE hg h hd he hH k hc hx
end
theorem A0.cells {S : St} (id : Nat) {cs : List AV} (cs' : List AV) (hid : S.H[id]? = some (.c cs)) (hcl : cs'.length = cs.length) (hw : ∀ (k : Nat) (x : AV),cs'[k]? = some x → ∃ y,cs[k]? = some y ∧ ∀ G v,RV G y v → RV G x v) :
  A0 S ⟨S.env,S.H.set id (.c cs'),S.n⟩:=by
 intro ro N G a w r _
 have hidG : G.H[id]? = some (.c cs):=by rw [r.heap];exact hid
 have hlt : id < G.H.length:=(List.getElem?_eq_some_iff.1 hidG).1
 let c' : A7:=.c cs'
 let G' : Gh:={ ρ:=G.ρ,H:=G.H.set id c',m:=G.m }
 have hst : AF G G' id (.c cs) c':=by simp [c',AF,G',hcl]
 have hget : ∀ j b,G'.H[j]? = some b → (j = id ∧ b = c') ∨ (j ≠ id ∧ G.H[j]? = some b):=by
  intro j b hb
  by_cases hj : j = id
  ·subst hj
   left
   have hb' : (G.H.set j c')[j]? = some b:=hb
   rw [List.getElem?_set_self hlt] at hb'
   exact ⟨rfl,(Option.some.inj hb').symm⟩
  ·right
   have hb' : (G.H.set id c')[j]? = some b:=hb
   rw [List.getElem?_set_ne (Ne.symm hj)] at hb'
   exact ⟨hj,hb'⟩
 have gle : GA G G':=by
  refine ⟨fun j b hb => ?_,Mem.le_refl _⟩
  by_cases hj : j = id
  ·subst hj
   rw [hidG] at hb;cases hb
   exact ⟨c',List.getElem?_set_self hlt,hst⟩
  ·exact ⟨b,by show (G.H.set id c')[j]? = _;rw [List.getElem?_set_ne (Ne.symm hj)];exact hb,AF.refl _ _ _⟩
 have own : ∀ b,Own G' b → Own G b:=by
  rintro b ⟨j,N,blk,hb,hlv,hρ⟩
  rcases hget j blk hb with ⟨rfl,rfl⟩ | ⟨_,h4⟩
  ·exact ⟨j,N,_,hidG,rfl,hρ⟩
  ·exact ⟨j,N,blk,h4,hlv,hρ⟩
 have rel : AU G' w:=by
  refine ⟨fun j b hb => ?_,fun i' j p q' b N N' hp hq lp lq r1 r2 => ?_,r.rel.mem,fun b hb k => r.rel.sep b (own b hb) k,r.rel.st⟩
  ·rcases hget j b hb with ⟨rfl,rfl⟩ | ⟨h3,h4⟩
   ·obtain ⟨b,N,vs,T,g1,g2,g3,g4,g6⟩:=r.rel.blk j _ hidG
    refine ⟨b,N,vs,T,g1,g2,g3,by rw [hcl];exact g4,fun k z hz => ?_⟩
    obtain ⟨y,hy,hyz⟩:=hw k z hz
    obtain ⟨v,hv,hrv⟩:=g6 k _ hy
    exact ⟨v,hv,hyz _ _ (hrv.mono gle)⟩
   ·exact (r.rel.blk j b h4).LO gle (fun _ _ _ _ => rfl) rfl
  ·have back : ∀ (j : Nat) (b : A7),G'.H[j]? = some b → b.live = true → ∃ b0 : A7,G.H[j]? = some b0 ∧ b0.live = true:=by
    intro j b hb hlv
    rcases hget j b hb with ⟨rfl,rfl⟩ | ⟨_,h4⟩
    ·exact ⟨_,hidG,rfl⟩
    ·exact ⟨b,h4,hlv⟩
   obtain ⟨p0,e1,e2⟩:=back i' p hp lp
   obtain ⟨q0,e3,e4⟩:=back j q' hq lq
   exact r.rel.inj i' j p0 q0 b N N' e1 e3 e2 e4 r1 r2
 have PZ : Sf G G':=by
  refine ⟨fun j b b' hb hb' => ?_,Mem.le_refl _,fun b hb => own b hb,fun _ _ _ h => .inl h⟩
  obtain ⟨b'',hb'',hs''⟩:=gle.blk j b hb
  rw [hb'] at hb'';cases hb''
  exact hs''
 refine ⟨G',⟨?_,rel,r.size,fun u z hz => ?_,r.marks.PZ PZ,fun k hk => ?_⟩,PZ⟩
 ·show G.H.set id c' = _
  rw [r.heap]
 ·obtain ⟨v,hv,hrv⟩:=r.env u z hz
  exact ⟨v,hv,hrv.mono gle⟩
 ·obtain ⟨q',l,M,q1,q2⟩:=r.round k hk
  rw [← r.heap] at q1
  have hne : k ≠ id:=fun e => by subst e;rw [hidG] at q1;cases q1
  refine ⟨q',l,M,?_,q2⟩
  show (S.H.set id c')[k]? = _
  rw [List.getElem?_set_ne (Ne.symm hne),← r.heap]
  exact q1
theorem A0.us {S : St} (id : Nat) {cs : List AV} (n : Nat) (hid : S.H[id]? = some (.c cs)) (hn : n = cs.length) : A0 S ⟨S.env,S.H.set id (.c (List.replicate n .u)),S.n⟩:=by
 subst hn
 refine A0.cells id _ hid (by simp) fun k x hx => ?_
 obtain ⟨h1,h2⟩:=List.getElem?_eq_some_iff.1 hx
 rw [List.getElem_replicate] at h2
 subst h2
 rw [List.length_replicate] at h1
 exact ⟨_,List.getElem?_eq_getElem h1,fun _ _ _ => by simp [RV]⟩
theorem BK.drop {P : Program} {f : FuncId} {args : List AV} {H K : List A7} {r : AV} (H' : List A7) (h : BK P f args H r K) (hs : C6 H' K) (ho : AT H'.length H' = true) (hr : r.ok H'.length = true) (hl : Nat.ble H.length H'.length = true) : BK P f args H r H':=by
 refine ⟨h.1,fun G w vs h1 h2 h3 => (h.2 G w vs h1 h2 h3).mono ?_⟩
 rintro e w' ⟨v,x,G',rfl,⟨rfl,hK⟩,hv,hr',hfr⟩
 have hs' : C6 H' G'.H:=by rw [hK];exact hs
 exact ⟨v,x,G'.cut H',rfl,⟨rfl,rfl⟩,hv.cut hs' hr,hr'.cut hs' ho,hfr.ghost (Sf.cut hs') (by rw [h1];exact Nat.le_of_ble_eq_true hl)⟩
def Mf : K → Bool
 | .ifc => true
 | _ => false
theorem LY {d : TypeDesc} (h : Mf (I9 d) = true) : ∃ ms,d = .interface ms:=by
 unfold I9 at h
 split at h <;> first | exact ⟨_,rfl⟩ | (simp [Mf] at h;done)
theorem Yz {P : Program} {w : World} {t : TypeId} {ms : Array (String × TypeId)} (hu : P.underlying t = some (.interface ms)) : (Op.equal t .nilIface .nilIface).run P w = .ok true w:=by
 have h : ∀ d : Nat,(Op.equalIn (d + 1) t .nilIface .nilIface).run P w = .ok true w:=fun d => by simp [Op.equalIn,run_underlying hu]
 exact h 9999
theorem YG {P : Program} {w : World} {t ti : TypeId} {v : Value} {ms : Array (String × TypeId)} (hu : P.underlying t = some (.interface ms)) : (Op.equal t (.iface ti v) .nilIface).run P w = .ok false w:=by
 have h : ∀ d : Nat,(Op.equalIn (d + 1) t (.iface ti v) .nilIface).run P w = .ok false w:=fun d => by simp [Op.equalIn,run_underlying hu]
 exact h 9999
def Qd (E : Nat → Option Ap) (env : List (Nat × AV)) : Op → Option Bool
 | .binOp .neq t x (.const .nilIface) _ => match Cc env x,E t with
  | some (.d .ni),some y => if Mf y.k then some false else none
  | some (.d (.ifc _ _)),some y => if Mf y.k then some true else none
  | _,_ => none
 | _ => none
theorem UO {P : Program} {E : Nat → Option Ap} (hE : B8 P E) {S : St} {o : Oper} {b : Bool} (h : Qd E S.env o.op = some b) : Cn P o S (.d (.b b)) S.H:=by
 unfold Qd at h
 split at h
 ·rename_i t x yt ho
  refine .of_run (f:=fun a => do eqGuard .neq t x (.const .nilIface) (a.eval x) (a.eval (.const .nilIface));binOp .neq t (a.eval x) (a.eval (.const .nilIface))) (fun a => by unfold execOp;simp only [ho]) fun ro N G a w r => ?_
  have hev : a.eval (.const .nilIface) = .nilIface:=rfl
  split at h
  ·rename_i y hx hy
   split at h
   ·rename_i hi
    cases h
    have hv:=AM r.env hx
    simp only [RV,RD] at hv
    obtain ⟨d,hu,hd⟩:=Bp (hE t y hy)
    rw [← hd] at hi
    obtain ⟨ms,rfl⟩:=LY hi
    refine ⟨.bool false,?_,by simp [RV,RD]⟩
    rw [hev,hv]
    have he:=Yz (P:=P) (w:=w) hu
    simp only [Sem.run_bind]
    simp [eqGuard,binOp,he]
   ·cases h
  ·rename_i ti vi y hx hy
   split at h
   ·rename_i hi
    cases h
    have hv:=AM r.env hx
    simp only [RV,RD] at hv
    obtain ⟨d,hu,hd⟩:=Bp (hE t y hy)
    rw [← hd] at hi
    obtain ⟨ms,rfl⟩:=LY hi
    refine ⟨.bool true,?_,by simp [RV,RD]⟩
    rw [hev,hv]
    have he:=YG (P:=P) (w:=w) (ti:=ti) (v:=vi) hu
    simp only [Sem.run_bind]
    simp [eqGuard,binOp,he]
   ·cases h
  ·cases h
 ·cases h
theorem LB {E : Nat → Option Ap} {env : List (Nat × AV)} {op : Op} {b : Bool} (h : Qd E env op = some b) : JH op = false:=by
 cases op <;> first | rfl | cases h
section
variable {P : Program} {ops : Array Oper} {i : Nat} {rest : List Oper} {en : List (Nat × AV)} {hp : List A7} {nt : Nat} {K : St → Prop} {o : Oper} {E : Nat → Option Ap} {cs : List Frame} {Q : Exit → St → List Frame → Prop} {f : FuncId} {xs : List AV}
theorem Kq (hE : B8 P E) {x x' : AV} {c : Bool} {e : List (Nat × AV)} (hg : A9 ops en o = some true) (h : JA E en hp o.op = some (c,x)) (hd : AJ o.dst nt = true) (he : Af o.dst x' en = some e) (k : Nc P ops (i + 1) rest ⟨e,hp,nt⟩ K) (hc : c = true) (hx : x = x':=by rfl) : Nc P ops i (o :: rest) ⟨en,hp,nt⟩ K:=by
 subst hx
 rw [AO he] at k
 exact N8 (S:=⟨en,hp,nt⟩) hg (IG (S:=⟨en,hp,nt⟩) hE h hc) (by cases ho : o.op <;> first | rfl | (rw [ho] at h;cases h)) hd k
theorem Ka (hE : B8 P E) {f : Nat → AV} {b : A7} {c : Bool} {x' : AV} {e : List (Nat × AV)} {H' : List A7} (hg : A9 ops en o = some true) (h : Uw E en hp o.op = some (c,f,b)) (hd : AJ o.dst nt = true) (he : Af o.dst x' en = some e) (hH : Dv hp b = some H') (k : Nc P ops (i + 1) rest ⟨e,H',nt⟩ K) (hc : c = true) (hx : f hp.length = x':=by rfl) : Nc P ops i (o :: rest) ⟨en,hp,nt⟩ K:=by
 subst hx
 rw [AO he,ER hH] at k
 exact N8 (S:=⟨en,hp,nt⟩) hg (Pv (S:=⟨en,hp,nt⟩) hE h hc) (by cases ho : o.op <;> first | rfl | (rw [ho] at h;cases h)) hd k
theorem Kw (hE : B8 P E) {x x' : AV} {H' : List A7} {c : Bool} {e : List (Nat × AV)} (hg : A9 ops en o = some true) (h : WQ E en hp o.op = some (c,x,H')) (hd : AJ o.dst nt = true) (he : Af o.dst x' en = some e) (k : Nc P ops (i + 1) rest ⟨e,H',nt⟩ K) (hc : c = true) (hx : x = x':=by rfl) : Nc P ops i (o :: rest) ⟨en,hp,nt⟩ K:=by
 subst hx
 rw [AO he] at k
 exact N8 (S:=⟨en,hp,nt⟩) hg (PV (S:=⟨en,hp,nt⟩) hE h hc) (by cases ho : o.op <;> first | rfl | (rw [ho] at h;cases h)) hd k
theorem Kn (hE : B8 P E) {b : Bool} {e : List (Nat × AV)} (hg : A9 ops en o = some true) (h : Qd E en o.op = some b) (hd : AJ o.dst nt = true) (he : Af o.dst (.d (.b b)) en = some e) (k : Nc P ops (i + 1) rest ⟨e,hp,nt⟩ K) : Nc P ops i (o :: rest) ⟨en,hp,nt⟩ K:=by
 rw [AO he] at k
 exact N8 (S:=⟨en,hp,nt⟩) hg (UO (S:=⟨en,hp,nt⟩) hE h) (LB h) hd k
theorem KF {g : Nat} {ds : List D} {d : D} {e : List (Nat × AV)} (hT : Go.Gar.Fn P g ds d) (hg : A9 ops en o = some true) {fo : Operand} {l : List Operand} {ys : List AV} (h : callOf o.op = some (fo,l)) (hf : Cc en fo = some (.fn (.func g) [] [])) (hxs : Fe en l = some ys) (hx : IQ ys ds) (hd : AJ o.dst nt = true) (he : Af o.dst (.d d) en = some e)
  (k : Nc P ops (i + 1) rest ⟨e,hp,nt⟩ K) : Nc P ops i (o :: rest) ⟨en,hp,nt⟩ K:=by
 obtain ⟨c,ho,hc,hl⟩:=EB h
 subst hl
 rw [AO he] at k
 exact YI (S:=⟨en,hp,nt⟩) ho hc hg hf hxs hx hd hT k
theorem Fq (hE : B8 P E) {x x' : AV} {c : Bool} {e : List (Nat × AV)} (hg : A9 ops en o = some true) (h : JA E en hp o.op = some (c,x)) (hd : AJ o.dst nt = true) (he : Af o.dst x' en = some e) (k : Xx P ops (i + 1) rest ⟨e,hp,nt⟩ f xs K) (hc : c = true) (hx : x = x':=by rfl) : Xx P ops i (o :: rest) ⟨en,hp,nt⟩ f xs K:=by
 subst hx
 rw [AO he] at k
 exact XC (S:=⟨en,hp,nt⟩) hg (IG (S:=⟨en,hp,nt⟩) hE h hc) (by cases ho : o.op <;> first | rfl | (rw [ho] at h;cases h)) hd k
theorem Sq (hE : B8 P E) {x x' : AV} {c : Bool} {e : List (Nat × AV)} (hg : A9 ops en o = some true) (h : JA E en hp o.op = some (c,x)) (hd : AJ o.dst nt = true) (he : Af o.dst x' en = some e) (k : Ux P ops (i + 1) rest ⟨e,hp,nt⟩ cs Q) (hc : c = true) (hx : x = x':=by rfl) : Ux P ops i (o :: rest) ⟨en,hp,nt⟩ cs Q:=by
 subst hx
 rw [AO he] at k
 exact Xj (S:=⟨en,hp,nt⟩) hg (IG (S:=⟨en,hp,nt⟩) hE h hc) hd k
theorem Yg {x : D} {cs' : List Frame} {e : List (Nat × AV)} (hr : isRecover o.op = true) (hg : A9 ops en o = some true) (hd : AJ o.dst nt = true) (he : Af o.dst (.d x) en = some e)
  (hx : (recoverD cs = none ∧ x = .ni ∧ cs' = cs) ∨ ∃ t v,recoverD cs = some (.iface t v,cs') ∧ x = .ifc t v)
  (k : Ux P ops (i + 1) rest ⟨e,hp,nt⟩ cs' Q) : Ux P ops i (o :: rest) ⟨en,hp,nt⟩ cs Q:=by
 rw [AO he] at k
 exact Vy (S:=⟨en,hp,nt⟩) hr hg hd hx k
end
end Go.Gar
