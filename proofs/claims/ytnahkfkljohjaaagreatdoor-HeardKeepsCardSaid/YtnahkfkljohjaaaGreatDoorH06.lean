/- Part 6 of the texts of this proof, put together by a program and made short.
Conditions: none; what each theorem asks stands in its own hypotheses. -/
import Derived.Test.YtnahkfkljohjaaaGreatDoorH05
set_option linter.unusedSimpArgs false
set_option linter.unusedVariables false
set_option linter.unnecessarySimpa false
set_option maxHeartbeats 40000000
namespace Go.Gar
def Lv (_ : List Nat) : Prop:=True
def Lp2 (_ : List (Nat × Nat)) : Prop:=True
def Ds (_ : List Nat) (p : Prop) : Prop:=p
def No (_ : Nat) : Prop:=True
def Dd (_ : D) : Prop:=True
structure Br (c : Bool) (A B : Prop) : Prop where
 t : c = true → A
 f : c = false → B
structure Sd (c : Bool) (A : Prop) : Prop where
 a : A
 c : c = true
structure Rs (R : Prop) : Prop where
 x : R
theorem sdR {c : Bool} {R G : Prop} (r : Rs (Sd c R)) (k : c = true → Rs R → G) : G:=k r.x.2 ⟨r.x.1⟩
theorem Ds.mk (ids : List Nat) {p : Prop} (h : p) : Ds ids p:=h
section
variable {P : Program} {ro : Option Nat} {ops : Array Oper} {i : Nat} {rest : List Oper} {S0 : St} {en : List (Nat × AV)} {hp : List AC} {nt : Nat} {Q : Exit → St → Prop} {o : Oper} {E : Nat → Option Ax} {A : Prop} {acc : List Rc}
theorem gNil {S : St} (k : Wl P ro ops i [] S Q) : Wl P ro ops i [] S Q:=k
theorem ai {S : St} (k : Wd P ro E ops S0 A acc [] S) : Wd P ro E ops S0 A acc [] S:=k
def opk : Op → Nat
 | .indexAddr _ _ _ => 1
 | .load _ _ | .nilCheck _ | .binOp _ _ _ _ _ | .unOp _ _ _ | .convert _ _ _ | .slice _ _ _ _ _ | .fieldAddr _ _ _ | .field _ _ _ | .index _ _ _ | .build _ _ | .makeFunc _ _ _ | .extract _ _ | .sliceToArrayPointer _ _ | .makeInterface _ _ | .lookup _ _ _ _ | .typeAssert _ _ _ _ => 2
 | .call c => match c.callee with
  | .builtin _ => 6
  | _ => 3
 | .alloc _ | .box _ _ | .makeSlice _ _ _ | .buildSlice _ _ _ | .makeMap _ _ => 4
 | .store _ _ _ | .insert _ _ _ _ | .mapUpdate _ _ _ _ => 5
 | _ => 6
theorem Ji (k : Nat) {S : St} (_ : opk o.op = k) (h : Wl P ro ops i (o :: rest) S Q) : Wl P ro ops i (o :: rest) S Q:=h
theorem Sv (k : Nat) {S : St} (_ : opk o.op = k) (h : Wd P ro E ops S0 A acc (o :: rest) S) : Wd P ro E ops S0 A acc (o :: rest) S:=h
theorem YS {S : St} (_ : o.guard.isSome = true) (h : Wl P ro ops i (o :: rest) S Q) : Wl P ro ops i (o :: rest) S Q:=h
theorem ab {S : St} (_ : o.guard.isSome = true) (h : Wd P ro E ops S0 A acc (o :: rest) S) : Wd P ro E ops S0 A acc (o :: rest) S:=h
def aL (ops : Array Oper) (nt : Nat) : List Oper → List (Nat × AV) → Nat → List Oper × List (Nat × AV) × Nat
 | [],e,i => ([],e,i)
 | o :: r,e,i => match o.guard with
  | none => (o :: r,e,i)
  | some _ => match AH ops e o with
   | some false => match Ac o.dst nt with
    | true => match o.dst with
     | some d => aL ops nt r ((d,.d (.tup [])) :: e) (i + 1)
     | none => aL ops nt r e (i + 1)
    | false => (o :: r,e,i)
   | _ => (o :: r,e,i)
theorem Q3 : ∀ (l : List Oper) (e : List (Nat × AV)) (i : Nat) {l' : List Oper} {e' : List (Nat × AV)} {i' : Nat},aL ops nt l e i = (l',e',i') → Wl P ro ops i' l' ⟨e',hp,nt⟩ Q → Wl P ro ops i l ⟨e,hp,nt⟩ Q
 | [],e,i,l',e',i',h,k => by simp only [aL,Prod.mk.injEq] at h;obtain ⟨rfl,rfl,rfl⟩:=h;exact k
 | o :: r,e,i,l',e',i',h,k => by
  simp only [aL] at h
  split at h
  ·simp only [Prod.mk.injEq] at h;obtain ⟨rfl,rfl,rfl⟩:=h;exact k
  ·split at h
   ·rename_i hg
    split at h
    ·rename_i hd
     split at h
     ·rename_i d ho;exact Xs hg hd (by rw [ho];rfl) (Q3 r _ _ h k)
     ·rename_i ho;exact Xs hg hd (by rw [ho];rfl) (Q3 r _ _ h k)
    ·simp only [Prod.mk.injEq] at h;obtain ⟨rfl,rfl,rfl⟩:=h;exact k
   ·simp only [Prod.mk.injEq] at h;obtain ⟨rfl,rfl,rfl⟩:=h;exact k
theorem XsN {l' : List Oper} {e' : List (Nat × AV)} {i' : Nat} (hg : AH ops en o = some false) (h : aL ops nt (o :: rest) en i = (l',e',i')) (k : Wl P ro ops i' l' ⟨e',hp,nt⟩ Q) : Wl P ro ops i (o :: rest) ⟨en,hp,nt⟩ Q:=Q3 _ _ _ h k
theorem gW {S : St} {c : Code} (k : W P ro c S Q) : W P ro c S Q:=k
theorem bI {S : St} {id : Nat} (k : W P ro (.region id ops false) S Q) : W P ro (.region id ops false) S Q:=k
theorem gAny {S : St} {id : Nat} (k : W P ro (.region id ops true) S Q) : W P ro (.region id ops true) S Q:=k
theorem YZ {S : St} {c : Operand} {x y : Code} (k : W P ro (.cond c x y) S Q) : W P ro (.cond c x y) S Q:=k
theorem qT {K : St → Prop} {S : St} (k : K S) : MM K Q .normal S:=k
theorem qTr {K : St → Prop} {S : St} (k : Q .ret S) : MM K Q .ret S:=k
theorem qTe {K : St → Prop} {S : St} {j : Nat} (k : Q (.exit j) S) : MM K Q (.exit j) S:=k
theorem qTg {K : St → Prop} {S : St} {j : Nat} (k : Q (.goto j) S) : MM K Q (.goto j) S:=k
theorem qTp {K : St → Prop} {S : St} {ch : List PanicEntry} (k : Q (.panic ch) S) : MM K Q (.panic ch) S:=k
theorem qBn {j : Nat} {S : St} (k : Q .normal S) : JO j Q .normal S:=k
theorem qBr {j : Nat} {S : St} (k : Q .ret S) : JO j Q .ret S:=k
theorem qBg {j l : Nat} {S : St} (k : Q (.goto l) S) : JO j Q (.goto l) S:=k
theorem qBp {j : Nat} {S : St} {ch : List PanicEntry} (k : Q (.panic ch) S) : JO j Q (.panic ch) S:=k
theorem qSn {c : Code} {j : Nat} {S : St} (k : Q .normal S) : EF P ro c Q j .normal S:=by rw [Ft (by intro l h;cases h)];exact k
theorem qSr {c : Code} {j : Nat} {S : St} (k : Q .ret S) : EF P ro c Q j .ret S:=by rw [Ft (by intro l h;cases h)];exact k
theorem qSe {c : Code} {j i : Nat} {S : St} (k : Q (.exit i) S) : EF P ro c Q j (.exit i) S:=by rw [Ft (by intro l h;cases h)];exact k
theorem qSg {c rest : Code} {j l : Nat} {S : St} (h : findLabel c l = some rest) (k : W P ro rest S (EF P ro c Q j)) : EF P ro c Q (j + 1) (.goto l) S:=by
 simp only [EF,h];exact k
theorem lQ {K : St → Prop} {e : Exit} {S : St} (r : Rs (OZ K e S)) : OZ K e S:=r.x
theorem lI {α : Type} {I : α → Prop} {F : α → St} {lt : α → Prop} {k : Nat} {S : St} (r : Rs (bW I F lt k Q .normal S)) : bW I F lt k Q .normal S:=r.x
theorem lY {id n : Nat} {lp : Lp} {R : AV → List AC → Prop} {e : Exit} {S : St} (r : Rs (QYl id n lp R e S)) : QYl id n lp R e S:=r.x
theorem Jr {S : St} {c : Operand} {x y : Code} {t : Bool} {B C : Prop} (_ : No 1) (hc : D5 S.env c = some (.d (.b t))) (r : Rs (Br t B C)) (ht : t = true → Rs B → W P ro x S Q) (hf : t = false → Rs C → W P ro y S Q) : W P ro (.cond c x y) S Q :=
 Hm hc (fun h => ht h ⟨r.x.t h⟩) (fun h => hf h ⟨r.x.f h⟩)
theorem RG {d : Nat} {b : Bool} {B C : Prop} (_ : No 0) (hg : Sk ops o = some d) (hb : get en d = some (.d (.b b))) (r : Rs (Br b B C))
  (ht : b = true → Rs B → Wl P ro ops i (o :: rest) ⟨(d,.d (.b true)) :: en,hp,nt⟩ Q) (hf : b = false → Rs C → Wl P ro ops i (o :: rest) ⟨(d,.d (.b false)) :: en,hp,nt⟩ Q) : Wl P ro ops i (o :: rest) ⟨en,hp,nt⟩ Q :=
 U0 hg hb (fun h => ht h ⟨r.x.t h⟩) (fun h => hf h ⟨r.x.f h⟩)
theorem YO {d : Nat} {b : Bool} {B C : Prop} (_ : No 0) (hg : Sk ops o = some d) (hb : get en d = some (.d (.b b))) (r : Rs (Br b B C))
  (ht : b = true → Rs B → Wd P ro E ops S0 A acc (o :: rest) ⟨(d,.d (.b true)) :: en,hp,nt⟩) (hf : b = false → Rs C → Wd P ro E ops S0 A acc (o :: rest) ⟨(d,.d (.b false)) :: en,hp,nt⟩) : Wd P ro E ops S0 A acc (o :: rest) ⟨en,hp,nt⟩ :=
 W4 hg hb (fun h => ht h ⟨r.x.t h⟩) (fun h => hf h ⟨r.x.f h⟩)
theorem XnL {live : List Nat} (_ : Lv live) {e : List (Nat × AV)} (h : Dk live en = some e) (k : Q .normal ⟨e,hp,nt⟩) : Wl P ro ops i [] ⟨en,hp,nt⟩ Q:=Xn live h k
theorem MH {L : List Nat} (_ : Lv L) (hE : Bf P E) {q : D} {c : Bool} {x' : AV} {e : List (Nat × AV)} {H' : List AC} (u2 : Ja o.dst L = true) (hg : AH ops en o = some true) (h : LD E en hp o.op = some (c,q)) (hd : Ac o.dst nt = true) (he : Ay o.dst x' en = some e) (hH : Ef hp (.a q) = some H') (k : Wl P ro ops (i + 1) rest ⟨e,H',nt⟩ Q) (hc : c = true) (hx : .sl hp.length (A6 q) (B7 q) = x':=by first | (simp only [AL,AJ,Nat.reduceAdd,Int.reduceAdd,Int.reduceSub,Int.reduceMul,Int.reduceToNat,nS];rfl) | rfl) : Wl P ro ops i (o :: rest) ⟨en,hp,nt⟩ Q:=bR L hE u2 hg h hd he hH k hc hx
theorem Tp {L : List Nat} (_ : Lv L) {x x' : AV} {c : Bool} {e : List (Nat × AV)} (u1 : Ja o.dst L = true) (hg : AH ops en o = some true) (h : L9 en o.op = some (c,x)) (hd : Ac o.dst nt = true) (he : Ay o.dst x' en = some e) (k : Wl P ro ops (i + 1) rest ⟨e,hp,nt⟩ Q) (hc : c = true) (hx : x = x':=by rfl) : Wl P ro ops i (o :: rest) ⟨en,hp,nt⟩ Q:=XwL L u1 hg h hd he k hc hx
theorem Ve {L : List Nat} (_ : Lv L) (hE : Bf P E) {q : D} {c : Bool} {x' : AV} {e0 e : List (Nat × AV)} {H' : List AC} (u2 : Ja o.dst L = true) (hl : Dk (looks ops o) en = some e0) (hg : AH ops e0 o = some true) (h : LD E e0 hp o.op = some (c,q)) (hd : Ac o.dst nt = true) (he : Ay o.dst x' en = some e) (hH : Ef hp (.a q) = some H') (hk : Wd P ro E ops S0 A (⟨e0,hp,x',.eff⟩ :: acc) rest ⟨e,H',nt⟩) (hc : c = true) (hx : .sl hp.length (A6 q) (B7 q) = x':=by first | (simp only [AL,AJ,Nat.reduceAdd,Int.reduceAdd,Int.reduceSub,Int.reduceMul,Int.reduceToNat,nS];rfl) | rfl) : Wd P ro E ops S0 A acc (o :: rest) ⟨en,hp,nt⟩:=YaoL L hE u2 hl hg h hd he hH hk hc hx
theorem YnLv {id : Nat} {live : List Nat} (_ : Lv live) {e : List (Nat × AV)} {l : List (Nat × Nat)} (_ : Lp2 l) (hm : P.follows .mixedOrders = true) (hE : Bf P E) (hd : GU ops (acc.reverse.map Rc.k) l = true) (hx : Dy E ops acc.reverse hp l) (he : Dk live en = some e) (hQ : Q .normal ⟨e,hp,nt⟩) : Wd P ro E ops S0 (W P ro (.region id ops true) S0 Q) acc [] ⟨en,hp,nt⟩:=Yn live l hm hE hd hx he hQ
theorem Yn2L {live : List Nat} (_ : Lv live) {e : List (Nat × AV)} {l : List (Nat × Nat)} (_ : Lp2 l) (hE : Bf P E) (hd : GU ops (acc.reverse.map Rc.k) l = true) (hx : Dy E ops acc.reverse hp l) (he : Dk live en = some e) (hQ : Q .normal ⟨e,hp,nt⟩) : Wd P ro E ops S0 (OK P ro ops S0 (Qw Q)) acc [] ⟨en,hp,nt⟩:=Yn2 live l hE hd hx he hQ
theorem PK {t : Nat} (_ : No t) {id : Nat} {x : D} {n sz : Nat} (u1 : Ud t o.op = true) (ht : get en t = some (.sl id n sz)) (hid : hp[id]? = some (.a x)) (hn : n = A6 x) (k : Wl P ro ops i (o :: rest) ⟨(t,.d x) :: en,DN id x 0 hp,nt⟩ Q) : Wl P ro ops i (o :: rest) ⟨en,hp,nt⟩ Q:=Xfz t u1 ht hid hn k
theorem aw {t : Nat} (_ : No t) {id : Nat} {x : D} {n sz : Nat} (u1 : QG t (Zi o.op) = true) (ht : get en t = some (.sl id n sz)) (hid : hp[id]? = some (.a x)) (hn : n = A6 x) (k : Wl P ro ops i (o :: rest) ⟨(t,.d x) :: en,DN id x 0 hp,nt⟩ Q) : Wl P ro ops i (o :: rest) ⟨en,hp,nt⟩ Q:=Xfu t u1 ht hid hn k
theorem XZ {t : Nat} (_ : No t) {q : D} (_ : Dd q) (hE : Bf P E) {f : Nat → AV} {b : AC} {c : Bool} {x' : AV} {e : List (Nat × AV)} {H' : List AC} (u3 : Ja o.dst [t] = true) (hg : AH ops en o = some true) (h : Wm E en hp o.op = some (c,f,b)) (hb : b = .a q) (hd : Ac o.dst nt = true) (he : Ay o.dst x' en = some e) (hH : Ef hp (.a q) = some H') (hx : f hp.length = x') (k : Wl P ro ops (i + 1) rest ⟨e,H',nt⟩ Q) (hc : c = true) : Wl P ro ops i (o :: rest) ⟨en,hp,nt⟩ Q:=XaB t q hE u3 hg h hb hd he hH hx k hc
theorem Xf (_ : No 2) (hE : Bf P E) {c : Bool} {H' H'' : List AC} {e : List (Nat × AV)} (hg : AH ops en o = some true) (h : QP E en hp o.op = some (c,H')) (hd : Ac o.dst nt = true) (he : Ay o.dst .u en = some e) (k : Wl P ro ops (i + 1) rest ⟨e,H'',nt⟩ Q) (hc : c = true) (hH : H' = H'':=by first | (simp only [nS];rfl) | rfl) : Wl P ro ops i (o :: rest) ⟨en,hp,nt⟩ Q:=Xsb hE hg h hd he k hc hH
theorem ZF (_ : No 2) (hE : Bf P E) {c : Bool} {H' H'' : List AC} {e0 e : List (Nat × AV)} (hl : Dk (looks ops o) en = some e0) (hg : AH ops e0 o = some true) (h : QP E e0 hp o.op = some (c,H')) (hd : Ac o.dst nt = true) (he : Ay o.dst .u en = some e) (k : Wd P ro E ops S0 A (⟨e0,hp,.u,.eff⟩ :: acc) rest ⟨e,H'',nt⟩) (hc : c = true) (hH : H' = H'':=by first | (simp only [nS];rfl) | rfl) : Wd P ro E ops S0 A acc (o :: rest) ⟨en,hp,nt⟩:=Ysb hE hl hg h hd he k hc hH
theorem Gx {L : List Nat} (_ : Lv L) {id : Nat} {S : St} (u1 : QG id L = false) (h : Wl P ro ops 0 ops.toList S Q) : W P ro (.region id ops false) S Q:=TY L u1 h
theorem Vy {L : List Nat} (_ : Lv L) {id : Nat} {S : St} (E : Nat → Option Ax) (u2 : QG id L = false) (h : Wd P ro E ops S (W P ro (.region id ops true) S Q) [] ops.toList S) : W P ro (.region id ops true) S Q:=Z0 L E u2 h
theorem Ie {n : Nat} (_ : No n) {c : Code} {S : St} (h : W P ro c S (be P ro c Q n)) : W P ro (.loop c) S Q:=EO n h
theorem ID {c : Code} {S : St} {j : Nat} (_ : No j) (h : W P ro c S (EF P ro c Q j)) : W P ro (.scope c) S Q:=YI j h
theorem MP {g : Nat} {args : List AV} {H : List AC} {r r' : AV} {H' H'' : List AC} {e : List (Nat × AV)} {ids : List Nat} (hF : Ds ids (B4 P g args H r H')) (hg : AH ops en o = some true) (h : CG en o.op = some (g,AV.Ce (rn ids hp.length) args)) (hd : Ac o.dst nt = true) (hm : D9 (rn ids hp.length) hp ids H) (hn : nodupB ids = true) (ho : Ae H.length H = true) (ha : AV.oks H.length args = true) (he : Ay o.dst r' en = some e) (k : Wl P ro ops (i + 1) rest ⟨e,H'',nt⟩ Q) (hr : r.ren (rn ids hp.length) = r':=by first | (simp only [AL,AJ,Nat.reduceAdd,Int.reduceAdd,Int.reduceSub,Int.reduceMul,Int.reduceToNat,nS];rfl) | rfl) (hH : M1 ids hp (GB (rn ids hp.length) H') = H'':=by first | (simp only [AJ,Nat.reduceAdd];rfl) | rfl) : Wl P ro ops i (o :: rest) ⟨en,hp,nt⟩ Q:=XD ids hF hg h hd hm hn ho ha he k hr hH
theorem Wc {g : Nat} {args : List AV} {H : List AC} {r r' : AV} {H' H'' : List AC} {e0 e : List (Nat × AV)} {ids : List Nat} (hF : Ds ids (B4 P g args H r H')) (hl : Dk (looks ops o) en = some e0) (hg : AH ops e0 o = some true) (h : CG e0 o.op = some (g,AV.Ce (rn ids hp.length) args)) (hd : Ac o.dst nt = true) (hm : D9 (rn ids hp.length) hp ids H) (hn : nodupB ids = true) (ho : Ae H.length H = true) (ha : AV.oks H.length args = true) (he : Ay o.dst r' en = some e) (hk : Wd P ro E ops S0 A (⟨e0,hp,r',.eff⟩ :: acc) rest ⟨e,H'',nt⟩) (hr : r.ren (rn ids hp.length) = r':=by first | (simp only [AL,AJ,Nat.reduceAdd,Int.reduceAdd,Int.reduceSub,Int.reduceMul,Int.reduceToNat,nS];rfl) | rfl) (hH : M1 ids hp (GB (rn ids hp.length) H') = H'':=by first | (simp only [AJ,Nat.reduceAdd];rfl) | rfl) : Wd P ro E ops S0 A acc (o :: rest) ⟨en,hp,nt⟩:=YD ids hF hl hg h hd hm hn ho ha he hk hr hH
theorem am {id : Nat} {xs : List AV} {r0 : Lp} {H1 H2 : List AC} {e1 e2 : List (Nat × AV)} {b : Bool} {B C : Prop} (hT : b = true → YT P id xs hp fun r K => r = .d (.b true) ∧ K = H1) (hF : b = false → YT P id xs hp fun r K => r = .d (.b false) ∧ K = H2)
  (hg : AH ops en o = some true) (h : I1 en o.op = some (id,xs)) (hd : Ac o.dst nt = true) (hlp : hp[id]? = some (.lp r0)) (he1 : Ay o.dst (.d (.b true)) en = some e1) (he2 : Ay o.dst (.d (.b false)) en = some e2) (r : Rs (Br b B C))
  (k1 : b = true → Rs B → Wl P ro ops (i + 1) rest ⟨e1,H1,nt⟩ Q) (k2 : b = false → Rs C → Wl P ro ops (i + 1) rest ⟨e2,H2,nt⟩ Q) : Wl P ro ops i (o :: rest) ⟨en,hp,nt⟩ Q :=
 XyB b hT hF hg h hd hlp he1 he2 (fun h => k1 h ⟨r.x.t h⟩) (fun h => k2 h ⟨r.x.f h⟩)
def HP (n : Int) : List Int → Bool
 | [] => true
 | k :: r => !(n == k) && HP n r
def Ko (kd : IntKind) : List (D × AV) → Option (List Int)
 | [] => some []
 | (.i k a,_) :: r => match decide (kd = k),Ko kd r with
  | true,some l => some (a :: l)
  | _,_ => none
 | _ :: _ => none
theorem Lt {kd : IntKind} {n : Int} : ∀ {es : List (D × AV)} {ks : List Int},Ko kd es = some ks → HP n ks = true → Jb (.i kd n) es = some none
 | [],ks,h,hk => rfl
 | (.i k a,v) :: r,ks,h,hk => by
  simp only [Ko] at h
  split at h
  ·rename_i l h1 h2
   cases h
   simp only [HP,Bool.and_eq_true,Bool.not_eq_true'] at hk
   have e:=of_decide_eq_true h1
   simp only [Jb,sameD,if_pos e,hk.1]
   exact Lt h2 hk.2
  ·cases h
 | (.b _,_) :: _,_,h,_ | (.s _,_) :: _,_,h,_ | (.f _ _,_) :: _,_,h,_ | (.agg _,_) :: _,_,h,_ | (.tup _,_) :: _,_,h,_ | (.by _,_) :: _,_,h,_ | (.is _,_) :: _,_,h,_ | (.sl _ _,_) :: _,_,h,_ | (.np,_) :: _,_,h,_ | (.nf,_) :: _,_,h,_ | (.ni,_) :: _,_,h,_ | (.nm,_) :: _,_,h,_ | (.ifc _ _,_) :: _,_,h,_ => by simp [Ko] at h
def S8 (E : Nat → Option Ax) (env : List (Nat × AV)) (H : List AC) : Op → Option (Int × List Int × Bool × AV)
 | .lookup t m k ok => match D5 env m,D5 env k with
  | some (.mp id),some (.d (.i kd n)) => match H[id]?,E t with
   | some (.m es),some y => match y.k with
    | .mp kt et => match E kt,E et,Ko kd es with
     | some yk,some _,some ks => some (n,ks,JK yk.k,if ok then .tup [.u,.d (.b false)] else .u)
     | _,_,_ => none
    | _ => none
   | _,_ => none
  | _,_ => none
 | _ => none
theorem Qz {env : List (Nat × AV)} {H : List AC} {op : Op} {n : Int} {ks : List Int} {c : Bool} {x : AV} (h : S8 E env H op = some (n,ks,c,x)) (hk : HP n ks = true) : K4 E env H op = some (c,x):=by
 unfold S8 at h
 split at h
 ·split at h
  ·rename_i id kd n' hm hn
   split at h
   ·rename_i es y hes hy
    split at h
    ·rename_i kt et hyk
     split at h
     ·rename_i yk ye ks' h1 h2 h3
      simp only [Option.some.injEq,Prod.mk.injEq] at h
      obtain ⟨rfl,rfl,rfl,rfl⟩:=h
      simp only [K4,hm,hn,N8,hes,hy,hyk,h1,h2,Lt h3 hk]
     ·cases h
    ·cases h
   ·cases h
  ·cases h
 ·cases h
theorem aY {n : Int} {ks : List Int} (hk : HP n ks = true) (hE : Bf P E) {x x' : AV} {c : Bool} {e : List (Nat × AV)} (hg : AH ops en o = some true) (h : S8 E en hp o.op = some (n,ks,c,x)) (hd : Ac o.dst nt = true) (he : Ay o.dst x' en = some e)
  (k : Wl P ro ops (i + 1) rest ⟨e,hp,nt⟩ Q) (hc : c = true) (hx : x = x':=by rfl) : Wl P ro ops i (o :: rest) ⟨en,hp,nt⟩ Q:=Xq hE hg (Qz h hk) hd he k hc hx
theorem YlkL {n : Int} {ks : List Int} (hk : HP n ks = true) {x x' : AV} {c : Bool} {e0 e : List (Nat × AV)} (hl : Dk (looks ops o) en = some e0) (hg : AH ops e0 o = some true) (h : S8 E e0 hp o.op = some (n,ks,c,x)) (hd : Ac o.dst nt = true) (he : Ay o.dst x' en = some e)
  (hk' : Wd P ro E ops S0 A (⟨e0,hp,x',.quiet⟩ :: acc) rest ⟨e,hp,nt⟩) (hc : c = true) (hx : x = x':=by rfl) : Wd P ro E ops S0 A acc (o :: rest) ⟨en,hp,nt⟩:=Yq hl hg (Qz h hk) hd he hk' hc hx
end
structure QE : Prop
theorem A1 : QE:=⟨⟩
theorem AD {a0 : Prop} (x0 : a0) : a0 ∧ QE:=⟨x0,A1⟩
theorem Ao {a0 a1 : Prop} (x0 : a0) (x1 : a1) : a0 ∧ a1 ∧ QE:=⟨x0,x1,A1⟩
theorem Bo {a0 a1 a2 : Prop} (x0 : a0) (x1 : a1) (x2 : a2) : a0 ∧ a1 ∧ a2 ∧ QE:=⟨x0,x1,x2,A1⟩
theorem GD {a0 a1 a2 a3 : Prop} (x0 : a0) (x1 : a1) (x2 : a2) (x3 : a3) : a0 ∧ a1 ∧ a2 ∧ a3 ∧ QE:=⟨x0,x1,x2,x3,A1⟩
theorem IF {a0 a1 a2 a3 a4 : Prop} (x0 : a0) (x1 : a1) (x2 : a2) (x3 : a3) (x4 : a4) : a0 ∧ a1 ∧ a2 ∧ a3 ∧ a4 ∧ QE:=⟨x0,x1,x2,x3,x4,A1⟩
theorem Pe {a0 a1 a2 a3 a4 a5 : Prop} (x0 : a0) (x1 : a1) (x2 : a2) (x3 : a3) (x4 : a4) (x5 : a5) : a0 ∧ a1 ∧ a2 ∧ a3 ∧ a4 ∧ a5 ∧ QE:=⟨x0,x1,x2,x3,x4,x5,A1⟩
theorem Tu {a0 a1 a2 a3 a4 a5 a6 : Prop} (x0 : a0) (x1 : a1) (x2 : a2) (x3 : a3) (x4 : a4) (x5 : a5) (x6 : a6) : a0 ∧ a1 ∧ a2 ∧ a3 ∧ a4 ∧ a5 ∧ a6 ∧ QE:=⟨x0,x1,x2,x3,x4,x5,x6,A1⟩
theorem Xx {a0 a1 a2 a3 a4 a5 a6 a7 : Prop} (x0 : a0) (x1 : a1) (x2 : a2) (x3 : a3) (x4 : a4) (x5 : a5) (x6 : a6) (x7 : a7) : a0 ∧ a1 ∧ a2 ∧ a3 ∧ a4 ∧ a5 ∧ a6 ∧ a7 ∧ QE:=⟨x0,x1,x2,x3,x4,x5,x6,x7,A1⟩
theorem zq9 {a0 a1 a2 a3 a4 a5 a6 a7 a8 : Prop} (x0 : a0) (x1 : a1) (x2 : a2) (x3 : a3) (x4 : a4) (x5 : a5) (x6 : a6) (x7 : a7) (x8 : a8) : a0 ∧ a1 ∧ a2 ∧ a3 ∧ a4 ∧ a5 ∧ a6 ∧ a7 ∧ a8 ∧ QE:=⟨x0,x1,x2,x3,x4,x5,x6,x7,x8,A1⟩
theorem zq12 {a0 a1 a2 a3 a4 a5 a6 a7 a8 a9 a10 a11 : Prop} (x0 : a0) (x1 : a1) (x2 : a2) (x3 : a3) (x4 : a4) (x5 : a5) (x6 : a6) (x7 : a7) (x8 : a8) (x9 : a9) (x10 : a10) (x11 : a11) : a0 ∧ a1 ∧ a2 ∧ a3 ∧ a4 ∧ a5 ∧ a6 ∧ a7 ∧ a8 ∧ a9 ∧ a10 ∧ a11 ∧ QE:=⟨x0,x1,x2,x3,x4,x5,x6,x7,x8,x9,x10,x11,A1⟩
theorem XK {a0 a1 a2 a3 a4 a5 a6 a7 a8 a9 a10 a11 a12 : Prop} (x0 : a0) (x1 : a1) (x2 : a2) (x3 : a3) (x4 : a4) (x5 : a5) (x6 : a6) (x7 : a7) (x8 : a8) (x9 : a9) (x10 : a10) (x11 : a11) (x12 : a12) : a0 ∧ a1 ∧ a2 ∧ a3 ∧ a4 ∧ a5 ∧ a6 ∧ a7 ∧ a8 ∧ a9 ∧ a10 ∧ a11 ∧ a12 ∧ QE:=⟨x0,x1,x2,x3,x4,x5,x6,x7,x8,x9,x10,x11,x12,A1⟩
set_option maxRecDepth 100000 in
theorem wk {R g p q : Prop} (L K : List Nat) (a : p) (b : q) (r : R) (h : Lv L → Lv K → No 0 → No 1 → p → q → Rs R → g:=by intro lv st ns nc nS zq r;(first | (have : QE:=zq) | obtain ⟨c1,_⟩ : _ ∧ QE:=zq | obtain ⟨c1,c2,_⟩ : _ ∧ _ ∧ QE:=zq | obtain ⟨c1,c2,c3,_⟩ : _ ∧ _ ∧ _ ∧ QE:=zq | obtain ⟨c1,c2,c3,c4,_⟩ : _ ∧ _ ∧ _ ∧ _ ∧ QE:=zq | obtain ⟨c1,c2,c3,c4,c5,_⟩ : _ ∧ _ ∧ _ ∧ _ ∧ _ ∧ QE:=zq | obtain ⟨c1,c2,c3,c4,c5,c6,_⟩ : _ ∧ _ ∧ _ ∧ _ ∧ _ ∧ _ ∧ QE:=zq | obtain ⟨c1,c2,c3,c4,c5,c6,c7,_⟩ : _ ∧ _ ∧ _ ∧ _ ∧ _ ∧ _ ∧ _ ∧ QE:=zq | obtain ⟨c1,c2,c3,c4,c5,c6,c7,c8,_⟩ : _ ∧ _ ∧ _ ∧ _ ∧ _ ∧ _ ∧ _ ∧ _ ∧ QE:=zq | obtain ⟨c1,c2,c3,c4,c5,c6,c7,c8,c9,_⟩ : _ ∧ _ ∧ _ ∧ _ ∧ _ ∧ _ ∧ _ ∧ _ ∧ _ ∧ QE:=zq | obtain ⟨c1,c2,c3,c4,c5,c6,c7,c8,c9,c10,_⟩ : _ ∧ _ ∧ _ ∧ _ ∧ _ ∧ _ ∧ _ ∧ _ ∧ _ ∧ _ ∧ QE:=zq | obtain ⟨c1,c2,c3,c4,c5,c6,c7,c8,c9,c10,c11,_⟩ : _ ∧ _ ∧ _ ∧ _ ∧ _ ∧ _ ∧ _ ∧ _ ∧ _ ∧ _ ∧ _ ∧ QE:=zq | obtain ⟨c1,c2,c3,c4,c5,c6,c7,c8,c9,c10,c11,c12,_⟩ : _ ∧ _ ∧ _ ∧ _ ∧ _ ∧ _ ∧ _ ∧ _ ∧ _ ∧ _ ∧ _ ∧ _ ∧ QE:=zq | obtain ⟨c1,c2,c3,c4,c5,c6,c7,c8,c9,c10,c11,c12,c13,_⟩ : _ ∧ _ ∧ _ ∧ _ ∧ _ ∧ _ ∧ _ ∧ _ ∧ _ ∧ _ ∧ _ ∧ _ ∧ _ ∧ QE:=zq | obtain ⟨c1,c2,c3,c4,c5,c6,c7,c8,c9,c10,c11,c12,c13,c14,_⟩ : _ ∧ _ ∧ _ ∧ _ ∧ _ ∧ _ ∧ _ ∧ _ ∧ _ ∧ _ ∧ _ ∧ _ ∧ _ ∧ _ ∧ QE:=zq | obtain ⟨c1,c2,c3,c4,c5,c6,c7,c8,c9,c10,c11,c12,c13,c14,c15,_⟩ : _ ∧ _ ∧ _ ∧ _ ∧ _ ∧ _ ∧ _ ∧ _ ∧ _ ∧ _ ∧ _ ∧ _ ∧ _ ∧ _ ∧ _ ∧ QE:=zq | obtain ⟨c1,c2,c3,c4,c5,c6,c7,c8,c9,c10,c11,c12,c13,c14,c15,c16,_⟩ : _ ∧ _ ∧ _ ∧ _ ∧ _ ∧ _ ∧ _ ∧ _ ∧ _ ∧ _ ∧ _ ∧ _ ∧ _ ∧ _ ∧ _ ∧ _ ∧ QE:=zq);(repeat' (first | ((with_reducible refine aQ ?_);first | ((with_reducible refine gNil ?_);first | refine XnL lv rfl ?_ | refine Qh ?_) | (refine YS rfl ?_;refine XsN rfl rfl ?_) | (refine Gz rfl ?_;refine aJ AB rfl rfl rfl rfl ?_) | (refine Ji 1 rfl ?_;first | refine Yi AB rfl rfl rfl rfl rfl (Int.natCast_nonneg _) (Dw ix1) ?_ | refine Yi AB rfl rfl rfl rfl rfl (Int.natCast_nonneg _) (Dw ix2) ?_ | refine Yi AB rfl rfl rfl rfl rfl (Int.natCast_nonneg _) (Dw ix3) ?_ | refine Yi AB rfl rfl rfl rfl rfl (Int.natCast_nonneg _) (Dw ix4) ?_ | ((first | refine Tp wr rfl rfl rfl rfl rfl ?_ ?_ | refine Xq AB rfl rfl rfl rfl ?_ ?_);rotate_left;focus ((repeat' (first | with_reducible rfl | ((with_reducible refine GC ?_);first | kernel_rfl | rfl | (simp [Ci,Do,nS];done)) | with_reducible refine G5 ?_ ?_ | with_reducible exact Nat.beq_refl _ | with_reducible exact BP _ | ((with_reducible refine decide_eq_true ?_);first | omega | (simp only [Dh,nS];omega)) | decide | (simp [Dh,slc,BC,D.one,Bt,AV.one,nS];done) | (simp [Dh,nS];omega)));done))) | (refine Ji 2 rfl ?_;((first | refine aY lk1 AB rfl rfl rfl rfl ?_ ?_ | refine Tp wr rfl rfl rfl rfl rfl ?_ ?_ | refine Xq AB rfl rfl rfl rfl ?_ ?_);rotate_left;focus ((repeat' (first | with_reducible rfl | ((with_reducible refine GC ?_);first | kernel_rfl | rfl | (simp [Ci,Do,nS];done)) | with_reducible refine G5 ?_ ?_ | with_reducible exact Nat.beq_refl _ | with_reducible exact BP _ | ((with_reducible refine decide_eq_true ?_);first | omega | (simp only [Dh,nS];omega)) | decide | (simp [Dh,slc,BC,D.one,Bt,AV.one,nS];done) | (simp [Dh,nS];omega)));done))) | (refine Ji 3 rfl ?_;first | refine PK fz1 rfl rfl rfl (by first | rfl | simp [A6]) ?_ | refine PK fz2 rfl rfl rfl (by first | rfl | simp [A6]) ?_ | refine PK fz3 rfl rfl rfl (by first | rfl | simp [A6]) ?_ | refine PK fz4 rfl rfl rfl (by first | rfl | simp [A6]) ?_ | refine XF (c1 ..) rfl rfl rfl rfl ?_ | refine XF (c2 ..) rfl rfl rfl rfl ?_ | refine XF (c3 ..) rfl rfl rfl rfl ?_ | refine XF (c4 ..) rfl rfl rfl rfl ?_ | refine XF (c5 ..) rfl rfl rfl rfl ?_ | refine XF (c6 ..) rfl rfl rfl rfl ?_ | refine XF (c7 ..) rfl rfl rfl rfl ?_ | refine XF (c8 ..) rfl rfl rfl rfl ?_ | refine XF (c9 ..) rfl rfl rfl rfl ?_ | refine XF (c10 ..) rfl rfl rfl rfl ?_ | refine XF (c11 ..) rfl rfl rfl rfl ?_ | refine XF (c12 ..) rfl rfl rfl rfl ?_ | refine XF (c13 ..) rfl rfl rfl rfl ?_ | refine XF (c14 ..) rfl rfl rfl rfl ?_ | refine XF (c15 ..) rfl rfl rfl rfl ?_ | refine XF (c16 ..) rfl rfl rfl rfl ?_ | (refine aN (z1 ..) rfl rfl rfl rfl ?_ ?_;(first | (simp [Jl,Cq,C4,A5,A6,A4];done) | (repeat' (first | rfl | trivial | refine ⟨rfl,rfl,by simp [A4]⟩ | refine ⟨_,_,rfl,?_,?_⟩ | refine ⟨_,rfl,?_⟩)))) | (refine aN (z2 ..) rfl rfl rfl rfl ?_ ?_;(first | (simp [Jl,Cq,C4,A5,A6,A4];done) | (repeat' (first | rfl | trivial | refine ⟨rfl,rfl,by simp [A4]⟩ | refine ⟨_,_,rfl,?_,?_⟩ | refine ⟨_,rfl,?_⟩)))) | (refine aN (z3 ..) rfl rfl rfl rfl ?_ ?_;(first | (simp [Jl,Cq,C4,A5,A6,A4];done) | (repeat' (first | rfl | trivial | refine ⟨rfl,rfl,by simp [A4]⟩ | refine ⟨_,_,rfl,?_,?_⟩ | refine ⟨_,rfl,?_⟩)))) | (refine MP (d1 ..) rfl rfl rfl ?_ rfl rfl rfl rfl ?_;(first | exact trivial | exact ⟨rfl,trivial⟩ | exact ⟨rfl,rfl,trivial⟩ | exact ⟨rfl,rfl,rfl,trivial⟩ | exact ⟨rfl,rfl,rfl,rfl,trivial⟩ | exact ⟨rfl,rfl,rfl,rfl,rfl,trivial⟩)) | (refine MP (d2 ..) rfl rfl rfl ?_ rfl rfl rfl rfl ?_;(first | exact trivial | exact ⟨rfl,trivial⟩ | exact ⟨rfl,rfl,trivial⟩ | exact ⟨rfl,rfl,rfl,trivial⟩ | exact ⟨rfl,rfl,rfl,rfl,trivial⟩ | exact ⟨rfl,rfl,rfl,rfl,rfl,trivial⟩)) | (refine MP (d3 ..) rfl rfl rfl ?_ rfl rfl rfl rfl ?_;(first | exact trivial | exact ⟨rfl,trivial⟩ | exact ⟨rfl,rfl,trivial⟩ | exact ⟨rfl,rfl,rfl,trivial⟩ | exact ⟨rfl,rfl,rfl,rfl,trivial⟩ | exact ⟨rfl,rfl,rfl,rfl,rfl,trivial⟩)) | (refine MP (d4 ..) rfl rfl rfl ?_ rfl rfl rfl rfl ?_;(first | exact trivial | exact ⟨rfl,trivial⟩ | exact ⟨rfl,rfl,trivial⟩ | exact ⟨rfl,rfl,rfl,trivial⟩ | exact ⟨rfl,rfl,rfl,rfl,trivial⟩ | exact ⟨rfl,rfl,rfl,rfl,rfl,trivial⟩)) | (refine MP (d5 ..) rfl rfl rfl ?_ rfl rfl rfl rfl ?_;(first | exact trivial | exact ⟨rfl,trivial⟩ | exact ⟨rfl,rfl,trivial⟩ | exact ⟨rfl,rfl,rfl,trivial⟩ | exact ⟨rfl,rfl,rfl,rfl,trivial⟩ | exact ⟨rfl,rfl,rfl,rfl,rfl,trivial⟩)) | (refine MP (d6 ..) rfl rfl rfl ?_ rfl rfl rfl rfl ?_;(first | exact trivial | exact ⟨rfl,trivial⟩ | exact ⟨rfl,rfl,trivial⟩ | exact ⟨rfl,rfl,rfl,trivial⟩ | exact ⟨rfl,rfl,rfl,rfl,trivial⟩ | exact ⟨rfl,rfl,rfl,rfl,rfl,trivial⟩)) | (refine MP (d7 ..) rfl rfl rfl ?_ rfl rfl rfl rfl ?_;(first | exact trivial | exact ⟨rfl,trivial⟩ | exact ⟨rfl,rfl,trivial⟩ | exact ⟨rfl,rfl,rfl,trivial⟩ | exact ⟨rfl,rfl,rfl,rfl,trivial⟩ | exact ⟨rfl,rfl,rfl,rfl,rfl,trivial⟩)) | (refine MP (d8 ..) rfl rfl rfl ?_ rfl rfl rfl rfl ?_;(first | exact trivial | exact ⟨rfl,trivial⟩ | exact ⟨rfl,rfl,trivial⟩ | exact ⟨rfl,rfl,rfl,trivial⟩ | exact ⟨rfl,rfl,rfl,rfl,trivial⟩ | exact ⟨rfl,rfl,rfl,rfl,rfl,trivial⟩)) | (refine MP (d9 ..) rfl rfl rfl ?_ rfl rfl rfl rfl ?_;(first | exact trivial | exact ⟨rfl,trivial⟩ | exact ⟨rfl,rfl,trivial⟩ | exact ⟨rfl,rfl,rfl,trivial⟩ | exact ⟨rfl,rfl,rfl,rfl,trivial⟩ | exact ⟨rfl,rfl,rfl,rfl,rfl,trivial⟩)) | (refine MP (d10 ..) rfl rfl rfl ?_ rfl rfl rfl rfl ?_;(first | exact trivial | exact ⟨rfl,trivial⟩ | exact ⟨rfl,rfl,trivial⟩ | exact ⟨rfl,rfl,rfl,trivial⟩ | exact ⟨rfl,rfl,rfl,rfl,trivial⟩ | exact ⟨rfl,rfl,rfl,rfl,rfl,trivial⟩)) | refine Xy q1 rfl rfl rfl rfl rfl ?_ | refine Xy (q1 _) rfl rfl rfl rfl rfl ?_ | refine Xy (q1 _ _) rfl rfl rfl rfl rfl ?_ | (refine' am (g1T _) (g1F _) rfl rfl rfl rfl rfl rfl r (fun hc s => ?_) (fun hc s => ?_);(all_goals (first | guard_target = Prop | (clear r;have r:=s;clear s;(try simp only [A3] at hc);(try (exfalso;omega))))))) | (refine Ji 4 rfl ?_;((first | refine MH ow AB rfl rfl rfl rfl rfl rfl ?_ ?_ | refine XZ k1 k2 AB rfl rfl rfl (by first | rfl | simp [GE]) rfl rfl rfl rfl ?_ ?_ | refine Xa AB rfl rfl rfl rfl rfl ?_ ?_ | refine Xq AB rfl rfl rfl rfl ?_ ?_ | refine Xbs AB rfl rfl rfl rfl rfl rfl ?_ ?_);rotate_left;focus ((repeat' (first | with_reducible rfl | ((with_reducible refine GC ?_);first | kernel_rfl | rfl | (simp [Ci,Do,nS];done)) | with_reducible refine G5 ?_ ?_ | with_reducible exact Nat.beq_refl _ | with_reducible exact BP _ | ((with_reducible refine decide_eq_true ?_);first | omega | (simp only [Dh,nS];omega)) | decide | (simp [Dh,slc,BC,D.one,Bt,AV.one,nS];done) | (simp [Dh,nS];omega)));done))) | (refine Ji 5 rfl ?_;((first | refine Xw AB rfl rfl rfl rfl ?_ ?_ | refine Xf sb AB rfl rfl rfl rfl ?_ ?_);rotate_left;focus ((repeat' (first | with_reducible rfl | ((with_reducible refine GC ?_);first | kernel_rfl | rfl | (simp [Ci,Do,nS];done)) | with_reducible refine G5 ?_ ?_ | with_reducible exact Nat.beq_refl _ | with_reducible exact BP _ | ((with_reducible refine decide_eq_true ?_);first | omega | (simp only [Dh,nS];omega)) | decide | (simp [Dh,slc,BC,D.one,Bt,AV.one,nS];done) | (simp [Dh,nS];omega)));done))) | (refine Ji 6 rfl ?_;((first | refine MH ow AB rfl rfl rfl rfl rfl rfl ?_ ?_ | refine Xq AB rfl rfl rfl rfl ?_ ?_ | refine Xw AB rfl rfl rfl rfl ?_ ?_ | refine Xa AB rfl rfl rfl rfl rfl ?_ ?_);rotate_left;focus ((repeat' (first | with_reducible rfl | ((with_reducible refine GC ?_);first | kernel_rfl | rfl | (simp [Ci,Do,nS];done)) | with_reducible refine G5 ?_ ?_ | with_reducible exact Nat.beq_refl _ | with_reducible exact BP _ | ((with_reducible refine decide_eq_true ?_);first | omega | (simp only [Dh,nS];omega)) | decide | (simp [Dh,slc,BC,D.one,Bt,AV.one,nS];done) | (simp [Dh,nS];omega)));done))) | refine aw fu1 rfl rfl rfl (by first | rfl | simp [A6]) ?_ | (refine' RG ns rfl rfl r (fun hc s => ?_) (fun hc s => ?_);(all_goals (first | guard_target = Prop | (clear r;have r:=s;clear s;(fail_if_success (with_reducible first | exact tF hc | exact fT hc));(try simp only [A3] at hc);(try (exfalso;omega)))))) | (refine' sdR r (fun hs s => ?_);rotate_left 2;clear r;have r:=s;clear s;first | refine MH ow AB rfl rfl rfl rfl rfl rfl ?_ hs | refine XZ k1 k2 AB rfl rfl rfl (by first | rfl | simp [GE]) rfl rfl rfl rfl ?_ hs | refine Xa AB rfl rfl rfl rfl rfl ?_ hs | refine Tp wr rfl rfl rfl rfl rfl ?_ hs | refine Xq AB rfl rfl rfl rfl ?_ hs | refine Xw AB rfl rfl rfl rfl ?_ hs | refine Xf sb AB rfl rfl rfl rfl ?_ hs)) | ((with_reducible refine gW ?_);first | with_reducible refine JU ?_ | ((with_reducible refine bI ?_);refine Gx st rfl ?_) | ((with_reducible refine YZ ?_);first | refine E6 rfl ?_ | refine E7 rfl ?_ | (refine' Jr nc rfl r (fun hc s => ?_) (fun hc s => ?_);(all_goals (first | guard_target = Prop | (clear r;have r:=s;clear s;(try simp only [A3] at hc);(try (exfalso;omega))))))) | with_reducible refine Gl ?_ | with_reducible refine JY ?_ | with_reducible refine Ez ?_ | with_reducible refine GJ ?_ | with_reducible refine NI ?_ | with_reducible refine K1 ?_ | with_reducible refine Ie un ?_ | with_reducible refine ID sc ?_) | (with_reducible first | refine qT ?_ | refine qTr ?_ | refine qTe ?_ | refine qTg ?_ | refine qTp ?_ | refine qBn ?_ | refine qBr ?_ | refine qBg ?_ | refine qBp ?_ | refine qSn ?_ | refine qSr ?_ | refine qSe ?_ | exact lQ r | exact lI r | exact lY r) | refine qSg rfl ?_ | (first | refine JU ?_ | refine Gx st rfl ?_ | refine E6 rfl ?_ | refine E7 rfl ?_ | refine Gl ?_ | refine JY ?_ | refine Ez ?_ | refine GJ ?_ | refine NI ?_ | refine K1 ?_ | refine Ie un ?_ | refine ID sc ?_ | (refine' Jr nc rfl r (fun hc s => ?_) (fun hc s => ?_);(all_goals (first | guard_target = Prop | (clear r;have r:=s;clear s;(try simp only [A3] at hc);(try (exfalso;omega))))))) | exact r.x));all_goals exact True) : g:=h trivial trivial trivial trivial a b ⟨r⟩
set_option maxRecDepth 100000 in
theorem wd {R g p q : Prop} (L K : List Nat) (M : List (Nat × Nat)) (a : p) (b : q) (r : R) (h : Lv L → Lv K → Lp2 M → No 0 → No 1 → p → q → Rs R → g:=by intro lv st pr ns nc nS zq r;(first | (have : QE:=zq) | obtain ⟨c1,_⟩ : _ ∧ QE:=zq | obtain ⟨c1,c2,_⟩ : _ ∧ _ ∧ QE:=zq | obtain ⟨c1,c2,c3,_⟩ : _ ∧ _ ∧ _ ∧ QE:=zq | obtain ⟨c1,c2,c3,c4,_⟩ : _ ∧ _ ∧ _ ∧ _ ∧ QE:=zq | obtain ⟨c1,c2,c3,c4,c5,_⟩ : _ ∧ _ ∧ _ ∧ _ ∧ _ ∧ QE:=zq | obtain ⟨c1,c2,c3,c4,c5,c6,_⟩ : _ ∧ _ ∧ _ ∧ _ ∧ _ ∧ _ ∧ QE:=zq | obtain ⟨c1,c2,c3,c4,c5,c6,c7,_⟩ : _ ∧ _ ∧ _ ∧ _ ∧ _ ∧ _ ∧ _ ∧ QE:=zq | obtain ⟨c1,c2,c3,c4,c5,c6,c7,c8,_⟩ : _ ∧ _ ∧ _ ∧ _ ∧ _ ∧ _ ∧ _ ∧ _ ∧ QE:=zq | obtain ⟨c1,c2,c3,c4,c5,c6,c7,c8,c9,_⟩ : _ ∧ _ ∧ _ ∧ _ ∧ _ ∧ _ ∧ _ ∧ _ ∧ _ ∧ QE:=zq | obtain ⟨c1,c2,c3,c4,c5,c6,c7,c8,c9,c10,_⟩ : _ ∧ _ ∧ _ ∧ _ ∧ _ ∧ _ ∧ _ ∧ _ ∧ _ ∧ _ ∧ QE:=zq | obtain ⟨c1,c2,c3,c4,c5,c6,c7,c8,c9,c10,c11,_⟩ : _ ∧ _ ∧ _ ∧ _ ∧ _ ∧ _ ∧ _ ∧ _ ∧ _ ∧ _ ∧ _ ∧ QE:=zq | obtain ⟨c1,c2,c3,c4,c5,c6,c7,c8,c9,c10,c11,c12,_⟩ : _ ∧ _ ∧ _ ∧ _ ∧ _ ∧ _ ∧ _ ∧ _ ∧ _ ∧ _ ∧ _ ∧ _ ∧ QE:=zq | obtain ⟨c1,c2,c3,c4,c5,c6,c7,c8,c9,c10,c11,c12,c13,_⟩ : _ ∧ _ ∧ _ ∧ _ ∧ _ ∧ _ ∧ _ ∧ _ ∧ _ ∧ _ ∧ _ ∧ _ ∧ _ ∧ QE:=zq | obtain ⟨c1,c2,c3,c4,c5,c6,c7,c8,c9,c10,c11,c12,c13,c14,_⟩ : _ ∧ _ ∧ _ ∧ _ ∧ _ ∧ _ ∧ _ ∧ _ ∧ _ ∧ _ ∧ _ ∧ _ ∧ _ ∧ _ ∧ QE:=zq | obtain ⟨c1,c2,c3,c4,c5,c6,c7,c8,c9,c10,c11,c12,c13,c14,c15,_⟩ : _ ∧ _ ∧ _ ∧ _ ∧ _ ∧ _ ∧ _ ∧ _ ∧ _ ∧ _ ∧ _ ∧ _ ∧ _ ∧ _ ∧ _ ∧ QE:=zq | obtain ⟨c1,c2,c3,c4,c5,c6,c7,c8,c9,c10,c11,c12,c13,c14,c15,c16,_⟩ : _ ∧ _ ∧ _ ∧ _ ∧ _ ∧ _ ∧ _ ∧ _ ∧ _ ∧ _ ∧ _ ∧ _ ∧ _ ∧ _ ∧ _ ∧ _ ∧ QE:=zq);(repeat' (first | ((with_reducible refine aQ ?_);first | ((with_reducible refine gNil ?_);first | refine XnL lv rfl ?_ | refine Qh ?_) | (refine YS rfl ?_;refine XsN rfl rfl ?_) | (refine Gz rfl ?_;refine aJ AB rfl rfl rfl rfl ?_) | (refine Ji 1 rfl ?_;first | refine Yi AB rfl rfl rfl rfl rfl (Int.natCast_nonneg _) (Dw ix1) ?_ | refine Yi AB rfl rfl rfl rfl rfl (Int.natCast_nonneg _) (Dw ix2) ?_ | refine Yi AB rfl rfl rfl rfl rfl (Int.natCast_nonneg _) (Dw ix3) ?_ | refine Yi AB rfl rfl rfl rfl rfl (Int.natCast_nonneg _) (Dw ix4) ?_ | ((first | refine Tp wr rfl rfl rfl rfl rfl ?_ ?_ | refine Xq AB rfl rfl rfl rfl ?_ ?_);rotate_left;focus ((repeat' (first | with_reducible rfl | ((with_reducible refine GC ?_);first | kernel_rfl | rfl | (simp [Ci,Do,nS];done)) | with_reducible refine G5 ?_ ?_ | with_reducible exact Nat.beq_refl _ | with_reducible exact BP _ | ((with_reducible refine decide_eq_true ?_);first | omega | (simp only [Dh,nS];omega)) | decide | (simp [Dh,slc,BC,D.one,Bt,AV.one,nS];done) | (simp [Dh,nS];omega)));done))) | (refine Ji 2 rfl ?_;((first | refine aY lk1 AB rfl rfl rfl rfl ?_ ?_ | refine Tp wr rfl rfl rfl rfl rfl ?_ ?_ | refine Xq AB rfl rfl rfl rfl ?_ ?_);rotate_left;focus ((repeat' (first | with_reducible rfl | ((with_reducible refine GC ?_);first | kernel_rfl | rfl | (simp [Ci,Do,nS];done)) | with_reducible refine G5 ?_ ?_ | with_reducible exact Nat.beq_refl _ | with_reducible exact BP _ | ((with_reducible refine decide_eq_true ?_);first | omega | (simp only [Dh,nS];omega)) | decide | (simp [Dh,slc,BC,D.one,Bt,AV.one,nS];done) | (simp [Dh,nS];omega)));done))) | (refine Ji 3 rfl ?_;first | refine PK fz1 rfl rfl rfl (by first | rfl | simp [A6]) ?_ | refine PK fz2 rfl rfl rfl (by first | rfl | simp [A6]) ?_ | refine PK fz3 rfl rfl rfl (by first | rfl | simp [A6]) ?_ | refine PK fz4 rfl rfl rfl (by first | rfl | simp [A6]) ?_ | refine XF (c1 ..) rfl rfl rfl rfl ?_ | refine XF (c2 ..) rfl rfl rfl rfl ?_ | refine XF (c3 ..) rfl rfl rfl rfl ?_ | refine XF (c4 ..) rfl rfl rfl rfl ?_ | refine XF (c5 ..) rfl rfl rfl rfl ?_ | refine XF (c6 ..) rfl rfl rfl rfl ?_ | refine XF (c7 ..) rfl rfl rfl rfl ?_ | refine XF (c8 ..) rfl rfl rfl rfl ?_ | refine XF (c9 ..) rfl rfl rfl rfl ?_ | refine XF (c10 ..) rfl rfl rfl rfl ?_ | refine XF (c11 ..) rfl rfl rfl rfl ?_ | refine XF (c12 ..) rfl rfl rfl rfl ?_ | refine XF (c13 ..) rfl rfl rfl rfl ?_ | refine XF (c14 ..) rfl rfl rfl rfl ?_ | refine XF (c15 ..) rfl rfl rfl rfl ?_ | refine XF (c16 ..) rfl rfl rfl rfl ?_ | (refine aN (z1 ..) rfl rfl rfl rfl ?_ ?_;(first | (simp [Jl,Cq,C4,A5,A6,A4];done) | (repeat' (first | rfl | trivial | refine ⟨rfl,rfl,by simp [A4]⟩ | refine ⟨_,_,rfl,?_,?_⟩ | refine ⟨_,rfl,?_⟩)))) | (refine aN (z2 ..) rfl rfl rfl rfl ?_ ?_;(first | (simp [Jl,Cq,C4,A5,A6,A4];done) | (repeat' (first | rfl | trivial | refine ⟨rfl,rfl,by simp [A4]⟩ | refine ⟨_,_,rfl,?_,?_⟩ | refine ⟨_,rfl,?_⟩)))) | (refine aN (z3 ..) rfl rfl rfl rfl ?_ ?_;(first | (simp [Jl,Cq,C4,A5,A6,A4];done) | (repeat' (first | rfl | trivial | refine ⟨rfl,rfl,by simp [A4]⟩ | refine ⟨_,_,rfl,?_,?_⟩ | refine ⟨_,rfl,?_⟩)))) | (refine MP (d1 ..) rfl rfl rfl ?_ rfl rfl rfl rfl ?_;(first | exact trivial | exact ⟨rfl,trivial⟩ | exact ⟨rfl,rfl,trivial⟩ | exact ⟨rfl,rfl,rfl,trivial⟩ | exact ⟨rfl,rfl,rfl,rfl,trivial⟩ | exact ⟨rfl,rfl,rfl,rfl,rfl,trivial⟩)) | (refine MP (d2 ..) rfl rfl rfl ?_ rfl rfl rfl rfl ?_;(first | exact trivial | exact ⟨rfl,trivial⟩ | exact ⟨rfl,rfl,trivial⟩ | exact ⟨rfl,rfl,rfl,trivial⟩ | exact ⟨rfl,rfl,rfl,rfl,trivial⟩ | exact ⟨rfl,rfl,rfl,rfl,rfl,trivial⟩)) | (refine MP (d3 ..) rfl rfl rfl ?_ rfl rfl rfl rfl ?_;(first | exact trivial | exact ⟨rfl,trivial⟩ | exact ⟨rfl,rfl,trivial⟩ | exact ⟨rfl,rfl,rfl,trivial⟩ | exact ⟨rfl,rfl,rfl,rfl,trivial⟩ | exact ⟨rfl,rfl,rfl,rfl,rfl,trivial⟩)) | (refine MP (d4 ..) rfl rfl rfl ?_ rfl rfl rfl rfl ?_;(first | exact trivial | exact ⟨rfl,trivial⟩ | exact ⟨rfl,rfl,trivial⟩ | exact ⟨rfl,rfl,rfl,trivial⟩ | exact ⟨rfl,rfl,rfl,rfl,trivial⟩ | exact ⟨rfl,rfl,rfl,rfl,rfl,trivial⟩)) | (refine MP (d5 ..) rfl rfl rfl ?_ rfl rfl rfl rfl ?_;(first | exact trivial | exact ⟨rfl,trivial⟩ | exact ⟨rfl,rfl,trivial⟩ | exact ⟨rfl,rfl,rfl,trivial⟩ | exact ⟨rfl,rfl,rfl,rfl,trivial⟩ | exact ⟨rfl,rfl,rfl,rfl,rfl,trivial⟩)) | (refine MP (d6 ..) rfl rfl rfl ?_ rfl rfl rfl rfl ?_;(first | exact trivial | exact ⟨rfl,trivial⟩ | exact ⟨rfl,rfl,trivial⟩ | exact ⟨rfl,rfl,rfl,trivial⟩ | exact ⟨rfl,rfl,rfl,rfl,trivial⟩ | exact ⟨rfl,rfl,rfl,rfl,rfl,trivial⟩)) | (refine MP (d7 ..) rfl rfl rfl ?_ rfl rfl rfl rfl ?_;(first | exact trivial | exact ⟨rfl,trivial⟩ | exact ⟨rfl,rfl,trivial⟩ | exact ⟨rfl,rfl,rfl,trivial⟩ | exact ⟨rfl,rfl,rfl,rfl,trivial⟩ | exact ⟨rfl,rfl,rfl,rfl,rfl,trivial⟩)) | (refine MP (d8 ..) rfl rfl rfl ?_ rfl rfl rfl rfl ?_;(first | exact trivial | exact ⟨rfl,trivial⟩ | exact ⟨rfl,rfl,trivial⟩ | exact ⟨rfl,rfl,rfl,trivial⟩ | exact ⟨rfl,rfl,rfl,rfl,trivial⟩ | exact ⟨rfl,rfl,rfl,rfl,rfl,trivial⟩)) | (refine MP (d9 ..) rfl rfl rfl ?_ rfl rfl rfl rfl ?_;(first | exact trivial | exact ⟨rfl,trivial⟩ | exact ⟨rfl,rfl,trivial⟩ | exact ⟨rfl,rfl,rfl,trivial⟩ | exact ⟨rfl,rfl,rfl,rfl,trivial⟩ | exact ⟨rfl,rfl,rfl,rfl,rfl,trivial⟩)) | (refine MP (d10 ..) rfl rfl rfl ?_ rfl rfl rfl rfl ?_;(first | exact trivial | exact ⟨rfl,trivial⟩ | exact ⟨rfl,rfl,trivial⟩ | exact ⟨rfl,rfl,rfl,trivial⟩ | exact ⟨rfl,rfl,rfl,rfl,trivial⟩ | exact ⟨rfl,rfl,rfl,rfl,rfl,trivial⟩)) | refine Xy q1 rfl rfl rfl rfl rfl ?_ | refine Xy (q1 _) rfl rfl rfl rfl rfl ?_ | refine Xy (q1 _ _) rfl rfl rfl rfl rfl ?_ | (refine' am (g1T _) (g1F _) rfl rfl rfl rfl rfl rfl r (fun hc s => ?_) (fun hc s => ?_);(all_goals (first | guard_target = Prop | (clear r;have r:=s;clear s;(try simp only [A3] at hc);(try (exfalso;omega))))))) | (refine Ji 4 rfl ?_;((first | refine MH ow AB rfl rfl rfl rfl rfl rfl ?_ ?_ | refine XZ k1 k2 AB rfl rfl rfl (by first | rfl | simp [GE]) rfl rfl rfl rfl ?_ ?_ | refine Xa AB rfl rfl rfl rfl rfl ?_ ?_ | refine Xq AB rfl rfl rfl rfl ?_ ?_ | refine Xbs AB rfl rfl rfl rfl rfl rfl ?_ ?_);rotate_left;focus ((repeat' (first | with_reducible rfl | ((with_reducible refine GC ?_);first | kernel_rfl | rfl | (simp [Ci,Do,nS];done)) | with_reducible refine G5 ?_ ?_ | with_reducible exact Nat.beq_refl _ | with_reducible exact BP _ | ((with_reducible refine decide_eq_true ?_);first | omega | (simp only [Dh,nS];omega)) | decide | (simp [Dh,slc,BC,D.one,Bt,AV.one,nS];done) | (simp [Dh,nS];omega)));done))) | (refine Ji 5 rfl ?_;((first | refine Xw AB rfl rfl rfl rfl ?_ ?_ | refine Xf sb AB rfl rfl rfl rfl ?_ ?_);rotate_left;focus ((repeat' (first | with_reducible rfl | ((with_reducible refine GC ?_);first | kernel_rfl | rfl | (simp [Ci,Do,nS];done)) | with_reducible refine G5 ?_ ?_ | with_reducible exact Nat.beq_refl _ | with_reducible exact BP _ | ((with_reducible refine decide_eq_true ?_);first | omega | (simp only [Dh,nS];omega)) | decide | (simp [Dh,slc,BC,D.one,Bt,AV.one,nS];done) | (simp [Dh,nS];omega)));done))) | (refine Ji 6 rfl ?_;((first | refine MH ow AB rfl rfl rfl rfl rfl rfl ?_ ?_ | refine Xq AB rfl rfl rfl rfl ?_ ?_ | refine Xw AB rfl rfl rfl rfl ?_ ?_ | refine Xa AB rfl rfl rfl rfl rfl ?_ ?_);rotate_left;focus ((repeat' (first | with_reducible rfl | ((with_reducible refine GC ?_);first | kernel_rfl | rfl | (simp [Ci,Do,nS];done)) | with_reducible refine G5 ?_ ?_ | with_reducible exact Nat.beq_refl _ | with_reducible exact BP _ | ((with_reducible refine decide_eq_true ?_);first | omega | (simp only [Dh,nS];omega)) | decide | (simp [Dh,slc,BC,D.one,Bt,AV.one,nS];done) | (simp [Dh,nS];omega)));done))) | refine aw fu1 rfl rfl rfl (by first | rfl | simp [A6]) ?_ | (refine' RG ns rfl rfl r (fun hc s => ?_) (fun hc s => ?_);(all_goals (first | guard_target = Prop | (clear r;have r:=s;clear s;(fail_if_success (with_reducible first | exact tF hc | exact fT hc));(try simp only [A3] at hc);(try (exfalso;omega)))))) | (refine' sdR r (fun hs s => ?_);rotate_left 2;clear r;have r:=s;clear s;first | refine MH ow AB rfl rfl rfl rfl rfl rfl ?_ hs | refine XZ k1 k2 AB rfl rfl rfl (by first | rfl | simp [GE]) rfl rfl rfl rfl ?_ hs | refine Xa AB rfl rfl rfl rfl rfl ?_ hs | refine Tp wr rfl rfl rfl rfl rfl ?_ hs | refine Xq AB rfl rfl rfl rfl ?_ hs | refine Xw AB rfl rfl rfl rfl ?_ hs | refine Xf sb AB rfl rfl rfl rfl ?_ hs)) | ((with_reducible refine gWd ?_);first | ((with_reducible refine ai ?_);first | (refine YnLv lv pr mixed AB (by kernel_rfl) ?_ rfl ?_;focus (simp only [Dy];repeat' (first | exact True.intro | refine And.intro ?_ ?_ | exact ⟨_,rfl,rfl⟩ | rfl))) | (refine Yn2L lv pr AB (by kernel_rfl) ?_ rfl ?_;focus (simp only [Dy];repeat' (first | exact True.intro | refine And.intro ?_ ?_ | exact ⟨_,rfl,rfl⟩ | rfl)))) | (refine ab rfl ?_;refine Ys rfl rfl rfl rfl ?_) | (refine Ra rfl ?_;refine Ymv AB rfl rfl (fun _ => rfl) rfl rfl ?_) | (refine Sv 1 rfl ?_;first | refine ba AB rfl rfl (fun _ => rfl) rfl rfl rfl (Int.natCast_nonneg _) (Dw ix1) ?_ | refine ba AB rfl rfl (fun _ => rfl) rfl rfl rfl (Int.natCast_nonneg _) (Dw ix2) ?_ | refine ba AB rfl rfl (fun _ => rfl) rfl rfl rfl (Int.natCast_nonneg _) (Dw ix3) ?_ | refine ba AB rfl rfl (fun _ => rfl) rfl rfl rfl (Int.natCast_nonneg _) (Dw ix4) ?_ | ((first | refine Yp AB rfl rfl (fun _ => rfl) rfl rfl ?_ ?_ | refine Yq rfl rfl rfl rfl rfl ?_ ?_);rotate_left;focus ((repeat' (first | with_reducible rfl | ((with_reducible refine GC ?_);first | kernel_rfl | rfl | (simp [Ci,Do,nS];done)) | with_reducible refine G5 ?_ ?_ | with_reducible exact Nat.beq_refl _ | with_reducible exact BP _ | ((with_reducible refine decide_eq_true ?_);first | omega | (simp only [Dh,nS];omega)) | decide | (simp [Dh,slc,BC,D.one,Bt,AV.one,nS];done) | (simp [Dh,nS];omega)));done))) | (refine Sv 2 rfl ?_;((first | refine YlkL lk1 rfl rfl rfl rfl rfl ?_ ?_ | refine Yp AB rfl rfl (fun _ => rfl) rfl rfl ?_ ?_ | refine Yq rfl rfl rfl rfl rfl ?_ ?_);rotate_left;focus ((repeat' (first | with_reducible rfl | ((with_reducible refine GC ?_);first | kernel_rfl | rfl | (simp [Ci,Do,nS];done)) | with_reducible refine G5 ?_ ?_ | with_reducible exact Nat.beq_refl _ | with_reducible exact BP _ | ((with_reducible refine decide_eq_true ?_);first | omega | (simp only [Dh,nS];omega)) | decide | (simp [Dh,slc,BC,D.one,Bt,AV.one,nS];done) | (simp [Dh,nS];omega)));done))) | (refine Sv 3 rfl ?_;first | refine YF (c1 ..) rfl rfl rfl rfl rfl ?_ | refine YF (c2 ..) rfl rfl rfl rfl rfl ?_ | refine YF (c3 ..) rfl rfl rfl rfl rfl ?_ | refine YF (c4 ..) rfl rfl rfl rfl rfl ?_ | refine YF (c5 ..) rfl rfl rfl rfl rfl ?_ | refine YF (c6 ..) rfl rfl rfl rfl rfl ?_ | refine YF (c7 ..) rfl rfl rfl rfl rfl ?_ | refine YF (c8 ..) rfl rfl rfl rfl rfl ?_ | refine YF (c9 ..) rfl rfl rfl rfl rfl ?_ | refine YF (c10 ..) rfl rfl rfl rfl rfl ?_ | refine YF (c11 ..) rfl rfl rfl rfl rfl ?_ | refine YF (c12 ..) rfl rfl rfl rfl rfl ?_ | refine YF (c13 ..) rfl rfl rfl rfl rfl ?_ | refine YF (c14 ..) rfl rfl rfl rfl rfl ?_ | refine YF (c15 ..) rfl rfl rfl rfl rfl ?_ | refine YF (c16 ..) rfl rfl rfl rfl rfl ?_ | (refine YFz (z1 ..) rfl rfl rfl rfl rfl ?_ ?_;(first | (simp [Jl,Cq,C4,A5,A6,A4];done) | (repeat' (first | rfl | trivial | refine ⟨rfl,rfl,by simp [A4]⟩ | refine ⟨_,_,rfl,?_,?_⟩ | refine ⟨_,rfl,?_⟩)))) | (refine YFz (z2 ..) rfl rfl rfl rfl rfl ?_ ?_;(first | (simp [Jl,Cq,C4,A5,A6,A4];done) | (repeat' (first | rfl | trivial | refine ⟨rfl,rfl,by simp [A4]⟩ | refine ⟨_,_,rfl,?_,?_⟩ | refine ⟨_,rfl,?_⟩)))) | (refine YFz (z3 ..) rfl rfl rfl rfl rfl ?_ ?_;(first | (simp [Jl,Cq,C4,A5,A6,A4];done) | (repeat' (first | rfl | trivial | refine ⟨rfl,rfl,by simp [A4]⟩ | refine ⟨_,_,rfl,?_,?_⟩ | refine ⟨_,rfl,?_⟩)))) | (refine Wc (d1 ..) rfl rfl rfl rfl ?_ rfl rfl rfl rfl ?_;(first | exact trivial | exact ⟨rfl,trivial⟩ | exact ⟨rfl,rfl,trivial⟩ | exact ⟨rfl,rfl,rfl,trivial⟩ | exact ⟨rfl,rfl,rfl,rfl,trivial⟩ | exact ⟨rfl,rfl,rfl,rfl,rfl,trivial⟩)) | (refine Wc (d2 ..) rfl rfl rfl rfl ?_ rfl rfl rfl rfl ?_;(first | exact trivial | exact ⟨rfl,trivial⟩ | exact ⟨rfl,rfl,trivial⟩ | exact ⟨rfl,rfl,rfl,trivial⟩ | exact ⟨rfl,rfl,rfl,rfl,trivial⟩ | exact ⟨rfl,rfl,rfl,rfl,rfl,trivial⟩)) | (refine Wc (d3 ..) rfl rfl rfl rfl ?_ rfl rfl rfl rfl ?_;(first | exact trivial | exact ⟨rfl,trivial⟩ | exact ⟨rfl,rfl,trivial⟩ | exact ⟨rfl,rfl,rfl,trivial⟩ | exact ⟨rfl,rfl,rfl,rfl,trivial⟩ | exact ⟨rfl,rfl,rfl,rfl,rfl,trivial⟩)) | (refine Wc (d4 ..) rfl rfl rfl rfl ?_ rfl rfl rfl rfl ?_;(first | exact trivial | exact ⟨rfl,trivial⟩ | exact ⟨rfl,rfl,trivial⟩ | exact ⟨rfl,rfl,rfl,trivial⟩ | exact ⟨rfl,rfl,rfl,rfl,trivial⟩ | exact ⟨rfl,rfl,rfl,rfl,rfl,trivial⟩)) | (refine Wc (d5 ..) rfl rfl rfl rfl ?_ rfl rfl rfl rfl ?_;(first | exact trivial | exact ⟨rfl,trivial⟩ | exact ⟨rfl,rfl,trivial⟩ | exact ⟨rfl,rfl,rfl,trivial⟩ | exact ⟨rfl,rfl,rfl,rfl,trivial⟩ | exact ⟨rfl,rfl,rfl,rfl,rfl,trivial⟩)) | (refine Wc (d6 ..) rfl rfl rfl rfl ?_ rfl rfl rfl rfl ?_;(first | exact trivial | exact ⟨rfl,trivial⟩ | exact ⟨rfl,rfl,trivial⟩ | exact ⟨rfl,rfl,rfl,trivial⟩ | exact ⟨rfl,rfl,rfl,rfl,trivial⟩ | exact ⟨rfl,rfl,rfl,rfl,rfl,trivial⟩)) | (refine Wc (d7 ..) rfl rfl rfl rfl ?_ rfl rfl rfl rfl ?_;(first | exact trivial | exact ⟨rfl,trivial⟩ | exact ⟨rfl,rfl,trivial⟩ | exact ⟨rfl,rfl,rfl,trivial⟩ | exact ⟨rfl,rfl,rfl,rfl,trivial⟩ | exact ⟨rfl,rfl,rfl,rfl,rfl,trivial⟩)) | (refine Wc (d8 ..) rfl rfl rfl rfl ?_ rfl rfl rfl rfl ?_;(first | exact trivial | exact ⟨rfl,trivial⟩ | exact ⟨rfl,rfl,trivial⟩ | exact ⟨rfl,rfl,rfl,trivial⟩ | exact ⟨rfl,rfl,rfl,rfl,trivial⟩ | exact ⟨rfl,rfl,rfl,rfl,rfl,trivial⟩)) | (refine Wc (d9 ..) rfl rfl rfl rfl ?_ rfl rfl rfl rfl ?_;(first | exact trivial | exact ⟨rfl,trivial⟩ | exact ⟨rfl,rfl,trivial⟩ | exact ⟨rfl,rfl,rfl,trivial⟩ | exact ⟨rfl,rfl,rfl,rfl,trivial⟩ | exact ⟨rfl,rfl,rfl,rfl,rfl,trivial⟩)) | (refine Wc (d10 ..) rfl rfl rfl rfl ?_ rfl rfl rfl rfl ?_;(first | exact trivial | exact ⟨rfl,trivial⟩ | exact ⟨rfl,rfl,trivial⟩ | exact ⟨rfl,rfl,rfl,trivial⟩ | exact ⟨rfl,rfl,rfl,rfl,trivial⟩ | exact ⟨rfl,rfl,rfl,rfl,rfl,trivial⟩))) | (refine Sv 4 rfl ?_;((first | refine Ve ow AB rfl rfl rfl rfl rfl rfl rfl ?_ ?_ | refine Ya AB rfl rfl rfl rfl rfl rfl ?_ ?_ | refine Yp AB rfl rfl (fun _ => rfl) rfl rfl ?_ ?_ | refine Yq rfl rfl rfl rfl rfl ?_ ?_);rotate_left;focus ((repeat' (first | with_reducible rfl | ((with_reducible refine GC ?_);first | kernel_rfl | rfl | (simp [Ci,Do,nS];done)) | with_reducible refine G5 ?_ ?_ | with_reducible exact Nat.beq_refl _ | with_reducible exact BP _ | ((with_reducible refine decide_eq_true ?_);first | omega | (simp only [Dh,nS];omega)) | decide | (simp [Dh,slc,BC,D.one,Bt,AV.one,nS];done) | (simp [Dh,nS];omega)));done))) | (refine Sv 5 rfl ?_;((first | refine Yw AB rfl rfl rfl rfl rfl ?_ ?_ | refine ZF sb AB rfl rfl rfl rfl rfl ?_ ?_);rotate_left;focus ((repeat' (first | with_reducible rfl | ((with_reducible refine GC ?_);first | kernel_rfl | rfl | (simp [Ci,Do,nS];done)) | with_reducible refine G5 ?_ ?_ | with_reducible exact Nat.beq_refl _ | with_reducible exact BP _ | ((with_reducible refine decide_eq_true ?_);first | omega | (simp only [Dh,nS];omega)) | decide | (simp [Dh,slc,BC,D.one,Bt,AV.one,nS];done) | (simp [Dh,nS];omega)));done))) | (refine Sv 6 rfl ?_;((first | refine Ve ow AB rfl rfl rfl rfl rfl rfl rfl ?_ ?_ | refine Yp AB rfl rfl (fun _ => rfl) rfl rfl ?_ ?_ | refine Yq rfl rfl rfl rfl rfl ?_ ?_ | refine Yw AB rfl rfl rfl rfl rfl ?_ ?_ | refine ZF sb AB rfl rfl rfl rfl rfl ?_ ?_ | refine Ya AB rfl rfl rfl rfl rfl rfl ?_ ?_);rotate_left;focus ((repeat' (first | with_reducible rfl | ((with_reducible refine GC ?_);first | kernel_rfl | rfl | (simp [Ci,Do,nS];done)) | with_reducible refine G5 ?_ ?_ | with_reducible exact Nat.beq_refl _ | with_reducible exact BP _ | ((with_reducible refine decide_eq_true ?_);first | omega | (simp only [Dh,nS];omega)) | decide | (simp [Dh,slc,BC,D.one,Bt,AV.one,nS];done) | (simp [Dh,nS];omega)));done))) | (refine' YO ns rfl rfl r (fun hc s => ?_) (fun hc s => ?_);(all_goals (first | guard_target = Prop | (clear r;have r:=s;clear s;(fail_if_success (with_reducible first | exact tF hc | exact fT hc));(try simp only [A3] at hc);(try (exfalso;omega)))))) | (refine' sdR r (fun hs s => ?_);rotate_left 2;clear r;have r:=s;clear s;first | refine Ve ow AB rfl rfl rfl rfl rfl rfl rfl ?_ hs | refine Ya AB rfl rfl rfl rfl rfl rfl ?_ hs | refine Yp AB rfl rfl (fun _ => rfl) rfl rfl ?_ hs | refine Yq rfl rfl rfl rfl rfl ?_ hs | refine Yw AB rfl rfl rfl rfl rfl ?_ hs | refine ZF sb AB rfl rfl rfl rfl rfl ?_ hs)) | ((with_reducible refine gW ?_);first | with_reducible refine JU ?_ | ((with_reducible refine bI ?_);refine Gx st rfl ?_) | ((with_reducible refine gAny ?_);refine Vy st T.get rfl ?_) | ((with_reducible refine YZ ?_);first | refine E6 rfl ?_ | refine E7 rfl ?_ | (refine' Jr nc rfl r (fun hc s => ?_) (fun hc s => ?_);(all_goals (first | guard_target = Prop | (clear r;have r:=s;clear s;(try simp only [A3] at hc);(try (exfalso;omega))))))) | with_reducible refine Gl ?_ | with_reducible refine JY ?_ | with_reducible refine Ez ?_ | with_reducible refine GJ ?_ | with_reducible refine NI ?_ | with_reducible refine K1 ?_ | with_reducible refine Ie un ?_ | with_reducible refine ID sc ?_) | (with_reducible first | refine qT ?_ | refine qTr ?_ | refine qTe ?_ | refine qTg ?_ | refine qTp ?_ | refine qBn ?_ | refine qBr ?_ | refine qBg ?_ | refine qBp ?_ | refine qSn ?_ | refine qSr ?_ | refine qSe ?_ | exact lQ r | exact lI r | exact lY r) | refine qSg rfl ?_ | (first | refine JU ?_ | refine Gx st rfl ?_ | refine Vy st T.get rfl ?_ | refine E6 rfl ?_ | refine E7 rfl ?_ | refine Gl ?_ | refine JY ?_ | refine Ez ?_ | refine GJ ?_ | refine NI ?_ | refine K1 ?_ | refine Ie un ?_ | refine ID sc ?_ | (refine' Jr nc rfl r (fun hc s => ?_) (fun hc s => ?_);(all_goals (first | guard_target = Prop | (clear r;have r:=s;clear s;(try simp only [A3] at hc);(try (exfalso;omega))))))) | exact r.x));all_goals exact True) : g:=h trivial trivial trivial trivial trivial a b ⟨r⟩
end Go.Gar
namespace Go.Gar
def rmX : List (Nat × AV) → Nat → Option (List (Nat × AV))
 | [],_ => some []
 | (u,y) :: r,t => match rmX r t with
  | some l => match Nat.beq u t with
   | true => some l
   | false => some ((u,y) :: l)
  | none => none
def upX : List (Nat × AV) → Nat → AV → Option (List (Nat × AV))
 | [],t,x => some [(t,x)]
 | (u,y) :: r,t,x => match Nat.beq u t with
  | true => match rmX r t with
   | some l => some ((u,x) :: l)
   | none => none
  | false => match upX r t x with
   | some l => some ((u,y) :: l)
   | none => none
def ZH : List (Nat × AV) → List (Nat × AV) → Option (List (Nat × AV))
 | e,[] => some e
 | e,(t,x) :: r => match upX e t x with
  | some l => ZH l r
  | none => none
theorem B1 {P : Program} {ro : Option Nat} {Q : Exit → St → Prop} {en : List (Nat × AV)} {hp : List AC} {nt : Nat} {α : Type} {c : Code} (I : α → Prop) (vs : α → List (Nat × AV)) (μ : α → Nat) (x0 : α) (h0 : I x0) {e : α → List (Nat × AV)} (_ : ∀ x,ZH en (vs x) = some (e x))
  (t : A2 ⟨en,hp,nt⟩ ⟨e x0,hp,nt⟩) (body : ∀ x,I x → W P ro c ⟨e x,hp,nt⟩ (bW I (fun x => ⟨e x,hp,nt⟩) (fun y => μ y < μ x) hp.length Q)) : W P ro (.loop c) ⟨en,hp,nt⟩ Q :=
 BF I (fun x => ⟨e x,hp,nt⟩) μ x0 h0 t (Nat.le_refl _) body
def M8 : List AC → Nat → AC → Option (List AC)
 | [],_,_ => none
 | _ :: r,0,x => some (x :: r)
 | b :: r,n + 1,x => match M8 r n x with
  | some l => some (b :: l)
  | none => none
def LH : List AC → List (Nat × AC) → Option (List AC)
 | h,[] => some h
 | h,(i,x) :: r => match M8 h i x with
  | some l => LH l r
  | none => none
theorem Ls : ∀ {h : List AC} {i : Nat} {x : AC} {l : List AC},M8 h i x = some l → l.length = h.length
 | [],_,_,_,e => by simp [M8] at e
 | _ :: _,0,_,_,e => by simp only [M8,Option.some.injEq] at e;subst e;rfl
 | b :: r,n + 1,x,l,e => by
  simp only [M8] at e
  split at e
  ·rename_i q hq;simp only [Option.some.injEq] at e;subst e;simp [Ls hq]
  ·cases e
theorem Kb : ∀ {c : List (Nat × AC)} {h l : List AC},LH h c = some l → l.length = h.length
 | [],h,l,e => by simp only [LH,Option.some.injEq] at e;subst e;rfl
 | (i,x) :: r,h,l,e => by
  simp only [LH] at e
  split at e
  ·rename_i q hq;rw [Kb e,Ls hq]
  ·cases e
theorem C6 {P : Program} {ro : Option Nat} {Q : Exit → St → Prop} {en : List (Nat × AV)} {hp : List AC} {nt : Nat} {α : Type} {c : Code} (I : α → Prop) (vs : α → List (Nat × AV)) (hs : α → List (Nat × AC)) (μ : α → Nat) (x0 : α) (h0 : I x0) {e : α → List (Nat × AV)} {h : α → List AC} (_ : ∀ x,ZH en (vs x) = some (e x)) (hh : ∀ x,LH hp (hs x) = some (h x))
  (t : A2 ⟨en,hp,nt⟩ ⟨e x0,h x0,nt⟩) (body : ∀ x,I x → W P ro c ⟨e x,h x,nt⟩ (bW I (fun x => ⟨e x,h x,nt⟩) (fun y => μ y < μ x) (h x).length Q)) : W P ro (.loop c) ⟨en,hp,nt⟩ Q :=
 BF I (fun x => ⟨e x,h x,nt⟩) μ x0 h0 t (by show hp.length ≤ (h x0).length;rw [Kb (hh x0)];exact Nat.le_refl _) body
def EE (n : Nat) (p : Nat → Bool) : Bool:=(List.range n).all p
theorem KL {n : Nat} {p : Nat → Bool} : EE n p = true ↔ ∀ k,k < n → p k = true:=by simp [EE]
theorem Er {n : Nat} {p : Nat → Bool} {k : Nat} (hk : k < n) (h : p k = false) : EE n p = false:=by
 cases e : EE n p with
 | false => rfl
 | true => rw [KL.1 e k hk] at h;cases h
theorem DD {n : Nat} {p : Nat → Bool} (h : EE n p = true) (k : p n = true) : EE (n + 1) p = true:=by
 rw [KL] at h ⊢
 intro j hj
 by_cases e : j = n
 ·subst e;exact k
 ·exact h j (by omega)
theorem A2.ck {S S' : St} (hn : S'.n = S.n) (he : KX S'.env S.env:=by repeat' (first | exact True.intro | refine And.intro (by (first | rfl | ((with_reducible_and_instances refine congrArg (fun z => some (AV.d (D.i _ z))) ?_);omega) | (refine congrArg (fun z => some (AV.d (D.i _ z))) (?_ : (_ : Int) = _);omega) | (refine congrArg some ?_;simp;done))) ?_))
  (hH : C2 S'.H S.H:=by repeat' (first | exact True.intro | refine And.intro (Or.inr rfl) ?_ | refine And.intro (Or.inl ⟨rfl,rfl⟩) ?_ | refine And.intro (Or.inr (by simp)) ?_))
  (ho : Ae S'.H.length S'.H = true:=by first | rfl | (simp (decide:=true) [Ae,AC.ok,AV.oks,AV.ok];done) | (simp (decide:=true) [Ae,AC.ok,AV.oks,AV.ok,hk];done)) (heo : Dl S'.H.length S'.env = true:=by rfl) : A2 S S':=A2.cut hn he hH ho heo
theorem AE : (∀ (H : List AC) (xs : List AV) (l : List D),C4 H (.tup xs) (.tup l) ↔ Cq H xs l) ∧ (∀ (H : List AC) (xs : List AV) (l : List D),C4 H (.ag xs) (.agg l) ↔ Cq H xs l) ∧
  (∀ (H : List AC) (x : AV) (xs : List AV) (y : D) (l : List D),Cq H (x :: xs) (y :: l) ↔ C4 H x y ∧ Cq H xs l) ∧ (∀ H : List AC,Cq H [] [] ↔ True) ∧ (∀ (H : List AC) (x y : D),C4 H (.d x) y ↔ y = x) ∧
  (∀ (H : List AC) (y : D),C4 H .e0 y ↔ A5 y = true ∧ A6 y = 0 ∧ A4 y) ∧ (∀ (H : List AC) (i n sz : Nat) (y : D),C4 H (.sl i n sz) y ↔ H[i]? = some (.a y) ∧ n = A6 y) :=
 ⟨fun _ _ _ => Ir,fun _ _ _ => LJ,fun _ _ _ _ _ => Dq,fun _ => Ea,fun _ _ _ => C0,fun _ _ => Nf,fun _ _ _ _ _ => Q5⟩
end Go.Gar
namespace Go.Gar
def Ul (E : Nat → Option Ax) (env : List (Nat × AV)) (op : Op) : Option (Bool × (Nat → AV) × AC) :=
 match op with
 | .buildSlice t len ps => match IT E (D5 env) t len ps.toList with
  | some (z,cs) => some (decide (len * z.size ≤ 16777216),fun id => .bs id 0 len z.size cs.length,.c cs)
  | none => none
 | _ => none
theorem Xh {P : Program} {E : Nat → Option Ax} (hE : Bf P E) {S : St} {o : Oper} {f : Nat → AV} {b : AC} {c : Bool} (h : Ul E S.env o.op = some (c,f,b)) (hc : c = true) : Dg P o S (f S.H.length) (S.H ++ [b]):=by
 subst hc
 obtain ⟨dst,op,ty,pos,after,guard⟩:=o
 simp only at h
 cases op <;> simp only [Ul] at h <;> try (cases h;done)
 case buildSlice t len ps =>
  split at h
  ·rename_i z cs hcs
   simp only [Option.some.injEq,Prod.mk.injEq,decide_eq_true_eq] at h
   obtain ⟨hsz,rfl,rfl⟩:=h
   exact .Cb (f:=fun a => Instr.buildSlice t len (PU a.eval ps)) (fun a => F1 rfl a.eval) fun ro N G a w r => by
    have:=N5 hE r.rel (fun o x hx => Aa r.rel.st r.env hx) hcs hsz
    rw [r.heap] at this;exact this
  ·cases h
theorem NX {E : Nat → Option Ax} {env : List (Nat × AV)} {o : Oper} {x : Bool × (Nat → AV) × AC} (h : Ul E env o.op = some x) : ∀ c,o.op ≠ .defer c:=by
 intro c hc;rw [hc] at h;simp [Ul] at h
section
variable {P : Program} {ro : Option Nat} {ops : Array Oper} {i : Nat} {rest : List Oper} {en : List (Nat × AV)} {hp : List AC} {nt : Nat} {Q : Exit → St → Prop} {o : Oper} {E : Nat → Option Ax}
theorem Xbs (hE : Bf P E) {f : Nat → AV} {b : AC} {c : Bool} {x' : AV} {e : List (Nat × AV)} {H' : List AC} (hg : AH ops en o = some true) (h : Ul E en o.op = some (c,f,b)) (hd : Ac o.dst nt = true) (he : Ay o.dst x' en = some e) (hH : Ef hp b = some H') (hx : f hp.length = x')
  (k : Wl P ro ops (i + 1) rest ⟨e,H',nt⟩ Q) (hc : c = true) : Wl P ro ops i (o :: rest) ⟨en,hp,nt⟩ Q:=by
 subst hx
 rw [Ai he,Fe hH] at k
 exact JR (S:=⟨en,hp,nt⟩) hg (Xh (S:=⟨en,hp,nt⟩) hE h hc) (NX h) hd k
end
end Go.Gar
