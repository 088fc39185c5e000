/- The frame of these proofs, part B: a triple over the model's code with an abstract state (plain data, a small abstract heap), its rules, and the way from a given row to it.
Conditions: none; what each theorem asks stands in its own hypotheses. -/
import Derived.Test.YtbpemnmpcljbpaaGreatFwA
import Derived.KernelRfl
import Derived.RangeFuncIn
set_option linter.unusedSimpArgs false
set_option linter.unusedVariables false
set_option linter.unnecessarySimpa false
/- The frame, part 13: the operations together; walking a region in the order of the text. -/
namespace Go.Gar

def tt (x : Option AV) : Option (Bool × AV) :=
  match x with
  | some y => some (true, y)
  | none => none
def opds (env : List (Nat × AV)) : List Operand → Option (List AV)
  | [] => some []
  | o :: r => match opd env o, opds env r with
    | some x, some l => some (x :: l)
    | _, _ => none
def opdO (env : List (Nat × AV)) : Option Operand → Option (Option AV)
  | none => none
  | some o => some (opd env o)
def ty0 (l : Array TypeId) (i : Nat) : Nat :=
  match l.toList[i]? with
  | some t => t
  | none => 0

/-- A built-in function that changes no block. -/
def evBi (E : Nat → Option TyI) (H : List Blk) (b : Builtin) (ts : List TypeId) (xs : List AV) : Option (Bool × AV) :=
  match b, ts, xs with
  | .len, [t], [x] => evLen E H t x
  | .min, _, [.d (.i k a), .d (.i _ b)] => some (true, .d (.i k (if b < a then b else a)))
  | .max, _, [.d (.i k a), .d (.i _ b)] => some (true, .d (.i k (if a < b then b else a)))
  | .append, [t, u], [.e0, x] => match evApp0 E H t u x with
    | some (c, q) => some (c, .d q)
    | none => none
  | _, _, _ => none

/-- An operation that changes no block of the abstract heap. -/
def evQ (E : Nat → Option TyI) (env : List (Nat × AV)) (H : List Blk) (op : Op) : Option (Bool × AV) :=
  match op with
  | .move x | .assign x => tt (opd env x)
  | .pick c a b => match opd env c with
    | some (.d (.b t)) => match t with
      | true => tt (opd env a)
      | false => tt (opd env b)
    | _ => none
  | .load t a => match opd env a with
    | some x => evLoad E H t x
    | none => none
  | .nilCheck a => match opd env a with
    | some x => evNil H x
    | none => none
  | .binOp op t a b _ => match opd env a, opd env b with
    | some x, some y => match x, y with
      | .d p, .d q => match binD op p q with
        | some (c, r) => some (c, .d r)
        | none => match op with
          | .eql => match evEqC E H t x y with
            | some (c, r) => some (c, .d (.b r))
            | none => none
          | .neq => match evEqC E H t x y with
            | some (c, r) => some (c, .d (.b (!r)))
            | none => none
          | _ => none
      | x, y => match op with
        | .eql => match evEqC E H t x y with
          | some (c, r) => some (c, .d (.b r))
          | none => none
        | .neq => match evEqC E H t x y with
          | some (c, r) => some (c, .d (.b (!r)))
          | none => none
        | _ => none
    | _, _ => none
  | .unOp op _ a => match opd env a with
    | some (.d p) => match unD op p with
      | some (c, r) => some (c, .d r)
      | none => none
    | _ => none
  | .convert s d a => match opd env a with
    | some x => evConv E H s d x
    | none => none
  | .slice t a lo hi mx => match opd env a with
    | some x => evSlice E t x (opdO env lo) (opdO env hi) (opdO env mx)
    | none => none
  | .fieldAddr s a f => match opd env a with
    | some x => evFieldAddr E H s x f
    | none => none
  | .field t a f => match opd env a with
    | some x => evField E t x f
    | none => none
  | .indexAddr t a i => match opd env a, opd env i with
    | some x, some y => evIndexAddr E H t x y
    | _, _ => none
  | .index t a i => match opd env a, opd env i with
    | some x, some y => evIndex E t x y
    | _, _ => none
  | .build t ps => evBuild E (opd env) t ps.toList
  | .buildSlice t len ps => match evBSlice E (opd env) t len ps.toList with
    | some (c, q) => match len with
      | 0 => some (c, .e0)
      | _ + 1 => some (c, .d q)
    | none => none
  | .makeFunc f first cap => match opds env first.toList, opds env cap.toList with
    | some a, some b => some (true, .fn f a b)
    | _, _ => none
  | .extract a i => match opd env a with
    | some x => evExtract x i
    | none => none
  | .lookup t m k ok => match opd env m, opd env k with
    | some x, some y => evLook E H t x y ok
    | _, _ => none
  | .makeInterface t a => match opd env a with
    | some x => evIfc E t x
    | none => none
  | .typeAssert a _ asserted ok => match opd env a with
    | some x => evAssert E x asserted ok
    | none => none
  | .call c => match c.callee with
    | .builtin b => match opds env c.args.toList with
      | some xs => evBi E H b c.argTypes.toList xs
      | none => none
    | _ => none
  | _ => none

theorem opds_ok {G : Gh} {a : Act} {env : List (Nat × AV)} (h : EnvR G env a.tmps) : ∀ {l : List Operand} {xs : List AV}, opds env l = some xs → RVs G xs (l.map a.eval)
  | [], xs, e => by simp [opds] at e; subst e; simp [RVs]
  | o :: l, xs, e => by
    simp only [opds] at e
    split at e
    · rename_i x q h1 h2
      cases e
      simp only [List.map_cons, RVs]
      exact ⟨_, _, rfl, opd_ok h h1, opds_ok h h2⟩
    · cases e
theorem opdO_ok {G : Gh} {a : Act} {env : List (Nat × AV)} (h : EnvR G env a.tmps) (o : Option Operand) : BdOK G (opdO env o) (o.map a.eval) := by
  cases o with
  | none => simp [opdO, BdOK]
  | some o =>
    simp only [opdO, Option.map_some]
    cases hx : opd env o with
    | none => simp [BdOK]
    | some x => exact opd_ok h hx

/-- An operation whose run is that of a value. -/
theorem OpOK.of_yields {P : Program} {o : Oper} {S : St} {y : AV} {f : Act → Sem Value} (ho : ∀ a : Act, execOp a.eval o = (do pure (.value (← f a)))) (h : ∀ ro N G a w, Rel ro N S G a w → Yields P G w (f a) y) : OpOK P o S y S.H := by
  intro ro N G a w r
  obtain ⟨u, w', G', h1, h2, h3, h4, h5⟩ := h ro N G a w r
  refine ⟨.value u, w', G', ?_, .inr ⟨u, rfl, h2⟩, h3.trans r.heap, h4, h5⟩
  rw [ho]
  simp [h1]
theorem OpOK.of_yieldsB {P : Program} {o : Oper} {S : St} {y : AV} {H' : List Blk} {f : Act → Sem Value} (ho : ∀ a : Act, execOp a.eval o = (do pure (.value (← f a)))) (h : ∀ ro N G a w, Rel ro N S G a w → YieldsB P G w (f a) y H') : OpOK P o S y H' := by
  intro ro N G a w r
  obtain ⟨u, w', G', h1, h2, h3, h4, h5⟩ := h ro N G a w r
  refine ⟨.value u, w', G', ?_, .inr ⟨u, rfl, h2⟩, h3, h4, h5⟩
  rw [ho]
  simp [h1]
theorem OpOK.of_run {P : Program} {o : Oper} {S : St} {y : AV} {f : Act → Sem Value} (ho : ∀ a : Act, execOp a.eval o = (do pure (.value (← f a)))) (h : ∀ ro N G a w, Rel ro N S G a w → ∃ u, (f a).run P w = .ok u w ∧ RV G y u) : OpOK P o S y S.H :=
  .of_yields ho fun ro N G a w r => let ⟨u, h1, h2⟩ := h ro N G a w r; Yields.still r.rel h1 h2

theorem eqGuard_run {P : Program} {op : BinOp} {t : Nat} {x y : Operand} {v u : Value} {w : World} (h : (∀ a, v ≠ .agg a) ∧ v ≠ .nilIface ∨ (op ≠ .eql ∧ op ≠ .neq)) : (eqGuard op t x y v u).run P w = .ok () w := by
  unfold eqGuard
  rcases h with ⟨h1, h2⟩ | ⟨h1, h2⟩
  · cases op <;> first
      | (simp; done)
      | (simp only [Sem.run_bind]; cases v <;> first | exact absurd rfl (h1 _) | exact absurd rfl h2 | simp)
  · cases op <;> simp_all

theorem eqGuard_agg {P : Program} {op : BinOp} {t : Nat} {x y : Operand} {a b : Array Value} {w : World} (h : P.eqGuardType P.depth t = false) : (eqGuard op t x y (.agg a) (.agg b)).run P w = .ok () w := by
  unfold eqGuard
  cases op <;> simp [h]
theorem RD_noagg {m : Mem} {p : D} {v : Value} (hp : (∃ k n, p = .i k n) ∨ (∃ s, p = .s s)) (h : RD m p v) : (∀ a, v ≠ .agg a) ∧ v ≠ .nilIface := by
  rcases hp with ⟨k, n, rfl⟩ | ⟨s, rfl⟩ <;> simp only [RD] at h <;> subst h <;> simp

theorem binD_shape {op : BinOp} {p q : D} {c : Bool} {r : D} (h : binD op p q = some (c, r)) : (∃ k n, p = .i k n) ∨ (∃ s, p = .s s) := by
  unfold binD at h
  split at h
  · exact .inl ⟨_, _, rfl⟩
  · exact .inr ⟨_, rfl⟩
  · cases h

theorem exec_bslice {o : Oper} {t len : Nat} {ps : Array (Nat × Operand)} (ho : o.op = .buildSlice t len ps) (ρ : Operand → Value) : execOp ρ o = (do pure (.value (← Instr.buildSlice t len (ps.map fun (i, x) => (i, ρ x))))) := by
  unfold execOp
  simp only [ho]
theorem exec_build {o : Oper} {t : Nat} {ps : Array (Nat × Operand)} (ho : o.op = .build t ps) (ρ : Operand → Value) : execOp ρ o = (do pure (.value (← Instr.build t (ps.map fun (i, x) => (i, ρ x))))) := by
  unfold execOp
  simp only [ho]

theorem list_arr {α : Type} {a : Array α} {l : List α} (h : a.toList = l) : a = l.toArray := by rw [← h]

theorem run_bi {P : Program} {b : Builtin} {c : Call} (hc : c.callee = .builtin b) {o : Oper} (ho : o.op = .call c) (a : Act) : execOp a.eval o = builtin b c.argTypes o.type (c.args.map fun | .const _ => true | _ => false) (c.args.map a.eval) := by
  unfold execOp
  simp only [ho, resolve, hc]
  rfl

theorem evBi_ok {P : Program} {E : Nat → Option TyI} (hE : EOK P E) {S : St} {o : Oper} {cl : Call} (ho : o.op = .call cl) {b : Builtin} (hb : cl.callee = .builtin b) {xs : List AV} (hxs : opds S.env cl.args.toList = some xs) {x : AV} {c : Bool}
    (h : evBi E S.H b cl.argTypes.toList xs = some (c, x)) (hc : c = true) : OpOK P o S x S.H := by
  subst hc
  unfold evBi at h
  split at h
  · rename_i t x' ht
    have hty := list_arr ht
    refine .of_run (f := fun a => Builtin.len_ cl.argTypes o.type (cl.args.map a.eval)) (fun a => by rw [run_bi (P := P) hb ho]; rfl) fun ro N G a w r => ?_
    have := opds_ok r.env hxs
    simp only [RVs] at this
    obtain ⟨v, q, e, h1, rfl⟩ := this
    have e2 : cl.args.map a.eval = #[v] := list_arr (by simpa using e)
    obtain ⟨u, hu, hr⟩ := evLen_ok (ty := o.type) hE (w := w) (by rw [r.heap]; exact h) rfl h1
    exact ⟨u, by rw [e2, hty]; exact hu, hr⟩
  · rename_i k p k' q
    cases h
    refine .of_run (f := fun a => Builtin.min_ cl.argTypes o.type (cl.args.map a.eval)) (fun a => by rw [run_bi (P := P) hb ho]; rfl) fun ro N G a w r => ?_
    have := opds_ok r.env hxs
    simp only [RVs, RV, RD] at this
    obtain ⟨v, l, e, h1, v', l', e', h2, h3⟩ := this
    subst h1; subst e'; subst h2; subst h3
    have e2 : cl.args.map a.eval = #[.int k p, .int k' q] := list_arr (by simpa using e)
    refine ⟨.int k (if q < p then q else p), ?_, by simp [RV, RD]⟩
    rw [e2]
    simp [Builtin.min_, Builtin.min2]
  · rename_i k p k' q
    cases h
    refine .of_run (f := fun a => Builtin.max_ cl.argTypes o.type (cl.args.map a.eval)) (fun a => by rw [run_bi (P := P) hb ho]; rfl) fun ro N G a w r => ?_
    have := opds_ok r.env hxs
    simp only [RVs, RV, RD] at this
    obtain ⟨v, l, e, h1, v', l', e', h2, h3⟩ := this
    subst h1; subst e'; subst h2; subst h3
    have e2 : cl.args.map a.eval = #[.int k p, .int k' q] := list_arr (by simpa using e)
    refine ⟨.int k (if p < q then q else p), ?_, by simp [RV, RD]⟩
    rw [e2]
    simp [Builtin.max_, Builtin.max2]
  · rename_i t u x' ht
    have hty := list_arr ht
    split at h
    · rename_i c' q hq
      simp only [Option.some.injEq, Prod.mk.injEq] at h
      obtain ⟨hc, rfl⟩ := h
      refine .of_yields (f := fun a => Builtin.append_ cl.argTypes o.type (cl.args.map a.eval)) (fun a => by rw [run_bi (P := P) hb ho]; rfl) fun ro N G a w r => ?_
      have := opds_ok r.env hxs
      simp only [RVs] at this
      obtain ⟨v, l, e, h1, v', l', e', h2, h3⟩ := this
      subst e'; subst h3
      have e2 : cl.args.map a.eval = #[v, v'] := list_arr (by simpa using e)
      have hy := app0_data (ty := o.type) hE r.rel (by rw [r.heap]; exact hq) hc h1 h2
      obtain ⟨u, w', G', y1, y2⟩ := hy
      exact ⟨u, w', G', by rw [e2, hty]; exact y1, y2⟩
    · cases h
  · cases h

set_option maxHeartbeats 400000 in
theorem evQ_ok {P : Program} {E : Nat → Option TyI} (hE : EOK P E) {S : St} {o : Oper} {x : AV} {c : Bool} (h : evQ E S.env S.H o.op = some (c, x)) (hc : c = true) : OpOK P o S x S.H := by
  subst hc
  obtain ⟨dst, op, ty, pos, after, guard⟩ := o
  simp only at h
  have ttok : ∀ {p : Operand}, tt (opd S.env p) = some (true, x) → opd S.env p = some x := by
    intro p hp
    unfold tt at hp
    split at hp
    · rename_i y hy; cases hp; exact hy
    · cases hp
  cases op <;> simp only [evQ] at h <;> try (cases h; done)
  case move p =>
    exact .still fun ro N G a w r => ⟨_, by simp [execOp], opd_ok r.env (ttok h)⟩
  case assign p =>
    exact .still fun ro N G a w r => ⟨_, by simp [execOp], opd_ok r.env (ttok h)⟩
  case pick p q s =>
    split at h
    · rename_i t ht
      split at h
      · refine .still fun ro N G a w r => ⟨a.eval q, ?_, opd_ok r.env (ttok h)⟩
        have := opd_ok r.env ht
        simp only [RV, RD] at this
        simp [execOp, this, asBool]
      · refine .still fun ro N G a w r => ⟨a.eval s, ?_, opd_ok r.env (ttok h)⟩
        have := opd_ok r.env ht
        simp only [RV, RD] at this
        simp [execOp, this, asBool]
    · cases h
  case load t p =>
    split at h
    · rename_i y hy
      exact .of_run (f := fun a => Instr.loadAt t (a.eval p)) (fun _ => rfl) fun ro N G a w r => evLoad_ok hE r.rel (by rw [r.heap]; exact h) rfl (opd_ok r.env hy)
    · cases h
  case nilCheck p =>
    split at h
    · rename_i y hy
      exact .still fun ro N G a w r => evNil_ok (by rw [r.heap]; exact h) rfl (p := p) rfl (opd_ok r.env hy)
    · cases h
  case binOp op t p q yt =>
    have eqcase : ∀ {y z : AV} {rr : Bool}, opd S.env p = some y → opd S.env q = some z → evEqC E S.H t y z = some (true, rr) → (op = .eql ∧ x = .d (.b rr) ∨ op = .neq ∧ x = .d (.b (!rr))) → OpOK P ⟨dst, .binOp op t p q yt, ty, pos, after, guard⟩ S x S.H := by
      intro y z rr hy hz he hop
      refine .of_run (f := fun a => do eqGuard op t p q (a.eval p) (a.eval q); binOp op t (a.eval p) (a.eval q)) (fun _ => rfl) fun ro N G a w r => ?_
      obtain ⟨g1, g2, g3, g4, g5, g6⟩ := evEqC_ok hE (w := w) (by rw [r.heap]; exact he) rfl (opd_ok r.env hy) (opd_ok r.env hz)
      have hg : (eqGuard op t p q (a.eval p) (a.eval q)).run P w = .ok () w := by
        rcases g6 with g6 | ⟨va, ua, e1, e2, e3⟩
        · exact eqGuard_run (P := P) (op := op) (t := t) (x := p) (y := q) (v := a.eval p) (u := a.eval q) (w := w) (.inl g6)
        · rw [e1, e2]; exact eqGuard_agg e3
      have hb : ∀ op', (op' = .eql ∨ op' = .neq) → binOp op' t (a.eval p) (a.eval q) = (match op' with | .eql => do pure (.bool (← Op.equal t (a.eval p) (a.eval q))) | _ => do pure (.bool (!(← Op.equal t (a.eval p) (a.eval q))))) := by
        intro op' ho
        generalize a.eval p = v1 at *
        generalize a.eval q = v2 at *
        rcases ho with rfl | rfl <;> cases v1 <;> first
          | exact absurd rfl (g2 _ _)
          | exact absurd rfl (g3 _ _)
          | exact absurd rfl (g4 _)
          | exact absurd rfl (g5 _ _ _)
          | rfl
      rcases hop with ⟨rfl, rfl⟩ | ⟨rfl, rfl⟩
      · exact ⟨.bool rr, by simp only [Sem.run_bind, hg, Result.andThen_ok]; rw [hb .eql (.inl rfl)]; simp [g1], by simp [RV, RD]⟩
      · exact ⟨.bool (!rr), by simp only [Sem.run_bind, hg, Result.andThen_ok]; rw [hb .neq (.inr rfl)]; simp [g1], by simp [RV, RD]⟩
    split at h
    · rename_i y z hy hz
      split at h
      · rename_i p' q'
        split at h
        · rename_i c' r' hb
          simp only [Option.some.injEq, Prod.mk.injEq] at h
          obtain ⟨hc, rfl⟩ := h
          refine .of_run (f := fun a => do eqGuard op t p q (a.eval p) (a.eval q); binOp op t (a.eval p) (a.eval q)) (fun _ => rfl) fun ro N G a w r => ?_
          have hp := opd_ok r.env hy
          have hq := opd_ok r.env hz
          simp only [RV] at hp hq
          obtain ⟨v, hv, hr⟩ := binD_ok (P := P) (t := t) hb hc hp hq w
          have hg := eqGuard_run (P := P) (op := op) (t := t) (x := p) (y := q) (v := a.eval p) (u := a.eval q) (w := w) (.inl (RD_noagg (binD_shape hb) hp))
          exact ⟨v, by simp only [Sem.run_bind, hg, Result.andThen_ok, hv], by simpa only [RV] using hr⟩
        · split at h
          · split at h
            · rename_i cc rr he; cases h; exact eqcase hy hz he (.inl ⟨rfl, rfl⟩)
            · cases h
          · split at h
            · rename_i cc rr he; cases h; exact eqcase hy hz he (.inr ⟨rfl, rfl⟩)
            · cases h
          · cases h
      · split at h
        · split at h
          · rename_i cc rr he; cases h; exact eqcase hy hz he (.inl ⟨rfl, rfl⟩)
          · cases h
        · split at h
          · rename_i cc rr he; cases h; exact eqcase hy hz he (.inr ⟨rfl, rfl⟩)
          · cases h
        · cases h
    · cases h
  case unOp op t p =>
    split at h
    · rename_i p' hy
      split at h
      · rename_i c' r' hu
        simp only [Option.some.injEq, Prod.mk.injEq] at h
        obtain ⟨hc, rfl⟩ := h
        refine .of_run (f := fun a => Op.unary op (a.eval p)) (fun _ => rfl) fun ro N G a w r => ?_
        have hp := opd_ok r.env hy
        simp only [RV] at hp
        obtain ⟨v, hv, hr⟩ := unD_ok (P := P) hu hc hp w
        exact ⟨v, hv, by simpa only [RV] using hr⟩
      · cases h
    · cases h
  case convert s d p =>
    split at h
    · rename_i y hy
      exact .of_yields (f := fun a => convert s d (a.eval p)) (fun _ => rfl) fun ro N G a w r => evConv_ok hE r.rel (by rw [r.heap]; exact h) rfl (opd_ok r.env hy)
    · cases h
  case slice t p lo hi mx =>
    split at h
    · rename_i y hy
      exact .of_run (f := fun a => Instr.sliceAt t (a.eval p) (lo.map a.eval) (hi.map a.eval) (mx.map a.eval)) (fun _ => rfl) fun ro N G a w r => evSlice_ok hE h rfl (opd_ok r.env hy) (opdO_ok r.env lo) (opdO_ok r.env hi) (opdO_ok r.env mx)
    · cases h
  case fieldAddr s p f =>
    split at h
    · rename_i y hy
      exact .of_run (f := fun a => Instr.fieldAt s (a.eval p) f) (fun _ => rfl) fun ro N G a w r => evFieldAddr_ok hE (by rw [r.heap]; exact h) rfl (opd_ok r.env hy)
    · cases h
  case field t p f =>
    split at h
    · rename_i y hy
      exact .of_run (f := fun a => Instr.field t (a.eval p) f) (fun _ => rfl) fun ro N G a w r => evField_ok hE h (opd_ok r.env hy)
    · cases h
  case indexAddr t p q =>
    split at h
    · rename_i y z hy hz
      exact .of_run (f := fun a => Instr.indexAt t (a.eval p) (a.eval q)) (fun _ => rfl) fun ro N G a w r => evIndexAddr_ok hE (by rw [r.heap]; exact h) rfl (opd_ok r.env hy) (opd_ok r.env hz)
    · cases h
  case index t p q =>
    split at h
    · rename_i y z hy hz
      exact .of_run (f := fun a => Instr.index t (a.eval p) (a.eval q)) (fun _ => rfl) fun ro N G a w r => evIndex_ok hE h rfl (opd_ok r.env hy) (opd_ok r.env hz)
    · cases h
  case build t ps =>
    exact .of_run (f := fun a => Instr.build t (pev a.eval ps)) (fun a => exec_build rfl a.eval) fun ro N G a w r => evBuild_ok hE (fun o x hx => opd_ok r.env hx) h rfl
  case buildSlice t len ps =>
    split at h
    · rename_i c' q hq
      cases len with
      | zero =>
        simp only [Option.some.injEq, Prod.mk.injEq] at h
        obtain ⟨hc, rfl⟩ := h
        exact .of_yields (f := fun a => Instr.buildSlice t 0 (pev a.eval ps)) (fun a => exec_bslice rfl a.eval) fun ro N G a w r => bslice_e0 hE r.rel (fun o x hx => opd_ok r.env hx) hq hc
      | succ n =>
        simp only [Option.some.injEq, Prod.mk.injEq] at h
        obtain ⟨hc, rfl⟩ := h
        exact .of_yields (f := fun a => Instr.buildSlice t (n + 1) (pev a.eval ps)) (fun a => exec_bslice rfl a.eval) fun ro N G a w r => bslice_data hE r.rel (fun o x hx => opd_ok r.env hx) hq hc
    · cases h
  case makeFunc f first cap =>
    split at h
    · rename_i y z hy hz
      cases h
      refine .of_run (f := fun a => Instr.makeFunc f (first.map a.eval) (cap.map a.eval)) (fun _ => rfl) fun ro N G a w r => ⟨_, by simp only [Instr.makeFunc, Sem.run_pure]; rfl, ?_⟩
      simp only [RV]
      exact ⟨first.toList.map a.eval, cap.toList.map a.eval, by congr 1 <;> (apply Array.ext'; simp), opds_ok r.env hy, opds_ok r.env hz⟩
    · cases h
  case lookup t m k ok =>
    split at h
    · rename_i y z hy hz
      exact .of_run (f := fun a => Instr.lookup t (a.eval m) (a.eval k) ok) (fun _ => rfl) fun ro N G a w r => evLook_ok hE r.rel (by rw [r.heap]; exact h) rfl (opd_ok r.env hy) (opd_ok r.env hz)
    · cases h
  case makeInterface t p =>
    split at h
    · rename_i y hy
      exact .of_run (f := fun a => Instr.makeInterface t (a.eval p)) (fun _ => rfl) fun ro N G a w r => evIfc_ok hE h rfl (opd_ok r.env hy)
    · cases h
  case typeAssert p xt asserted ok =>
    split at h
    · rename_i y hy
      exact .of_run (f := fun a => Instr.typeAssert (a.eval p) xt asserted ok) (fun _ => rfl) fun ro N G a w r => evAssert_ok hE h rfl (opd_ok r.env hy)
    · cases h
  case extract p i =>
    split at h
    · rename_i y hy
      exact .of_run (f := fun a => Instr.extract (a.eval p) i) (fun _ => rfl) fun ro N G a w r => evExtract_ok h (opd_ok r.env hy)
    · cases h
  case call c =>
    split at h
    · rename_i b hb
      split at h
      · rename_i xs hxs
        exact evBi_ok hE rfl hb hxs h rfl
      · cases h
    · cases h

end Go.Gar

/- The frame, part 14: walking a region in the order of the text. -/
namespace Go.Gar

/-- An operation that lays a new block. -/
def evA (E : Nat → Option TyI) (env : List (Nat × AV)) (H : List Blk) (op : Op) : Option (Bool × (Nat → AV) × Blk) :=
  match op with
  | .alloc t => match evAlloc E t with
    | some cs => some (true, fun id => .ptr id 0 cs.length, .c cs)
    | none => none
  | .box t a => match opd env a with
    | some x => match evBox E t x with
      | some cs => some (true, fun id => .ptr id 0 cs.length, .c cs)
      | none => none
    | none => none
  | .makeSlice t l c => match opd env l, opd env c with
    | some x, some y => match evMake E t x y with
      | some (cc, q) => some (cc, fun id => .sl id (sln q) (slsz q), .a q)
      | none => none
    | _, _ => none
  | .makeMap _ r => match r with
    | none => some (true, fun id => .mp id, .m [])
    | some _ => none
  | _ => none

theorem evA_ok {P : Program} {E : Nat → Option TyI} (hE : EOK P E) {S : St} {o : Oper} {f : Nat → AV} {b : Blk} {c : Bool} (h : evA E S.env S.H o.op = some (c, f, b)) (hc : c = true) : OpOK P o S (f S.H.length) (S.H ++ [b]) := by
  subst hc
  obtain ⟨dst, op, ty, pos, after, guard⟩ := o
  simp only at h
  cases op <;> simp only [evA] at h <;> try (cases h; done)
  case alloc t =>
    split at h
    · rename_i cs hcs
      cases h
      exact .of_yieldsB (f := fun a => Instr.alloc t true (.tuple #[])) (fun _ => rfl) fun ro N G a w r => by
        have := evAlloc_ok hE r.rel hcs
        rw [r.heap] at this; exact this
    · cases h
  case box t p =>
    split at h
    · rename_i x hx
      split at h
      · rename_i cs hcs
        cases h
        exact .of_yieldsB (f := fun a => Instr.box t (a.eval p)) (fun _ => rfl) fun ro N G a w r => by
          have := evBox_ok (P := P) r.rel hcs (opd_ok r.env hx)
          rw [r.heap] at this; exact this
      · cases h
    · cases h
  case makeSlice t l c =>
    split at h
    · rename_i x y hx hy
      split at h
      · rename_i cc q hq
        simp only [Option.some.injEq, Prod.mk.injEq] at h
        obtain ⟨hc, rfl, rfl⟩ := h
        exact .of_yieldsB (f := fun a => Instr.makeSlice t (a.eval l) (a.eval c)) (fun _ => rfl) fun ro N G a w r => by
          have := evMake_ok hE r.rel hq hc (opd_ok r.env hx) (opd_ok r.env hy)
          rw [r.heap] at this; exact this
      · cases h
    · cases h
  case makeMap t p =>
    cases p with
    | none =>
      cases h
      exact .of_yieldsB (f := fun a => Instr.makeMap t none) (fun _ => rfl) fun ro N G a w r => by
        have := makeMap_ok (P := P) r.rel t
        rw [r.heap] at this; exact this
    | some q => cases h

/-- An append to nothing, its result a slice of one's own; a literal likewise. -/
def evAO (E : Nat → Option TyI) (env : List (Nat × AV)) (H : List Blk) (op : Op) : Option (Bool × D) :=
  match op with
  | .call c => match c.callee, c.argTypes.toList with
    | .builtin .append, [t, u] => match opds env c.args.toList with
      | some [.e0, x] => evApp0 E H t u x
      | _ => none
    | _, _ => none
  | .buildSlice t len ps => evBSlice E (opd env) t len ps.toList
  | _ => none

theorem evAO_ok {P : Program} {E : Nat → Option TyI} (hE : EOK P E) {S : St} {o : Oper} {q : D} {c : Bool} (h : evAO E S.env S.H o.op = some (c, q)) (hc : c = true) : OpOK P o S (.sl S.H.length (sln q) (slsz q)) (S.H ++ [.a q]) := by
  subst hc
  unfold evAO at h
  split at h
  · rename_i cl ho
    split at h
    · rename_i t u hb ht
      have hty := list_arr ht
      split at h
      · rename_i x hxs
        refine .of_yieldsB (f := fun a => Builtin.append_ cl.argTypes o.type (cl.args.map a.eval)) (fun a => by rw [run_bi (P := P) hb ho]; rfl) fun ro N G a w r => ?_
        have := opds_ok r.env hxs
        simp only [RVs] at this
        obtain ⟨v, l, e, h1, v', l', e', h2, h3⟩ := this
        subst e'; subst h3
        have e2 : cl.args.map a.eval = #[v, v'] := list_arr (by simpa using e)
        have hy := app0_own (ty := o.type) hE r.rel (by rw [r.heap]; exact h) rfl h1 h2
        rw [e2, hty]
        rw [r.heap] at hy; exact hy
      · cases h
    · cases h
  · rename_i t len ps ho
    refine .of_yieldsB (f := fun a => Instr.buildSlice t len (pev a.eval ps)) (fun a => exec_bslice ho a.eval) fun ro N G a w r => ?_
    have := bslice_own hE r.rel (fun o x hx => opd_ok r.env hx) h rfl
    rw [r.heap] at this; exact this
  · cases h

/-- An operation that writes a block. -/
def evW (E : Nat → Option TyI) (env : List (Nat × AV)) (H : List Blk) (op : Op) : Option (Bool × AV × List Blk) :=
  match op with
  | .store t a x => match opd env a, opd env x with
    | some p, some v => match evStore E H t p v with
      | some (c, H') => some (c, .u, H')
      | none => none
    | _, _ => none
  | .insert t m k v | .mapUpdate t m k v => match opd env m, opd env k, opd env v with
    | some x, some y, some z => match evIns E H t x y z with
      | some (c, H') => some (c, .u, H')
      | none => none
    | _, _, _ => none
  | .call c => match c.callee, c.argTypes.toList with
    | .builtin .append, [t, u] => match opds env c.args.toList with
      | some [.sl id n sz, x] => match evAppB E H t u id n x with
        | some (c, r) => match setH id (.a r) H with
          | some H' => some (c, .sl id (sln r) sz, H')
          | none => none
        | none => none
      | _ => none
    | _, _ => none
  | _ => none

theorem evW_ok {P : Program} {E : Nat → Option TyI} (hE : EOK P E) {S : St} {o : Oper} {x : AV} {H' : List Blk} {c : Bool} (h : evW E S.env S.H o.op = some (c, x, H')) (hc : c = true) : OpOK P o S x H' := by
  subst hc
  unfold evW at h
  split at h
  · rename_i t p v ho
    split at h
    · rename_i y z hy hz
      split at h
      · rename_i c' q hq
        simp only [Option.some.injEq, Prod.mk.injEq] at h
        obtain ⟨hc, rfl, rfl⟩ := h
        intro ro N G a w r
        obtain ⟨w', G', h1, h2, h3, h4⟩ := evStore_ok hE r.rel (by rw [r.heap]; exact hq) hc (opd_ok r.env hy) (opd_ok r.env hz)
        refine ⟨.skip, w', G', ?_, .inl ⟨rfl, rfl⟩, h2, h3, h4⟩
        unfold execOp
        simp only [ho, Sem.run_bind, h1, Result.andThen_ok, Sem.run_pure]
      · cases h
    · cases h
  · rename_i t m k v ho
    split at h
    · rename_i x' y z hx hy hz
      split at h
      · rename_i c' q hq
        simp only [Option.some.injEq, Prod.mk.injEq] at h
        obtain ⟨hc, rfl, rfl⟩ := h
        intro ro N G a w r
        obtain ⟨w', G', h1, h2, h3, h4⟩ := evIns_ok hE r.rel (by rw [r.heap]; exact hq) hc (opd_ok r.env hx) (opd_ok r.env hy) (opd_ok r.env hz)
        refine ⟨.skip, w', G', ?_, .inl ⟨rfl, rfl⟩, h2, h3, h4⟩
        unfold execOp
        simp only [ho, Sem.run_bind, h1, Result.andThen_ok, Sem.run_pure]
      · cases h
    · cases h
  · rename_i t m k v ho
    split at h
    · rename_i x' y z hx hy hz
      split at h
      · rename_i c' q hq
        simp only [Option.some.injEq, Prod.mk.injEq] at h
        obtain ⟨hc, rfl, rfl⟩ := h
        intro ro N G a w r
        obtain ⟨w', G', h1, h2, h3, h4⟩ := evIns_ok hE r.rel (by rw [r.heap]; exact hq) hc (opd_ok r.env hx) (opd_ok r.env hy) (opd_ok r.env hz)
        refine ⟨.skip, w', G', ?_, .inl ⟨rfl, rfl⟩, h2, h3, h4⟩
        unfold execOp
        simp only [ho, Sem.run_bind, h1, Result.andThen_ok, Sem.run_pure]
      · cases h
    · cases h
  · rename_i cl ho
    split at h
    · rename_i t u hb ht
      have hty := list_arr ht
      split at h
      · rename_i id n sz x' hxs
        split at h
        · rename_i c' q hq
          split at h
          · rename_i H2 hset
            simp only [Option.some.injEq, Prod.mk.injEq] at h
            obtain ⟨hc, rfl, rfl⟩ := h
            obtain ⟨_, rfl⟩ := setH_eq hset
            refine .of_yieldsB (f := fun a => Builtin.append_ cl.argTypes o.type (cl.args.map a.eval)) (fun a => by rw [run_bi (P := P) hb ho]; rfl) fun ro N G a w r => ?_
            have := opds_ok r.env hxs
            simp only [RVs] at this
            obtain ⟨v, l, e, h1, v', l', e', h2, h3⟩ := this
            subst e'; subst h3
            have e2 : cl.args.map a.eval = #[v, v'] := list_arr (by simpa using e)
            have hy := appB_ok (ty := o.type) hE r.rel (by rw [r.heap]; exact hq) hc h1 h2
            rw [e2, hty]
            rw [r.heap] at hy; exact hy
          · cases h
        · cases h
      · cases h
    · cases h
  · cases h

/-! ### The walk of a region -/

def pushE (dst : Option Tmp) (x : AV) (env : List (Nat × AV)) : List (Nat × AV) :=
  match dst with
  | some d => (d, x) :: env
  | none => env
def dstOK (dst : Option Tmp) (n : Nat) : Bool :=
  match dst with
  | some d => Nat.blt d n
  | none => true
/-- Is the operation wanted? -/
def guardV (ops : Array Oper) (env : List (Nat × AV)) (o : Oper) : Option Bool :=
  match o.guard with
  | none => some true
  | some (j, want) => match ops.toList[j]? with
    | some p => match p.dst with
      | some d => match get env d with
        | some (.d (.b b)) => some (match want with | true => b | false => !b)
        | some (.d (.tup [])) => some false
        | _ => none
      | none => none
    | none => none

/-- The operations from the i-th on, in the order of the text. -/
def Wl (P : Program) (ro : Option Nat) (ops : Array Oper) (i : Nat) (rest : List Oper) (S : St) (Q : Exit → St → Prop) : Prop :=
  (∀ k : Nat, rest[k]? = ops[i + k]?) → ∀ N G a w, Rel ro N S G a w → wpOpsIn (fnc (rl G ro)) 0 P ops (Post ro N G w Q) (List.range' i rest.length) a w

section
variable {P : Program} {ro : Option Nat} {ops : Array Oper} {i : Nat} {rest : List Oper} {S : St} {Q : Exit → St → Prop} {o : Oper}

theorem W_region {id : Nat} (h : Wl P ro ops 0 ops.toList S Q) : W P ro (.region id ops false) S Q := by
  intro N G a w r
  refine wpIn_region ?_
  have := h (fun k => by simp) N G a w r
  rw [List.range_eq_range']
  simpa using this

theorem Wl_nil (h : Q .normal S) : Wl P ro ops i [] S Q := by
  intro _ N G a w r
  simp only [List.length_nil, List.range'_zero, wpOpsIn]
  exact ⟨S, G, h, r, Frm.refl G w⟩

theorem wpOpsIn_mono {F : Fence} {n : Nat} {Q Q' : Exit → Act → World → Prop} (hq : ∀ e a w, Q e a w → Q' e a w) : ∀ (l : List Nat) (a : Act) (w : World), wpOpsIn F n P ops Q l a w → wpOpsIn F n P ops Q' l a w
  | [], a, w, h => hq _ _ _ h
  | i :: l, a, w, h => by
    simp only [wpOpsIn] at h ⊢
    split
    · rename_i ho
      simp only [ho] at h
      exact wpOpsIn_mono hq l a w h
    · rename_i o ho
      simp only [ho] at h
      split
      · rename_i hw
        rw [if_pos hw] at h
        obtain ⟨h1, h2⟩ := h
        refine ⟨h1, ?_⟩
        generalize (o.semAt F.round a.eval).run P w = r at *
        cases r with
        | ok x w' =>
          cases x <;> simp only [Oper.uponIn] at h2 ⊢ <;>
            first
              | exact wpOpsIn_mono hq l _ _ h2
              | exact ⟨h2.1, CallsIn.mono h2.2 (fun e w'' he => by
                  cases e with
                  | returned v => exact wpOpsIn_mono hq l _ _ he
                  | panicked c => exact hq _ _ _ he
                  | outgrown => obtain ⟨a0, w0, h0⟩ := he; exact ⟨a0, w0, hq _ _ _ h0⟩)⟩
              | exact ⟨h2.1, RowsIn.mono h2.2 (fun _ _ he => wpOpsIn_mono hq l _ _ he)⟩
              | exact ⟨h2.1, RoundIn.mono h2.2 (fun e w'' he => by
                  cases e with
                  | returned v => exact wpOpsIn_mono hq l _ _ he
                  | panicked c => exact hq _ _ _ he
                  | outgrown => obtain ⟨a0, w0, h0⟩ := he; exact ⟨a0, w0, hq _ _ _ h0⟩)⟩
        | halt x w' =>
          cases x <;> simp only [Oper.uponIn] at h2 ⊢ <;> exact hq _ _ _ h2
      · rename_i hw
        rw [if_neg hw] at h
        exact ⟨h.1, wpOpsIn_mono hq l _ _ h.2⟩

theorem guardV_ok {G : Gh} {a : Act} (h : EnvR G S.env a.tmps) {b : Bool} (hg : guardV ops S.env o = some b) : Region.wanted o (yielded ops a.tmps) = b := by
  unfold guardV at hg
  unfold Region.wanted
  split at hg
  · rename_i hn; cases hg; rw [hn]
  · rename_i j want hn
    rw [hn]
    split at hg
    · rename_i p hp
      split at hg
      · rename_i d hd
        split at hg
        · rename_i q hq
          cases hg
          obtain ⟨v, hv, hr⟩ := h d _ hq
          simp only [RV, RD] at hr
          subst hr
          have : yielded ops a.tmps j = some q := by
            have hp' : ops[j]? = some p := by simpa using hp
            simp [yielded, hp', hd, hv]
          simp only [this]
          cases want <;> cases q <;> rfl
        · rename_i hq
          cases hg
          obtain ⟨v, hv, hr⟩ := h d _ hq
          simp only [RV, RD, RDs] at hr
          obtain ⟨vs, rfl, rfl⟩ := hr
          have : yielded ops a.tmps j = none := by
            have hp' : ops[j]? = some p := by simpa using hp
            simp [yielded, hp', hd, hv]
          simp only [this]
          rfl
        · cases hg
      · cases hg
    · cases hg

theorem put_env {G : Gh} {a : Act} (h : EnvR G S.env a.tmps) (hs : a.tmps.size = S.n) {dst : Option Tmp} (hd : dstOK dst S.n = true) {x : AV} {v : Value} (hx : RV G x v) : EnvR G (pushE dst x S.env) (a.put dst v).tmps ∧ (a.put dst v).tmps.size = S.n ∧ (a.put dst v).defers = a.defers := by
  cases dst with
  | none => exact ⟨h, hs, rfl⟩
  | some d =>
    simp only [dstOK, Nat.blt_eq] at hd
    refine ⟨fun t y hy => ?_, by simp [Act.put, hs], rfl⟩
    simp only [pushE, get] at hy
    split at hy
    · rename_i hb
      cases hy
      have := Nat.eq_of_beq_eq_true hb
      subst this
      exact ⟨v, by simp only [Act.put]; exact Array.getElem?_setIfInBounds_self_of_lt (by rw [hs]; exact hd), hx⟩
    · rename_i hb
      obtain ⟨u, hu, hr⟩ := h t y hy
      have hne : d ≠ t := by
        intro e; subst e; simp at hb
      exact ⟨u, by simp only [Act.put]; rw [Array.getElem?_setIfInBounds_ne hne]; exact hu, hr⟩

/-- One operation that runs. -/
theorem Wl_op {x : AV} {H' : List Blk} (hg : guardV ops S.env o = some true) (hop : OpOK P o S x H') (hnd : ∀ c, o.op ≠ .defer c) (hd : dstOK o.dst S.n = true)
    (k : Wl P ro ops (i + 1) rest ⟨pushE o.dst x S.env, H', S.n⟩ Q) : Wl P ro ops i (o :: rest) S Q := by
  intro hops N G a w r
  have ho : ops[i]? = some o := by have := hops 0; simpa using this.symm
  simp only [List.length_cons, List.range'_succ, wpOpsIn, ho]
  rw [if_pos (guardV_ok r.env hg)]
  obtain ⟨res, w', G', h1, h2, h3, h4, h5⟩ := hop ro N G a w r
  refine ⟨fun _ _ => trivial, ?_⟩
  rw [Oper.semAt_eq _ _ _ hnd, h1]
  have hops' : ∀ k : Nat, rest[k]? = ops[i + 1 + k]? := fun k => by have := hops (k + 1); simp at this; rw [this]; congr 1; omega
  have fin : ∀ v, RV G' x v → wpOpsIn (fnc (rl G ro)) 0 P ops (Post ro N G w Q) (List.range' (i + 1) rest.length) (a.put o.dst v) w' := by
    intro v hv
    obtain ⟨e1, e2, e3⟩ := put_env (r.env.mono h5.gle) r.size hd hv
    have r' : Rel ro N ⟨pushE o.dst x S.env, H', S.n⟩ G' (a.put o.dst v) w' := ⟨h3, h4, e2, e1, r.marks.frm h5 e3, fun id hid => by
      obtain ⟨q, l, M, q1, q2⟩ := r.round id hid
      rw [← r.heap] at q1
      obtain ⟨b', hb', hs⟩ := h5.gle.blk id _ q1
      rw [h3] at hb'
      cases b' <;> simp only [BStep] at hs
      exact ⟨_, l, M, hb', hs.1.trans q2⟩⟩
    have hk := k hops' N G' _ w' r'
    rw [rl_frm r r' h5] at hk
    exact wpOpsIn_mono (fun _ _ _ p => p.trans h5) _ _ _ hk
  rcases h2 with ⟨rfl, rfl⟩ | ⟨v, rfl, hv⟩
  · simp only [Oper.uponIn]
    exact fin undef (by simp [RV])
  · simp only [Oper.uponIn]
    exact fin v hv
end
end Go.Gar

/- The frame, part 15: one operation at a time; functions; calls. -/
namespace Go.Gar

section
variable {P : Program} {ro : Option Nat} {ops : Array Oper} {i : Nat} {rest : List Oper} {S : St} {Q : Exit → St → Prop} {o : Oper} {E : Nat → Option TyI}

def isDefer : Op → Bool
  | .defer _ => true
  | _ => false
theorem not_defer {o : Oper} (h : isDefer o.op = false) : ∀ c, o.op ≠ .defer c := fun c e => by rw [e] at h; cases h

theorem evQ_nodefer {env : List (Nat × AV)} {H : List Blk} {op : Op} {r : Bool × AV} (h : evQ E env H op = some r) : ∀ c, op ≠ .defer c := fun c e => by subst e; cases h
theorem evA_nodefer {env : List (Nat × AV)} {H : List Blk} {op : Op} {r : Bool × (Nat → AV) × Blk} (h : evA E env H op = some r) : ∀ c, op ≠ .defer c := fun c e => by subst e; cases h
theorem evAO_nodefer {env : List (Nat × AV)} {H : List Blk} {op : Op} {r : Bool × D} (h : evAO E env H op = some r) : ∀ c, op ≠ .defer c := fun c e => by subst e; cases h
theorem evW_nodefer {env : List (Nat × AV)} {H : List Blk} {op : Op} {r : Bool × AV × List Blk} (h : evW E env H op = some r) : ∀ c, op ≠ .defer c := fun c e => by subst e; cases h

/-- A quiet operation. -/
theorem Wl_q (hE : EOK P E) {x : AV} {c : Bool} (hg : guardV ops S.env o = some true) (h : evQ E S.env S.H o.op = some (c, x)) (hd : dstOK o.dst S.n = true) (hc : c = true)
    (k : Wl P ro ops (i + 1) rest ⟨pushE o.dst x S.env, S.H, S.n⟩ Q) : Wl P ro ops i (o :: rest) S Q :=
  Wl_op hg (evQ_ok hE h hc) (evQ_nodefer h) hd k
/-- One that lays a block. -/
theorem Wl_a (hE : EOK P E) {f : Nat → AV} {b : Blk} {c : Bool} (hg : guardV ops S.env o = some true) (h : evA E S.env S.H o.op = some (c, f, b)) (hd : dstOK o.dst S.n = true) (hc : c = true)
    (k : Wl P ro ops (i + 1) rest ⟨pushE o.dst (f S.H.length) S.env, S.H ++ [b], S.n⟩ Q) : Wl P ro ops i (o :: rest) S Q :=
  Wl_op hg (evA_ok hE h hc) (evA_nodefer h) hd k
/-- One whose result is a slice of one's own. -/
theorem Wl_ao (hE : EOK P E) {q : D} {c : Bool} (hg : guardV ops S.env o = some true) (h : evAO E S.env S.H o.op = some (c, q)) (hd : dstOK o.dst S.n = true) (hc : c = true)
    (k : Wl P ro ops (i + 1) rest ⟨pushE o.dst (.sl S.H.length (sln q) (slsz q)) S.env, S.H ++ [.a q], S.n⟩ Q) : Wl P ro ops i (o :: rest) S Q :=
  Wl_op hg (evAO_ok hE h hc) (evAO_nodefer h) hd k
/-- One that writes. -/
theorem Wl_w (hE : EOK P E) {x : AV} {H' : List Blk} {c : Bool} (hg : guardV ops S.env o = some true) (h : evW E S.env S.H o.op = some (c, x, H')) (hd : dstOK o.dst S.n = true) (hc : c = true)
    (k : Wl P ro ops (i + 1) rest ⟨pushE o.dst x S.env, H', S.n⟩ Q) : Wl P ro ops i (o :: rest) S Q :=
  Wl_op hg (evW_ok hE h hc) (evW_nodefer h) hd k

theorem Rel.env_le {N : NB} {G : Gh} {a : Act} {w : World} (r : Rel ro N S G a w) {env : List (Nat × AV)} (h : ∀ t x, get env t = some x → get S.env t = some x) : Rel ro N ⟨env, S.H, S.n⟩ G a w :=
  ⟨r.heap, r.rel, r.size, fun t x hx => r.env t x (h t x hx), r.marks, r.round⟩

theorem Wl_env {env : List (Nat × AV)} (h : ∀ t x, get env t = some x → get S.env t = some x) (k : Wl P ro ops i rest ⟨env, S.H, S.n⟩ Q) : Wl P ro ops i rest S Q :=
  fun hops N G a w r => k hops N G a w (r.env_le h)

theorem get_push {d : Nat} {x : AV} {env : List (Nat × AV)} (h : get env d = some x) : ∀ t y, get ((d, x) :: env) t = some y → get env t = some y := by
  intro t y hy
  simp only [get] at hy
  split at hy
  · rename_i hb
    have := Nat.eq_of_beq_eq_true hb
    subst this
    cases hy; exact h
  · exact hy

/-- The test ahead of an operation: both ways. -/
def gtmp (ops : Array Oper) (o : Oper) : Option Nat :=
  match o.guard with
  | some (j, _) => match ops.toList[j]? with
    | some p => p.dst
    | none => none
  | none => none
theorem Wl_split {d : Nat} {b : Bool} (hg : gtmp ops o = some d) (hb : get S.env d = some (.d (.b b)))
    (ht : b = true → Wl P ro ops i (o :: rest) ⟨(d, .d (.b true)) :: S.env, S.H, S.n⟩ Q) (hf : b = false → Wl P ro ops i (o :: rest) ⟨(d, .d (.b false)) :: S.env, S.H, S.n⟩ Q) : Wl P ro ops i (o :: rest) S Q := by
  cases b with
  | true => exact Wl_env (get_push hb) (ht rfl)
  | false => exact Wl_env (get_push hb) (hf rfl)

theorem Rel.step {N : NB} {G G' : Gh} {a a' : Act} {w w' : World} {S' : St} (r : Rel ro N S G a w) (h : Frm G w G' w') (hH : G'.H = S'.H) (hr : HRel G' w') (hn : S'.n = S.n) (hs : a'.tmps.size = S.n) (he : EnvR G' S'.env a'.tmps) (hd : a'.defers = a.defers) : Rel ro N S' G' a' w' :=
  ⟨hH, hr, by rw [hs, hn], he, r.marks.frm h hd, fun id hid => by
    obtain ⟨q, l, M, q1, q2⟩ := r.round id hid
    rw [← r.heap] at q1
    obtain ⟨b', hb', hs⟩ := h.gle.blk id _ q1
    rw [hH] at hb'
    cases b' <;> simp only [BStep] at hs
    exact ⟨_, l, M, hb', hs.1.trans q2⟩⟩

/-- An operation that is not wanted. -/
theorem Wl_skip (hg : guardV ops S.env o = some false) (hd : dstOK o.dst S.n = true) (k : Wl P ro ops (i + 1) rest ⟨pushE o.dst (.d (.tup [])) S.env, S.H, S.n⟩ Q) : Wl P ro ops i (o :: rest) S Q := by
  intro hops N G a w r
  have ho : ops[i]? = some o := by have := hops 0; simpa using this.symm
  simp only [List.length_cons, List.range'_succ, wpOpsIn, ho]
  have hw := guardV_ok r.env hg
  rw [if_neg (by rw [hw]; simp)]
  refine ⟨fun _ _ => trivial, ?_⟩
  have hops' : ∀ k : Nat, rest[k]? = ops[i + 1 + k]? := fun k => by have := hops (k + 1); simp at this; rw [this]; congr 1; omega
  obtain ⟨e1, e2, e3⟩ := put_env r.env r.size hd (x := .d (.tup [])) (v := undef) (by simp only [RV, RD]; exact ⟨[], rfl, by simp [RDs]⟩)
  exact k hops' N G _ w (r.step (Frm.refl G w) r.heap r.rel rfl e2 e1 e3)

/-! ### Functions -/

def Callable (P : Program) (f : FuncId) : Prop := ∃ fn, P.funcs[f]? = some fn ∧ (fn.name == "runtime.NumGoroutine") = false ∧ fn.body.isSome = true

/-- What a call comes to, in terms of the abstract heap. -/
def FnT (P : Program) (f : FuncId) (args : List AV) (H : List Blk) (R : AV → List Blk → Prop) : Prop :=
  Callable P f ∧ ∀ G w (vs : Array Value), G.H = H → HRel G w → RVs G args vs.toList →
    CallsIn Fence.wide 0 P f vs w fun e w' => ∃ v r G', e = .returned v ∧ R r G'.H ∧ RV G' r v ∧ HRel G' w' ∧ Frm G w G' w'

theorem FnT.mono {f : FuncId} {args : List AV} {H : List Blk} {R R' : AV → List Blk → Prop} (h : FnT P f args H R) (hr : ∀ x H, R x H → R' x H) : FnT P f args H R' :=
  ⟨h.1, fun G w vs h1 h2 h3 => (h.2 G w vs h1 h2 h3).mono fun _ _ ⟨v, r, G', e, q, rest⟩ => ⟨v, r, G', e, hr _ _ q, rest⟩⟩

/-- A call of a function value. -/
theorem run_call {f g : FuncId} {c : Call} {fo : Operand} (hc : c.callee = .value fo) {a : Act} {first cap : Array Value} (hf : a.eval fo = .func (.func g) first cap) (hcall : Callable P g) (ho : o.op = .call c) (w : World) :
    (execOp a.eval o).run P w = .ok (.enter g (first ++ c.args.map a.eval ++ cap)) w := by
  obtain ⟨fn, h1, h2, h3⟩ := hcall
  have hb : fn.body.isNone = false := by cases hx : fn.body <;> simp_all
  unfold execOp
  simp only [ho, resolve, hc, hf, Deferred.ofValue, Sem.run_bind, Sem.run_pure, Result.andThen_ok, invoke, callFunc, run_program, h1, h2, hb, Bool.false_eq_true, if_false, Sem.run_ite]

theorem Wl_callT {c : Call} {fo : Operand} {g : FuncId} {first cap xs : List AV} {R : AV → List Blk → Prop} (ho : o.op = .call c) (hc : c.callee = .value fo) (hg : guardV ops S.env o = some true) (hf : opd S.env fo = some (.fn (.func g) first cap)) (hxs : opds S.env c.args.toList = some xs)
    (hd : dstOK o.dst S.n = true) (hT : FnT P g (first ++ xs ++ cap) S.H R) (k : ∀ r H', R r H' → Wl P ro ops (i + 1) rest ⟨pushE o.dst r S.env, H', S.n⟩ Q) : Wl P ro ops i (o :: rest) S Q := by
  intro hops N G a w r
  have ho' : ops[i]? = some o := by have := hops 0; simpa using this.symm
  simp only [List.length_cons, List.range'_succ, wpOpsIn, ho']
  rw [if_pos (guardV_ok r.env hg)]
  refine ⟨fun _ _ => trivial, ?_⟩
  have hfv := opd_ok r.env hf
  simp only [RV] at hfv
  obtain ⟨p, q, hfv, hp, hq⟩ := hfv
  have hrun := run_call (P := P) (f := g) hc hfv hT.1 ho w
  rw [Oper.semAt_eq _ _ _ (fun c e => by rw [ho] at e; cases e), hrun]
  simp only [Oper.uponIn]
  refine ⟨fnc_depth _, ?_⟩
  have hops' : ∀ k : Nat, rest[k]? = ops[i + 1 + k]? := fun k => by have := hops (k + 1); simp at this; rw [this]; congr 1; omega
  have hargs : RVs G (first ++ xs ++ cap) (p.toArray ++ c.args.map a.eval ++ q.toArray).toList := by
    have h1 := opds_ok r.env hxs
    rw [RVs_get] at hp hq h1 ⊢
    have e : (p.toArray ++ c.args.map a.eval ++ q.toArray).toList = p ++ c.args.toList.map a.eval ++ q := by simp
    rw [e]
    refine ⟨by simp only [List.length_append]; rw [hp.1, hq.1, h1.1], fun k x hx => ?_⟩
    rcases Nat.lt_or_ge k (first ++ xs).length with hk | hk
    · rw [List.getElem?_append_left hk] at hx
      rw [List.getElem?_append_left (by simp only [List.length_append] at hk ⊢; rw [hp.1, h1.1]; exact hk)]
      rcases Nat.lt_or_ge k first.length with hk2 | hk2
      · rw [List.getElem?_append_left hk2] at hx
        rw [List.getElem?_append_left (by rw [hp.1]; exact hk2)]
        exact hp.2 k x hx
      · rw [List.getElem?_append_right hk2] at hx
        rw [List.getElem?_append_right (by rw [hp.1]; exact hk2), hp.1]
        exact h1.2 _ x hx
    · rw [List.getElem?_append_right hk] at hx
      rw [List.getElem?_append_right (by simp only [List.length_append] at hk ⊢; rw [hp.1, h1.1]; exact hk)]
      have : (p ++ c.args.toList.map a.eval).length = (first ++ xs).length := by simp only [List.length_append]; rw [hp.1, h1.1]
      rw [this]
      exact hq.2 _ x hx
  have hcall := hT.2 G w _ r.heap r.rel hargs
  have hcall' : CallsIn (fnc (rl G ro)) 0 P g (p.toArray ++ c.args.map a.eval ++ q.toArray) w _ := hcall
  refine hcall'.mono ?_
  rintro e w' ⟨v, x, G', rfl, hR, hv, hr', hfr⟩
  obtain ⟨e1, e2, e3⟩ := put_env (r.env.mono hfr.gle) r.size hd hv
  have r' : Rel ro N ⟨pushE o.dst x S.env, G'.H, S.n⟩ G' (a.put o.dst v) w' := r.step hfr rfl hr' rfl e2 e1 e3
  have hk := k x G'.H hR hops' N G' _ w' r'
  rw [rl_frm r r' hfr] at hk
  exact wpOpsIn_mono (fun _ _ _ p => p.trans hfr) _ _ _ hk

end
end Go.Gar

/- The frame, part 16: a function's contract out of its body; pure contracts; pure calls. -/
namespace Go.Gar

section
variable {P : Program} {ro : Option Nat} {S : St} {Q : Exit → St → Prop} {E : Nat → Option TyI}

/-! ### The marks of loops, as a function is left -/

theorem setObj_world {w : World} {r : Nat} {o : Obj} (h : w.heap[r]? = some (.deferred (some []))) : (Instr.takeDeferred r).run P w = .ok [] { w with heap := w.heap.setIfInBounds r (.deferred none) } := by
  simp only [Instr.takeDeferred, getObj, setObj, Sem.run_bind]
  simp [Sem.run, h]

/-- The world with some marks taken. -/
structure Took (ms : List Nat) (w w' : World) : Prop where
  os : w'.os = w.os
  tape : w'.tape = w.tape
  output : w'.output = w.output
  size : w'.heap.size = w.heap.size
  other : ∀ b, b ∉ ms → w'.heap[b]? = w.heap[b]?
  at_ : ∀ b, b ∈ ms → ∃ o, w'.heap[b]? = some (.deferred o)

theorem leaves_marksG {F : Fence} {n : Nat} {fn : Func} {tmps : Array Value} {R : Ending → World → Prop} {base : List Deferred} {u : FrameMode} (hu : u ≠ .run) : ∀ (ms : List Nat) (w : World), ms.Nodup → (∀ r ∈ ms, w.heap[r]? = some (.deferred (some []))) →
    (∀ w', Took ms w w' → LeavesInM F n P fn tmps R base u w') → LeavesInM F n P fn tmps R (ms.map (fun r => { target := .collected r, args := #[] }) ++ base) u w
  | [], w, _, _, h => by
    simp only [List.map_nil, List.nil_append]
    exact h w ⟨rfl, rfl, rfl, rfl, fun _ _ => rfl, fun _ h => by cases h⟩
  | r :: ms, w, hn, hm, h => by
    simp only [List.map_cons, List.cons_append, LeavesInM]
    have hr := hm r (by simp)
    have hlt : r < w.heap.size := (Array.getElem?_eq_some_iff.1 hr).1
    obtain ⟨hnr, hn'⟩ := List.nodup_cons.1 hn
    refine ⟨hu, .inl ⟨r, _, rfl, setObj_world (o := .deferred none) hr, leaves_marksG hu ms _ hn' (fun q hq => ?_) (fun w' ht => h w' ?_)⟩⟩
    · have : r ≠ q := fun e => hnr (e ▸ hq)
      show (w.heap.setIfInBounds r (.deferred none))[q]? = _
      rw [Array.getElem?_setIfInBounds_ne this]
      exact hm q (by simp [hq])
    · refine ⟨ht.os, ht.tape, ht.output, by rw [ht.size]; simp, fun b hb => ?_, fun b hb => ?_⟩
      · rw [List.mem_cons, not_or] at hb
        rw [ht.other b hb.2]
        show (w.heap.setIfInBounds r (.deferred none))[b]? = _
        rw [Array.getElem?_setIfInBounds_ne (Ne.symm hb.1)]
      · rcases List.mem_cons.1 hb with rfl | hb
        · by_cases hbm : b ∈ ms
          · exact ht.at_ b hbm
          · refine ⟨none, ?_⟩
            rw [ht.other b hbm]
            show (w.heap.setIfInBounds b (.deferred none))[b]? = _
            rw [Array.getElem?_setIfInBounds_self_of_lt hlt]
        · exact ht.at_ b hb

theorem leaves_marks {F : Fence} {n : Nat} {fn : Func} {tmps : Array Value} {R : Ending → World → Prop} (ms : List Nat) (w : World) (hn : ms.Nodup) (hm : ∀ r ∈ ms, w.heap[r]? = some (.deferred (some []))) 
    (h : ∀ w', Took ms w w' → ∃ v, (results fn tmps).run P w' = .ok v w' ∧ R (.returned v) w') : LeavesInM F n P fn tmps R (ms.map (fun r => { target := .collected r, args := #[] }) ++ []) .returning w :=
  leaves_marksG (by simp) ms w hn hm fun w' ht => by simpa only [LeavesInM, LeavesIn] using h w' ht

theorem took_rel {G : Gh} {w w' : World} {ms : List Nat} (h : HRel G w) (t : Took ms w w') (hm : ∀ r ∈ ms, w.heap[r]? = some (.deferred (some [])) ∧ ¬ Own G r) : HRel G w' where
  blk id b hb := (h.blk id b hb).frm (GLe.refl G) (fun q N hl hρ => t.other q fun hq => (hm q hq).2 ⟨id, N, b, hb, hl, hρ⟩) rfl
  inj := h.inj
  mem b k v hv := by
    have hc := h.mem b k v hv
    have hne : b ∉ ms := fun hb => by
      rw [World.cell?] at hc
      simp [(hm b hb).1] at hc
    rw [World.cell?_of_block (w := w) (t.other b hne)]
    exact hc
  sep := h.sep
  st := h.st

/-! ### What a function hands back -/

def res1 (tmps : Array Value) : ResultVar → Sem Value
  | .tmp t => pure (tmps.getD t undef)
  | .cell a t => do loadVar t (← asAddr (tmps.getD a undef))
theorem results_eq (fn : Func) (tmps : Array Value) : results fn tmps = (do let vs ← fn.results.mapM (res1 tmps); pure (if h : vs.size = 1 then vs[0] else .tuple vs)) := by
  unfold results
  congr 1


def evRes1 (E : Nat → Option TyI) (env : List (Nat × AV)) (H : List Blk) : ResultVar → Option (Bool × AV)
  | .tmp t => tt (get env t)
  | .cell a t => match get env a with
    | some (.ptr id off cnt) => evLoad E H t (.ptr id off cnt)
    | _ => none
def evRess (E : Nat → Option TyI) (env : List (Nat × AV)) (H : List Blk) : List ResultVar → Option (Bool × List AV)
  | [] => some (true, [])
  | r :: l => match evRes1 E env H r, evRess E env H l with
    | some (c, x), some (d, xs) => some (c && d, x :: xs)
    | _, _ => none
def evRes (E : Nat → Option TyI) (env : List (Nat × AV)) (H : List Blk) (rs : List ResultVar) : Option (Bool × AV) :=
  match evRess E env H rs with
  | some (c, [x]) => some (c, x)
  | some (c, xs) => some (c, .tup xs)
  | none => none

theorem evRes1_ok (hE : EOK P E) {G : Gh} {w : World} (hr : HRel G w) {env : List (Nat × AV)} {tmps : Array Value} (he : EnvR G env tmps) {r : ResultVar} {c : Bool} {x : AV} (h : evRes1 E env G.H r = some (c, x)) (hc : c = true) :
    ∃ v, (res1 tmps r).run P w = .ok v w ∧ RV G x v := by
  subst hc
  cases r with
  | tmp t =>
    simp only [evRes1, tt] at h
    split at h
    · rename_i y hy
      cases h
      obtain ⟨v, hv, hrv⟩ := he t _ hy
      exact ⟨v, by simp [res1, hv], hrv⟩
    · cases h
  | cell a t =>
    simp only [evRes1] at h
    split at h
    · rename_i id off cnt hy
      obtain ⟨v, hv, hrv⟩ := he a _ hy
      obtain ⟨u, hu, hru⟩ := evLoad_ok hE hr h rfl hrv
      have hp : ∃ q, v = .pointer (some q) := by
        cases v with
        | pointer q =>
          cases q with
          | none => simp [Instr.loadAt, Instr.sureAddr] at hu
          | some q => exact ⟨q, rfl⟩
        | _ => simp [Instr.loadAt, Instr.sureAddr] at hu
      obtain ⟨q, rfl⟩ := hp
      simp only [Instr.loadAt, Instr.sureAddr, Sem.run_bind, Sem.run_pure, Result.andThen_ok] at hu
      exact ⟨u, by simp [res1, hv, asAddr, hu], hru⟩
    · cases h

theorem evRess_ok (hE : EOK P E) {G : Gh} {w : World} (hr : HRel G w) {env : List (Nat × AV)} {tmps : Array Value} (he : EnvR G env tmps) : ∀ {rs : List ResultVar} {c : Bool} {xs : List AV}, evRess E env G.H rs = some (c, xs) → c = true →
    ∃ vs : List Value, (rs.mapM (res1 tmps)).run P w = .ok vs w ∧ RVs G xs vs
  | [], c, xs, h, _ => by
    simp [evRess] at h
    obtain ⟨_, rfl⟩ := h
    exact ⟨[], by simp, by simp [RVs]⟩
  | r :: rs, c, xs, h, hc => by
    simp only [evRess] at h
    split at h
    · rename_i c1 x d ys h1 h2
      simp only [Option.some.injEq, Prod.mk.injEq] at h
      obtain ⟨h3, rfl⟩ := h
      rw [← h3] at hc
      simp only [Bool.and_eq_true] at hc
      obtain ⟨v, hv, hrv⟩ := evRes1_ok hE hr he h1 hc.1
      obtain ⟨vs, hvs, hrs⟩ := evRess_ok hE hr he h2 hc.2
      refine ⟨v :: vs, ?_, by simp only [RVs]; exact ⟨v, vs, rfl, hrv, hrs⟩⟩
      rw [List.mapM_cons]
      simp only [Sem.run_bind, hv, Result.andThen_ok, hvs, Sem.run_pure]
    · cases h

theorem evRes_ok (hE : EOK P E) {G : Gh} {w : World} (hr : HRel G w) {env : List (Nat × AV)} {tmps : Array Value} (he : EnvR G env tmps) {fn : Func} {c : Bool} {x : AV} (h : evRes E env G.H fn.results.toList = some (c, x)) (hc : c = true) :
    ∃ v, (results fn tmps).run P w = .ok v w ∧ RV G x v := by
  unfold evRes at h
  have key : ∀ {xs : List AV} {c' : Bool}, evRess E env G.H fn.results.toList = some (c', xs) → c' = true → ∃ vs : List Value, RVs G xs vs ∧ (results fn tmps).run P w = .ok (if h : vs.toArray.size = 1 then vs.toArray[0] else .tuple vs.toArray) w := by
    intro xs c' h1 h2
    obtain ⟨vs, hvs, hrs⟩ := evRess_ok hE hr he h1 h2
    refine ⟨vs, hrs, ?_⟩
    rw [results_eq]
    simp only [Sem.run_bind]
    rw [Array.mapM_eq_mapM_toList]
    simp only [Sem.run_map, hvs, Result.andThen_ok, Sem.run_pure]
  split at h
  · rename_i c' y h1
    simp only [Option.some.injEq, Prod.mk.injEq] at h
    obtain ⟨rfl, rfl⟩ := h
    obtain ⟨vs, h2, h3⟩ := key h1 hc
    simp only [RVs] at h2
    obtain ⟨v, r, rfl, h4, rfl⟩ := h2
    exact ⟨v, by rw [h3]; simp, h4⟩
  · rename_i c' xs hne h1
    simp only [Option.some.injEq, Prod.mk.injEq] at h
    obtain ⟨rfl, rfl⟩ := h
    obtain ⟨vs, h2, h3⟩ := key h1 hc
    have hl := RVs.getK h2
    have : vs.toArray.size ≠ 1 := by
      intro e
      cases xs with
      | nil => simp at hl; simp [hl] at e
      | cons x r =>
        cases r with
        | nil => exact hne x rfl
        | cons y r => simp at hl; simp [hl] at e
    refine ⟨.tuple vs.toArray, by rw [h3, dif_neg this], ?_⟩
    simp only [RV]
    exact ⟨vs, rfl, h2⟩
  · cases h


/-! ### A function out of its body -/

def QRet (K : St → Prop) : Exit → St → Prop
  | .ret, S => K S
  | .normal, S => K S
  | _, _ => False

/-- The arguments lie in the first temporaries. -/
def envOf : Nat → List AV → List (Nat × AV)
  | _, [] => []
  | n, x :: r => (n, x) :: envOf (n + 1) r

theorem envOf_get : ∀ {l : List AV} {n t : Nat} {x : AV}, get (envOf n l) t = some x → n ≤ t ∧ l[t - n]? = some x
  | [], n, t, x, h => by simp [envOf, get] at h
  | y :: l, n, t, x, h => by
    simp only [envOf, get] at h
    split at h
    · rename_i hb
      have := Nat.eq_of_beq_eq_true hb
      subst this
      cases h
      simp
    · obtain ⟨h1, h2⟩ := envOf_get h
      refine ⟨by omega, ?_⟩
      rw [show t - n = (t - (n + 1)) + 1 by omega]
      simpa using h2

/-- How a body is left: it returns, or ends in a panic. -/
def QRetP (K : St → Prop) (KP : List PanicEntry → St → Prop) : Exit → St → Prop
  | .ret, S => K S
  | .normal, S => K S
  | .panic ch, S => KP ch S
  | _, _ => False
theorem QRet_le {K : St → Prop} {KP : List PanicEntry → St → Prop} : ∀ e S, QRet K e S → QRetP K KP e S := by
  intro e S h
  cases e <;> first | exact h | exact h.elim

/-- The body walked, what is known at its end. -/
theorem body_runP {f : FuncId} {fn : Func} {c : Code} (hE : EOK P E) (hf : P.funcs[f]? = some fn) (hb : fn.body = some c) {args : List AV} {H : List Blk} (hn : args.length ≤ fn.ntmps) {K : AV → List Blk → Prop} {KP : List PanicEntry → List Blk → Prop}
    (h : W P none c ⟨envOf 0 args, H, fn.ntmps⟩ (QRetP (fun S' => ∃ cc x, evRes E S'.env S'.H fn.results.toList = some (cc, x) ∧ cc = true ∧ K x S'.H) fun ch S' => KP ch S'.H))
    {G : Gh} {w : World} {vs : Array Value} (hG : G.H = H) (hr : HRel G w) (hargs : RVs G args vs.toList) {R : Ending → World → Prop}
    (hR : ∀ (x : AV) (v : Value) (G' : Gh) (w1 w' : World) (ms : List Nat), K x G'.H → RV G' x v → HRel G' w1 → HRel G' w' → Frm G w G' w1 → Took ms w1 w' → (∀ r ∈ ms, w.heap.size ≤ r) → R (.returned v) w')
    (hP : ∀ (ch : List PanicEntry) (G' : Gh) (w1 w' : World) (ms : List Nat), KP ch G'.H → HRel G' w1 → HRel G' w' → Frm G w G' w1 → Took ms w1 w' → (∀ r ∈ ms, w.heap.size ≤ r) → R (.panicked ch) w') :
    CallsIn Fence.wide 0 P f vs w R := by
  refine callsIn_of_wp_marks hf hb trivial ?_
  have hl : vs.size = args.length := by have := RVs.getK hargs; simpa using this
  have r0 : Rel none ⟨w.heap.size, []⟩ ⟨envOf 0 args, H, fn.ntmps⟩ G { tmps := vs ++ Array.replicate (fn.ntmps - vs.size) undef, defers := [] } w := by
    refine ⟨hG, hr, by simp; omega, fun t x hx => ?_, ⟨Nat.le_refl _, [], rfl, List.nodup_nil, fun _ h => by cases h⟩, fun _ h => by cases h⟩
    obtain ⟨_, h2⟩ := envOf_get hx
    rw [Nat.sub_zero] at h2
    obtain ⟨v, hv, hrv⟩ := (RVs_get.1 hargs).2 t x h2
    have hlt : t < vs.size := by simpa using (List.getElem?_eq_some_iff.1 hv).1
    exact ⟨v, by rw [Array.getElem?_append_left hlt]; simpa using hv, hrv⟩
  have hw := h ⟨w.heap.size, []⟩ G _ w r0
  refine wpIn_mono hw ?_
  rintro e a' w1 ⟨S', G', q, r', k⟩
  have fin : (∃ cc x, evRes E S'.env S'.H fn.results.toList = some (cc, x) ∧ cc = true ∧ K x S'.H) → LeavesInM Fence.wide 0 P fn a'.tmps R a'.defers .returning w1 := by
    rintro ⟨cc, x, h1, h2, h3⟩
    obtain ⟨_, ms, m1, m2, m3⟩ := r'.marks
    rw [m1]
    refine leaves_marks ms w1 m2 (fun r hr => (m3 r hr).2.1) (fun w' ht => ?_)
    have hr2 := took_rel r'.rel ht (fun r hr => (m3 r hr).2)
    obtain ⟨v, hv, hrv⟩ := evRes_ok hE hr2 r'.env (fn := fn) (by rw [r'.heap]; exact h1) h2
    exact ⟨v, hv, hR x v G' w1 w' ms (by rw [r'.heap]; exact h3) hrv r'.rel hr2 k ht (fun r hr => (m3 r hr).1)⟩
  cases e with
  | normal => exact fin q
  | ret => exact fin q
  | panic ch =>
    obtain ⟨_, ms, m1, m2, m3⟩ := r'.marks
    show LeavesInM Fence.wide 0 P fn a'.tmps R a'.defers (.panicking ch) w1
    rw [m1]
    refine leaves_marksG (by simp) ms w1 m2 (fun r hr => (m3 r hr).2.1) (fun w' ht => ?_)
    have hr2 := took_rel r'.rel ht (fun r hr => (m3 r hr).2)
    simp only [LeavesInM, LeavesIn]
    exact hP ch G' w1 w' ms (by rw [r'.heap]; exact q) r'.rel hr2 k ht (fun r hr => (m3 r hr).1)
  | _ => exact q.elim

theorem body_run {f : FuncId} {fn : Func} {c : Code} (hE : EOK P E) (hf : P.funcs[f]? = some fn) (hb : fn.body = some c) {args : List AV} {H : List Blk} (hn : args.length ≤ fn.ntmps) {K : AV → List Blk → Prop}
    (h : W P none c ⟨envOf 0 args, H, fn.ntmps⟩ (QRet fun S' => ∃ cc x, evRes E S'.env S'.H fn.results.toList = some (cc, x) ∧ cc = true ∧ K x S'.H))
    {G : Gh} {w : World} {vs : Array Value} (hG : G.H = H) (hr : HRel G w) (hargs : RVs G args vs.toList) {R : Ending → World → Prop}
    (hR : ∀ (x : AV) (v : Value) (G' : Gh) (w1 w' : World) (ms : List Nat), K x G'.H → RV G' x v → HRel G' w1 → HRel G' w' → Frm G w G' w1 → Took ms w1 w' → (∀ r ∈ ms, w.heap.size ≤ r) → R (.returned v) w') :
    CallsIn Fence.wide 0 P f vs w R :=
  body_runP (KP := fun _ _ => False) hE hf hb hn (h.mono QRet_le) hG hr hargs hR fun _ _ _ _ _ hk => hk.elim

theorem FnT_of_W {f : FuncId} {fn : Func} {c : Code} (hE : EOK P E) (hf : P.funcs[f]? = some fn) (hb : fn.body = some c) (hname : (fn.name == "runtime.NumGoroutine") = false) {args : List AV} {H : List Blk} (hn : args.length ≤ fn.ntmps) {R : AV → List Blk → Prop}
    (h : W P none c ⟨envOf 0 args, H, fn.ntmps⟩ (QRet fun S' => ∃ cc x, evRes E S'.env S'.H fn.results.toList = some (cc, x) ∧ cc = true ∧ R x S'.H)) : FnT P f args H R := by
  refine ⟨⟨fn, hf, hname, by rw [hb]; rfl⟩, fun G w vs hG hr hargs => body_run hE hf hb hn h hG hr hargs ?_⟩
  intro x v G' w1 w' ms hK hv h1 h2 hfr ht hms
  refine ⟨v, x, G', rfl, hK, hv, h2, ⟨ht.os.trans hfr.os, ht.tape.trans hfr.tape, ht.output.trans hfr.output, by rw [ht.size]; exact hfr.size, fun b hb ho => ?_, hfr.memNew, hfr.gle⟩⟩
  obtain ⟨k1, k2⟩ := hfr.keep b hb ho
  exact ⟨(ht.other b fun hm => by have := hms b hm; omega).trans k1, k2⟩

/-! ### Pure contracts -/

def MemOK (m : Mem) (w : World) : Prop := ∀ b k v, m b k = some v → w.cell? ⟨b, k, none⟩ = some v

/-- Plain data in, plain data out; nothing that was there is changed. -/
def Fn (P : Program) (f : FuncId) (ds : List D) (r : D) : Prop :=
  Callable P f ∧ ∀ (m : Mem) (w : World) (vs : Array Value), MemOK m w → SOK m → RDs m ds vs.toList →
    CallsIn Fence.wide 0 P f vs w fun e w' => ∃ v m', e = .returned v ∧ RD m' r v ∧ m.le m' ∧ MemOK m' w' ∧ (∀ b k v, m' b k = some v → m b k = some v ∨ w.heap.size ≤ b) ∧
      w'.os = w.os ∧ w'.tape = w.tape ∧ w'.output = w.output ∧ w.heap.size ≤ w'.heap.size ∧ ∀ b, b < w.heap.size → w'.heap[b]? = w.heap[b]?

mutual
/-- A value as plain data, once nobody writes any more. -/
def Frz (H : List Blk) : AV → D → Prop
  | .d x, r => r = x
  | .e0, r => isSl r = true ∧ sln r = 0 ∧ slOk r
  | .sl id n _, r => H[id]? = some (.a r) ∧ n = sln r
  | .ag xs, r => ∃ l, r = .agg l ∧ Frzs H xs l
  | .tup xs, r => ∃ l, r = .tup l ∧ Frzs H xs l
  | _, _ => False
def Frzs (H : List Blk) : List AV → List D → Prop
  | [], l => l = []
  | x :: xs, l => ∃ y r, l = y :: r ∧ Frz H x y ∧ Frzs H xs r
end

mutual
theorem frz_ok {G : Gh} {w : World} (hr : HRel G w) {m : Mem} (hm : G.m.le m) (hown : ∀ b k v, Own G b → w.cell? ⟨b, k, none⟩ = some v → m b k = some v) : ∀ {x : AV} {d : D} {v : Value}, Frz G.H x d → RV G x v → RD m d v
  | .d x, d, v, h, r => by
    simp only [Frz] at h
    simp only [RV] at r
    subst h
    exact r.mono hm
  | .e0, d, v, h, r => by
    simp only [Frz] at h
    simp only [RV] at r
    obtain ⟨a, rfl⟩ := r
    exact (RD_sl h.1).2 ⟨a, 0, by rw [h.2.1], by omega, h.2.2, .inl h.2.1⟩
  | .sl id n sz, d, v, h, r => by
    simp only [Frz] at h
    obtain ⟨h1, h2⟩ := h
    simp only [RV] at r
    obtain ⟨_, blk, hb, hp⟩ := r
    rw [h1] at hb; cases hb
    obtain ⟨g1, g2, g3⟩ := hp
    obtain ⟨k1, k2, k3⟩ := hr.blk id _ h1
    rcases g3 h2 with ⟨g4, a, rfl⟩ | ⟨b, N, cap, g4, rfl, g6, _⟩
    · exact (RD_sl k1).2 ⟨a, 0, by rw [← h2, g4], by omega, k2, .inl (by omega)⟩
    · rcases k3 with ⟨k3, k4⟩ | ⟨b', N', vs, T, k4, k5, k6, k7⟩
      · exact (RD_sl k1).2 ⟨_, cap, by rw [← h2], by omega, k2, .inl k3⟩
      · rw [g4] at k4; cases k4
        refine (RD_sl k1).2 ⟨_, cap, by rw [← h2], by omega, k2, .inr ⟨b, 0, rfl, fun k d hd => ?_⟩⟩
        obtain ⟨u, hu, h1c, hru⟩ := k7 k d hd
        refine ⟨u, ?_, h1c, hru.mono hm⟩
        rw [Nat.zero_add]
        exact hown b k u ⟨id, N, _, h1, rfl, g4⟩ (by rw [cell_block k5]; exact hu)
  | .ag xs, d, v, h, r => by
    simp only [Frz] at h
    simp only [RV] at r
    obtain ⟨l, rfl, hl⟩ := h
    obtain ⟨vs, rfl, hvs⟩ := r
    simp only [RD]
    exact ⟨vs, rfl, frzs_ok hr hm hown hl hvs⟩
  | .tup xs, d, v, h, r => by
    simp only [Frz] at h
    simp only [RV] at r
    obtain ⟨l, rfl, hl⟩ := h
    obtain ⟨vs, rfl, hvs⟩ := r
    simp only [RD]
    exact ⟨vs, rfl, frzs_ok hr hm hown hl hvs⟩
  | .u, _, _, h, _ => by simp [Frz] at h
  | .ptr _ _ _, _, _, h, _ => by simp [Frz] at h
  | .bs _ _ _ _ _, _, _, h, _ => by simp [Frz] at h
  | .ep _ _ _ _ _, _, _, h, _ => by simp [Frz] at h
  | .fn _ _ _, _, _, h, _ => by simp [Frz] at h
  | .yl _, _, _, h, _ => by simp [Frz] at h
  | .dp _, _, _, h, _ => by simp [Frz] at h
  | .mp _, _, _, h, _ => by simp [Frz] at h
theorem frzs_ok {G : Gh} {w : World} (hr : HRel G w) {m : Mem} (hm : G.m.le m) (hown : ∀ b k v, Own G b → w.cell? ⟨b, k, none⟩ = some v → m b k = some v) : ∀ {xs : List AV} {ds : List D} {vs : List Value}, Frzs G.H xs ds → RVs G xs vs → RDs m ds vs
  | [], ds, vs, h, r => by
    simp only [Frzs] at h
    simp only [RVs] at r
    subst h; subst r
    simp [RDs]
  | x :: xs, ds, vs, h, r => by
    simp only [Frzs] at h
    simp only [RVs] at r
    obtain ⟨y, q, rfl, h1, h2⟩ := h
    obtain ⟨v, u, rfl, r1, r2⟩ := r
    simp only [RDs]
    exact ⟨v, u, rfl, frz_ok hr hm hown h1 r1, frzs_ok hr hm hown h2 r2⟩
end

theorem Fn_of_W {f : FuncId} {fn : Func} {c : Code} (hE : EOK P E) (hf : P.funcs[f]? = some fn) (hb : fn.body = some c) (hname : (fn.name == "runtime.NumGoroutine") = false) {ds : List D} {r : D} (hn : ds.length ≤ fn.ntmps)
    (h : W P none c ⟨envOf 0 (ds.map .d), [], fn.ntmps⟩ (QRet fun S' => ∃ cc x, evRes E S'.env S'.H fn.results.toList = some (cc, x) ∧ cc = true ∧ Frz S'.H x r)) : Fn P f ds r := by
  refine ⟨⟨fn, hf, hname, by rw [hb]; rfl⟩, fun m w vs hm hst hargs => ?_⟩
  let G : Gh := { ρ := fun _ => none, H := [], m := m }
  have hr : HRel G w := ⟨fun id b hb => by simp [G] at hb, fun id id' p q b N N' hp => by simp [G] at hp, hm, fun b ho => by obtain ⟨id, N, q, hq, _⟩ := ho; simp [G] at hq, hst⟩
  have hno : ∀ b, ¬ Own G b := fun b ho => by obtain ⟨id, N, q, hq, _⟩ := ho; simp [G] at hq
  refine body_run (G := G) (K := fun x H => Frz H x r) hE hf hb (by simpa using hn) h rfl hr (RVs_d.2 hargs) ?_
  intro x v G' w1 w' ms hK hv h1 h2 hfr ht hms
  -- what is new stays from now on
  let m' : Mem := fun b k => match G'.m b k with
    | some v => some v
    | none => if w.heap.size ≤ b then w'.cell? ⟨b, k, none⟩ else none
  have hle : G'.m.le m' := fun b k v hv => by simp only [m', hv]
  have hmem : MemOK m' w' := by
    intro b k v hv
    simp only [m'] at hv
    split at hv
    · rename_i u hu; cases hv; exact h2.mem b k _ hu
    · split at hv
      · exact hv
      · cases hv
  refine ⟨v, m', rfl, frz_ok h2 hle ?_ hK hv, Mem.le_trans hfr.gle.mem hle, hmem, ?_, ht.os.trans hfr.os, ht.tape.trans hfr.tape, ht.output.trans hfr.output, by rw [ht.size]; exact hfr.size, fun b hb => ?_⟩
  · intro b k v ho hc
    have hge : w.heap.size ≤ b := by
      rcases Nat.lt_or_ge b w.heap.size with hlt | hge
      · exact absurd ho (hfr.keep b hlt (hno b)).2
      · exact hge
    simp only [m', h2.sep b ho k, if_pos hge, hc]
  · intro b k v hv
    simp only [m'] at hv
    split at hv
    · rename_i u hu
      cases hv
      rcases hfr.memNew b k _ hu with h3 | h3 | h3
      · exact .inl h3
      · exact absurd h3 (hno b)
      · exact .inr h3
    · split at hv
      · rename_i hge; exact .inr hge
      · cases hv
  · exact (ht.other b fun hm => by have := hms b hm; omega).trans (hfr.keep b hb (hno b)).1

/-- A call of a function with a pure contract. -/
def toDs : List AV → Option (List D)
  | [] => some []
  | .d x :: r => match toDs r with
    | some l => some (x :: l)
    | none => none
  | _ => none

/-- The arguments, as plain data. -/
def AsD : List AV → List D → Prop := Frzs []

mutual
theorem asD1_ok {G : Gh} : ∀ {x : AV} {d : D} {v : Value}, Frz [] x d → RV G x v → RD G.m d v
  | .d x, d, v, h, r => by
    simp only [Frz] at h
    simp only [RV] at r
    subst h
    exact r
  | .e0, d, v, h, r => by
    simp only [Frz] at h
    simp only [RV] at r
    obtain ⟨a, rfl⟩ := r
    exact (RD_sl h.1).2 ⟨a, 0, by rw [h.2.1], by omega, h.2.2, .inl h.2.1⟩
  | .sl id n sz, d, v, h, r => by simp [Frz] at h
  | .ag xs, d, v, h, r => by
    simp only [Frz] at h
    simp only [RV] at r
    obtain ⟨l, rfl, hl⟩ := h
    obtain ⟨vs, rfl, hvs⟩ := r
    simp only [RD]
    exact ⟨vs, rfl, asDs_ok hl hvs⟩
  | .tup xs, d, v, h, r => by
    simp only [Frz] at h
    simp only [RV] at r
    obtain ⟨l, rfl, hl⟩ := h
    obtain ⟨vs, rfl, hvs⟩ := r
    simp only [RD]
    exact ⟨vs, rfl, asDs_ok hl hvs⟩
  | .u, _, _, h, _ => by simp [Frz] at h
  | .ptr _ _ _, _, _, h, _ => by simp [Frz] at h
  | .bs _ _ _ _ _, _, _, h, _ => by simp [Frz] at h
  | .ep _ _ _ _ _, _, _, h, _ => by simp [Frz] at h
  | .fn _ _ _, _, _, h, _ => by simp [Frz] at h
  | .yl _, _, _, h, _ => by simp [Frz] at h
  | .dp _, _, _, h, _ => by simp [Frz] at h
  | .mp _, _, _, h, _ => by simp [Frz] at h
theorem asDs_ok {G : Gh} : ∀ {xs : List AV} {ds : List D} {vs : List Value}, Frzs [] xs ds → RVs G xs vs → RDs G.m ds vs
  | [], ds, vs, h, r => by
    simp only [Frzs] at h
    simp only [RVs] at r
    subst h; subst r
    simp [RDs]
  | x :: xs, ds, vs, h, r => by
    simp only [Frzs] at h
    simp only [RVs] at r
    obtain ⟨y, q, rfl, h1, h2⟩ := h
    obtain ⟨v, u, rfl, r1, r2⟩ := r
    simp only [RDs]
    exact ⟨v, u, rfl, asD1_ok h1 r1, asDs_ok h2 r2⟩
end
theorem asD_ok {G : Gh} {xs : List AV} {ds : List D} (h : AsD xs ds) {vs : List Value} (r : RVs G xs vs) : RDs G.m ds vs := asDs_ok h r

theorem Fn.toT {f : FuncId} {ds : List D} {r : D} (h : Fn P f ds r) {xs : List AV} (hx : AsD xs ds) (H : List Blk) : FnT P f xs H fun x H' => x = .d r ∧ H' = H := by
  refine ⟨h.1, fun G w vs hG hr hargs => (h.2 G.m w vs hr.mem hr.st (asD_ok hx hargs)).mono ?_⟩
  rintro e w' ⟨v, m', rfl, h1, h2, h3, h4, h5, h6, h7, h8, h9⟩
  obtain ⟨k1, k2⟩ := grow_ok hr h5 h6 h7 h8 h9 m' h2 h4 h3
  exact ⟨v, .d r, { G with m := m' }, rfl, ⟨rfl, hG⟩, by simpa only [RV] using h1, k1, k2⟩

end
end Go.Gar

/- The frame, part 17: calls by pure contracts; tables of types. -/
namespace Go.Gar

section
variable {P : Program} {ro : Option Nat} {ops : Array Oper} {i : Nat} {rest : List Oper} {S : St} {Q : Exit → St → Prop} {o : Oper}

def callOf (op : Op) : Option (Operand × List Operand) :=
  match op with
  | .call c => match c.callee with
    | .value f => some (f, c.args.toList)
    | _ => none
  | _ => none
theorem callOf_eq {op : Op} {f : Operand} {l : List Operand} (h : callOf op = some (f, l)) : ∃ c : Call, op = .call c ∧ c.callee = .value f ∧ c.args.toList = l := by
  unfold callOf at h
  split at h
  · rename_i c
    split at h
    · rename_i g hg
      cases h
      exact ⟨c, rfl, hg, rfl⟩
    · cases h
  · cases h

/-- What is called, with what. -/
def evCall (env : List (Nat × AV)) (op : Op) : Option (Nat × List AV) :=
  match callOf op with
  | some (f, l) => match opd env f, opds env l with
    | some (.fn (.func g) first cap), some xs => match first, cap with
      | [], [] => some (g, xs)
      | _, _ => some (g, first ++ xs ++ cap)
    | _, _ => none
  | none => none

theorem Wl_T {g : Nat} {xs : List AV} {R : AV → List Blk → Prop} (hg : guardV ops S.env o = some true) (h : evCall S.env o.op = some (g, xs)) (hd : dstOK o.dst S.n = true) (hT : FnT P g xs S.H R)
    (k : ∀ r H', R r H' → Wl P ro ops (i + 1) rest ⟨pushE o.dst r S.env, H', S.n⟩ Q) : Wl P ro ops i (o :: rest) S Q := by
  unfold evCall at h
  split at h
  · rename_i f l hcl
    obtain ⟨c, ho, hc, hl⟩ := callOf_eq hcl
    subst hl
    split at h
    · rename_i g' first cap ys hf hxs
      have : g' = g ∧ first ++ ys ++ cap = xs := by
        split at h
        · cases h; simp
        · cases h; exact ⟨rfl, rfl⟩
      obtain ⟨rfl, rfl⟩ := this
      exact Wl_callT ho hc hg hf hxs hd hT k
    · cases h
  · cases h

/-- By a pure contract. -/
theorem Wl_F {g : Nat} {xs : List AV} {ds : List D} {r : D} (hg : guardV ops S.env o = some true) (h : evCall S.env o.op = some (g, xs)) (hd : dstOK o.dst S.n = true) (hF : Fn P g ds r) (hx : AsD xs ds)
    (k : Wl P ro ops (i + 1) rest ⟨pushE o.dst (.d r) S.env, S.H, S.n⟩ Q) : Wl P ro ops i (o :: rest) S Q :=
  Wl_T hg h hd (hF.toT hx S.H) fun x H' ⟨h1, h2⟩ => by subst h1; subst h2; exact k
end

/-! ### Tables of types -/

inductive Tr where
  | l
  | n (a : Tr) (k : Nat) (v : TyI) (b : Tr)
def Tr.get : Tr → Nat → Option TyI
  | .l, _ => none
  | .n a k v b, t => match Nat.beq t k with
    | true => some v
    | false => match Nat.blt t k with
      | true => a.get t
      | false => b.get t
def Tr.toL : Tr → List (Nat × TyI)
  | .l => []
  | .n a k v b => a.toL ++ (k, v) :: b.toL
theorem Tr.get_mem : ∀ {T : Tr} {t : Nat} {v : TyI}, T.get t = some v → (t, v) ∈ T.toL
  | .l, t, v, h => by simp [Tr.get] at h
  | .n a k u b, t, v, h => by
    simp only [Tr.get] at h
    simp only [Tr.toL, List.mem_append, List.mem_cons]
    split at h
    · rename_i hb
      cases h
      have := Nat.eq_of_beq_eq_true hb
      subst this
      exact .inr (.inl rfl)
    · split at h
      · exact .inl (Tr.get_mem h)
      · exact .inr (.inr (Tr.get_mem h))
theorem Tr.ok {P : Program} {T : Tr} (h : T.toL.map (fun p => mkTy P p.1) = T.toL.map fun p => some p.2) : EOK P T.get := by
  intro t i hi
  have hm := Tr.get_mem hi
  obtain ⟨k, hk, he⟩ := List.mem_iff_getElem.1 hm
  have := congrArg (·[k]?) h
  simp only [List.getElem?_map, List.getElem?_eq_getElem hk, Option.map_some, Option.some.injEq] at this
  rw [he] at this
  exact this

end Go.Gar

/- The frame, part 18: regions whose order is drawn. -/
namespace Go.Gar

section
variable {P : Program} {ro : Option Nat} {ops : Array Oper} {S : St} {Q : Exit → St → Prop} {o : Oper} {E : Nat → Option TyI}

/-- An operation, or a call, from a state to a value and a heap. -/
def StepOK (P : Program) (ro : Option Nat) (o : Oper) (S : St) (x : AV) (H' : List Blk) : Prop :=
  ∀ N G a w (K : Act → World → Prop) (R : Exit → Act → World → Prop), Rel ro N S G a w →
    (∀ v w' G', RV G' x v → G'.H = H' → HRel G' w' → Frm G w G' w' → K (a.put o.dst v) w') → o.wpIn (fnc (rl G ro)) 0 P a w K R

theorem OpOK.step {x : AV} {H' : List Blk} (hop : OpOK P o S x H') (hnd : ∀ c, o.op ≠ .defer c) : StepOK P ro o S x H' := by
  intro N G a w K R r hK
  obtain ⟨res, w', G', h1, h2, h3, h4, h5⟩ := hop ro N G a w r
  refine ⟨fun _ _ => trivial, ?_⟩
  rw [Oper.semAt_eq _ _ _ hnd, h1]
  rcases h2 with ⟨rfl, rfl⟩ | ⟨v, rfl, hv⟩
  · exact hK undef w' G' (by simp [RV]) h3 h4 h5
  · exact hK v w' G' hv h3 h4 h5

theorem call_step {c : Call} {fo : Operand} {g : FuncId} {first cap xs : List AV} {x : AV} {H' : List Blk} (ho : o.op = .call c) (hc : c.callee = .value fo) (hf : opd S.env fo = some (.fn (.func g) first cap)) (hxs : opds S.env c.args.toList = some xs)
    (hT : FnT P g (first ++ xs ++ cap) S.H fun y H => y = x ∧ H = H') : StepOK P ro o S x H' := by
  intro N G a w K R r hK
  refine ⟨fun _ _ => trivial, ?_⟩
  have hfv := opd_ok r.env hf
  simp only [RV] at hfv
  obtain ⟨p, q, hfv, hp, hq⟩ := hfv
  have hrun := run_call (P := P) (f := g) hc hfv hT.1 ho w
  rw [Oper.semAt_eq _ _ _ (fun c e => by rw [ho] at e; cases e), hrun]
  simp only [Oper.uponIn]
  refine ⟨fnc_depth _, ?_⟩
  have hargs : RVs G (first ++ xs ++ cap) (p.toArray ++ c.args.map a.eval ++ q.toArray).toList := by
    have h1 := opds_ok r.env hxs
    rw [RVs_get] at hp hq h1 ⊢
    have e : (p.toArray ++ c.args.map a.eval ++ q.toArray).toList = p ++ c.args.toList.map a.eval ++ q := by simp
    rw [e]
    refine ⟨by simp only [List.length_append]; rw [hp.1, hq.1, h1.1], fun k x hx => ?_⟩
    rcases Nat.lt_or_ge k (first ++ xs).length with hk | hk
    · rw [List.getElem?_append_left hk] at hx
      rw [List.getElem?_append_left (by simp only [List.length_append] at hk ⊢; rw [hp.1, h1.1]; exact hk)]
      rcases Nat.lt_or_ge k first.length with hk2 | hk2
      · rw [List.getElem?_append_left hk2] at hx
        rw [List.getElem?_append_left (by rw [hp.1]; exact hk2)]
        exact hp.2 k x hx
      · rw [List.getElem?_append_right hk2] at hx
        rw [List.getElem?_append_right (by rw [hp.1]; exact hk2), hp.1]
        exact h1.2 _ x hx
    · rw [List.getElem?_append_right hk] at hx
      rw [List.getElem?_append_right (by simp only [List.length_append] at hk ⊢; rw [hp.1, h1.1]; exact hk)]
      have : (p ++ c.args.toList.map a.eval).length = (first ++ xs).length := by simp only [List.length_append]; rw [hp.1, h1.1]
      rw [this]
      exact hq.2 _ x hx
  have hcall := hT.2 G w _ r.heap r.rel hargs
  have hcall' : CallsIn (fnc (rl G ro)) 0 P g (p.toArray ++ c.args.map a.eval ++ q.toArray) w _ := hcall
  refine hcall'.mono ?_
  rintro e w' ⟨v, y, G', rfl, ⟨rfl, hH⟩, hv, hr', hfr⟩
  exact hK v w' G' hv hH hr' hfr

theorem T_step {g : Nat} {xs : List AV} {x : AV} {H' : List Blk} (h : evCall S.env o.op = some (g, xs)) (hT : FnT P g xs S.H fun y H => y = x ∧ H = H') : StepOK P ro o S x H' := by
  unfold evCall at h
  split at h
  · rename_i f l hcl
    obtain ⟨c, ho, hc, hl⟩ := callOf_eq hcl
    subst hl
    split at h
    · rename_i g' first cap ys hf hxs
      have : g' = g ∧ first ++ ys ++ cap = xs := by
        split at h
        · cases h; simp
        · cases h; exact ⟨rfl, rfl⟩
      obtain ⟨rfl, rfl⟩ := this
      exact call_step ho hc hf hxs hT
    · cases h
  · cases h

/-! ### The plan of a region -/

/-- What the operands of an operation name. -/
def lkT : Operand → List Nat
  | .tmp t => [t]
  | _ => []
def lkTs : List Operand → List Nat
  | [] => []
  | x :: r => lkT x ++ lkTs r
def lkO : Option Operand → List Nat
  | some x => lkT x
  | none => []
def lkOp : Op → List Nat
  | .move x | .assign x | .box _ x | .load _ x | .nilCheck x | .unOp _ _ x | .convert _ _ x | .sliceToArrayPointer _ x | .makeInterface _ x
  | .makeChan _ x | .fieldAddr _ x _ | .field _ x _ | .range _ x | .next x _ | .entry x | .typeAssert x _ _ _ | .extract x _ | .panic x | .recv _ x _ => lkT x
  | .pick c a b => lkT c ++ lkT a ++ lkT b
  | .build _ ps | .buildSlice _ _ ps => lkTs (ps.toList.map (·.2))
  | .store _ a v | .binOp _ _ a v _ | .makeSlice _ a v | .indexAddr _ a v | .index _ a v | .lookup _ a v _ | .mapEntry _ a v | .send a v => lkT a ++ lkT v
  | .makeFunc _ first captured => lkTs first.toList ++ lkTs captured.toList
  | .makeMap _ r => lkO r
  | .slice _ x l h m => lkT x ++ lkO l ++ lkO h ++ lkO m
  | .mapUpdate _ m k v | .entryStore _ m k v | .insert _ m k v => lkT m ++ lkT k ++ lkT v
  | .call c => (match c.callee with | .value f => lkT f | .invoke r _ => lkT r | .builtin _ => []) ++ lkTs c.args.toList
  | _ => []
def lkG (ops : Array Oper) (o : Oper) : List Nat :=
  match o.guard with
  | some (j, _) => match ops.toList[j]? with
    | some p => match p.dst with
      | some d => [d]
      | none => []
    | none => []
  | none => []
def looks (ops : Array Oper) (o : Oper) : List Nat := lkG ops o ++ lkOp o.op

/-- The part of the state that an operation looks at. -/
def rst : List Nat → List (Nat × AV) → List (Nat × AV)
  | [], _ => []
  | t :: r, env => match get env t with
    | some x => (t, x) :: rst r env
    | none => rst r env
theorem rst_get : ∀ {l : List Nat} {env : List (Nat × AV)} {t : Nat} {x : AV}, get (rst l env) t = some x → t ∈ l ∧ get env t = some x
  | [], env, t, x, h => by simp [rst, get] at h
  | s :: r, env, t, x, h => by
    simp only [rst] at h
    split at h
    · rename_i y hy
      simp only [get] at h
      split at h
      · rename_i hb
        have := Nat.eq_of_beq_eq_true hb
        subst this
        cases h
        exact ⟨by simp, hy⟩
      · obtain ⟨h1, h2⟩ := rst_get h
        exact ⟨by simp [h1], h2⟩
    · obtain ⟨h1, h2⟩ := rst_get h
      exact ⟨by simp [h1], h2⟩

inductive Kd where
  | skip | any | quiet | eff
  | pan (ch : List PanicEntry)
  | dead
def Kd.isE : Kd → Bool
  | .eff | .pan _ => true
  | _ => false
/-- An operation that ends in a panic. -/
def StepX (P : Program) (ro : Option Nat) (o : Oper) (S : St) (ch : List PanicEntry) (H' : List Blk) : Prop :=
  ∀ N G a w (K : Act → World → Prop) (R : Exit → Act → World → Prop), Rel ro N S G a w →
    (∀ w' G', G'.H = H' → HRel G' w' → Frm G w G' w' → R (.panic ch) a w') → o.wpIn (fnc (rl G ro)) 0 P a w K R

structure Rc where
  e : List (Nat × AV)
  h : List Blk
  x : AV
  k : Kd

/-- What is known of an operation: its record, and the heap behind it. -/
def Rc.ok (P : Program) (ro : Option Nat) (E : Nat → Option TyI) (ops : Array Oper) (n : Nat) (o : Oper) (r : Rc) (h' : List Blk) : Prop :=
  dstOK o.dst n = true ∧
  match r.k with
  | .skip => guardV ops r.e o = some false ∧ r.x = .d (.tup []) ∧ h' = r.h
  | .any => guardV ops r.e o = some true ∧ (∀ H, StepOK P ro o ⟨r.e, H, n⟩ r.x H) ∧ h' = r.h
  | .quiet => guardV ops r.e o = some true ∧ (∃ c, evQ E r.e r.h o.op = some (c, r.x) ∧ c = true) ∧ h' = r.h
  | .eff => guardV ops r.e o = some true ∧ StepOK P ro o ⟨r.e, r.h, n⟩ r.x h'
  | .pan ch => guardV ops r.e o = some true ∧ StepX P ro o ⟨r.e, r.h, n⟩ ch h'
  | .dead => h' = r.h

/-- The operations so far (the last one first), from a state to a state, in the order of the text. -/
inductive Run (P : Program) (ro : Option Nat) (E : Nat → Option TyI) (ops : Array Oper) (S0 : St) : List Rc → St → Prop
  | nil : Run P ro E ops S0 [] S0
  | snoc {acc : List Rc} {S : St} {o : Oper} {r : Rc} {h' : List Blk} (ht : Run P ro E ops S0 acc S) (ho : ops.toList[acc.length]? = some o) (he : ∀ t x, get r.e t = some x → t ∈ looks ops o ∧ get S.env t = some x) (hh : r.h = S.H)
      (hok : r.ok P ro E ops S.n o h') : Run P ro E ops S0 (r :: acc) ⟨pushE o.dst r.x S.env, h', S.n⟩

theorem Run.trace {S0 : St} {acc : List Rc} {S : St} (h : Run P ro E ops S0 acc S) : ∃ s : Nat → St, s 0 = S0 ∧ s acc.length = S ∧ ∀ i, i < acc.length → ∃ o r, ops.toList[i]? = some o ∧ acc.reverse[i]? = some r ∧
    (∀ t x, get r.e t = some x → t ∈ looks ops o ∧ get (s i).env t = some x) ∧ r.h = (s i).H ∧ (s i).n = S0.n ∧ (s (i + 1)).env = pushE o.dst r.x (s i).env ∧ (s (i + 1)).n = S0.n ∧ r.ok P ro E ops S0.n o (s (i + 1)).H := by
  induction h with
  | nil => exact ⟨fun _ => S0, rfl, rfl, fun i h => by simp at h⟩
  | @snoc acc S o r h' ht ho he hh hok ih =>
    obtain ⟨s, h0, h1, h2⟩ := ih
    have hn : S.n = S0.n := by
      cases hl : acc.length with
      | zero => rw [hl] at h1; rw [← h1, h0]
      | succ k =>
        obtain ⟨_, _, _, _, _, _, _, _, h3, _⟩ := h2 k (by omega)
        rw [← h1, hl, h3]
    refine ⟨fun i => if i ≤ acc.length then s i else ⟨pushE o.dst r.x S.env, h', S.n⟩, by simp [h0], by show (if acc.length + 1 ≤ acc.length then _ else _) = _; rw [if_neg (by omega)], fun i hi => ?_⟩
    rcases Nat.lt_or_ge i acc.length with hlt | hge
    · obtain ⟨o', r', k1, k2, k3, k4, k5, k6, k7, k8⟩ := h2 i hlt
      refine ⟨o', r', k1, ?_, ?_⟩
      · rw [List.reverse_cons, List.getElem?_append_left (by simpa using hlt)]; exact k2
      · have e1 : i ≤ acc.length := by omega
        have e2 : i + 1 ≤ acc.length := hlt
        simp only [e1, e2, if_true]
        exact ⟨k3, k4, k5, k6, k7, k8⟩
    · have : i = acc.length := by simp at hi; omega
      subst this
      refine ⟨o, r, ho, by rw [List.reverse_cons, List.getElem?_append_right (by simp)]; simp, ?_⟩
      have e2 : ¬ (acc.length + 1 ≤ acc.length) := by omega
      simp only [Nat.le_refl, if_true, e2, if_false, h1]
      exact ⟨he, hh, hn, trivial, hn, hn ▸ hok⟩

/-! ### What comes ahead of what -/

def anc1 (acc : List Nat) : List Edge → Nat
  | [] => 0
  | e :: r => if Region.binds .any e then Nat.lor (Nat.lor (2 ^ e.on) (acc.getD e.on 0)) (anc1 acc r) else anc1 acc r
def ancs : List Oper → List Nat → List Nat
  | [], acc => acc
  | o :: l, acc => ancs l (acc ++ [anc1 acc o.after.toList])
def anc (ops : Array Oper) (i : Nat) : Nat := (ancs ops.toList []).getD i 0

theorem ancs_get : ∀ (l : List Oper) (acc : List Nat), (ancs l acc).length = acc.length + l.length ∧ (∀ i, i < acc.length → (ancs l acc)[i]? = acc[i]?) ∧
    ∀ i o, l[i]? = some o → (ancs l acc)[acc.length + i]? = some (anc1 ((ancs l acc).take (acc.length + i)) o.after.toList)
  | [], acc => ⟨by simp [ancs], fun i _ => by simp [ancs], fun i o h => by simp at h⟩
  | o :: l, acc => by
    obtain ⟨h1, h2, h3⟩ := ancs_get l (acc ++ [anc1 acc o.after.toList])
    have htake : (ancs l (acc ++ [anc1 acc o.after.toList])).take acc.length = acc := by
      apply List.ext_getElem?
      intro i
      rcases Nat.lt_or_ge i acc.length with hlt | hge
      · rw [List.getElem?_take_of_lt hlt, h2 i (by simp; omega), List.getElem?_append_left hlt]
      · rw [List.getElem?_eq_none (by simp; omega), List.getElem?_eq_none hge]
    refine ⟨by simp only [ancs, h1, List.length_append, List.length_cons, List.length_nil]; omega, fun i hi => ?_, fun i p hp => ?_⟩
    · simp only [ancs]
      rw [h2 i (by simp; omega), List.getElem?_append_left hi]
    · simp only [ancs]
      cases i with
      | zero =>
        simp at hp
        subst hp
        rw [Nat.add_zero, htake, h2 _ (by simp), List.getElem?_append_right (by simp)]
        simp
      | succ i =>
        have := h3 i p (by simpa using hp)
        simp only [List.length_append, List.length_cons, List.length_nil] at this
        rw [show acc.length + (i + 1) = acc.length + (0 + 1) + i by omega]
        exact this

theorem anc1_bit {acc : List Nat} {j : Nat} : ∀ {l : List Edge}, (anc1 acc l).testBit j = true → ∃ e ∈ l, Region.binds .any e = true ∧ (e.on = j ∨ (acc.getD e.on 0).testBit j = true)
  | [], h => by simp [anc1] at h
  | e :: r, h => by
    simp only [anc1] at h
    split at h
    · rename_i hb
      change (((2 ^ e.on ||| acc.getD e.on 0) ||| anc1 acc r)).testBit j = true at h
      rw [Nat.testBit_or, Nat.testBit_or, Nat.testBit_two_pow] at h
      simp only [Bool.or_eq_true, decide_eq_true_eq] at h
      rcases h with (h | h) | h
      · exact ⟨e, by simp, hb, .inl h⟩
      · exact ⟨e, by simp, hb, .inr h⟩
      · obtain ⟨e', h1, h2⟩ := anc1_bit h
        exact ⟨e', by simp [h1], h2⟩
    · obtain ⟨e', h1, h2⟩ := anc1_bit h
      exact ⟨e', by simp [h1], h2⟩

theorem anc_bit {i j : Nat} {o : Oper} (ho : ops.toList[i]? = some o) (h : (anc ops i).testBit j = true) : ∃ e ∈ o.after.toList, Region.binds .any e = true ∧ (e.on = j ∨ e.on < i ∧ (anc ops e.on).testBit j = true) := by
  obtain ⟨_, _, h3⟩ := ancs_get ops.toList []
  have h4 := h3 i o ho
  simp only [List.length_nil, Nat.zero_add] at h4
  unfold anc at h
  rw [List.getD_eq_getElem?_getD, h4, Option.getD_some] at h
  obtain ⟨e, he, hb, hj⟩ := anc1_bit h
  refine ⟨e, he, hb, hj.imp_right fun hj => ?_⟩
  rcases Nat.lt_or_ge e.on i with hlt | hge
  · refine ⟨hlt, ?_⟩
    rw [List.getD_eq_getElem?_getD, List.getElem?_take_of_lt hlt] at hj
    unfold anc
    rw [List.getD_eq_getElem?_getD]
    exact hj
  · rw [List.getD_eq_getElem?_getD, List.getElem?_eq_none (by simp; omega)] at hj
    simp at hj

def allN : Nat → (Nat → Bool) → Bool
  | 0, _ => true
  | n + 1, p => p n && allN n p
theorem allN_spec {p : Nat → Bool} : ∀ {n : Nat}, allN n p = true → ∀ i, i < n → p i = true
  | 0, _, i, h => by omega
  | n + 1, h, i, hi => by
    simp only [allN, Bool.and_eq_true] at h
    rcases Nat.lt_or_ge i n with hlt | hge
    · exact allN_spec h.2 i hlt
    · have : i = n := by omega
      subst this; exact h.1

def anyN : Nat → (Nat → Bool) → Bool
  | 0, _ => false
  | n + 1, p => p n || anyN n p
theorem anyN_spec {p : Nat → Bool} : ∀ {n : Nat}, anyN n p = true → ∃ i, i < n ∧ p i = true
  | 0, h => by simp [anyN] at h
  | n + 1, h => by
    simp only [anyN, Bool.or_eq_true] at h
    rcases h with h | h
    · exact ⟨n, by omega, h⟩
    · obtain ⟨i, h1, h2⟩ := anyN_spec h
      exact ⟨i, by omega, h2⟩
def isEff : Option Kd → Bool
  | some k => k.isE
  | none => false
def isPanK : Option Kd → Bool
  | some (.pan _) => true
  | _ => false
def isDead : Option Kd → Bool
  | some .dead => true
  | _ => false
def noPan (ks : List Kd) : Bool := ks.all fun k => match k with
  | .pan _ | .dead => false
  | _ => true
def isQuiet : Option Kd → Bool
  | some .quiet => true
  | _ => false
def dstIs (ops : Array Oper) (j t : Nat) : Bool :=
  match ops.toList[j]? with
  | some o => match o.dst with
    | some d => Nat.beq d t
    | none => false
  | none => false
def hasPair (i k : Nat) : List (Nat × Nat) → Bool
  | [] => false
  | p :: r => (Nat.beq p.1 i && Nat.beq p.2 k) || hasPair i k r
/-- The order is strict enough: what an operation looks at is written ahead of it or behind it; those with effects are in order; a quiet one and one with effects are, too, but for the pairs that are named. -/
def drawOKX (ops : Array Oper) (ks : List Kd) (l : List (Nat × Nat)) : Bool :=
  Nat.beq ks.length ops.toList.length &&
  allN ops.toList.length fun i => match ops.toList[i]? with
    | none => false
    | some o =>
      (o.after.toList.all fun e => !Region.binds .any e || Nat.blt e.on i) &&
      ((looks ops o).all fun t => allN ops.toList.length fun j => !dstIs ops j t || Nat.beq j i || (anc ops i).testBit j || (anc ops j).testBit i) &&
      (match o.dst with
        | some d => allN ops.toList.length fun j => Nat.beq j i || !dstIs ops j d
        | none => true) &&
      (!isEff ks[i]? || allN i fun j => !isEff ks[j]? || (anc ops i).testBit j) &&
      (!isQuiet ks[i]? || allN ops.toList.length fun k => !isEff ks[k]? || (Nat.blt k i && (anc ops i).testBit k) || (Nat.blt i k && (anc ops k).testBit i) || hasPair i k l) &&
      (!isDead ks[i]? || anyN ops.toList.length fun j => isPanK ks[j]? && (anc ops i).testBit j)
def drawOK (ops : Array Oper) (ks : List Kd) (l : List (Nat × Nat)) : Bool := noPan ks && drawOKX ops ks l

/-- The heap ahead of an operation. -/
def hAt (rs : List Rc) (Hf : List Blk) (i : Nat) : List Blk :=
  match rs[i]? with
  | some r => r.h
  | none => Hf
/-- The pairs that are not ordered: the quiet one yields the same with the effect, and without it. -/
def extraL (E : Nat → Option TyI) (ops : Array Oper) (rs : List Rc) (Hf : List Blk) : List (Nat × Nat) → Prop
  | [] => True
  | p :: l => (match ops.toList[p.1]?, rs[p.1]? with
    | some o, some r => ∃ c, evQ E r.e (hAt rs Hf (if Nat.blt p.2 p.1 then p.2 else p.2 + 1)) o.op = some (c, r.x) ∧ c = true
    | _, _ => False) ∧ extraL E ops rs Hf l
theorem extraL_get {rs : List Rc} {Hf : List Blk} {i k : Nat} {o : Oper} {r : Rc} (ho : ops.toList[i]? = some o) (hr : rs[i]? = some r) : ∀ {l : List (Nat × Nat)}, extraL E ops rs Hf l → hasPair i k l = true →
    ∃ c, evQ E r.e (hAt rs Hf (if Nat.blt k i then k else k + 1)) o.op = some (c, r.x) ∧ c = true
  | [], _, h => by simp [hasPair] at h
  | p :: l, hx, h => by
    simp only [extraL] at hx
    simp only [hasPair, Bool.or_eq_true, Bool.and_eq_true] at h
    rcases h with ⟨h1, h2⟩ | h
    · have h1 := Nat.eq_of_beq_eq_true h1
      have h2 := Nat.eq_of_beq_eq_true h2
      obtain ⟨p1, p2⟩ := p
      simp only at h1 h2
      subst h1; subst h2
      simp only [ho, hr] at hx
      exact hx.1
    · exact extraL_get ho hr hx.2 h

end
end Go.Gar

/- The frame, part 19: regions whose order is drawn: the rule. -/
namespace Go.Gar

section
variable {P : Program} {ro : Option Nat} {ops : Array Oper} {S0 S : St} {Q : Exit → St → Prop} {E : Nat → Option TyI}

/-- A region's plan, as functions. -/
structure Plan (P : Program) (ro : Option Nat) (E : Nat → Option TyI) (ops : Array Oper) (S0 S : St) (s : Nat → St) (r : Nat → Rc) : Prop where
  s0 : s 0 = S0
  sn : s ops.size = S
  e : ∀ (i : Nat) (o : Oper), ops[i]? = some o → ∀ t x, get (r i).e t = some x → t ∈ looks ops o ∧ get (s i).env t = some x
  h : ∀ i, i < ops.size → (r i).h = (s i).H
  env : ∀ (i : Nat) (o : Oper), ops[i]? = some o → (s (i + 1)).env = pushE o.dst (r i).x (s i).env
  n : ∀ i, i ≤ ops.size → (s i).n = S0.n
  ok : ∀ (i : Nat) (o : Oper), ops[i]? = some o → (r i).ok P ro E ops S0.n o (s (i + 1)).H
  /-- back edges alone -/
  back : ∀ (i : Nat) (o : Oper), ops[i]? = some o → ∀ e ∈ o.after, Region.binds .any e = true → e.on < i
  /-- what is looked at -/
  look : ∀ (i : Nat) (o : Oper), ops[i]? = some o → ∀ t ∈ looks ops o, ∀ (j : Nat) (p : Oper), ops[j]? = some p → p.dst = some t → j = i ∨ (anc ops i).testBit j = true ∨ (anc ops j).testBit i = true
  uniq : ∀ (i j : Nat) (o p : Oper) (d : Nat), ops[i]? = some o → ops[j]? = some p → o.dst = some d → p.dst = some d → i = j
  effs : ∀ i j, i < ops.size → j < i → (r i).k.isE = true → (r j).k.isE = true → (anc ops i).testBit j = true
  quiet : ∀ (i k : Nat) (o : Oper), ops[i]? = some o → k < ops.size → (r i).k = .quiet → (r k).k.isE = true → (k < i ∧ (anc ops i).testBit k = true) ∨ (i < k ∧ (anc ops k).testBit i = true) ∨
    ∃ c, evQ E (r i).e (if k < i then (s k).H else (s (k + 1)).H) o.op = some (c, (r i).x) ∧ c = true
  dead : ∀ i, i < ops.size → (r i).k = .dead → ∃ j ch, (r j).k = .pan ch ∧ (anc ops i).testBit j = true

variable {s : Nat → St} {r : Nat → Rc}

theorem Plan.anc_lt (p : Plan P ro E ops S0 S s r) : ∀ {i j : Nat}, i < ops.size → (anc ops i).testBit j = true → j < i := by
  intro i
  induction i using Nat.strongRecOn with
  | _ i ih =>
    intro j hi h
    have ho : ops.toList[i]? = some ops[i] := by simp [hi]
    obtain ⟨e, he, hb, hj⟩ := anc_bit ho h
    have hlt := p.back i ops[i] (by simp [hi]) e (by simpa using he) hb
    rcases hj with rfl | ⟨_, hj⟩
    · exact hlt
    · have := ih e.on hlt (by omega) hj
      omega

theorem Plan.heap_same (p : Plan P ro E ops S0 S s r) {i : Nat} : ∀ {j : Nat}, i ≤ j → j ≤ ops.size → (∀ k, i ≤ k → k < j → (r k).k.isE ≠ true) → (s i).H = (s j).H := by
  intro j
  induction j with
  | zero => intro hi _ _; have : i = 0 := by omega
            subst this; rfl
  | succ j ih =>
    intro hi hj hk
    rcases Nat.lt_or_ge j i with hlt | hge
    · have : i = j + 1 := by omega
      subst this; rfl
    · rw [ih hge (by omega) fun k h1 h2 => hk k h1 (by omega)]
      have hok := p.ok j ops[j] (by simp)
      have hne := hk j hge (by omega)
      have hh := p.h j (by omega)
      obtain ⟨_, hok⟩ := hok
      cases hkd : (r j).k with
      | skip => rw [hkd] at hok; rw [hok.2.2, hh]
      | any => rw [hkd] at hok; rw [hok.2.2, hh]
      | quiet => rw [hkd] at hok; rw [hok.2.2, hh]
      | eff => exact absurd (by rw [hkd]; rfl) hne
      | pan ch => exact absurd (by rw [hkd]; rfl) hne
      | dead => rw [hkd] at hok; rw [hok, hh]

theorem Plan.env_get (p : Plan P ro E ops S0 S s r) {t : Nat} {x : AV} : ∀ {i : Nat}, i ≤ ops.size → get (s i).env t = some x →
    (∃ (j : Nat) (o : Oper), j < i ∧ ops[j]? = some o ∧ o.dst = some t ∧ x = (r j).x) ∨ (get S0.env t = some x ∧ ∀ (j : Nat) (o : Oper), j < i → ops[j]? = some o → o.dst ≠ some t) := by
  intro i
  induction i with
  | zero => intro _ h; rw [p.s0] at h; exact .inr ⟨h, fun j o hj => by omega⟩
  | succ i ih =>
    intro hi h
    have ho : ops[i]? = some ops[i] := by simp
    rw [p.env i _ ho] at h
    have rec_ : get (s i).env t = some x → ops[i].dst ≠ some t → (∃ (j : Nat) (o : Oper), j < i + 1 ∧ ops[j]? = some o ∧ o.dst = some t ∧ x = (r j).x) ∨ (get S0.env t = some x ∧ ∀ (j : Nat) (o : Oper), j < i + 1 → ops[j]? = some o → o.dst ≠ some t) := by
      intro h hne
      rcases ih (by omega) h with ⟨j, o, h1, h2, h3, h4⟩ | ⟨h1, h2⟩
      · exact Or.inl ⟨j, o, by omega, h2, h3, h4⟩
      · refine Or.inr ⟨h1, fun j o hj hjo => ?_⟩
        rcases Nat.lt_or_ge j i with hlt | hge
        · exact h2 j o hlt hjo
        · have : j = i := by omega
          subst this
          rw [ho] at hjo; cases hjo
          exact hne
    cases hd : ops[i].dst with
    | none =>
      rw [hd] at h
      exact rec_ h (by rw [hd]; simp)
    | some d =>
      rw [hd] at h
      simp only [pushE, get] at h
      split at h
      · rename_i hb
        cases h
        have := Nat.eq_of_beq_eq_true hb
        subst this
        exact .inl ⟨i, _, by omega, ho, hd, rfl⟩
      · rename_i hb
        exact rec_ h (by rw [hd]; intro e; cases e; simp at hb)

/-- Where the drawn order stands. -/
structure Stage (ro : Option Nat) (ops : Array Oper) (S0 : St) (s : Nat → St) (r : Nat → Rc) (N : NB) (listed : Array Bool) (p : Nat) (G : Gh) (a : Act) (w : World) : Prop where
  size : listed.size = ops.size
  closed : ∀ (i : Nat) (o : Oper), ops[i]? = some o → listed[i]? = some true → ∀ e ∈ o.after, Region.binds .any e = true → listed[e.on]? = some true
  le : p ≤ ops.size
  eff : ∀ k, k < ops.size → (r k).k.isE = true → (listed[k]? = some true ↔ k < p)
  nopan : ∀ k ch, (r k).k = .pan ch → listed[k]? ≠ some true
  rel : Rel ro N ⟨[], (s p).H, S0.n⟩ G a w
  env1 : ∀ (j : Nat) (o : Oper) (t : Nat), ops[j]? = some o → o.dst = some t → listed[j]? = some true → ∃ v, a.tmps[t]? = some v ∧ RV G (r j).x v
  env0 : ∀ t x, get S0.env t = some x → (∀ (j : Nat) (o : Oper), ops[j]? = some o → o.dst = some t → listed[j]? ≠ some true) → ∃ v, a.tmps[t]? = some v ∧ RV G x v

variable {N : NB} {p : Nat} {listed : Array Bool} {G : Gh} {a : Act} {w : World}

theorem Stage.up (st : Stage ro ops S0 s r N listed p G a w) (pl : Plan P ro E ops S0 S s r) : ∀ {i : Nat} {o : Oper}, ops[i]? = some o → (∀ e ∈ o.after, Region.binds .any e = true → listed[e.on]? = some true) →
    ∀ {j : Nat}, (anc ops i).testBit j = true → listed[j]? = some true := by
  intro i
  induction i using Nat.strongRecOn with
  | _ i ih =>
    intro o ho hall j hj
    obtain ⟨e, he, hb, hj⟩ := anc_bit (i := i) (by simpa using ho) hj
    have hle := hall e (by simpa using he) hb
    rcases hj with rfl | ⟨hlt, hj⟩
    · exact hle
    · have hlt' : e.on < ops.size := by have := (Array.getElem?_eq_some_iff.1 ho).1; omega
      exact ih e.on hlt (o := ops[e.on]) (by simp [hlt']) (st.closed _ _ (by simp [hlt']) hle) hj

/-- What an operation looks at is as in the order of the text. -/
theorem Stage.look (st : Stage ro ops S0 s r N listed p G a w) (pl : Plan P ro E ops S0 S s r) {i : Nat} {o : Oper} (ho : ops[i]? = some o) (hun : listed[i]? ≠ some true) (hall : ∀ e ∈ o.after, Region.binds .any e = true → listed[e.on]? = some true) :
    EnvR G (r i).e a.tmps := by
  have hi : i < ops.size := (Array.getElem?_eq_some_iff.1 ho).1
  intro t x hx
  obtain ⟨hl, hx⟩ := pl.e i o ho t x hx
  rcases pl.env_get (Nat.le_of_lt hi) hx with ⟨j, q, hlt, hq, hd, rfl⟩ | ⟨h0, hno⟩
  · refine st.env1 j q t hq hd ?_
    rcases pl.look i o ho t hl j q hq hd with rfl | h | h
    · omega
    · exact st.up pl ho hall h
    · have := pl.anc_lt (by omega) h; omega
  · refine st.env0 t x h0 fun j q hq hd hlj => ?_
    have hj : j < ops.size := (Array.getElem?_eq_some_iff.1 hq).1
    rcases Nat.lt_or_ge j i with hlt | hge
    · exact hno j q hlt hq hd
    · rcases pl.look i o ho t hl j q hq hd with rfl | h | h
      · exact hun hlj
      · have := pl.anc_lt hi h; omega
      · exact hun (st.up pl hq (st.closed j q hq hlj) h)

theorem ready_iff {i : Nat} (hs : listed.size = ops.size) : i ∈ Region.ready .any ops listed ↔ listed[i]? = some false ∧ ∃ o, ops[i]? = some o ∧ ∀ e ∈ o.after, Region.binds .any e = true → listed[e.on]? = some true := by
  rw [mem_ready]
  have h1 : listed.getD i true = false ↔ listed[i]? = some false := by
    rw [Array.getD_eq_getD_getElem?]
    cases listed[i]? <;> simp
  have h2 : ∀ k, listed.getD k false = true ↔ listed[k]? = some true := fun k => by
    rw [Array.getD_eq_getD_getElem?]
    cases listed[k]? <;> simp
  simp only [h1, h2]

theorem all_listed (pl : Plan P ro E ops S0 S s r) (hs : listed.size = ops.size) (h : Region.ready .any ops listed = []) : ∀ i, i < ops.size → listed[i]? = some true := by
  intro i
  induction i using Nat.strongRecOn with
  | _ i ih =>
    intro hi
    have ho : ops[i]? = some ops[i] := by simp
    cases hl : listed[i]? with
    | none => simp at hl; omega
    | some b =>
      cases b with
      | true => rfl
      | false =>
        have : i ∈ Region.ready .any ops listed := (ready_iff hs).2 ⟨hl, _, ho, fun e he hb => by
          have := pl.back i _ ho e he hb
          exact ih e.on this (by omega)⟩
        rw [h] at this
        cases this

/-- The heap at which a quiet operation, or one with effects, is come to. -/
theorem Stage.heapAt (st : Stage ro ops S0 s r N listed p G a w) (pl : Plan P ro E ops S0 S s r) {i : Nat} {o : Oper} (ho : ops[i]? = some o) (hun : listed[i]? ≠ some true) (hall : ∀ e ∈ o.after, Region.binds .any e = true → listed[e.on]? = some true) :
    ((r i).k.isE = true → (s p).H = (s i).H) ∧ ((r i).k = .quiet → ∃ c, evQ E (r i).e (s p).H o.op = some (c, (r i).x) ∧ c = true) := by
  have hi : i < ops.size := (Array.getElem?_eq_some_iff.1 ho).1
  constructor
  · intro hk
    have hpi : p ≤ i := by
      rcases Nat.lt_or_ge i p with h | h
      · exact absurd ((st.eff i hi hk).2 h) hun
      · exact h
    refine pl.heap_same hpi (Nat.le_of_lt hi) fun k h1 h2 h3 => ?_
    have := (st.eff k (by omega) h3).1 (st.up pl ho hall (pl.effs i k hi h2 hk h3))
    omega
  · intro hk
    have hbase : ∃ c, evQ E (r i).e (s i).H o.op = some (c, (r i).x) ∧ c = true := by
      have := (pl.ok i o ho).2
      rw [hk] at this
      rw [← pl.h i hi]
      exact this.2.1
    rcases Nat.lt_or_ge i p with hlt | hge
    · -- the last one with effects ahead of p
      by_cases hex : ∃ k, i < k ∧ k < p ∧ (r k).k.isE = true ∧ ∀ q, k < q → q < p → (r q).k.isE ≠ true
      · obtain ⟨k, h1, h2, h3, h4⟩ := hex
        have hkl := (st.eff k (by have := st.le; omega) h3).2 h2
        rw [← pl.heap_same (i := k + 1) (j := p) h2 st.le fun q a b => h4 q a b]
        rcases pl.quiet i k o ho (by have := st.le; omega) hk h3 with ⟨h, _⟩ | ⟨_, h⟩ | h
        · omega
        · have hkn : k < ops.size := by have := st.le; omega
          exact absurd (st.up pl (o := ops[k]) (by simp [hkn]) (st.closed k _ (by simp [hkn]) hkl) h) hun
        · rw [if_neg (by omega)] at h; exact h
      · have hno : ∀ d q, q + d = p → i < q → (r q).k.isE ≠ true ∨ p ≤ q := by
          intro d
          induction d using Nat.strongRecOn with
          | _ d ih =>
            intro q hq hiq
            rcases Nat.eq_zero_or_pos d with h0 | hpos
            · right; omega
            · left
              intro hkq
              refine hex ⟨q, hiq, by omega, hkq, fun q' h1 h2 => ?_⟩
              rcases ih (p - q') (by omega) q' (by omega) (by omega) with h | h
              · exact h
              · omega
        rw [← pl.heap_same (i := i) (j := p) (Nat.le_of_lt hlt) st.le fun k h1 h2 => ?_]
        · exact hbase
        · rcases Nat.eq_or_lt_of_le h1 with rfl | h1
          · rw [hk]; decide
          · rcases hno (p - k) k (by omega) h1 with h | h
            · exact h
            · omega
    · -- the first one with effects from p on
      by_cases hex : ∃ k, p ≤ k ∧ k < i ∧ (r k).k.isE = true ∧ ∀ q, p ≤ q → q < k → (r q).k.isE ≠ true
      · obtain ⟨k, h1, h2, h3, h4⟩ := hex
        have hkl : listed[k]? ≠ some true := fun h => by have := (st.eff k (by omega) h3).1 h; omega
        rw [pl.heap_same (i := p) (j := k) h1 (by omega) h4]
        rcases pl.quiet i k o ho (by omega) hk h3 with ⟨_, h⟩ | ⟨h, _⟩ | h
        · exact absurd (st.up pl ho hall h) hkl
        · omega
        · rw [if_pos h2] at h; exact h
      · have hno : ∀ q, p ≤ q → q < i → (r q).k.isE ≠ true := by
          intro q
          induction q using Nat.strongRecOn with
          | _ q ih =>
            intro h1 h2 h3
            exact hex ⟨q, h1, h2, h3, fun q' a b => ih q' b a (by omega)⟩
        rw [pl.heap_same (i := p) (j := i) hge (Nat.le_of_lt hi) hno]
        exact hbase

end
end Go.Gar

/- The frame, part 20: regions whose order is drawn: soundness; their walk. -/
namespace Go.Gar

section
variable {P : Program} {ro : Option Nat} {ops : Array Oper} {S0 S : St} {Q : Exit → St → Prop} {E : Nat → Option TyI} {s : Nat → St} {r : Nat → Rc}
variable {N : NB} {p : Nat} {listed : Array Bool} {G : Gh} {a : Act} {w : World}

theorem set_iff {i k : Nat} (hi : i < listed.size) : (listed.setIfInBounds i true)[k]? = some true ↔ k = i ∨ listed[k]? = some true := by
  by_cases h : i = k
  · subst h
    rw [Array.getElem?_setIfInBounds_self_of_lt hi]; simp
  · rw [Array.getElem?_setIfInBounds_ne h]
    simp [Ne.symm h]

theorem put_get {o : Oper} {v : Value} {t : Nat} (h : o.dst ≠ some t) : (a.put o.dst v).tmps[t]? = a.tmps[t]? := by
  cases hd : o.dst with
  | none => rfl
  | some d =>
    rw [hd] at h
    simp only [Act.put]
    rw [Array.getElem?_setIfInBounds_ne fun e => h (by rw [e])]

theorem put_defers' {o : Oper} {v : Value} : (a.put o.dst v).defers = a.defers := by
  cases hd : o.dst <;> rfl
theorem put_size {o : Oper} {v : Value} : (a.put o.dst v).tmps.size = a.tmps.size := by
  cases hd : o.dst <;> simp [Act.put]

theorem Stage.next (st : Stage ro ops S0 s r N listed p G a w) (pl : Plan P ro E ops S0 S s r) {i : Nat} {o : Oper} (ho : ops[i]? = some o) (hun : listed[i]? = some false) (hall : ∀ e ∈ o.after, Region.binds .any e = true → listed[e.on]? = some true)
    (hnp : ∀ ch, (r i).k ≠ .pan ch) {p' : Nat} (hp : p' ≤ ops.size ∧ ((r i).k.isE = true → p' = i + 1) ∧ ((r i).k.isE ≠ true → p' = p)) {v : Value} {G' : Gh} {w' : World} (hv : RV G' (r i).x v) (hH : G'.H = (s p').H) (hr : HRel G' w') (hfr : Frm G w G' w') : Stage ro ops S0 s r N (listed.setIfInBounds i true) p' G' (a.put o.dst v) w' := by
  have hi : i < ops.size := (Array.getElem?_eq_some_iff.1 ho).1
  have hil : i < listed.size := by rw [st.size]; exact hi
  have hd := (pl.ok i o ho).1
  refine ⟨by simp [st.size], fun k q hq hk e he hb => ?_, hp.1, fun k hk hkk => ?_, fun k ch hkc => ?_, ?_, fun j q t hq hqd hj => ?_, fun t x hx hno => ?_⟩
  · rw [set_iff hil] at hk ⊢
    rcases hk with rfl | hk
    · rw [ho] at hq; cases hq
      exact .inr (hall e he hb)
    · exact .inr (st.closed k q hq hk e he hb)
  · rw [set_iff hil]
    by_cases hie : (r i).k.isE = true
    · rw [hp.2.1 hie]
      constructor
      · rintro (rfl | h)
        · omega
        · have hkp := (st.eff k hk hkk).1 h
          rcases Nat.lt_or_ge i k with hlt | hge
          · have := pl.effs k i hk hlt hkk hie
            have hkl := st.up pl (o := ops[k]) (by simp [hk]) (st.closed k _ (by simp [hk]) h) this
            rw [hun] at hkl; cases hkl
          · omega
      · intro h
        rcases Nat.lt_or_ge k i with hlt | hge
        · exact .inr (st.up pl ho hall (pl.effs i k hi hlt hie hkk))
        · exact .inl (by omega)
    · rw [hp.2.2 hie, ← st.eff k hk hkk]
      constructor
      · rintro (rfl | h)
        · exact absurd hkk hie
        · exact h
      · exact .inr
  · rw [Ne, set_iff hil]
    rintro (rfl | h)
    · exact hnp ch hkc
    · exact st.nopan k ch hkc h
  · exact st.rel.step hfr hH hr rfl (by rw [put_size]; exact st.rel.size) (fun t x h => by simp [get] at h) put_defers'
  · rw [set_iff hil] at hj
    by_cases hji : j = i
    · subst hji
      rw [ho] at hq; cases hq
      rw [hqd] at hd ⊢
      simp only [dstOK, Nat.blt_eq] at hd
      exact ⟨v, by simp only [Act.put]; exact Array.getElem?_setIfInBounds_self_of_lt (by rw [st.rel.size]; exact hd), hv⟩
    · obtain ⟨u, hu, hru⟩ := st.env1 j q t hq hqd (hj.resolve_left hji)
      refine ⟨u, ?_, hru.mono hfr.gle⟩
      rw [put_get fun h => hji (pl.uniq j i q o t hq ho hqd h)]
      exact hu
  · have hne : o.dst ≠ some t := fun h => hno i o ho h ((set_iff hil).2 (.inl rfl))
    obtain ⟨u, hu, hru⟩ := st.env0 t x hx fun j q hq hqd hj => hno j q hq hqd ((set_iff hil).2 (.inr hj))
    exact ⟨u, by rw [put_get hne]; exact hu, hru.mono hfr.gle⟩

theorem Stage.run (pl : Plan P ro E ops S0 S s r) (hE : EOK P E) (hQ : (∀ i ch, i < ops.size → (r i).k ≠ .pan ch) → Q .normal S) (hP : ∀ i ch, i < ops.size → (r i).k = .pan ch → Q (.panic ch) ⟨[], (s (i + 1)).H, S0.n⟩) {G0 : Gh} {w0 : World} (hrl : ∀ {G : Gh} {w : World} {H : List Blk} {a : Act}, Rel ro N ⟨[], H, S0.n⟩ G a w → Frm G0 w0 G w → rl G ro = rl G0 ro) : ∀ (fuel : Nat) (listed : Array Bool) (p : Nat) (G : Gh) (a : Act) (w : World), listed.toList.countP (fun b => !b) ≤ fuel →
    Stage ro ops S0 s r N listed p G a w → Frm G0 w0 G w → wpAnyIn (fnc (rl G0 ro)) 0 P .any ops (Post ro N G0 w0 Q) fuel listed a w := by
  intro fuel
  have done : ∀ (listed : Array Bool) (p : Nat) (G : Gh) (a : Act) (w : World), Stage ro ops S0 s r N listed p G a w → Frm G0 w0 G w → (∀ i, i < ops.size → listed[i]? = some true) → Post ro N G0 w0 Q .normal a w := by
    intro listed p G a w st hf hall
    refine ⟨S, G, hQ (fun i ch hi hk => st.nopan i ch hk (hall i hi)), ⟨?_, st.rel.rel, ?_, fun t x hx => ?_, st.rel.marks, fun id hid => ?_⟩, hf⟩
    · rw [← pl.sn, ← pl.heap_same st.le (Nat.le_refl _) fun k h1 h2 h3 => ?_]
      · exact st.rel.heap
      · have := (st.eff k h2 h3).1 (hall k h2); omega
    · rw [← pl.sn, pl.n _ (Nat.le_refl _)]; exact st.rel.size
    · rw [← pl.sn] at hx
      rcases pl.env_get (Nat.le_refl _) hx with ⟨j, q, hlt, hq, hd, rfl⟩ | ⟨h0, hno⟩
      · exact st.env1 j q t hq hd (hall j hlt)
      · exact st.env0 t x h0 fun j q hq hd _ => hno j q (Array.getElem?_eq_some_iff.1 hq).1 hq hd
    · have := st.rel.round id hid
      simp only at this
      rw [← pl.sn, ← pl.heap_same st.le (Nat.le_refl _) fun k h1 h2 h3 => ?_]
      · exact this
      · have := (st.eff k h2 h3).1 (hall k h2); omega
  induction fuel with
  | zero =>
    intro listed p G a w hc st hf
    have hall : ∀ i, i < ops.size → listed[i]? = some true := by
      intro i hi
      have h0 : listed.toList.countP (fun b => !b) = 0 := by omega
      rw [List.countP_eq_zero] at h0
      have hil : i < listed.size := by rw [st.size]; exact hi
      have := h0 listed[i] (by simp)
      rw [Array.getElem?_eq_getElem hil]
      simpa using this
    refine ⟨?_, done listed p G a w st hf hall⟩
    cases hr : Region.ready .any ops listed with
    | nil => rfl
    | cons i l =>
      have : i ∈ Region.ready .any ops listed := by rw [hr]; simp
      rw [ready_iff st.size] at this
      obtain ⟨h1, o, h2, _⟩ := this
      rw [hall i (Array.getElem?_eq_some_iff.1 h2).1] at h1
      cases h1
  | succ fuel ih =>
    intro listed p G a w hc st hf
    refine ⟨fun hr => done listed p G a w st hf (all_listed pl st.size hr), fun i hi => ?_⟩
    obtain ⟨hun, o, ho, hall⟩ := (ready_iff st.size).1 hi
    have hun' : listed[i]? ≠ some true := by rw [hun]; simp
    have hio : i < ops.size := (Array.getElem?_eq_some_iff.1 ho).1
    have hil : i < listed.size := by rw [st.size]; exact hio
    have hlook := st.look pl ho hun' hall
    have hheap := st.heapAt pl ho hun' hall
    have hok := (pl.ok i o ho).2
    have hcount : (listed.setIfInBounds i true).toList.countP (fun b => !b) ≤ fuel := by
      have hl : listed.toList[i]'(by simpa using hil) = false := by
        have := Array.getElem?_eq_some_iff.1 hun
        obtain ⟨h, e⟩ := this
        simpa using e
      have : (listed.setIfInBounds i true).toList = listed.toList.set i true := by simp
      rw [this, List.countP_set (by simpa using hil), hl]
      simp only [Bool.not_false, if_true, Bool.not_true, Bool.false_eq_true, if_false]
      have hpos : 0 < listed.toList.countP (fun b => !b) := List.countP_pos_iff.2 ⟨false, by rw [← hl]; exact List.getElem_mem _, rfl⟩
      have hc' : List.countP (fun b => !b) listed.toList ≤ fuel + 1 := hc
      omega
    have hrel : Rel ro N ⟨(r i).e, (s p).H, S0.n⟩ G a w := ⟨st.rel.heap, st.rel.rel, st.rel.size, hlook, st.rel.marks, st.rel.round⟩
    have cont : (∀ ch, (r i).k ≠ .pan ch) → ∀ p', p' ≤ ops.size ∧ ((r i).k.isE = true → p' = i + 1) ∧ ((r i).k.isE ≠ true → p' = p) → ∀ v w' G', RV G' (r i).x v → G'.H = (s p').H → HRel G' w' → Frm G w G' w' → wpAnyIn (fnc (rl G0 ro)) 0 P .any ops (Post ro N G0 w0 Q) fuel (listed.setIfInBounds i true) (a.put o.dst v) w' := by
      intro hnp p' hp' v w' G' hv hH hr hfr
      exact ih _ p' G' _ w' hcount (st.next pl ho hun hall hnp hp' hv hH hr hfr) (hf.trans hfr)
    have hF : rl G ro = rl G0 ro := hrl st.rel hf
    unfold wpOpIn
    simp only [ho]
    cases hk : (r i).k with
    | skip =>
      rw [hk] at hok
      have hw := guardV_ok (S := ⟨(r i).e, (s p).H, S0.n⟩) hlook hok.1
      rw [if_neg (by rw [hw]; simp)]
      refine ⟨fun _ _ => trivial, cont (by rw [hk]; intro _ h; cases h) p ⟨st.le, by rw [hk]; (intro h; exact absurd h (by decide)), fun _ => rfl⟩ undef w G (by rw [hok.2.1]; simp only [RV, RD]; exact ⟨[], rfl, by simp [RDs]⟩) st.rel.heap st.rel.rel (Frm.refl G w)⟩
    | any =>
      rw [hk] at hok
      have hw := guardV_ok (S := ⟨(r i).e, (s p).H, S0.n⟩) hlook hok.1
      rw [if_pos hw, ← hF]
      refine hok.2.1 (s p).H N G a w _ _ hrel fun v w' G' h1 h2 h3 h4 => ?_
      rw [hF]
      exact cont (by rw [hk]; intro _ h; cases h) p ⟨st.le, by rw [hk]; (intro h; exact absurd h (by decide)), fun _ => rfl⟩ v w' G' h1 h2 h3 h4
    | quiet =>
      rw [hk] at hok
      have hw := guardV_ok (S := ⟨(r i).e, (s p).H, S0.n⟩) hlook hok.1
      rw [if_pos hw, ← hF]
      obtain ⟨c, hc1, hc2⟩ := hheap.2 hk
      refine OpOK.step (S := ⟨(r i).e, (s p).H, S0.n⟩) (evQ_ok (S := ⟨(r i).e, (s p).H, S0.n⟩) hE hc1 hc2) (evQ_nodefer hc1) N G a w _ _ hrel fun v w' G' h1 h2 h3 h4 => ?_
      rw [hF]
      exact cont (by rw [hk]; intro _ h; cases h) p ⟨st.le, by rw [hk]; (intro h; exact absurd h (by decide)), fun _ => rfl⟩ v w' G' h1 h2 h3 h4
    | eff =>
      rw [hk] at hok
      have hw := guardV_ok (S := ⟨(r i).e, (s p).H, S0.n⟩) hlook hok.1
      rw [if_pos hw, ← hF]
      have hh : (r i).h = (s p).H := by rw [hheap.1 (by rw [hk]; rfl)]; exact pl.h i hio
      have hstep := hok.2
      rw [hh] at hstep
      refine hstep N G a w _ _ hrel fun v w' G' h1 h2 h3 h4 => ?_
      rw [hF]
      exact cont (by rw [hk]; intro _ h; cases h) (i + 1) ⟨hio, fun _ => rfl, fun h => absurd (by rw [hk]; rfl) h⟩ v w' G' h1 h2 h3 h4
    | dead =>
      obtain ⟨j, ch, hj, hb⟩ := pl.dead i hio hk
      exact absurd (st.up pl ho hall hb) (st.nopan j ch hj)
    | pan ch =>
      rw [hk] at hok
      have hw := guardV_ok (S := ⟨(r i).e, (s p).H, S0.n⟩) hlook hok.1
      rw [if_pos hw, ← hF]
      have hh : (r i).h = (s p).H := by rw [hheap.1 (by rw [hk]; rfl)]; exact pl.h i hio
      have hstep := hok.2
      rw [hh] at hstep
      refine hstep N G a w _ _ hrel fun w' G' h2 h3 h4 => ?_
      exact ⟨⟨[], (s (i + 1)).H, S0.n⟩, G', hP i ch hio hk, st.rel.step h4 h2 h3 rfl st.rel.size (fun t x h => by simp [get] at h) rfl, hf.trans h4⟩

theorem Run.plan {l : List (Nat × Nat)} {acc : List Rc} (ht : Run P ro E ops S0 acc S) (hd : drawOKX ops (acc.reverse.map Rc.k) l = true) (hx : extraL E ops acc.reverse S.H l) : ∃ s, s 0 = S0 ∧ Plan P ro E ops S0 S s (fun i => (acc.reverse[i]?).getD ⟨[], [], .u, .skip⟩) := by
  obtain ⟨s, h0, h1, h2⟩ := ht.trace
  simp only [drawOKX, Bool.and_eq_true] at hd
  obtain ⟨hlen, hd⟩ := hd
  have hlen := Nat.eq_of_beq_eq_true hlen
  simp only [List.length_map, List.length_reverse, Array.length_toList] at hlen
  have hd := allN_spec hd
  simp only [Array.length_toList] at hd
  have key : ∀ i o, ops[i]? = some o → ∃ q, acc.reverse[i]? = some q ∧ (∀ t x, get q.e t = some x → t ∈ looks ops o ∧ get (s i).env t = some x) ∧ q.h = (s i).H ∧ (s i).n = S0.n ∧ (s (i + 1)).env = pushE o.dst q.x (s i).env ∧ (s (i + 1)).n = S0.n ∧ q.ok P ro E ops S0.n o (s (i + 1)).H := by
    intro i o ho
    obtain ⟨o', q, k1, k2, k3⟩ := h2 i (by rw [hlen]; exact (Array.getElem?_eq_some_iff.1 ho).1)
    have : o' = o := by simp [ho] at k1; exact k1.symm
    subst this
    exact ⟨q, k2, k3⟩
  have hk : ∀ i, i < ops.size → (acc.reverse.map Rc.k)[i]? = some (acc.reverse[i]?.getD ⟨[], [], .u, .skip⟩).k := by
    intro i hi
    obtain ⟨q, k2, _⟩ := key i ops[i] (by simp)
    rw [List.getElem?_map, k2]; rfl
  have hat : ∀ i, i ≤ ops.size → hAt acc.reverse S.H i = (s i).H := by
    intro i hi
    rcases Nat.eq_or_lt_of_le hi with rfl | hlt
    · rw [hAt, List.getElem?_eq_none (by simp [hlen]), ← hlen, h1]
    · obtain ⟨q, k2, k3, k4, _⟩ := key i ops[i] (by simp)
      rw [hAt, k2, ← k4]
  have hD : ∀ i o, ops[i]? = some o → _ := fun i o ho => by
    have := hd i (Array.getElem?_eq_some_iff.1 ho).1
    simp only [Array.getElem?_toList, ho, Bool.and_eq_true] at this
    exact this
  have kEff : ∀ i, i < ops.size → (acc.reverse[i]?.getD ⟨[], [], .u, .skip⟩).k.isE = true → isEff (acc.reverse.map Rc.k)[i]? = true := fun i hi h => by rw [hk i hi]; exact h
  have kQ : ∀ i, i < ops.size → (acc.reverse[i]?.getD ⟨[], [], .u, .skip⟩).k = .quiet → isQuiet (acc.reverse.map Rc.k)[i]? = true := fun i hi h => by rw [hk i hi, h]; rfl
  refine ⟨s, h0, h0, by rw [← hlen, h1], fun i o ho => ?_, fun i hi => ?_, fun i o ho => ?_, fun i hi => ?_, fun i o ho => ?_, fun i o ho e he hb => ?_, fun i o ho t ht j q hq hqd => ?_, fun i j o q d ho hq hod hqd => ?_, fun i j hi hj hik hjk => ?_, fun i k o ho hkn hik hkk => ?_, fun i hi hik => ?_⟩
  · obtain ⟨q, k2, k3, _⟩ := key i o ho
    rw [k2]; exact k3
  · obtain ⟨q, k2, k3, k4, _⟩ := key i ops[i] (by simp)
    rw [k2]; exact k4
  · obtain ⟨q, k2, k3, k4, k5, k6, _⟩ := key i o ho
    rw [k2]; exact k6
  · rcases Nat.eq_or_lt_of_le hi with rfl | hlt
    · cases hz : ops.size with
      | zero => rw [h0]
      | succ m =>
        obtain ⟨q, k2, k3, k4, k5, k6, k7, _⟩ := key m ops[m] (by simp)
        exact k7
    · obtain ⟨q, k2, k3, k4, k5, _⟩ := key i ops[i] (by simp)
      exact k5
  · obtain ⟨q, k2, k3, k4, k5, k6, k7, k8⟩ := key i o ho
    rw [k2]; exact k8
  · have := (hD i o ho).1.1.1.1.1
    rw [List.all_eq_true] at this
    have := this e (by simpa using he)
    rw [hb] at this
    simpa [Nat.blt_eq] using this
  · have := (hD i o ho).1.1.1.1.2
    rw [List.all_eq_true] at this
    have := allN_spec (this t ht) j (by simpa using (Array.getElem?_eq_some_iff.1 hq).1)
    have hdi : dstIs ops j t = true := by simp [dstIs, hq, hqd]
    rw [hdi] at this
    simp only [Bool.not_true, Bool.false_or, Bool.or_eq_true] at this
    rcases this with (h | h) | h
    · exact .inl (Nat.eq_of_beq_eq_true h)
    · exact .inr (.inl h)
    · exact .inr (.inr h)
  · have := (hD i o ho).1.1.1.2
    rw [hod] at this
    have := allN_spec this j (by simpa using (Array.getElem?_eq_some_iff.1 hq).1)
    have hdi : dstIs ops j d = true := by simp [dstIs, hq, hqd]
    rw [hdi] at this
    simp only [Bool.not_true, Bool.or_false] at this
    exact (Nat.eq_of_beq_eq_true this).symm
  · have := (hD i ops[i] (by simp)).1.1.2
    rw [kEff i hi hik] at this
    simp only [Bool.not_true, Bool.false_or] at this
    have := allN_spec this j hj
    rw [kEff j (by omega) hjk] at this
    simpa using this
  · have hi : i < ops.size := (Array.getElem?_eq_some_iff.1 ho).1
    have := (hD i o ho).1.2
    rw [kQ i hi hik] at this
    simp only [Bool.not_true, Bool.false_or] at this
    have := allN_spec this k (by simpa using hkn)
    rw [kEff k hkn hkk] at this
    simp only [Bool.not_true, Bool.false_or, Bool.or_eq_true, Bool.and_eq_true, Nat.blt_eq] at this
    rcases this with (h | h) | h
    · exact .inl h
    · exact .inr (.inl h)
    · right; right
      obtain ⟨q, k2, _⟩ := key i o ho
      obtain ⟨c, c1, c2⟩ := extraL_get (i := i) (k := k) (o := o) (r := q) (by simpa using ho) k2 hx h
      refine ⟨c, ?_, c2⟩
      show evQ E (acc.reverse[i]?.getD _).e _ o.op = some (c, (acc.reverse[i]?.getD _).x)
      rw [k2]
      simp only [Option.getD_some]
      rw [← c1]
      congr 1
      by_cases hki : k < i
      · have hb : Nat.blt k i = true := by simpa [Nat.blt_eq] using hki
        rw [hb]
        simp only [if_true, if_pos hki]
        exact (hat k (by omega)).symm
      · have hb : Nat.blt k i = false := by
          cases h : Nat.blt k i with
          | false => rfl
          | true => rw [Nat.blt_eq] at h; exact absurd h hki
        rw [hb]
        simp only [Bool.false_eq_true, if_false, if_neg hki]
        exact (hat (k + 1) (by omega)).symm
  · have := (hD i ops[i] (by simp)).2
    rw [hk i hi, hik] at this
    simp only [isDead, Bool.not_true, Bool.false_or] at this
    obtain ⟨j, hj, h3⟩ := anyN_spec this
    simp only [Bool.and_eq_true, Array.length_toList] at h3 hj
    rw [hk j hj] at h3
    cases hkj : (acc.reverse[j]?.getD ⟨[], [], .u, .skip⟩).k with
    | pan ch => exact ⟨j, ch, hkj, h3.2⟩
    | _ => rw [hkj] at h3; simp [isPanK] at h3

theorem noPan_ok {acc : List Rc} (h : noPan (acc.reverse.map Rc.k) = true) (i : Nat) (ch : List PanicEntry) : (acc.reverse[i]?.getD ⟨[], [], .u, .skip⟩).k ≠ .pan ch := by
  cases hi : acc.reverse[i]? with
  | none => simp
  | some q =>
    intro e
    simp only [Option.getD_some] at e
    have hm : q.k ∈ acc.reverse.map Rc.k := List.mem_map.2 ⟨q, List.mem_of_getElem? hi, rfl⟩
    have := (List.all_eq_true.1 h) _ hm
    rw [e] at this
    cases this

/-- In every order that is drawn. -/
def Wany (P : Program) (ro : Option Nat) (ops : Array Oper) (S : St) (Q : Exit → St → Prop) : Prop :=
  ∀ N G a w, Rel ro N S G a w → wpAnyIn (fnc (rl G ro)) 0 P .any ops (Post ro N G w Q) ops.size (Array.replicate ops.size false) a { w with drawn := w.drawn + 1 }

theorem Wany_plan (pl : Plan P ro E ops S0 S s r) (hE : EOK P E) (hQ : (∀ i ch, i < ops.size → (r i).k ≠ .pan ch) → Q .normal S) (hP : ∀ i ch, i < ops.size → (r i).k = .pan ch → Q (.panic ch) ⟨[], (s (i + 1)).H, S0.n⟩) : Wany P ro ops S0 Q := by
  intro N G a w hr
  have hg : HRel G { w with drawn := w.drawn + 1 } := ⟨fun id b hb => (hr.rel.blk id b hb).frm (GLe.refl G) (fun _ _ _ _ => rfl) rfl, hr.rel.inj, fun b k v hv => hr.rel.mem b k v hv, hr.rel.sep, hr.rel.st⟩
  have hf : Frm G w G { w with drawn := w.drawn + 1 } := ⟨rfl, rfl, rfl, Nat.le_refl _, fun b hb ho => ⟨rfl, ho⟩, fun b o v hv => .inl hv, GLe.refl G⟩
  refine Stage.run pl hE hQ hP (fun h hf => rl_frm hr h hf) _ _ 0 G a _ ?_ ?_ hf
  · simp [List.countP_replicate]
  · refine ⟨by simp, fun i o ho hl => ?_, Nat.zero_le _, fun k hk hkk => ?_, fun k ch hkc hl => ?_, ?_, fun j o t ho hd hl => ?_, fun t x hx hno => ?_⟩
    · have : i < ops.size := (Array.getElem?_eq_some_iff.1 ho).1
      rw [Array.getElem?_replicate, if_pos this] at hl; cases hl
    · rw [Array.getElem?_replicate, if_pos hk]; simp
    · rw [Array.getElem?_replicate] at hl; split at hl <;> cases hl
    · have h := hr.step hf (S' := ⟨[], S0.H, S0.n⟩) hr.heap hg rfl hr.size (fun t x h => by simp [get] at h) rfl
      rw [pl.s0]; exact h
    · have : j < ops.size := (Array.getElem?_eq_some_iff.1 ho).1
      rw [Array.getElem?_replicate, if_pos this] at hl; cases hl
    · exact hr.env t x hx

/-- A region whose order is drawn, by its plan. -/
theorem Wany_drawn {l : List (Nat × Nat)} {acc : List Rc} (hE : EOK P E) (ht : Run P ro E ops S0 acc S) (hd : drawOK ops (acc.reverse.map Rc.k) l = true) (hx : extraL E ops acc.reverse S.H l) (hQ : Q .normal S) : Wany P ro ops S0 Q := by
  simp only [drawOK, Bool.and_eq_true] at hd
  obtain ⟨s, _, pl⟩ := ht.plan hd.2 hx
  exact Wany_plan pl hE (fun _ => hQ) fun i ch _ h => absurd h (noPan_ok hd.1 i ch)
theorem W_drawn {id : Nat} {l : List (Nat × Nat)} {acc : List Rc} (hm : P.follows .mixedOrders = true) (hE : EOK P E) (ht : Run P ro E ops S0 acc S) (hd : drawOK ops (acc.reverse.map Rc.k) l = true) (hx : extraL E ops acc.reverse S.H l) (hQ : Q .normal S) : W P ro (.region id ops true) S0 Q := by
  intro N G a w hr
  exact wpIn_region_any hm (Wany_drawn hE ht hd hx hQ N G a w hr)

/-- Which one ends in a panic; behind it in the text nothing has effects. -/
def panAt : List Kd → Option (Nat × List PanicEntry)
  | [] => none
  | .pan ch :: r => if r.any Kd.isE then none else some (0, ch)
  | _ :: r => match panAt r with
    | some (i, ch) => some (i + 1, ch)
    | none => none
theorem panAt_ok : ∀ {ks : List Kd} {i : Nat} {ch : List PanicEntry}, panAt ks = some (i, ch) → ks[i]? = some (.pan ch) ∧ (∀ j k, i < j → ks[j]? = some k → k.isE ≠ true) ∧ (∀ j ch', ks[j]? = some (.pan ch') → j = i)
  | [], i, ch, h => by simp [panAt] at h
  | k :: r, i, ch, h => by
    have rec_ : (match panAt r with | some (i, ch) => some (i + 1, ch) | none => none) = some (i, ch) → (∀ c, k ≠ .pan c) → (k :: r)[i]? = some (.pan ch) ∧ (∀ (j : Nat) (q : Kd), i < j → (k :: r)[j]? = some q → q.isE ≠ true) ∧ (∀ j ch', (k :: r)[j]? = some (.pan ch') → j = i) := by
      intro h hk
      split at h
      · rename_i i' ch' hp
        simp only [Option.some.injEq, Prod.mk.injEq] at h
        obtain ⟨rfl, rfl⟩ := h
        obtain ⟨h1, h2, h3⟩ := panAt_ok hp
        refine ⟨by simpa using h1, fun j q hj hq => ?_, fun j c hc => ?_⟩
        · cases j with
          | zero => omega
          | succ j => exact h2 j q (by omega) (by simpa using hq)
        · cases j with
          | zero => simp at hc; exact absurd hc (hk c)
          | succ j => rw [h3 j c (by simpa using hc)]
      · cases h
    cases k with
    | pan c =>
      simp only [panAt] at h
      split at h
      · cases h
      · rename_i hany
        simp only [Option.some.injEq, Prod.mk.injEq] at h
        obtain ⟨rfl, rfl⟩ := h
        have hno : ∀ (j : Nat) (q : Kd), r[j]? = some q → q.isE ≠ true := fun j q hq he => hany (List.any_eq_true.2 ⟨q, List.mem_of_getElem? hq, he⟩)
        refine ⟨rfl, fun j q hj hq => ?_, fun j c' hc => ?_⟩
        · cases j with
          | zero => omega
          | succ j => exact hno j q (by simpa using hq)
        · cases j with
          | zero => rfl
          | succ j => exact absurd (show Kd.isE (.pan c') = true from rfl) (hno j _ (by simpa using hc))
    | _ => exact rec_ h (by intro c e; cases e)

theorem Wany_drawnX {l : List (Nat × Nat)} {acc : List Rc} {i0 : Nat} {ch : List PanicEntry} (hE : EOK P E) (ht : Run P ro E ops S0 acc S) (hd : drawOKX ops (acc.reverse.map Rc.k) l = true) (hx : extraL E ops acc.reverse S.H l) (hp : panAt (acc.reverse.map Rc.k) = some (i0, ch)) (hQ : Q (.panic ch) ⟨[], S.H, S.n⟩) : Wany P ro ops S0 Q := by
  obtain ⟨s, hs0, pl⟩ := ht.plan hd hx
  obtain ⟨p1, p2, p3⟩ := panAt_ok hp
  have hn : S.n = S0.n := by rw [← pl.sn]; exact pl.n _ (Nat.le_refl _)
  have hlen : acc.length = ops.size := by
    simp only [drawOKX, Bool.and_eq_true] at hd
    have := Nat.eq_of_beq_eq_true hd.1
    simpa using this
  have hi0 : i0 < ops.size := by
    have := (List.getElem?_eq_some_iff.1 p1).1
    simpa [hlen] using this
  have hkd : ∀ i, i < ops.size → (acc.reverse.map Rc.k)[i]? = some (acc.reverse[i]?.getD ⟨[], [], .u, .skip⟩).k := fun i hi => by
    have hil : i < acc.reverse.length := by simp [hlen]; exact hi
    rw [List.getElem?_map, List.getElem?_eq_getElem hil]; rfl
  refine Wany_plan pl hE (fun hno => absurd ?_ (hno i0 ch hi0)) fun i ch' hi hk => ?_
  · have := hkd i0 hi0
    rw [p1] at this
    exact (Option.some.inj this).symm
  · have e := hkd i hi
    rw [hk] at e
    have := p3 i ch' e
    subst this
    rw [p1] at e
    cases e
    rw [pl.heap_same (i := i + 1) (j := ops.size) hi (Nat.le_refl _) fun k h1 h2 => p2 k _ (by omega) (hkd k h2), pl.sn, ← hn]
    exact hQ

/-! ### The walk -/

def Wd (P : Program) (ro : Option Nat) (E : Nat → Option TyI) (ops : Array Oper) (S0 : St) (A : Prop) (acc : List Rc) (rest : List Oper) (S : St) : Prop :=
  ∀ Sr, Run P ro E ops S0 acc Sr → Sr.H = S.H → Sr.n = S.n → (∀ t x, get S.env t = some x → get Sr.env t = some x) → (∀ k : Nat, rest[k]? = ops[acc.length + k]?) → A

variable {A : Prop} {acc : List Rc} {rest : List Oper} {o : Oper}

theorem W_any {id : Nat} (E : Nat → Option TyI) (h : Wd P ro E ops S (W P ro (.region id ops true) S Q) [] ops.toList S) : W P ro (.region id ops true) S Q :=
  h S .nil rfl rfl (fun _ _ h => h) (fun k => by simp)

theorem Wd_op {x : AV} {k : Kd} {H' : List Blk} (hok : (⟨rst (looks ops o) S.env, S.H, x, k⟩ : Rc).ok P ro E ops S.n o H')
    (hk : Wd P ro E ops S0 A (⟨rst (looks ops o) S.env, S.H, x, k⟩ :: acc) rest ⟨pushE o.dst x S.env, H', S.n⟩) : Wd P ro E ops S0 A acc (o :: rest) S := by
  intro Sr ht hH hn he hr
  have ho : ops.toList[acc.length]? = some o := by have := hr 0; simpa using this.symm
  refine hk ⟨pushE o.dst x Sr.env, H', Sr.n⟩ (.snoc (o := o) (r := ⟨rst (looks ops o) S.env, S.H, x, k⟩) ht ho (fun t y hy => ?_) hH.symm (hn ▸ hok)) rfl hn (fun t y hy => ?_) (fun i => ?_)
  · obtain ⟨h1, h2⟩ := rst_get hy
    exact ⟨h1, he t y h2⟩
  · cases hd : o.dst with
    | none => rw [hd] at hy; exact he t y hy
    | some d =>
      rw [hd] at hy
      simp only [pushE, get] at hy ⊢
      split at hy
      · rename_i hb; rw [if_pos hb]; exact hy
      · rename_i hb; rw [if_neg hb]; exact he t y hy
  · have := hr (i + 1)
    simp only [List.getElem?_cons_succ] at this
    rw [this]
    simp only [List.length_cons]
    congr 1; omega

/-- One that does not look at the heap. -/
theorem Wd_p (hE : EOK P E) {x : AV} {c : Bool} (hg : guardV ops (rst (looks ops o) S.env) o = some true) (h : ∀ H, evQ E (rst (looks ops o) S.env) H o.op = some (c, x)) (hd : dstOK o.dst S.n = true) (hc : c = true)
    (hk : Wd P ro E ops S0 A (⟨rst (looks ops o) S.env, S.H, x, .any⟩ :: acc) rest ⟨pushE o.dst x S.env, S.H, S.n⟩) : Wd P ro E ops S0 A acc (o :: rest) S :=
  Wd_op (x := x) (k := .any) (H' := S.H) ⟨hd, hg, fun H => OpOK.step (S := ⟨rst (looks ops o) S.env, H, S.n⟩) (evQ_ok (S := ⟨rst (looks ops o) S.env, H, S.n⟩) hE (h H) hc) (evQ_nodefer (h H)), rfl⟩ hk
theorem Wd_q {x : AV} {c : Bool} (hg : guardV ops (rst (looks ops o) S.env) o = some true) (h : evQ E (rst (looks ops o) S.env) S.H o.op = some (c, x)) (hd : dstOK o.dst S.n = true) (hc : c = true)
    (hk : Wd P ro E ops S0 A (⟨rst (looks ops o) S.env, S.H, x, .quiet⟩ :: acc) rest ⟨pushE o.dst x S.env, S.H, S.n⟩) : Wd P ro E ops S0 A acc (o :: rest) S :=
  Wd_op (x := x) (k := .quiet) (H' := S.H) ⟨hd, hg, ⟨c, h, hc⟩, rfl⟩ hk
theorem Wd_skip (hg : guardV ops (rst (looks ops o) S.env) o = some false) (hd : dstOK o.dst S.n = true)
    (hk : Wd P ro E ops S0 A (⟨rst (looks ops o) S.env, S.H, .d (.tup []), .skip⟩ :: acc) rest ⟨pushE o.dst (.d (.tup [])) S.env, S.H, S.n⟩) : Wd P ro E ops S0 A acc (o :: rest) S :=
  Wd_op (x := .d (.tup [])) (k := .skip) (H' := S.H) ⟨hd, hg, rfl, rfl⟩ hk
theorem Wd_F {g : Nat} {xs : List AV} {ds : List D} {q : D} (hg : guardV ops (rst (looks ops o) S.env) o = some true) (h : evCall (rst (looks ops o) S.env) o.op = some (g, xs)) (hd : dstOK o.dst S.n = true) (hF : Go.Gar.Fn P g ds q) (hx : AsD xs ds)
    (hk : Wd P ro E ops S0 A (⟨rst (looks ops o) S.env, S.H, .d q, .any⟩ :: acc) rest ⟨pushE o.dst (.d q) S.env, S.H, S.n⟩) : Wd P ro E ops S0 A acc (o :: rest) S :=
  Wd_op (x := .d q) (k := .any) (H' := S.H) ⟨hd, hg, fun H => T_step (S := ⟨rst (looks ops o) S.env, H, S.n⟩) h (hF.toT hx H), rfl⟩ hk
theorem Wd_T {g : Nat} {xs : List AV} {x : AV} {H' : List Blk} (hg : guardV ops (rst (looks ops o) S.env) o = some true) (h : evCall (rst (looks ops o) S.env) o.op = some (g, xs)) (hd : dstOK o.dst S.n = true) (hT : FnT P g xs S.H fun y H => y = x ∧ H = H')
    (hk : Wd P ro E ops S0 A (⟨rst (looks ops o) S.env, S.H, x, .eff⟩ :: acc) rest ⟨pushE o.dst x S.env, H', S.n⟩) : Wd P ro E ops S0 A acc (o :: rest) S :=
  Wd_op (x := x) (k := .eff) (H' := H') ⟨hd, hg, T_step (S := ⟨rst (looks ops o) S.env, S.H, S.n⟩) h hT⟩ hk
theorem Wd_a (hE : EOK P E) {f : Nat → AV} {b : Blk} {c : Bool} (hg : guardV ops (rst (looks ops o) S.env) o = some true) (h : evA E (rst (looks ops o) S.env) S.H o.op = some (c, f, b)) (hd : dstOK o.dst S.n = true) (hc : c = true)
    (hk : Wd P ro E ops S0 A (⟨rst (looks ops o) S.env, S.H, f S.H.length, .eff⟩ :: acc) rest ⟨pushE o.dst (f S.H.length) S.env, S.H ++ [b], S.n⟩) : Wd P ro E ops S0 A acc (o :: rest) S :=
  Wd_op (x := f S.H.length) (k := .eff) (H' := S.H ++ [b]) ⟨hd, hg, OpOK.step (S := ⟨rst (looks ops o) S.env, S.H, S.n⟩) (evA_ok (S := ⟨rst (looks ops o) S.env, S.H, S.n⟩) hE h hc) (evA_nodefer h)⟩ hk
theorem Wd_w (hE : EOK P E) {x : AV} {H' : List Blk} {c : Bool} (hg : guardV ops (rst (looks ops o) S.env) o = some true) (h : evW E (rst (looks ops o) S.env) S.H o.op = some (c, x, H')) (hd : dstOK o.dst S.n = true) (hc : c = true)
    (hk : Wd P ro E ops S0 A (⟨rst (looks ops o) S.env, S.H, x, .eff⟩ :: acc) rest ⟨pushE o.dst x S.env, H', S.n⟩) : Wd P ro E ops S0 A acc (o :: rest) S :=
  Wd_op (x := x) (k := .eff) (H' := H') ⟨hd, hg, OpOK.step (S := ⟨rst (looks ops o) S.env, S.H, S.n⟩) (evW_ok (S := ⟨rst (looks ops o) S.env, S.H, S.n⟩) hE h hc) (evW_nodefer h)⟩ hk
theorem Wd_env {env : List (Nat × AV)} (h : ∀ t x, get env t = some x → get S.env t = some x) (k : Wd P ro E ops S0 A acc rest ⟨env, S.H, S.n⟩) : Wd P ro E ops S0 A acc rest S :=
  fun Sr ht hH hn he hr => k Sr ht hH hn (fun t x hx => he t x (h t x hx)) hr
theorem Wd_split {d : Nat} {b : Bool} (hg : gtmp ops o = some d) (hb : get S.env d = some (.d (.b b)))
    (ht : b = true → Wd P ro E ops S0 A acc (o :: rest) ⟨(d, .d (.b true)) :: S.env, S.H, S.n⟩) (hf : b = false → Wd P ro E ops S0 A acc (o :: rest) ⟨(d, .d (.b false)) :: S.env, S.H, S.n⟩) : Wd P ro E ops S0 A acc (o :: rest) S := by
  cases b with
  | true => exact Wd_env (get_push hb) (ht rfl)
  | false => exact Wd_env (get_push hb) (hf rfl)

theorem W_envle {c : Code} {Q' : Exit → St → Prop} (h : W P ro c S0 Q') (hq : ∀ e S', Q' e S' → Q e S' ∨ ∃ env, (∀ t x, get env t = some x → get S'.env t = some x) ∧ Q e ⟨env, S'.H, S'.n⟩) : W P ro c S0 Q := by
  intro N G a w r
  refine wpIn_mono (h N G a w r) ?_
  rintro e a' w' ⟨S', G', q, r', k⟩
  rcases hq e S' q with q | ⟨env, hs, q⟩
  · exact ⟨S', G', q, r', k⟩
  · exact ⟨_, G', q, r'.env_le hs, k⟩

/-- An operation that ends in a panic; those that wait for it. -/
theorem Wd_pan {ch : List PanicEntry} {H' : List Blk} (hg : guardV ops (rst (looks ops o) S.env) o = some true) (hX : StepX P ro o ⟨rst (looks ops o) S.env, S.H, S.n⟩ ch H') (hd : dstOK o.dst S.n = true)
    (hk : Wd P ro E ops S0 A (⟨rst (looks ops o) S.env, S.H, .u, .pan ch⟩ :: acc) rest ⟨pushE o.dst .u S.env, H', S.n⟩) : Wd P ro E ops S0 A acc (o :: rest) S :=
  Wd_op (x := .u) (k := .pan ch) (H' := H') ⟨hd, hg, hX⟩ hk
theorem Wd_dead (hd : dstOK o.dst S.n = true)
    (hk : Wd P ro E ops S0 A (⟨rst (looks ops o) S.env, S.H, .u, .dead⟩ :: acc) rest ⟨pushE o.dst .u S.env, S.H, S.n⟩) : Wd P ro E ops S0 A acc (o :: rest) S :=
  Wd_op (x := .u) (k := .dead) (H' := S.H) ⟨hd, rfl⟩ hk
theorem Wd_nilX {id : Nat} (l : List (Nat × Nat)) {i0 : Nat} {ch : List PanicEntry} (hm : P.follows .mixedOrders = true) (hE : EOK P E) (hp : panAt (acc.reverse.map Rc.k) = some (i0, ch)) (hd : drawOKX ops (acc.reverse.map Rc.k) l = true) (hx : extraL E ops acc.reverse S.H l) (hQ : Q (.panic ch) ⟨[], S.H, S.n⟩) : Wd P ro E ops S0 (W P ro (.region id ops true) S0 Q) acc [] S := by
  intro Sr ht hH hn he hr N G a w hrel
  exact wpIn_region_any hm (Wany_drawnX hE ht hd (by rw [hH]; exact hx) hp (by rw [hH, hn]; exact hQ) N G a w hrel)

/-- The end of the walk: the order is strict enough. -/
theorem Wd_nil {id : Nat} (l : List (Nat × Nat)) (hm : P.follows .mixedOrders = true) (hE : EOK P E) (hd : drawOK ops (acc.reverse.map Rc.k) l = true) (hx : extraL E ops acc.reverse S.H l) (hQ : Q .normal S) : Wd P ro E ops S0 (W P ro (.region id ops true) S0 Q) acc [] S := by
  intro Sr ht hH hn he hr
  refine W_envle (Q' := fun e S' => e = .normal ∧ S' = Sr) (W_drawn hm hE ht hd (by rw [hH]; exact hx) ⟨rfl, rfl⟩) ?_
  rintro e S' ⟨rfl, rfl⟩
  refine .inr ⟨S.env, he, ?_⟩
  rw [hH, hn]; exact hQ

end
end Go.Gar

/- The frame, part 21: small rules for walks: places in lists, side conditions, loops. -/
namespace Go.Gar

section
variable {P : Program} {ro : Option Nat} {ops : Array Oper} {i : Nat} {rest : List Oper} {S S0 : St} {Q : Exit → St → Prop} {o : Oper} {E : Nat → Option TyI} {A : Prop} {acc : List Rc}

def isIx : Op → Bool
  | .indexAddr _ _ _ => true
  | _ => false
theorem andT {a b : Bool} (h : a = true) (k : b = true) : (a && b) = true := by rw [h, k]; rfl

theorem asD_d : ∀ ds : List D, AsD (ds.map .d) ds
  | [] => by simp [AsD, Frzs]
  | d :: ds => by
    have := asD_d ds
    simp only [AsD] at this ⊢
    simp only [List.map_cons, Frzs]
    exact ⟨d, ds, rfl, by simp [Frz], this⟩

theorem Wl_Fd {g : Nat} {ds : List D} {r : D} (hF : Go.Gar.Fn P g ds r) (hg : guardV ops S.env o = some true) (h : evCall S.env o.op = some (g, ds.map .d)) (hd : dstOK o.dst S.n = true)
    (k : Wl P ro ops (i + 1) rest ⟨pushE o.dst (.d r) S.env, S.H, S.n⟩ Q) : Wl P ro ops i (o :: rest) S Q :=
  Wl_F hg h hd hF (asD_d ds) k
theorem Wd_Fd {g : Nat} {ds : List D} {q : D} (hF : Go.Gar.Fn P g ds q) (hg : guardV ops (rst (looks ops o) S.env) o = some true) (h : evCall (rst (looks ops o) S.env) o.op = some (g, ds.map .d)) (hd : dstOK o.dst S.n = true)
    (hk : Wd P ro E ops S0 A (⟨rst (looks ops o) S.env, S.H, .d q, .any⟩ :: acc) rest ⟨pushE o.dst (.d q) S.env, S.H, S.n⟩) : Wd P ro E ops S0 A acc (o :: rest) S :=
  Wd_F hg h hd hF (asD_d ds) hk

end
end Go.Gar

/- The frame, part 22: what a run does not know of, it leaves. -/
namespace Go.Gar

theorem BStep.congr {G G' K K' : Gh} {id : Nat} {b b' : Blk} (h : BStep G G' id b b') (e : K.ρ id = G.ρ id) (e' : K'.ρ id = G'.ρ id) : BStep K K' id b b' := by
  cases b <;> cases b' <;> simp only [BStep] at h ⊢ <;> simp_all

theorem subHeap_pre : ∀ (H L : List Blk), subHeap H (H ++ L)
  | [], L => by simp [subHeap]
  | b :: H, L => by exact And.intro (Or.inr rfl) (subHeap_pre H L)

theorem frame_ok {G G' : Gh} {w w' : World} {H L : List Blk} (hG : G.H = H ++ L) (hr : HRel G w) (hf : Frm (G.cut H) w G' w') (h' : HRel G' w') (hl : G'.H.length = H.length) :
    ∃ G'', G''.H = G'.H ++ L ∧ HRel G'' w' ∧ Frm G w G'' w' ∧ GLe G' G'' := by
  let K : Gh := ⟨fun id => if id < H.length then G'.ρ id else G.ρ id, G'.H ++ L, G'.m⟩
  have k1 : ∀ id, id < H.length → K.ρ id = G'.ρ id := fun id h => by simp [K, h]
  have k2 : ∀ id, ¬ id < H.length → K.ρ id = G.ρ id := fun id h => by simp [K, h]
  have kH : K.H = G'.H ++ L := rfl
  have low : ∀ id b, K.H[id]? = some b → id < H.length → G'.H[id]? = some b := fun id b hb hlt => by
    rw [kH, List.getElem?_append_left (by omega)] at hb; exact hb
  have high : ∀ id b, K.H[id]? = some b → ¬ id < H.length → G.H[id]? = some b := fun id b hb hge => by
    rw [kH, List.getElem?_append_right (by omega), hl] at hb
    rw [hG, List.getElem?_append_right (by omega)]; exact hb
  have hs : subHeap H G.H := by rw [hG]; exact subHeap_pre H L
  have g1 : GLe G' K := ⟨fun id b hb => ⟨b, by rw [kH, List.getElem?_append_left (List.getElem?_eq_some_iff.1 hb).1]; exact hb, (BStep.refl G' id b).congr rfl (k1 id (by have := (List.getElem?_eq_some_iff.1 hb).1; omega))⟩, Mem.le_refl _⟩
  have g2 : GLe G K := by
    refine ⟨fun id b hb => ?_, hf.gle.mem⟩
    by_cases hlt : id < H.length
    · have hb0 : (G.cut H).H[id]? = some b := by
        rw [hG, List.getElem?_append_left hlt] at hb; exact hb
      obtain ⟨b', hb', hstep⟩ := hf.gle.blk id b hb0
      exact ⟨b', by rw [kH, List.getElem?_append_left (by omega)]; exact hb', hstep.congr rfl (k1 id hlt)⟩
    · refine ⟨b, ?_, (BStep.refl G id b).congr rfl (k2 id hlt)⟩
      rw [hG, List.getElem?_append_right (by omega)] at hb
      rw [kH, List.getElem?_append_right (by omega), hl]; exact hb
  -- the blocks behind: the run does not know them
  have far : ∀ id b N q, ¬ id < H.length → G.H[id]? = some q → q.live = true → G.ρ id = some (b, N) → b < w.heap.size ∧ ¬ Own (G.cut H) b := by
    intro id b N q hge hq hlv hρ
    refine ⟨own_lt hr ⟨id, N, q, hq, hlv, hρ⟩, ?_⟩
    rintro ⟨id', N', q', hq', hlv', hρ'⟩
    have hq'' : G.H[id']? = some q' := by
      have : id' < H.length := (List.getElem?_eq_some_iff.1 hq').1
      rw [hG, List.getElem?_append_left this]; exact hq'
    have := hr.inj id id' q q' b N N' hq hq'' hlv hlv' hρ hρ'
    have : id' < H.length := (List.getElem?_eq_some_iff.1 hq').1
    omega
  have ownK : ∀ b, Own K b → Own G' b ∨ (Own G b ∧ b < w.heap.size ∧ ¬ Own (G.cut H) b) := by
    rintro b ⟨id, N, q, hq, hlv, hρ⟩
    by_cases hlt : id < H.length
    · exact .inl ⟨id, N, q, low id q hq hlt, hlv, by rw [← k1 id hlt]; exact hρ⟩
    · have hρ' : G.ρ id = some (b, N) := by rw [← k2 id hlt]; exact hρ
      exact .inr ⟨⟨id, N, q, high id q hq hlt, hlv, hρ'⟩, far id b N q hlt (high id q hq hlt) hlv hρ'⟩
  refine ⟨K, rfl, ⟨fun id b hb => ?_, fun id id' p q b N N' hp hq lp lq r1 r2 => ?_, h'.mem, fun b hb k => ?_, h'.st⟩, ⟨hf.os, hf.tape, hf.output, hf.size, fun b hb ho => ?_, fun b k v hv => ?_, g2⟩, g1⟩
  · by_cases hlt : id < H.length
    · exact (h'.blk id b (low id b hb hlt)).frm g1 (fun _ _ _ _ => rfl) (k1 id hlt)
    · refine (hr.blk id b (high id b hb hlt)).frm g2 (fun q N hlv hρ => ?_) (k2 id hlt)
      obtain ⟨h1, h2⟩ := far id q N b hlt (high id b hb hlt) hlv hρ
      exact (hf.keep q h1 h2).1
  · by_cases h1 : id < H.length
    · rw [k1 id h1] at r1
      by_cases h2 : id' < H.length
      · rw [k1 id' h2] at r2
        exact h'.inj id id' p q b N N' (low id p hp h1) (low id' q hq h2) lp lq r1 r2
      · rw [k2 id' h2] at r2
        obtain ⟨f1, f2⟩ := far id' b N' q h2 (high id' q hq h2) lq r2
        exact absurd ⟨id, N, p, low id p hp h1, lp, r1⟩ (hf.keep b f1 f2).2
    · rw [k2 id h1] at r1
      by_cases h2 : id' < H.length
      · rw [k1 id' h2] at r2
        obtain ⟨f1, f2⟩ := far id b N p h1 (high id p hp h1) lp r1
        exact absurd ⟨id', N', q, low id' q hq h2, lq, r2⟩ (hf.keep b f1 f2).2
      · rw [k2 id' h2] at r2
        exact hr.inj id id' p q b N N' (high id p hp h1) (high id' q hq h2) lp lq r1 r2
  · rcases ownK b hb with h | ⟨h1, h2, h3⟩
    · exact h'.sep b h k
    · cases hm : G'.m b k with
      | none => rfl
      | some v =>
        rcases hf.memNew b k v hm with h | h | h
        · have := hr.sep b h1 k
          rw [show G.m b k = some v from h] at this; cases this
        · exact absurd h h3
        · omega
  · have hc : ¬ Own (G.cut H) b := fun h => ho (own_cut hs h)
    obtain ⟨h1, h2⟩ := hf.keep b hb hc
    refine ⟨h1, fun h => ?_⟩
    rcases ownK b h with h | ⟨h, _⟩
    · exact h2 h
    · exact ho h
  · rcases hf.memNew b k v hv with h | h | h
    · exact .inl h
    · exact .inr (.inl (own_cut hs h))
    · exact .inr (.inr h)

end Go.Gar

/- The frame, part 23: yield. -/
namespace Go.Gar

section
variable {P : Program} {ro : Option Nat} {ops : Array Oper} {i : Nat} {rest : List Oper} {S : St} {Q : Exit → St → Prop} {o : Oper}

/-- What a call of the yield of the loop `id` comes to, at a heap. -/
def YT (P : Program) (id : Nat) (args : List AV) (H : List Blk) (R : AV → List Blk → Prop) : Prop :=
  ∀ G w l N (vs : Array Value), G.H = H → HRel G w → G.ρ id = some (l, N) → RVs G args vs.toList →
    ∃ f tmps asg body, (Instr.yield l vs).run P w = .ok (.round l f tmps asg body) w ∧
      RoundIn Fence.wide 0 P l f tmps asg body w fun e w' => ∃ v r G', e = .returned v ∧ R r G'.H ∧ RV G' r v ∧ HRel G' w' ∧ Frm G w G' w'

theorem YT.mono {id : Nat} {args : List AV} {H : List Blk} {R R' : AV → List Blk → Prop} (h : YT P id args H R) (hr : ∀ x H, R x H → R' x H) : YT P id args H R' :=
  fun G w l N vs h1 h2 h3 h4 => by
    obtain ⟨f, t, a, b, k1, k2⟩ := h G w l N vs h1 h2 h3 h4
    exact ⟨f, t, a, b, k1, k2.mono fun _ _ ⟨v, r, G', e, q, rest⟩ => ⟨v, r, G', e, hr _ _ q, rest⟩⟩

theorem YT.frame {id : Nat} {args : List AV} {H L : List Blk} {R : AV → List Blk → Prop} (h : YT P id args H R) (hi : id < H.length) (ho : heapOk H.length H = true) (ha : AV.oks H.length args = true) (hl : ∀ r H', R r H' → H'.length = H.length) :
    YT P id args (H ++ L) fun r H'' => ∃ H', R r H' ∧ H'' = H' ++ L := by
  intro G w l N vs hG hr hρ hargs
  have hs : subHeap H G.H := by rw [hG]; exact subHeap_pre H L
  obtain ⟨f, t, a, b, k1, k2⟩ := h (G.cut H) w l N vs rfl (hr.cut hs ho) hρ (hargs.cut hs ha)
  refine ⟨f, t, a, b, k1, k2.mono ?_⟩
  rintro e w' ⟨v, r, G', rfl, hR, hv, hr', hfr⟩
  obtain ⟨G'', q1, q2, q3, q4⟩ := frame_ok hG hr hfr hr' (hl r _ hR)
  exact ⟨v, r, G'', rfl, ⟨G'.H, hR, q1⟩, hv.mono q4, q2, q3⟩

theorem FnT.frame {f : FuncId} {args : List AV} {H L : List Blk} {R : AV → List Blk → Prop} (h : FnT P f args H R) (ho : heapOk H.length H = true) (ha : AV.oks H.length args = true) (hl : ∀ r H', R r H' → H'.length = H.length) :
    FnT P f args (H ++ L) fun r H'' => ∃ H', R r H' ∧ H'' = H' ++ L := by
  refine ⟨h.1, fun G w vs hG hr hargs => ?_⟩
  have hs : subHeap H G.H := by rw [hG]; exact subHeap_pre H L
  refine (h.2 (G.cut H) w vs rfl (hr.cut hs ho) (hargs.cut hs ha)).mono ?_
  rintro e w' ⟨v, r, G', rfl, hR, hv, hr', hfr⟩
  obtain ⟨G'', q1, q2, q3, q4⟩ := frame_ok hG hr hfr hr' (hl r _ hR)
  exact ⟨v, r, G'', rfl, ⟨G'.H, hR, q1⟩, hv.mono q4, q2, q3⟩

theorem run_yield {c : Call} {fo : Operand} (hc : c.callee = .value fo) {a : Act} {l : Nat} (hf : a.eval fo = .func (.yield l) #[] #[]) (ho : o.op = .call c) (w : World) :
    (execOp a.eval o).run P w = (Instr.yield l (c.args.map a.eval)).run P w := by
  unfold execOp
  simp only [ho, resolve, hc, hf, Deferred.ofValue, Sem.run_bind, Sem.run_pure, Result.andThen_ok, invoke]
  simp

/-- The loop whose yield is called, with what. -/
def evYield (env : List (Nat × AV)) (op : Op) : Option (Nat × List AV) :=
  match callOf op with
  | some (f, l) => match opd env f, opds env l with
    | some (.yl id), some xs => some (id, xs)
    | _, _ => none
  | none => none

theorem Wl_y {id : Nat} {xs : List AV} {r0 : Lp} {R : AV → List Blk → Prop} (hg : guardV ops S.env o = some true) (h : evYield S.env o.op = some (id, xs)) (hd : dstOK o.dst S.n = true) (hlp : S.H[id]? = some (.lp r0)) (hT : YT P id xs S.H R)
    (k : ∀ r H', R r H' → Wl P ro ops (i + 1) rest ⟨pushE o.dst r S.env, H', S.n⟩ Q) : Wl P ro ops i (o :: rest) S Q := by
  unfold evYield at h
  split at h
  · rename_i fo al hcl
    obtain ⟨c, ho, hc, hl⟩ := callOf_eq hcl
    subst hl
    split at h
    · rename_i id' ys hf hxs
      simp only [Option.some.injEq, Prod.mk.injEq] at h
      obtain ⟨rfl, rfl⟩ := h
      intro hops N G a w r
      have ho' : ops[i]? = some o := by have := hops 0; simpa using this.symm
      simp only [List.length_cons, List.range'_succ, wpOpsIn, ho']
      rw [if_pos (guardV_ok r.env hg)]
      refine ⟨fun _ _ => trivial, ?_⟩
      have hfv := opd_ok r.env hf
      simp only [RV] at hfv
      obtain ⟨_, blk, hb, hp⟩ := hfv
      rw [r.heap, hlp] at hb
      cases hb
      obtain ⟨l, N', hρ, hv⟩ := hp
      obtain ⟨f, tm, ag, bd, k1, k2⟩ := hT G w l N' (c.args.map a.eval) r.heap r.rel hρ (by simpa using opds_ok r.env hxs)
      rw [Oper.semAt_eq _ _ _ (fun c e => by rw [ho] at e; cases e), run_yield hc hv ho w, k1]
      simp only [Oper.uponIn]
      refine ⟨fnc_depth _, ?_⟩
      have hops' : ∀ k : Nat, rest[k]? = ops[i + 1 + k]? := fun k => by have := hops (k + 1); simp at this; rw [this]; congr 1; omega
      have k2' : RoundIn (fnc (rl G ro)) 0 P l f tm ag bd w _ := k2
      refine k2'.mono ?_
      rintro e w' ⟨v, x, G', rfl, hR, hv', hr', hfr⟩
      obtain ⟨e1, e2, e3⟩ := put_env (r.env.mono hfr.gle) r.size hd hv'
      have r' : Rel ro N ⟨pushE o.dst x S.env, G'.H, S.n⟩ G' (a.put o.dst v) w' := r.step hfr rfl hr' rfl e2 e1 e3
      have hk := k x G'.H hR hops' N G' _ w' r'
      rw [rl_frm r r' hfr] at hk
      exact wpOpsIn_mono (fun _ _ _ p => p.trans hfr) _ _ _ hk
    · cases h
  · cases h

end
end Go.Gar

/- The frame, part 24: (its contents stand in part 12 now). -/

/- The frame, part 25: rounds. -/
namespace Go.Gar

section
variable {P : Program}

def Lp.lo (r : Lp) (tmps : Array Value) (df : Nat) : Loop := { state := r.state, pending := r.pending, fn := r.fn, tmps := tmps, params := r.params, assign := r.assign, body := r.body, defers := df }
def Lp.at_ (r : Lp) (s : LoopState) (p : Option Code) : Lp := { r with state := s, pending := p }

theorem getLoop_run {w : World} {l : Nat} {r : Loop} (h : w.heap[l]? = some (.loop r)) : (Instr.getLoop l).run P w = .ok r w := by
  simp [Instr.getLoop, getObj, Sem.run, h, Sem.run_bind]
theorem setObj_run {w : World} {l : Nat} {o : Obj} {p : Loop} (h : w.heap[l]? = some (.loop p)) : (setObj l o).run P w = .ok () (w.setB l o) := by
  simp [setObj, Sem.run, h, World.setB]

theorem lp_put {G : Gh} {w : World} {id l N df : Nat} {r : Lp} {tmps : Array Value} (h : HRel G w) (hid : G.H[id]? = some (.lp r)) (hρ : G.ρ id = some (l, N)) (hw : w.heap[l]? = some (.loop (r.lo tmps df))) (hsz : tmps.size = r.n) (henv : EnvR G r.env tmps) (s : LoopState) (p : Option Code) :
    HRel (G.put id (.lp (r.at_ s p))) (w.setB l (.loop ((r.at_ s p).lo tmps df))) ∧ Frm G w (G.put id (.lp (r.at_ s p))) (w.setB l (.loop ((r.at_ s p).lo tmps df))) := by
  have hs : BStep G (G.put id (.lp (r.at_ s p))) id (.lp r) (.lp (r.at_ s p)) := by simp [BStep, Lp.at_, Gh.put]
  refine putO_ok h hid rfl rfl hρ hs ⟨l, N, df, tmps, hρ, setB_self _ _ _ (Array.getElem?_eq_some_iff.1 hw).1, hsz, henv.mono (put_gle hid hs)⟩

/-- Parameters laid into temporaries. -/
def parE : List Nat → List AV → List (Nat × AV) → List (Nat × AV)
  | t :: ts, x :: xs, env => parE ts xs ((t, x) :: env)
  | _, _, env => env
theorem parE_ok {G : Gh} : ∀ {ts : List Nat} {xs : List AV} {vs : List Value} {env : List (Nat × AV)} {tmps : Array Value}, EnvR G env tmps → RVs G xs vs → (∀ t ∈ ts, t < tmps.size) →
    EnvR G (parE ts xs env) ((ts.zip vs).foldl (fun tmps p => tmps.setIfInBounds p.1 p.2) tmps) ∧ ((ts.zip vs).foldl (fun tmps p => tmps.setIfInBounds p.1 p.2) tmps).size = tmps.size
  | [], xs, vs, env, tmps, he, _, _ => by cases xs <;> simpa [parE] using he
  | t :: ts, [], vs, env, tmps, he, hr, _ => by simp only [RVs] at hr; subst hr; simpa [parE] using he
  | t :: ts, x :: xs, vs, env, tmps, he, hr, hlt => by
    simp only [RVs] at hr
    obtain ⟨v, r, rfl, h1, h2⟩ := hr
    have he' : EnvR G ((t, x) :: env) (tmps.setIfInBounds t v) := by
      intro u y hy
      simp only [get] at hy
      split at hy
      · rename_i hb
        cases hy
        have := Nat.eq_of_beq_eq_true hb
        subst this
        exact ⟨v, Array.getElem?_setIfInBounds_self_of_lt (hlt _ (by simp)), h1⟩
      · rename_i hb
        obtain ⟨z, hz, hzr⟩ := he u y hy
        exact ⟨z, by rw [Array.getElem?_setIfInBounds_ne (fun e => by subst e; simp at hb)]; exact hz, hzr⟩
    obtain ⟨k1, k2⟩ := parE_ok (ts := ts) (tmps := tmps.setIfInBounds t v) he' h2 (fun u hu => by simpa using hlt u (by simp [hu]))
    exact ⟨by simpa [parE] using k1, by simpa using k2⟩

/-- Where a round's body is left. -/
def jumpOf : Exit → Option (Option Code)
  | .normal => some none
  | .ret => some (some .ret)
  | .exit i => some (some (.exit i))
  | .goto l => some (some (.goto l))
  | _ => none
def stateOf : Option Code → LoopState
  | none => .ready
  | some _ => .done
def QYield (id n : Nat) (R : AV → List Blk → Prop) (e : Exit) (S : St) : Prop :=
  ∃ j, jumpOf e = some j ∧ ∃ S'', TSub S S'' ∧ n ≤ S''.H.length ∧ id < S''.H.length ∧ ∃ r, S''.H[id]? = some (.lp r) ∧ R (.d (.b j.isNone)) (S''.H.set id (.lp (r.at_ (stateOf j) j)))
/-- Behind the assignments to the loop's left sides. -/
def QAsg (P : Program) (id n : Nat) (body : Code) (R : AV → List Blk → Prop) : Exit → St → Prop
  | .normal, S => ∃ r, S.H[id]? = some (.lp r) ∧ r.state = .ready ∧ W P (some id) body ⟨S.env, S.H.set id (.lp (r.at_ .busy r.pending)), S.n⟩ (QYield id n R)
  | _, _ => False

theorem rel_lp {N : NB} {S : St} {G : Gh} {a : Act} {w : World} {id : Nat} (h : Rel (some id) N S G a w) {r : Lp} (hr : S.H[id]? = some (.lp r)) : ∃ l M df tmps, G.ρ id = some (l, M) ∧ w.heap[l]? = some (.loop (r.lo tmps df)) ∧ tmps.size = r.n ∧ EnvR G r.env tmps :=
  h.rel.blk id (.lp r) (by rw [h.heap]; exact hr)

theorem YT_of_W {id : Nat} {r0 : Lp} {H : List Blk} {args : List AV} {R : AV → List Blk → Prop} (hid : H[id]? = some (.lp r0)) (hready : r0.state = .ready) (hlen : args.length = r0.params.size) (hps : ∀ t ∈ r0.params.toList, t < r0.n)
    (hb : W P (some id) r0.assign ⟨parE r0.params.toList args r0.env, H, r0.n⟩ (QAsg P id H.length r0.body R)) : YT P id args H R := by
  intro G w l N vs hG hr hρ hargs
  obtain ⟨l', N', df, tmps, hρ', hw, hsz, henv⟩ := hr.blk id _ (by rw [hG]; exact hid)
  rw [hρ] at hρ'; cases hρ'
  have hl : vs.size = r0.params.size := by have := RVs.getK hargs; simp at this; omega
  have hw' : w.heap[l]? = some (.loop (r0.lo tmps df)) := hw
  refine ⟨r0.fn, (r0.params.zip vs).foldl (fun tmps (p : Nat × Value) => tmps.setIfInBounds p.1 p.2) tmps, r0.assign, r0.body, ?_, ?_⟩
  · rw [Instr.yield]
    simp only [Sem.run_bind, getLoop_run hw', Result.andThen_ok]
    rw [if_neg (by simp [Lp.lo, hl])]
    rfl
  · obtain ⟨p1, p2⟩ := parE_ok (ts := r0.params.toList) henv hargs (fun t ht => by rw [hsz]; exact hps t ht)
    have etm : ((r0.params.zip vs).foldl (fun tmps (p : Nat × Value) => tmps.setIfInBounds p.1 p.2) tmps) = ((r0.params.toList.zip vs.toList).foldl (fun tmps p => tmps.setIfInBounds p.1 p.2) tmps) := by
      rw [← Array.foldl_toList]; simp
    have hrl : ∀ {G : Gh} {M : Nat}, G.ρ id = some (l, M) → rl G (some id) = some l := fun h => by simp [rl, h]
    refine roundIn_of_wpIn trivial ?_
    have rel0 : Rel (some id) ⟨w.heap.size, []⟩ ⟨parE r0.params.toList args r0.env, H, r0.n⟩ G { tmps := (r0.params.zip vs).foldl (fun tmps (p : Nat × Value) => tmps.setIfInBounds p.1 p.2) tmps, defers := [] } w := by
      refine ⟨hG, hr, ?_, ?_, ⟨Nat.le_refl _, [], rfl, List.nodup_nil, fun _ h => by cases h⟩, fun i hi => ?_⟩
      · show Array.size _ = _
        rw [etm, p2, hsz]
      · show EnvR G _ _
        rw [etm]; exact p1
      · cases hi
        exact ⟨r0, l, N, hid, hρ⟩
    have h1 := hb ⟨w.heap.size, []⟩ G _ w rel0
    rw [hrl hρ] at h1
    refine wpIn_mono (F := fnc (some l)) h1 ?_
    rintro e a' w1 ⟨S', G', q, r', k⟩
    cases e with
    | normal =>
      obtain ⟨r, h2, h3, hW⟩ := q
      obtain ⟨l2, M, df2, tmps2, g1, g2, g3, g4⟩ := rel_lp r' h2
      have hl2 : l2 = l := by
        obtain ⟨b', hb', hs⟩ := k.gle.blk id _ (by rw [hG]; exact hid)
        rw [r'.heap, h2] at hb'; cases hb'
        simp only [BStep] at hs
        rw [hs.1, hρ] at g1; cases g1; rfl
      subst hl2
      obtain ⟨u1, u2⟩ := lp_put r'.rel (by rw [r'.heap]; exact h2) g1 g2 g3 g4 .busy r.pending
      refine ⟨w1.setB l2 (.loop ((r.at_ .busy r.pending).lo tmps2 df2)), ?_, ?_⟩
      · rw [Instr.beginRound]
        simp only [Sem.run_bind, getLoop_run g2, Result.andThen_ok]
        rw [setObj_run g2]
        simp only [Result.andThen_ok, Lp.lo, h3]
        rfl
      · have rel2 : Rel (some id) ⟨w.heap.size, []⟩ ⟨S'.env, S'.H.set id (.lp (r.at_ .busy r.pending)), S'.n⟩ (G'.put id (.lp (r.at_ .busy r.pending))) a' (w1.setB l2 (.loop ((r.at_ .busy r.pending).lo tmps2 df2))) :=
          r'.step u2 (by show G'.H.set id _ = _; rw [r'.heap]) u1 rfl r'.size (r'.env.mono u2.gle) rfl
        have h4 := hW _ _ _ _ rel2
        have g1' : (G'.put id (.lp (r.at_ .busy r.pending))).ρ id = some (l2, M) := g1
        rw [hrl g1'] at h4
        refine wpIn_mono (F := fnc (some l2)) h4 ?_
        rintro e a3 w3 ⟨S3, G3, q3, r3, k3⟩
        obtain ⟨j, hj, S4, ts, hle, hidlt, rr, hrr, hR⟩ := q3
        obtain ⟨G4, r4, t4⟩ := ts _ _ _ _ _ r3 (fun i hi => by cases hi; exact hidlt)
        obtain ⟨l5, M5, df5, tmps5, f1, f2, f3, f4⟩ := rel_lp r4 hrr
        have kk : Frm G w G4 w3 := ((k.trans u2).trans k3).ghost t4 (by rw [hG, r4.heap]; exact hle)
        have hl5 : l5 = l2 := by
          obtain ⟨b', hb', hs⟩ := kk.gle.blk id _ (by rw [hG]; exact hid)
          rw [r4.heap, hrr] at hb'; cases hb'
          simp only [BStep] at hs
          rw [hs.1, hρ] at f1; cases f1; rfl
        subst hl5
        obtain ⟨y1, y2⟩ := lp_put r4.rel (by rw [r4.heap]; exact hrr) f1 f2 f3 f4 (stateOf j) j
        have fin : ∃ v w', (Instr.endRound l5 j).run P w3 = .ok v w' ∧ ∃ v' r G', (Ending.returned v : Ending) = .returned v' ∧ R r G'.H ∧ RV G' r v' ∧ HRel G' w' ∧ Frm G w G' w' := by
          refine ⟨.bool j.isNone, w3.setB l5 (.loop ((rr.at_ (stateOf j) j).lo tmps5 df5)), ?_, .bool j.isNone, .d (.b j.isNone), _, rfl, ?_, by simp [RV, RD], y1, kk.trans y2⟩
          · rw [Instr.endRound]
            simp only [Sem.run_bind, getLoop_run f2, Result.andThen_ok]
            rw [setObj_run f2]
            simp only [Result.andThen_ok, Sem.run_pure]
            cases j <;> rfl
          · show R _ (G4.H.set id _)
            rw [r4.heap]; exact hR
        cases e <;> simp only [jumpOf, Option.some.injEq] at hj <;> first | (cases hj; done) | (subst hj; exact fin)
    | _ => exact q.elim

end
end Go.Gar

/- The frame, part 26: ranges over functions. -/
namespace Go.Gar

section
variable {P : Program} {ro : Option Nat} {S : St} {Q : Exit → St → Prop}

theorem newObj_run (P : Program) (w : World) (o : Obj) : (newObj o).run P w = .ok w.heap.size (w.alloc o) := rfl
theorem alloc_new (w : World) (o : Obj) : (w.alloc o).heap[w.heap.size]? = some o := by
  show (w.heap.push o)[w.heap.size]? = some o
  simp

theorem RVs.app {G : Gh} : ∀ {xs ys : List AV} {vs us : List Value}, RVs G xs vs → RVs G ys us → RVs G (xs ++ ys) (vs ++ us)
  | [], ys, vs, us, h, k => by simp only [RVs] at h; subst h; exact k
  | x :: xs, ys, vs, us, h, k => by
    simp only [RVs] at h
    obtain ⟨v, r, rfl, h1, h2⟩ := h
    simp only [List.cons_append, RVs]
    exact ⟨v, r ++ us, rfl, h1, RVs.app h2 k⟩

/-- What a range lays ahead of its record: the mark for deferred calls, if it is the outermost one. -/
theorem enter_ok {N : NB} {G : Gh} {a : Act} {w : World} (r : Rel ro N S G a w) (fn : FuncId) (ps : Array Tmp) (asg body : Code) : ∃ (mark : List Deferred) (wA : World) (df : Nat),
    (Instr.enterLoop fn a.tmps ps asg body (rl G ro)).run P w = .ok (wA.heap.size, mark) (wA.alloc (.loop { state := .ready, pending := none, fn := fn, tmps := a.tmps, params := ps, assign := asg, body := body, defers := df })) ∧
    Rel ro N S G { a with defers := mark ++ a.defers } wA ∧ Frm G w G wA := by
  cases ro with
  | none =>
    have hgr := grow_ok (w' := w.alloc (.deferred (some []))) r.rel rfl rfl rfl (by simp) (fun b hb => heap_alloc_old w _ b hb) G.m (Mem.le_refl _) (fun _ _ _ h => .inl h) (fun b k v hv => by
      rw [World.cell?_alloc_lt _ _ _ (mem_lt r.rel hv)]; exact r.rel.mem b k v hv)
    have hG : ({ G with m := G.m } : Gh) = G := rfl
    rw [hG] at hgr
    refine ⟨[{ target := .collected w.heap.size, args := #[] }], w.alloc (.deferred (some [])), w.heap.size, ?_, ?_, hgr.2⟩
    · show (Instr.enterLoop fn a.tmps ps asg body none).run P w = _
      unfold Instr.enterLoop
      simp only [Sem.run_bind, newObj_run, Result.andThen, Sem.run_pure, World.size_alloc]
    · refine ⟨r.heap, hgr.1, r.size, r.env, ?_, fun id h => by cases h⟩
      obtain ⟨m0, ms, m1, m2, m3⟩ := r.marks
      have hlt : ∀ q ∈ ms, q < w.heap.size := fun q hq => (Array.getElem?_eq_some_iff.1 (m3 q hq).2.1).1
      refine ⟨Nat.le_trans m0 (by simp), w.heap.size :: ms, by simp [m1], List.nodup_cons.2 ⟨fun h => by have := hlt _ h; omega, m2⟩, fun q hq => ?_⟩
      rcases List.mem_cons.1 hq with rfl | hq
      · refine ⟨?_, alloc_new _ _, fun ho => by have := own_lt r.rel ho; omega⟩
        exact m0
      · obtain ⟨q1, q2, q3⟩ := m3 q hq
        exact ⟨q1, (heap_alloc_old w _ q (hlt q hq)).trans q2, q3⟩
  | some id =>
    obtain ⟨r0, l, M, h1, h2⟩ := r.round id rfl
    obtain ⟨l', M', df, tmps, g1, g2, g3, g4⟩ := rel_lp r h1
    rw [h2] at g1; cases g1
    refine ⟨[], w, df, ?_, by simpa using r, Frm.refl G w⟩
    have : rl G (some id) = some l := by simp [rl, h2]
    rw [this]
    unfold Instr.enterLoop
    simp only [Sem.run_bind, getLoop_run g2, Result.andThen, newObj_run, Sem.run_pure]
    rfl

theorem W_range {g : Operand} {ps : Array Tmp} {asg body : Code} {f : FuncId} {first cap : List AV} {K : AV → List Blk → Prop} (hg : opd S.env g = some (.fn (.func f) first cap))
    (seq : ∀ fn, FnT P f (first ++ [.yl S.H.length] ++ cap) (S.H ++ [.lp ⟨.ready, none, fn, S.n, S.env, ps, asg, body⟩]) K)
    (k : ∀ x H', K x H' → ∃ r, H'[S.H.length]? = some (.lp r) ∧ (r.state == .busy) = false ∧
      match r.pending with
      | none => Q .normal ⟨S.env, H'.set S.H.length (.lp (r.at_ .exhausted r.pending)), S.n⟩
      | some c => W P ro c ⟨S.env, H'.set S.H.length (.lp (r.at_ .exhausted r.pending)), S.n⟩ Q) : W P ro (.rangeFunc g ps asg body) S Q := by
  intro N G a w r
  refine wpIn_rangeFunc fun fn _ => ?_
  obtain ⟨mark, wA, df, e1, e2, e3⟩ := enter_ok (P := P) r fn ps asg body
  let r0 : Lp := ⟨.ready, none, fn, S.n, S.env, ps, asg, body⟩
  let w1 := wA.alloc (.loop { state := .ready, pending := none, fn := fn, tmps := a.tmps, params := ps, assign := asg, body := body, defers := df })
  obtain ⟨o1, o2⟩ := ownO_ok e2.rel (.loop { state := .ready, pending := none, fn := fn, tmps := a.tmps, params := ps, assign := asg, body := body, defers := df }) 0 (.lp r0) ⟨wA.heap.size, 0, df, a.tmps, by simp [Gh.own], alloc_new _ _, r.size, (e2.env.mono (own_gle G wA.heap.size 0 (.lp r0)))⟩
  have hGH : (G.own wA.heap.size 0 (.lp r0)).H = S.H ++ [.lp r0] := by show G.H ++ _ = _; rw [r.heap]
  have hlen : G.H.length = S.H.length := by rw [r.heap]
  have hfv := opd_ok (e2.env.mono o2.gle) hg
  simp only [RV] at hfv
  obtain ⟨p, q, hfv, hp, hq⟩ := hfv
  have hfv : a.eval g = .func (.func f) p.toArray q.toArray := hfv
  obtain ⟨⟨fd, hf1, hf2, hf3⟩, hseq⟩ := seq fn
  have hbn : fd.body.isNone = false := by cases hx : fd.body <;> simp_all
  have hres : (resolve a.eval (rangeCall g wA.heap.size) 0).run P w1 = .ok { target := .fn (.func f) q.toArray, args := p.toArray ++ #[Value.func (.yield wA.heap.size) #[] #[]] } w1 := by
    simp only [resolve, rangeCall, hfv, Deferred.ofValue, Sem.run_pure]
    simp [Act.eval]
  refine ⟨wA.heap.size, mark, w1, _, w1, f, p.toArray ++ #[Value.func (.yield wA.heap.size) #[] #[]] ++ q.toArray, w1, e1, hres, fun _ _ => trivial, ?_, fnc_depth _, ?_⟩
  · simp only [invoke, callFunc, run_program, Sem.run_bind, Result.andThen_ok, hf1, hf2, hbn, Bool.false_eq_true, if_false, Sem.run_ite, Sem.run_pure]
  · have hargs : RVs (G.own wA.heap.size 0 (.lp r0)) (first ++ [.yl S.H.length] ++ cap) (p.toArray ++ #[Value.func (.yield wA.heap.size) #[] #[]] ++ q.toArray).toList := by
      have hy : RV (G.own wA.heap.size 0 (.lp r0)) (.yl S.H.length) (.func (.yield wA.heap.size) #[] #[]) := by
        simp only [RV]
        refine ⟨rfl, .lp r0, by rw [hGH]; simp, wA.heap.size, 0, by simp [Gh.own, hlen], rfl⟩
      have e : (p.toArray ++ #[Value.func (.yield wA.heap.size) #[] #[]] ++ q.toArray : Array Value).toList = p ++ [Value.func (.yield wA.heap.size) #[] #[]] ++ q := by simp
      rw [e]
      exact RVs.app (RVs.app hp (by simp only [RVs]; exact ⟨_, [], rfl, hy, rfl⟩)) hq
    have hcall := hseq (G.own wA.heap.size 0 (.lp r0)) w1 _ hGH o1 hargs
    refine CallsIn.mono (F := fnc (rl G ro)) hcall ?_
    rintro e w' ⟨v, x, G', rfl, hK, hv, hr', hfr⟩
    obtain ⟨rr, hrr, hnb, hk⟩ := k x G'.H hK
    obtain ⟨l, M, df', tmps, g1, g2, g3, g4⟩ := hr'.blk S.H.length (.lp rr) hrr
    have hl : l = wA.heap.size := by
      obtain ⟨b', hb', hs⟩ := hfr.gle.blk S.H.length (.lp r0) (by rw [hGH]; simp)
      rw [hrr] at hb'; cases hb'
      simp only [BStep] at hs
      rw [hs.1] at g1
      simp only [Gh.own, hlen, if_true, Option.some.injEq, Prod.mk.injEq] at g1
      exact g1.1.symm
    subst hl
    obtain ⟨y1, y2⟩ := lp_put hr' hrr g1 g2 g3 g4 .exhausted rr.pending
    have rel2 : Rel ro N ⟨S.env, G'.H.set S.H.length (.lp (rr.at_ .exhausted rr.pending)), S.n⟩ (G'.put S.H.length (.lp (rr.at_ .exhausted rr.pending))) { a with defers := mark ++ a.defers } (w'.setB wA.heap.size (.loop ((rr.at_ .exhausted rr.pending).lo tmps df'))) :=
      e2.step ((o2.trans hfr).trans y2) rfl y1 rfl r.size (e2.env.mono ((o2.trans hfr).trans y2).gle) rfl
    refine ⟨rr.pending, w'.setB wA.heap.size (.loop ((rr.at_ .exhausted rr.pending).lo tmps df')), ?_, ?_⟩
    · rw [Instr.endLoop]
      have g2' : w'.heap[wA.heap.size]? = some (.loop (rr.lo tmps df')) := g2
      simp only [Sem.run_bind, getLoop_run g2', Result.andThen_ok]
      have hnb' : ((rr.lo tmps df').state == LoopState.busy) = false := hnb
      rw [hnb']
      simp only [Bool.false_eq_true, if_false, Sem.run_bind, Sem.run_pure, Result.andThen_ok]
      rw [setObj_run g2']
      rfl
    · have kk := (e3.trans ((o2.trans hfr).trans y2))
      cases hpend : rr.pending with
      | none =>
        rw [hpend] at hk rel2 kk
        exact ⟨_, _, hk, rel2, kk⟩
      | some c =>
        rw [hpend] at hk rel2 kk
        have h5 := hk N _ _ _ rel2
        rw [rl_frm r rel2 kk] at h5
        exact wpIn_mono h5 fun _ _ _ p => p.trans kk

end
end Go.Gar
