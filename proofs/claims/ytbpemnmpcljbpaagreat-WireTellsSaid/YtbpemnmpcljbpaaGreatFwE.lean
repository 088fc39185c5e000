/- The frame of these proofs, part E: a triple over the model's code with an abstract state (plain data, a small abstract heap), its rules, and the way from a given row to it.
Conditions: none; what each theorem asks stands in its own hypotheses. -/
import Derived.Test.YtbpemnmpcljbpaaGreatFwD
import Derived.RecoverIn
set_option linter.unusedSimpArgs false
set_option linter.unusedVariables false
set_option linter.unnecessarySimpa false
/- The frame, part 36: sums that wrap; a byte of one's own slice is written; walks that stop at a region. -/
namespace Go.Gar

/-- A sum, a difference, as the machine tells it. -/
def evWrap (env : List (Nat × AV)) (op : Op) : Option (Bool × AV) :=
  match op with
  | .binOp op _ p q _ => match opd env p, opd env q with
    | some (.d (.i k a)), some (.d (.i k' b)) => match op with
      | .add => some (decide (k = k'), .d (.i k (k.wrap (a + b))))
      | .sub => some (decide (k = k'), .d (.i k (k.wrap (a - b))))
      | .mul => some (decide (k = k'), .d (.i k (k.wrap (a * b))))
      | _ => none
    | _, _ => none
  | _ => none

/-- A byte of a slice of one's own is written. -/
def evSb (E : Nat → Option TyI) (env : List (Nat × AV)) (H : List Blk) (op : Op) : Option (Bool × List Blk) :=
  match op with
  | .store t a x => match E t, opd env a, opd env x with
    | some y, some (.ep id i off n sz), some (.d (.i k m)) => match H[id]? with
      | some (.a (.by l)) => match setH id (.a (.by (l.set i (UInt8.ofNat m.toNat)))) H with
        | some H' => some (Nat.beq n l.length && decide (i < n) && Nat.beq y.size 1 && Nat.beq off 0 && Nat.beq sz 1 && decide (k = .u8) && decide (0 ≤ m) && decide (m < 256), H')
        | none => none
      | _ => none
    | _, _, _ => none
  | _ => none

/-- A contract that lays blocks: what it yields, as plain data. -/
theorem Fn_of_D {P : Program} {f : FuncId} {ds : List D} {r : D} {x : AV} {H : List Blk} (h : FnD P f (ds.map .d) [] x H) (hK : Frz H x r) : Fn P f ds r := by
  refine ⟨h.1, fun m w vs hm hst hargs => ?_⟩
  let G : Gh := { ρ := fun _ => none, H := [], m := m }
  have hr : HRel G w := ⟨fun id b hb => by simp [G] at hb, fun id id' p q b N N' hp => by simp [G] at hp, hm, fun b ho => by obtain ⟨id, N, q, hq, _⟩ := ho; simp [G] at hq, hst⟩
  have hno : ∀ b, ¬ Own G b := fun b ho => by obtain ⟨id, N, q, hq, _⟩ := ho; simp [G] at hq
  refine (h.2 G w vs rfl hr (RVs_d.2 hargs)).mono ?_
  rintro e w' ⟨v, y, G', rfl, ⟨rfl, rfl⟩, hv, h2, hfr⟩
  let m' : Mem := fun b k => match G'.m b k with
    | some v => some v
    | none => if w.heap.size ≤ b then w'.cell? ⟨b, k, none⟩ else none
  have hle : G'.m.le m' := fun b k v hv => by simp only [m', hv]
  have hmem : MemOK m' w' := by
    intro b k v hv
    simp only [m'] at hv
    split at hv
    · rename_i u hu; cases hv; exact h2.mem b k _ hu
    · split at hv
      · exact hv
      · cases hv
  refine ⟨v, m', rfl, frz_ok h2 hle ?_ hK hv, Mem.le_trans hfr.gle.mem hle, hmem, ?_, hfr.os, hfr.tape, hfr.output, hfr.size, fun b hb => (hfr.keep b hb (hno b)).1⟩
  · intro b k v ho hc
    have hge : w.heap.size ≤ b := by
      rcases Nat.lt_or_ge b w.heap.size with hlt | hge
      · exact absurd ho (hfr.keep b hlt (hno b)).2
      · exact hge
    simp only [m', h2.sep b ho k, if_pos hge, hc]
  · intro b k v hv
    simp only [m'] at hv
    split at hv
    · rename_i u hu
      cases hv
      rcases hfr.memNew b k _ hu with h3 | h3 | h3
      · exact .inl h3
      · exact absurd h3 (hno b)
      · exact .inr h3
    · split at hv
      · rename_i hge; exact .inr hge
      · cases hv

def hasN (n : Nat) : List Nat → Bool
  | [] => false
  | a :: r => Nat.beq n a || hasN n r

section
variable {P : Program} {ro : Option Nat} {E : Nat → Option TyI} {ops : Array Oper} {i : Nat} {rest : List Oper} {Q : Exit → St → Prop} {o : Oper} {en : List (Nat × AV)} {hp : List Blk} {nt : Nat} {S0 : St} {A : Prop} {acc : List Rc}

theorem W_regionS (L : List Nat) {id : Nat} {S : St} (_ : hasN id L = false) (h : Wl P ro ops 0 ops.toList S Q) : W P ro (.region id ops false) S Q := W_region h
theorem W_anyS (L : List Nat) {id : Nat} {S : St} (E : Nat → Option TyI) (_ : hasN id L = false) (h : Wd P ro E ops S (W P ro (.region id ops true) S Q) [] ops.toList S) : W P ro (.region id ops true) S Q := W_any E h
end
end Go.Gar

/- The frame, part 37: what a variable holds, said in other words. -/
namespace Go.Gar

/-- A cell of a block, which is known to hold one thing, holds another one. -/
theorem TSub.cell {S : St} (id i : Nat) {x y : AV} {cs : List AV} (hid : S.H[id]? = some (.c cs)) (h : cs[i]? = some x) (hw : ∀ G v, RV G x v → RV G y v) :
    TSub S ⟨S.env, S.H.set id (.c (cs.set i y)), S.n⟩ := by
  intro ro N G a w r _
  have hidG : G.H[id]? = some (.c cs) := by rw [r.heap]; exact hid
  have hlt : id < G.H.length := (List.getElem?_eq_some_iff.1 hidG).1
  let c' : Blk := .c (cs.set i y)
  let G' : Gh := { ρ := G.ρ, H := G.H.set id c', m := G.m }
  have hst : BStep G G' id (.c cs) c' := by simp [c', BStep, G']
  have hget : ∀ j b, G'.H[j]? = some b → (j = id ∧ b = c') ∨ (j ≠ id ∧ G.H[j]? = some b) := by
    intro j b hb
    by_cases hj : j = id
    · subst hj
      left
      have hb' : (G.H.set j c')[j]? = some b := hb
      rw [List.getElem?_set_self hlt] at hb'
      exact ⟨rfl, (Option.some.inj hb').symm⟩
    · right
      have hb' : (G.H.set id c')[j]? = some b := hb
      rw [List.getElem?_set_ne (Ne.symm hj)] at hb'
      exact ⟨hj, hb'⟩
  have gle : GLe G G' := by
    refine ⟨fun j b hb => ?_, Mem.le_refl _⟩
    by_cases hj : j = id
    · subst hj
      rw [hidG] at hb; cases hb
      exact ⟨c', List.getElem?_set_self hlt, hst⟩
    · exact ⟨b, by show (G.H.set id c')[j]? = _; rw [List.getElem?_set_ne (Ne.symm hj)]; exact hb, BStep.refl _ _ _⟩
  have own : ∀ b, Own G' b → Own G b := by
    rintro b ⟨j, N, blk, hb, hlv, hρ⟩
    rcases hget j blk hb with ⟨rfl, rfl⟩ | ⟨_, h4⟩
    · exact ⟨j, N, _, hidG, rfl, hρ⟩
    · exact ⟨j, N, blk, h4, hlv, hρ⟩
  have rel : HRel G' w := by
    refine ⟨fun j b hb => ?_, fun i' j p q' b N N' hp hq lp lq r1 r2 => ?_, r.rel.mem, fun b hb k => r.rel.sep b (own b hb) k, r.rel.st⟩
    · rcases hget j b hb with ⟨rfl, rfl⟩ | ⟨h3, h4⟩
      · obtain ⟨b, N, vs, T, g1, g2, g3, g4, g6⟩ := r.rel.blk j _ hidG
        refine ⟨b, N, vs, T, g1, g2, g3, by simpa using g4, fun k z hz => ?_⟩
        rw [List.getElem?_set] at hz
        split at hz
        · rename_i hki
          subst hki
          split at hz
          · cases hz
            obtain ⟨v, hv, hrv⟩ := g6 i _ h
            exact ⟨v, hv, hw _ _ (hrv.mono gle)⟩
          · cases hz
        · obtain ⟨v, hv, hrv⟩ := g6 k _ hz
          exact ⟨v, hv, hrv.mono gle⟩
      · exact (r.rel.blk j b h4).frm gle (fun _ _ _ _ => rfl) rfl
    · have back : ∀ (j : Nat) (b : Blk), G'.H[j]? = some b → b.live = true → ∃ b0 : Blk, G.H[j]? = some b0 ∧ b0.live = true := by
        intro j b hb hlv
        rcases hget j b hb with ⟨rfl, rfl⟩ | ⟨_, h4⟩
        · exact ⟨_, hidG, rfl⟩
        · exact ⟨b, h4, hlv⟩
      obtain ⟨p0, e1, e2⟩ := back i' p hp lp
      obtain ⟨q0, e3, e4⟩ := back j q' hq lq
      exact r.rel.inj i' j p0 q0 b N N' e1 e3 e2 e4 r1 r2
  have tle : TLe G G' := by
    refine ⟨fun j b b' hb hb' => ?_, Mem.le_refl _, fun b hb => own b hb, fun _ _ _ h => .inl h⟩
    obtain ⟨b'', hb'', hs''⟩ := gle.blk j b hb
    rw [hb'] at hb''; cases hb''
    exact hs''
  refine ⟨G', ⟨?_, rel, r.size, fun u z hz => ?_, r.marks.tle tle, fun k hk => ?_⟩, tle⟩
  · show G.H.set id c' = _
    rw [r.heap]
  · obtain ⟨v, hv, hrv⟩ := r.env u z hz
    exact ⟨v, hv, hrv.mono gle⟩
  · obtain ⟨q', l, M, q1, q2⟩ := r.round k hk
    rw [← r.heap] at q1
    have hne : k ≠ id := fun e => by subst e; rw [hidG] at q1; cases q1
    refine ⟨q', l, M, ?_, q2⟩
    show (S.H.set id c')[k]? = _
    rw [List.getElem?_set_ne (Ne.symm hne), ← r.heap]
    exact q1

/-- A variable that holds nil holds a slice of no elements. -/
theorem TSub.e0c {S : St} (id i : Nat) (q : D) {cs : List AV} (hid : S.H[id]? = some (.c cs)) (h : cs[i]? = some .e0) (hs : isSl q = true) (hl : sln q = 0) (ho : slOk q) :
    TSub S ⟨S.env, S.H.set id (.c (cs.set i (.d q))), S.n⟩ :=
  TSub.cell id i hid h fun G v hv => by
    simp only [RV] at hv ⊢
    obtain ⟨a, rfl⟩ := hv
    exact (RD_sl hs).2 ⟨a, 0, by rw [hl], by omega, ho, .inl hl⟩
theorem fitG {E : Nat → Option TyI} {n t : Nat} {cs : List D} (h : fitT E n t cs = true) : fitT E n t cs = true := h
end Go.Gar

/- The frame, part 38: a loop by jumps. -/
namespace Go.Gar

section
variable {P : Program} {ro : Option Nat} {S : St} {Q : Exit → St → Prop}

/-- A jump back to the loop's label comes with a state of the loop; other labels are walked on from, j times at most. -/
def QJ {α : Type} (P : Program) (ro : Option Nat) (c : Code) (l : Nat) (I : α → Prop) (St0 : α → St) (μ : α → Nat) (k : Nat) (Q : Exit → St → Prop) (m : Nat) : Nat → Exit → St → Prop
  | j, .goto l', S' => match Nat.beq l' l with
    | true => ∃ y, I y ∧ μ y < m ∧ k ≤ (St0 y).H.length ∧ TSub S' (St0 y)
    | false => match j with
      | 0 => False
      | j + 1 => match findLabel c l' with
        | some r => W P ro r S' (QJ P ro c l I St0 μ k Q m j)
        | none => Q (.goto l') S'
  | _, e, S' => Q e S'

theorem scopeI_arr {α : Type} {c rest : Code} {l : Nat} (hfl : findLabel c l = some rest) {I : α → Prop} {St0 : α → St} {μ : α → Nat} {k0 j0 : Nat} (body : ∀ x, I x → W P ro rest (St0 x) (QJ P ro c l I St0 μ k0 Q (μ x) j0))
    {b : Frame} {k : List Item} {cs : List Frame} {F : Fence} (hro : b.roundOf = F.round) (hb : F.fn b.fn) (hr : F.room (cs.length + 1 + 0)) {N : NB} {G0 : Gh} {w0 : World} (hk0 : G0.H.length = k0) (hid : ∀ id, ro = some id → id < k0) (hF : ∀ {S : St} {G : Gh} {a : Act} {w : World}, Rel ro N S G a w → Frm G0 w0 G w → F = fnc (rl G ro)) :
    ∀ (m j : Nat) (c₁ : Code) (S : St) (G : Gh) (a : Act) (w : World), Rel ro N S G a w → Frm G0 w0 G w → W P ro c₁ S (QJ P ro c l I St0 μ k0 Q m j) →
    ∃ e a' w', Post ro N G0 w0 Q e a' w' ∧ ArrivesIn (Machine.fenced P F) P (lone (b.atR a (.code c₁ :: .inScope c :: k)) cs w) b k cs e a' w' := by
  intro m
  induction m using Nat.strongRecOn with
  | _ m ihm =>
    intro j
    induction j with
    | zero =>
      intro c₁ S G a w r k1 h
      have h1 := h N G a w r
      rw [← hF r k1] at h1
      obtain ⟨e, a', w', ⟨S', G', q, r', kk⟩, harr⟩ := h1 b (.inScope c :: k) cs hro hb hr
      cases e with
      | normal => exact ⟨.normal, a', w', ⟨S', G', q, r', k1.trans kk⟩, StepsIn.trans harr (.one (fenced_calm (fr := b.atR a' (.inScope c :: k)) hb hr rfl) stepR_inScope)⟩
      | exit id =>
        refine ⟨.exit id, a', w', ⟨S', G', q, r', k1.trans kk⟩, fun k' hk => harr.1 k' (by simp [exitTo, hk]), fun h1 h2 => harr.2 h1 (by simp [exitTo, h2])⟩
      | goto l' =>
        simp only [QJ] at q
        split at q
        · rename_i hl
          have hl := Nat.eq_of_beq_eq_true hl
          subst hl
          obtain ⟨y, hI, hlt, hle, t⟩ := q
          obtain ⟨G'', r'', t''⟩ := t ro N G' a' w' r' (fun id h => Nat.lt_of_lt_of_le (hid id h) hle)
          have k2 := (k1.trans kk).ghost t'' (by rw [hk0, r''.heap]; exact hle)
          obtain ⟨e₂, a₂, w₂, p₂, harr₂⟩ := ihm (μ y) hlt j0 rest (St0 y) G'' a' w' r'' k2 (body y hI)
          exact ⟨e₂, a₂, w₂, p₂, .of_steps (harr.1 _ (by simp [gotoIn, hfl])) harr₂⟩
        · exact q.elim
      | ret => exact ⟨.ret, a', w', ⟨S', G', q, r', k1.trans kk⟩, harr⟩
      | panic ch => exact ⟨.panic ch, a', w', ⟨S', G', q, r', k1.trans kk⟩, harr⟩
      | outgrown => exact ⟨.outgrown, a', w', ⟨S', G', q, r', k1.trans kk⟩, harr⟩
    | succ j ih =>
      intro c₁ S G a w r k1 h
      have h1 := h N G a w r
      rw [← hF r k1] at h1
      obtain ⟨e, a', w', ⟨S', G', q, r', kk⟩, harr⟩ := h1 b (.inScope c :: k) cs hro hb hr
      cases e with
      | normal => exact ⟨.normal, a', w', ⟨S', G', q, r', k1.trans kk⟩, StepsIn.trans harr (.one (fenced_calm (fr := b.atR a' (.inScope c :: k)) hb hr rfl) stepR_inScope)⟩
      | exit id =>
        refine ⟨.exit id, a', w', ⟨S', G', q, r', k1.trans kk⟩, fun k' hk => harr.1 k' (by simp [exitTo, hk]), fun h1 h2 => harr.2 h1 (by simp [exitTo, h2])⟩
      | goto l' =>
        simp only [QJ] at q
        split at q
        · rename_i hl
          have hl := Nat.eq_of_beq_eq_true hl
          subst hl
          obtain ⟨y, hI, hlt, hle, t⟩ := q
          obtain ⟨G'', r'', t''⟩ := t ro N G' a' w' r' (fun id h => Nat.lt_of_lt_of_le (hid id h) hle)
          have k2 := (k1.trans kk).ghost t'' (by rw [hk0, r''.heap]; exact hle)
          obtain ⟨e₂, a₂, w₂, p₂, harr₂⟩ := ihm (μ y) hlt j0 rest (St0 y) G'' a' w' r'' k2 (body y hI)
          exact ⟨e₂, a₂, w₂, p₂, .of_steps (harr.1 _ (by simp [gotoIn, hfl])) harr₂⟩
        · cases hfl' : findLabel c l' with
          | none =>
            rw [hfl'] at q
            exact ⟨.goto l', a', w', ⟨S', G', q, r', k1.trans kk⟩, fun k' hk => harr.1 k' (by simp [gotoIn, hfl', hk]), fun h1 h2 => harr.2 h1 (by simp [gotoIn, hfl', h2])⟩
          | some r2 =>
            rw [hfl'] at q
            obtain ⟨e₂, a₂, w₂, p₂, harr₂⟩ := ih r2 S' G' a' w' r' (k1.trans kk) q
            exact ⟨e₂, a₂, w₂, p₂, .of_steps (harr.1 _ (by simp [gotoIn, hfl'])) harr₂⟩
      | ret => exact ⟨.ret, a', w', ⟨S', G', q, r', k1.trans kk⟩, harr⟩
      | panic ch => exact ⟨.panic ch, a', w', ⟨S', G', q, r', k1.trans kk⟩, harr⟩
      | outgrown => exact ⟨.outgrown, a', w', ⟨S', G', q, r', k1.trans kk⟩, harr⟩

/-- A loop by jumps to the label l: I, the states, a measure; the way in; a round from the label on. -/
theorem W_scopeI {α : Type} {c : Code} (l : Nat) (rest : Code) (I : α → Prop) (St0 : α → St) (μ : α → Nat) (m j j0 : Nat) (hfl : findLabel c l = some rest)
    (h : W P ro c S (QJ P ro c l I St0 μ S.H.length Q m j)) (body : ∀ x, I x → W P ro rest (St0 x) (QJ P ro c l I St0 μ S.H.length Q (μ x) j0)) : W P ro (.scope c) S Q := by
  intro N G a w r b k cs hro hb hr
  obtain ⟨e, a', w', p, harr⟩ := scopeI_arr (Q := Q) (k := k) (b := b) (cs := cs) hfl body hro hb hr (by rw [r.heap]) r.ro_lt (fun r' k' => by rw [rl_frm r r' k']) m j c S G a w r (Frm.refl G w) h
  exact ⟨e, a', w', p, .of_steps (.one (fenced_calm (fr := b.atR a (.code (.scope c) :: k)) hb hr rfl) stepR_scope) harr⟩
end
end Go.Gar

/- The frame, part 42: a yield that goes on or stops. -/
namespace Go.Gar

section
variable {P : Program} {ro : Option Nat} {ops : Array Oper} {i : Nat} {rest : List Oper} {Q : Exit → St → Prop} {o : Oper} {en : List (Nat × AV)} {hp : List Blk} {nt : Nat}

theorem XyB {id : Nat} {xs : List AV} {r0 : Lp} {H1 H2 : List Blk} {e1 e2 : List (Nat × AV)} (b : Bool) (hT : b = true → YT P id xs hp fun r K => r = .d (.b true) ∧ K = H1) (hF : b = false → YT P id xs hp fun r K => r = .d (.b false) ∧ K = H2)
    (hg : guardV ops en o = some true) (h : evYield en o.op = some (id, xs)) (hd : dstOK o.dst nt = true) (hlp : hp[id]? = some (.lp r0)) (he1 : pushO o.dst (.d (.b true)) en = some e1) (he2 : pushO o.dst (.d (.b false)) en = some e2)
    (k1 : b = true → Wl P ro ops (i + 1) rest ⟨e1, H1, nt⟩ Q) (k2 : b = false → Wl P ro ops (i + 1) rest ⟨e2, H2, nt⟩ Q) : Wl P ro ops i (o :: rest) ⟨en, hp, nt⟩ Q := by
  cases b with
  | true => exact Xy (hT rfl) hg h hd hlp he1 (k1 rfl)
  | false => exact Xy (hF rfl) hg h hd hlp he2 (k2 rfl)
end
end Go.Gar

/- The frame, part 43: panics: calls that end in one, the operation, bodies. -/
namespace Go.Gar

/-- A call that ends in a panic. -/
def FnX (P : Program) (f : FuncId) (args : List AV) (H : List Blk) (ch : List PanicEntry) (H' : List Blk) : Prop :=
  Callable P f ∧ ∀ G w (vs : Array Value), G.H = H → HRel G w → RVs G args vs.toList →
    CallsIn Fence.wide 0 P f vs w fun e w' => ∃ G', e = .panicked ch ∧ G'.H = H' ∧ HRel G' w' ∧ Frm G w G' w'

theorem FnX.ren {P : Program} {f : FuncId} {args : List AV} {H H2 : List Blk} {ch : List PanicEntry} {H' : List Blk} (ids : List Nat) (h : FnX P f args H ch H') (hn : nodupB ids = true) (hm : matchH (rn ids H2.length) H2 ids H) (ho : heapOk H.length H = true) (ha : AV.oks H.length args = true) :
    FnX P f (AV.rens (rn ids H2.length) args) H2 ch (bkL ids H2 (renH (rn ids H2.length) H')) := by
  have hn := nodupB_ok hn
  refine ⟨h.1, fun G w vs hG hr hargs => ?_⟩
  obtain ⟨h1, h2⟩ := ren_rel hG hn hm hr ho
  refine (h.2 _ w vs rfl h1 (h2 ha hargs)).mono ?_
  rintro e w' ⟨G0', rfl, hH, hr', hfr⟩
  obtain ⟨G'', q1, q2, q3, q4, q5⟩ := ren_frame hG hn hm hr hfr hr'
  exact ⟨G'', rfl, by rw [q1, hH], q2, q3⟩

/-- A body that ends in a panic. -/
def QPan (ch : List PanicEntry) (K : St → Prop) : Exit → St → Prop
  | .panic c, S => c = ch ∧ K S
  | _, _ => False

section
variable {P : Program} {ro : Option Nat} {ops : Array Oper} {i : Nat} {rest : List Oper} {S : St} {Q : Exit → St → Prop} {o : Oper} {E : Nat → Option TyI}
variable {en : List (Nat × AV)} {hp : List Blk} {nt : Nat}

theorem FnX_of_W {f : FuncId} {fn : Func} {c : Code} (hE : EOK P E) (hf : P.funcs[f]? = some fn) (hb : fn.body = some c) (hname : (fn.name == "runtime.NumGoroutine") = false) {args : List AV} {H : List Blk} (hn : args.length ≤ fn.ntmps) {ch : List PanicEntry} {H' : List Blk}
    (h : W P none c ⟨envOf 0 args, H, fn.ntmps⟩ (QPan ch fun S0 => ∃ S', TSub S0 S' ∧ H.length ≤ S'.H.length ∧ S'.H = H')) : FnX P f args H ch H' := by
  have h2 := W_after (Q' := QPan ch fun S' => S'.H = H') h (by
    intro e S' q
    cases e with
    | panic c => obtain ⟨rfl, S'', t, hl, q'⟩ := q; exact ⟨S'', t, hl, rfl, q'⟩
    | _ => exact q.elim)
  refine ⟨⟨fn, hf, hname, by rw [hb]; rfl⟩, fun G w vs hG hr hargs => body_runP (K := fun _ _ => False) (KP := fun c K => c = ch ∧ K = H') hE hf hb hn (h2.mono ?_) hG hr hargs (fun _ _ _ _ _ _ h => h.elim) ?_⟩
  · intro e S' q
    cases e with
    | panic c => exact q
    | _ => exact q.elim
  · rintro c G' w1 w' ms ⟨rfl, hH⟩ h1 h2 hfr ht hms
    refine ⟨G', rfl, hH, h2, ⟨ht.os.trans hfr.os, ht.tape.trans hfr.tape, ht.output.trans hfr.output, by rw [ht.size]; exact hfr.size, fun b hb ho => ?_, hfr.memNew, hfr.gle⟩⟩
    obtain ⟨k1, k2⟩ := hfr.keep b hb ho
    exact ⟨(ht.other b fun hm => by have := hms b hm; omega).trans k1, k2⟩

/-- The operation. -/
theorem Wl_panic {x : Operand} {t : TypeId} {v : Value} (ho : o.op = .panic x) (hg : guardV ops S.env o = some true) (hx : opd S.env x = some (.d (.ifc t v))) (k : Q (.panic [{ v := .iface t v, recovered := false }]) S) : Wl P ro ops i (o :: rest) S Q := by
  intro hops N G a w r
  have ho' : ops[i]? = some o := by have := hops 0; simpa using this.symm
  simp only [List.length_cons, List.range'_succ, wpOpsIn, ho']
  rw [if_pos (guardV_ok r.env hg)]
  refine ⟨fun _ _ => trivial, ?_⟩
  have hv := opd_ok r.env hx
  simp only [RV, RD] at hv
  have hrun : (execOp a.eval o).run P w = .halt (.panic (.iface t v)) w := by
    unfold execOp
    simp only [ho, hv, Instr.panic, Sem.run_bind]
    rfl
  rw [Oper.semAt_eq _ _ _ (fun c e => by rw [ho] at e; cases e), hrun]
  simp only [Oper.uponIn]
  exact ⟨S, G, k, r, Frm.refl G w⟩

/-- A call that ends in one. -/
theorem Wl_callX {c : Call} {fo : Operand} {g : FuncId} {first cap xs : List AV} {ch : List PanicEntry} {H' : List Blk} (ho : o.op = .call c) (hc : c.callee = .value fo) (hg : guardV ops S.env o = some true) (hf : opd S.env fo = some (.fn (.func g) first cap)) (hxs : opds S.env c.args.toList = some xs)
    (hT : FnX P g (first ++ xs ++ cap) S.H ch H') (k : Q (.panic ch) ⟨S.env, H', S.n⟩) : Wl P ro ops i (o :: rest) S Q := by
  intro hops N G a w r
  have ho' : ops[i]? = some o := by have := hops 0; simpa using this.symm
  simp only [List.length_cons, List.range'_succ, wpOpsIn, ho']
  rw [if_pos (guardV_ok r.env hg)]
  refine ⟨fun _ _ => trivial, ?_⟩
  have hfv := opd_ok r.env hf
  simp only [RV] at hfv
  obtain ⟨p, q, hfv, hp, hq⟩ := hfv
  have hrun := run_call (P := P) (f := g) hc hfv hT.1 ho w
  rw [Oper.semAt_eq _ _ _ (fun c e => by rw [ho] at e; cases e), hrun]
  simp only [Oper.uponIn]
  refine ⟨fnc_depth _, ?_⟩
  have hargs : RVs G (first ++ xs ++ cap) (p.toArray ++ c.args.map a.eval ++ q.toArray).toList := by
    have h1 := opds_ok r.env hxs
    have e : (p.toArray ++ c.args.map a.eval ++ q.toArray).toList = p ++ c.args.toList.map a.eval ++ q := by simp
    rw [e]
    exact (hp.app h1).app hq
  have hcall := hT.2 G w _ r.heap r.rel hargs
  have hcall' : CallsIn (fnc (rl G ro)) 0 P g (p.toArray ++ c.args.map a.eval ++ q.toArray) w _ := hcall
  refine hcall'.mono ?_
  rintro e w' ⟨G', rfl, hH, hr', hfr⟩
  exact ⟨⟨S.env, H', S.n⟩, G', k, r.step hfr hH hr' rfl r.size (r.env.mono hfr.gle) rfl, hfr⟩

end
end Go.Gar

/- The frame, part 44: a function that defers a call, and one that recovers. -/
namespace Go.Gar

section
variable {P : Program} {F : Fence} {n : Nat} {ops : Array Oper} {a : Act} {cs : List Frame} {w : World}

theorem wpSIn_mono {c : Code} {Q Q' : Exit → Act → List Frame → World → Prop} (h : c.wpSIn F n P Q a cs w) (hq : ∀ e a cs w, Q e a cs w → Q' e a cs w) : c.wpSIn F n P Q' a cs w :=
  fun b k h1 h2 h3 h4 => let ⟨e, a', cs', w', l, q, r⟩ := h b k h1 h2 h3 h4; ⟨e, a', cs', w', l, hq _ _ _ _ q, r⟩

theorem wpOpsSIn_mono {Q Q' : Exit → Act → List Frame → World → Prop} (hq : ∀ e a cs w, Q e a cs w → Q' e a cs w) : ∀ (l : List Nat) (a : Act) (cs : List Frame) (w : World), wpOpsSIn F n P ops Q l a cs w → wpOpsSIn F n P ops Q' l a cs w
  | [], a, cs, w, h => hq _ _ _ _ h
  | i :: rest, a, cs, w, h => by
    simp only [wpOpsSIn] at h ⊢
    cases ho : ops[i]? with
    | none => simp only [ho] at h ⊢; exact wpOpsSIn_mono hq rest _ _ _ h
    | some o =>
      simp only [ho] at h ⊢
      refine ⟨h.1, ?_⟩
      have h2 := h.2
      by_cases hw : Region.wanted o (yielded ops a.tmps) = true
      · rw [if_pos hw] at h2 ⊢
        generalize (execOp a.eval o).run P w = res at h2 ⊢
        cases res with
        | ok r w' =>
          cases r with
          | recover =>
            simp only at h2 ⊢
            cases hr : recoverD cs with
            | none => simp only [hr] at h2 ⊢; exact wpOpsSIn_mono hq rest _ _ _ h2
            | some p => obtain ⟨v, cs'⟩ := p; simp only [hr] at h2 ⊢; exact wpOpsSIn_mono hq rest _ _ _ h2
          | value v => exact wpOpsSIn_mono hq rest _ _ _ h2
          | skip => exact wpOpsSIn_mono hq rest _ _ _ h2
          | _ => exact h2.elim
        | halt hh w' =>
          cases hh with
          | panic v => exact hq _ _ _ _ h2
          | _ => exact h2.elim
      · rw [if_neg hw] at h2 ⊢
        exact wpOpsSIn_mono hq rest _ _ _ h2

end

/-! ### Regions that leave what is deferred alone -/

/-- The operations from the i-th on run to the end; what is deferred stays. -/
def WlK (P : Program) (ops : Array Oper) (i : Nat) (rest : List Oper) (S : St) (K : St → Prop) : Prop :=
  (∀ k : Nat, rest[k]? = ops[i + k]?) → ∀ N G a w, Rel none N S G a w →
    wpOpsIn (fnc none) 0 P ops (fun e a' w' => e = .normal ∧ a'.defers = a.defers ∧ ∃ S' G', K S' ∧ Rel none N S' G' a' w' ∧ Frm G w G' w') (List.range' i rest.length) a w

section
variable {P : Program} {ops : Array Oper} {i : Nat} {rest : List Oper} {S : St} {K : St → Prop} {o : Oper} {E : Nat → Option TyI}

theorem WlK_nil (h : K S) : WlK P ops i [] S K := by
  intro _ N G a w r
  simp only [List.length_nil, List.range'_zero, wpOpsIn]
  exact ⟨by trivial, by trivial, S, G, h, r, Frm.refl G w⟩

theorem WlK_op {x : AV} {H' : List Blk} (hg : guardV ops S.env o = some true) (hop : OpOK P o S x H') (hnd : isDefer o.op = false) (hd : dstOK o.dst S.n = true)
    (k : WlK P ops (i + 1) rest ⟨pushE o.dst x S.env, H', S.n⟩ K) : WlK P ops i (o :: rest) S K := by
  intro hops N G a w r
  have ho : ops[i]? = some o := by have := hops 0; simpa using this.symm
  simp only [List.length_cons, List.range'_succ, wpOpsIn, ho]
  rw [if_pos (guardV_ok r.env hg)]
  obtain ⟨res, w', G', h1, h2, h3, h4, h5⟩ := hop none N G a w r
  refine ⟨fun _ _ => trivial, ?_⟩
  rw [Oper.semAt_eq _ _ _ (not_defer hnd), h1]
  have hops' : ∀ k : Nat, rest[k]? = ops[i + 1 + k]? := fun k => by have := hops (k + 1); simp at this; rw [this]; congr 1; omega
  have fin : ∀ v, RV G' x v → wpOpsIn (fnc none) 0 P ops (fun e a' w' => e = .normal ∧ a'.defers = a.defers ∧ ∃ S' G', K S' ∧ Rel none N S' G' a' w' ∧ Frm G w G' w') (List.range' (i + 1) rest.length) (a.put o.dst v) w' := by
    intro v hv
    obtain ⟨e1, e2, e3⟩ := put_env (r.env.mono h5.gle) r.size hd hv
    have r' : Rel none N ⟨pushE o.dst x S.env, H', S.n⟩ G' (a.put o.dst v) w' := r.step h5 h3 h4 rfl e2 e1 e3
    have hk := k hops' N G' _ w' r'
    exact wpOpsIn_mono (fun _ _ _ ⟨p1, p2, S', G'', p3, p4, p5⟩ => ⟨p1, p2.trans e3, S', G'', p3, p4, h5.trans p5⟩) _ _ _ hk
  rcases h2 with ⟨rfl, rfl⟩ | ⟨v, rfl, hv⟩
  · simp only [Oper.uponIn]
    exact fin undef (by simp [RV])
  · simp only [Oper.uponIn]
    exact fin v hv

theorem WlK_F {c : Call} {fo : Operand} {g : FuncId} {xs : List AV} {ds : List D} {d : D} (ho : o.op = .call c) (hc : c.callee = .value fo) (hg : guardV ops S.env o = some true) (hf : opd S.env fo = some (.fn (.func g) [] [])) (hxs : opds S.env c.args.toList = some xs) (hx : AsD xs ds)
    (hd : dstOK o.dst S.n = true) (hT : Fn P g ds d) (k : WlK P ops (i + 1) rest ⟨pushE o.dst (.d d) S.env, S.H, S.n⟩ K) : WlK P ops i (o :: rest) S K := by
  intro hops N G a w r
  have ho' : ops[i]? = some o := by have := hops 0; simpa using this.symm
  simp only [List.length_cons, List.range'_succ, wpOpsIn, ho']
  rw [if_pos (guardV_ok r.env hg)]
  refine ⟨fun _ _ => trivial, ?_⟩
  have hfv := opd_ok r.env hf
  simp only [RV] at hfv
  obtain ⟨p, q, hfv, hp, hq⟩ := hfv
  simp only [RVs] at hp hq
  subst hp; subst hq
  have hrun := run_call (P := P) (f := g) hc hfv hT.1 ho w
  rw [Oper.semAt_eq _ _ _ (fun c e => by rw [ho] at e; cases e), hrun]
  simp only [Oper.uponIn]
  refine ⟨fnc_depth _, ?_⟩
  have hops' : ∀ k : Nat, rest[k]? = ops[i + 1 + k]? := fun k => by have := hops (k + 1); simp at this; rw [this]; congr 1; omega
  have hargs : RVs G xs (([] : List Value).toArray ++ c.args.map a.eval ++ ([] : List Value).toArray).toList := by
    have h1 := opds_ok r.env hxs
    simpa using h1
  have hcall := (hT.toT hx S.H).2 G w _ r.heap r.rel hargs
  have hcall' : CallsIn (fnc none) 0 P g (([] : List Value).toArray ++ c.args.map a.eval ++ ([] : List Value).toArray) w _ := hcall
  refine hcall'.mono ?_
  rintro e w' ⟨v, x, G', rfl, ⟨rfl, hH⟩, hv, hr', hfr⟩
  obtain ⟨e1, e2, e3⟩ := put_env (r.env.mono hfr.gle) r.size hd hv
  have r' : Rel none N ⟨pushE o.dst (.d d) S.env, S.H, S.n⟩ G' (a.put o.dst v) w' := r.step hfr hH hr' rfl e2 e1 e3
  have hk := k hops' N G' _ w' r'
  exact wpOpsIn_mono (fun _ _ _ ⟨p1, p2, S', G'', p3, p4, p5⟩ => ⟨p1, p2.trans e3, S', G'', p3, p4, hfr.trans p5⟩) _ _ _ hk

/-- What is deferred: a function's value with what it has. -/
def DV (P : Program) (G : Gh) (f : FuncId) (xs : List AV) (d : Deferred) : Prop :=
  Callable P f ∧ ∃ p q : List Value, d = { target := .fn (.func f) q.toArray, args := p.toArray } ∧ RVs G xs (p ++ q)
theorem DV.mono {P : Program} {G G' : Gh} {f : FuncId} {xs : List AV} {d : Deferred} (h : DV P G f xs d) (k : GLe G G') : DV P G' f xs d :=
  let ⟨h0, p, q, h1, h2⟩ := h; ⟨h0, p, q, h1, RVs.mono k h2⟩

/-- The operations from the i-th on run to the end, the last one defers a call. -/
def WlF (P : Program) (ops : Array Oper) (i : Nat) (rest : List Oper) (S : St) (f : FuncId) (xs : List AV) (K : St → Prop) : Prop :=
  (∀ k : Nat, rest[k]? = ops[i + k]?) → ∀ N G a w, a.defers = [] → Rel none ⟨N, []⟩ S G a w →
    wpOpsIn (fnc none) 0 P ops (fun e a' w' => e = .normal ∧ ∃ d S' G', K S' ∧ Rel none ⟨N, [d]⟩ S' G' a' w' ∧ Frm G w G' w' ∧ DV P G' f xs d) (List.range' i rest.length) a w

theorem WlF_op {x : AV} {H' : List Blk} {f : FuncId} {xs : List AV} (hg : guardV ops S.env o = some true) (hop : OpOK P o S x H') (hnd : isDefer o.op = false) (hd : dstOK o.dst S.n = true)
    (k : WlF P ops (i + 1) rest ⟨pushE o.dst x S.env, H', S.n⟩ f xs K) : WlF P ops i (o :: rest) S f xs K := by
  intro hops N G a w ha r
  have ho : ops[i]? = some o := by have := hops 0; simpa using this.symm
  simp only [List.length_cons, List.range'_succ, wpOpsIn, ho]
  rw [if_pos (guardV_ok r.env hg)]
  obtain ⟨res, w', G', h1, h2, h3, h4, h5⟩ := hop none _ G a w r
  refine ⟨fun _ _ => trivial, ?_⟩
  rw [Oper.semAt_eq _ _ _ (not_defer hnd), h1]
  have hops' : ∀ k : Nat, rest[k]? = ops[i + 1 + k]? := fun k => by have := hops (k + 1); simp at this; rw [this]; congr 1; omega
  have fin : ∀ v, RV G' x v → wpOpsIn (fnc none) 0 P ops (fun e a' w' => e = .normal ∧ ∃ d S' G', K S' ∧ Rel none ⟨N, [d]⟩ S' G' a' w' ∧ Frm G w G' w' ∧ DV P G' f xs d) (List.range' (i + 1) rest.length) (a.put o.dst v) w' := by
    intro v hv
    obtain ⟨e1, e2, e3⟩ := put_env (r.env.mono h5.gle) r.size hd hv
    have r' : Rel none ⟨N, []⟩ ⟨pushE o.dst x S.env, H', S.n⟩ G' (a.put o.dst v) w' := r.step h5 h3 h4 rfl e2 e1 e3
    have hk := k hops' N G' _ w' (e3.trans ha) r'
    exact wpOpsIn_mono (fun _ _ _ ⟨p1, d, S', G'', p3, p4, p5, p6⟩ => ⟨p1, d, S', G'', p3, p4, h5.trans p5, p6⟩) _ _ _ hk
  rcases h2 with ⟨rfl, rfl⟩ | ⟨v, rfl, hv⟩
  · simp only [Oper.uponIn]
    exact fin undef (by simp [RV])
  · simp only [Oper.uponIn]
    exact fin v hv

theorem WlF_defer {c : Call} {fo : Operand} {g : FuncId} {first cap xs ys : List AV} (ho : o.op = .defer c) (hc : c.callee = .value fo) (hg : guardV ops S.env o = some true) (hf : opd S.env fo = some (.fn (.func g) first cap)) (hxs : opds S.env c.args.toList = some ys) (hx : first ++ ys ++ cap = xs)
    (hcall : Callable P g) (hdst : o.dst = none) (k : K S) : WlF P ops i [o] S g xs K := by
  intro hops N G a w ha r
  have ho' : ops[i]? = some o := by have := hops 0; simpa using this.symm
  simp only [List.length_cons, List.length_nil, List.range'_succ, List.range'_zero, wpOpsIn, ho']
  rw [if_pos (guardV_ok r.env hg)]
  refine ⟨fun _ _ => trivial, ?_⟩
  have hfv := opd_ok r.env hf
  simp only [RV] at hfv
  obtain ⟨p, q, hfv, hp, hq⟩ := hfv
  have hrun : (execOp a.eval o).run P w = .ok (.defer { target := .fn (.func g) q.toArray, args := (p ++ c.args.toList.map a.eval).toArray }) w := by
    have e : p.toArray ++ c.args.map a.eval = (p ++ c.args.toList.map a.eval).toArray := by
      apply Array.toList_inj.1; simp
    rw [← e]
    unfold execOp
    simp only [ho, resolve, hc, hfv, Deferred.ofValue, Sem.run_bind, Sem.run_pure, Result.andThen_ok]
  have hs : (o.semAt (fnc none).round a.eval).run P w = .ok (.defer { target := .fn (.func g) q.toArray, args := (p ++ c.args.toList.map a.eval).toArray }) w := hrun
  rw [hs]
  simp only [Oper.uponIn]
  refine ⟨by trivial, _, S, G, k, ?_, Frm.refl G w, hcall, p ++ c.args.toList.map a.eval, q, rfl, ?_⟩
  · obtain ⟨m0, ms, m1, m2, m3⟩ := r.marks
    rw [ha] at m1
    have : ms = [] := by
      cases ms with
      | nil => rfl
      | cons x l => simp at m1
    subst this
    rw [hdst]
    refine ⟨r.heap, r.rel, r.size, r.env, ⟨m0, [], by simp [Act.put, ha], List.nodup_nil, fun _ h => by cases h⟩, fun _ h => by cases h⟩
  · rw [← hx]
    exact (hp.app (opds_ok r.env hxs)).app hq

/-! ### A deferred call's body -/

def WS (P : Program) (c : Code) (S : St) (cs : List Frame) (Q : Exit → St → List Frame → Prop) : Prop :=
  ∀ N G a w, Rel none N S G a w → c.wpSIn (fnc none) 0 P (fun e a' cs' w' => a'.defers = a.defers ∧ ∃ S' G', Q e S' cs' ∧ Rel none N S' G' a' w' ∧ Frm G w G' w') a cs w
def WlS (P : Program) (ops : Array Oper) (i : Nat) (rest : List Oper) (S : St) (cs : List Frame) (Q : Exit → St → List Frame → Prop) : Prop :=
  (∀ k : Nat, rest[k]? = ops[i + k]?) → ∀ N G a w, Rel none N S G a w →
    wpOpsSIn (fnc none) 0 P ops (fun e a' cs' w' => a'.defers = a.defers ∧ ∃ S' G', Q e S' cs' ∧ Rel none N S' G' a' w' ∧ Frm G w G' w') (List.range' i rest.length) a cs w

variable {cs : List Frame} {Q : Exit → St → List Frame → Prop}

def QThS (K : St → List Frame → Prop) (Q : Exit → St → List Frame → Prop) : Exit → St → List Frame → Prop
  | .normal, S, cs => K S cs
  | e, S, cs => Q e S cs

theorem WS_seq {x y : Code} (h : WS P x S cs (QThS (fun S' cs' => WS P y S' cs' Q) Q)) : WS P (.seq x y) S cs Q := by
  intro N G a w r
  refine wpSIn_seq (wpSIn_mono (h N G a w r) ?_)
  rintro e a' cs' w' ⟨hd, S', G', q, r', k⟩
  cases e with
  | normal =>
    have q' : WS P y S' cs' Q := q
    exact wpSIn_mono (q' N G' a' w' r') fun _ _ _ _ ⟨hd', S'', G'', q1, q2, q3⟩ => ⟨hd'.trans hd, S'', G'', q1, q2, k.trans q3⟩
  | _ => exact ⟨hd, S', G', q, r', k⟩
theorem WS_cond {c : Operand} {x y : Code} {t : Bool} (hc : opd S.env c = some (.d (.b t))) (h : WS P (if t then x else y) S cs Q) : WS P (.cond c x y) S cs Q := by
  intro N G a w r
  have hv := opd_ok r.env hc
  simp only [RV, RD] at hv
  exact wpSIn_cond hv (h N G a w r)
theorem WS_skip (h : Q .normal S cs) : WS P .skip S cs Q := fun _ G _ w r => wpSIn_of_wpIn rfl (wpIn_skip ⟨rfl, S, G, h, r, Frm.refl G w⟩)
theorem range_ops (ops : Array Oper) : List.range ops.size = List.range' 0 ops.toList.length := by rw [List.range_eq_range']; simp
theorem WS_region {id : Nat} (h : WlS P ops 0 ops.toList S cs Q) : WS P (.region id ops false) S cs Q := by
  intro N G a w r
  refine wpSIn_region ?_
  have := h (fun k => by simp) N G a w r
  rw [List.range_eq_range']
  simpa using this
theorem WS_regionK {id : Nat} (h : WlK P ops 0 ops.toList S fun S' => Q .normal S' cs) : WS P (.region id ops false) S cs Q := by
  intro N G a w r
  refine wpSIn_of_wpIn rfl (wpIn_region ?_)
  have := h (fun k => by simp) N G a w r
  rw [range_ops]
  refine wpOpsIn_mono ?_ _ _ _ this
  rintro e a' w' ⟨rfl, h1, S', G', h2, h3, h4⟩
  exact ⟨h1, S', G', h2, h3, h4⟩
theorem WlS_nil (h : Q .normal S cs) : WlS P ops i [] S cs Q := by
  intro _ N G a w r
  simp only [List.length_nil, List.range'_zero, wpOpsSIn]
  exact ⟨by trivial, S, G, h, r, Frm.refl G w⟩
theorem WlS_op {x : AV} {H' : List Blk} (hg : guardV ops S.env o = some true) (hop : OpOK P o S x H') (hd : dstOK o.dst S.n = true)
    (k : WlS P ops (i + 1) rest ⟨pushE o.dst x S.env, H', S.n⟩ cs Q) : WlS P ops i (o :: rest) S cs Q := by
  intro hops N G a w r
  have ho : ops[i]? = some o := by have := hops 0; simpa using this.symm
  simp only [List.length_cons, List.range'_succ, wpOpsSIn, ho]
  refine ⟨fun _ _ => trivial, ?_⟩
  rw [if_pos (guardV_ok r.env hg)]
  obtain ⟨res, w', G', h1, h2, h3, h4, h5⟩ := hop none N G a w r
  rw [h1]
  have hops' : ∀ k : Nat, rest[k]? = ops[i + 1 + k]? := fun k => by have := hops (k + 1); simp at this; rw [this]; congr 1; omega
  have fin : ∀ v, RV G' x v → wpOpsSIn (fnc none) 0 P ops (fun e a' cs' w' => a'.defers = a.defers ∧ ∃ S' G', Q e S' cs' ∧ Rel none N S' G' a' w' ∧ Frm G w G' w') (List.range' (i + 1) rest.length) (a.put o.dst v) cs w' := by
    intro v hv
    obtain ⟨e1, e2, e3⟩ := put_env (r.env.mono h5.gle) r.size hd hv
    have r' : Rel none N ⟨pushE o.dst x S.env, H', S.n⟩ G' (a.put o.dst v) w' := r.step h5 h3 h4 rfl e2 e1 e3
    exact wpOpsSIn_mono (fun _ _ _ _ ⟨p2, S', G'', p3, p4, p5⟩ => ⟨p2.trans e3, S', G'', p3, p4, h5.trans p5⟩) _ _ _ _ (k hops' N G' _ w' r')
  rcases h2 with ⟨rfl, rfl⟩ | ⟨v, rfl, hv⟩
  · exact fin undef (by simp [RV])
  · exact fin v hv

def isRecover (op : Op) : Bool :=
  match op with
  | .call c => match c.callee with
    | .builtin .recover => true
    | _ => false
  | _ => false
/-- The recovery: what is under way, or nothing. -/
theorem WlS_rec {x : D} {cs' : List Frame} (hr : isRecover o.op = true) (hg : guardV ops S.env o = some true) (hd : dstOK o.dst S.n = true)
    (hx : (recoverD cs = none ∧ x = .ni ∧ cs' = cs) ∨ ∃ t v, recoverD cs = some (.iface t v, cs') ∧ x = .ifc t v)
    (k : WlS P ops (i + 1) rest ⟨pushE o.dst (.d x) S.env, S.H, S.n⟩ cs' Q) : WlS P ops i (o :: rest) S cs Q := by
  intro hops N G a w r
  have ho : ops[i]? = some o := by have := hops 0; simpa using this.symm
  simp only [List.length_cons, List.range'_succ, wpOpsSIn, ho]
  refine ⟨fun _ _ => trivial, ?_⟩
  rw [if_pos (guardV_ok r.env hg)]
  have hrun : (execOp a.eval o).run P w = .ok .recover w := by
    unfold isRecover at hr
    split at hr
    · rename_i c hop
      split at hr
      · rename_i hc
        unfold execOp
        simp only [hop, resolve, hc, Sem.run_bind, Sem.run_pure, Result.andThen_ok]
        rfl
      · cases hr
    · cases hr
  rw [hrun]
  have hops' : ∀ k : Nat, rest[k]? = ops[i + 1 + k]? := fun k => by have := hops (k + 1); simp at this; rw [this]; congr 1; omega
  have fin : ∀ v, RD G.m x v → wpOpsSIn (fnc none) 0 P ops (fun e a' cs' w' => a'.defers = a.defers ∧ ∃ S' G', Q e S' cs' ∧ Rel none N S' G' a' w' ∧ Frm G w G' w') (List.range' (i + 1) rest.length) (a.put o.dst v) cs' w := by
    intro v hv
    obtain ⟨e1, e2, e3⟩ := put_env (x := .d x) r.env r.size hd (by simpa only [RV] using hv)
    have r' : Rel none N ⟨pushE o.dst (.d x) S.env, S.H, S.n⟩ G (a.put o.dst v) w := r.step (Frm.refl G w) r.heap r.rel rfl e2 e1 e3
    exact wpOpsSIn_mono (fun _ _ _ _ ⟨p2, S', G'', p3, p4, p5⟩ => ⟨p2.trans e3, S', G'', p3, p4, p5⟩) _ _ _ _ (k hops' N G _ w r')
  rcases hx with ⟨h1, rfl, rfl⟩ | ⟨t, v, h1, rfl⟩
  · simp only [h1]; exact fin _ (by simp [RD])
  · simp only [h1]; exact fin _ (by simp [RD])

/-- A deferred call that returns, what was under way being over. -/
def FnR (P : Program) (f : FuncId) (args : List AV) (H : List Blk) (u : FrameMode) (H' : List Blk) : Prop :=
  ∀ G w (vs : Array Value), G.H = H → HRel G w → RVs G args vs.toList →
    CallsDIn Fence.wide 0 P f vs u w fun e u' w' => ∃ v G', e = .returned v ∧ settle u' = .returning ∧ G'.H = H' ∧ HRel G' w' ∧ Frm G w G' w'

theorem FnR.ren {f : FuncId} {args : List AV} {H H2 : List Blk} {u : FrameMode} {H' : List Blk} (ids : List Nat) (h : FnR P f args H u H') (hn : nodupB ids = true) (hm : matchH (rn ids H2.length) H2 ids H) (ho : heapOk H.length H = true) (ha : AV.oks H.length args = true) :
    FnR P f (AV.rens (rn ids H2.length) args) H2 u (bkL ids H2 (renH (rn ids H2.length) H')) := by
  have hn := nodupB_ok hn
  intro G w vs hG hr hargs
  obtain ⟨h1, h2⟩ := ren_rel hG hn hm hr ho
  refine (h _ w vs rfl h1 (h2 ha hargs)).mono ?_
  rintro e u' w' ⟨v, G0', rfl, hu, hH, hr', hfr⟩
  obtain ⟨G'', q1, q2, q3, q4, q5⟩ := ren_frame hG hn hm hr hfr hr'
  exact ⟨v, G'', rfl, hu, by rw [q1, hH], q2, q3⟩

def QRet0 (c0 : Frame) (cs : List Frame) (K : FrameMode → St → Prop) : Exit → St → List Frame → Prop
  | .ret, S, cs' => ∃ u', cs' = { c0 with mode := u' } :: cs ∧ K u' S
  | .normal, S, cs' => ∃ u', cs' = { c0 with mode := u' } :: cs ∧ K u' S
  | _, _, _ => False

theorem FnR_of_WS {f : FuncId} {fn : Func} {c : Code} (hf : P.funcs[f]? = some fn) (hb : fn.body = some c) (hres : fn.results = #[]) {args : List AV} {H : List Blk} {u : FrameMode} {H' : List Blk} (hn : args.length ≤ fn.ntmps)
    (h : ∀ (c0 : Frame) (cs : List Frame), c0.mode = u → WS P c ⟨envOf 0 args, H, fn.ntmps⟩ (c0 :: cs) (QRet0 c0 cs fun u' S0 => settle u' = .returning ∧ ∃ S', TSub S0 S' ∧ H.length ≤ S'.H.length ∧ S'.H = H')) : FnR P f args H u H' := by
  intro G w vs hG hr hargs
  have key := callsDIn_of_wpSIn (F := fnc none) (n := 0) (P := P) (args := vs) (u := u) (w := w) (R := fun e u' w' => ∃ v G', e = Ending.returned v ∧ settle u' = .returning ∧ G'.H = H' ∧ HRel G' w' ∧ Frm G w G' w') hf hb trivial ?_
  · exact key
  intro c0 cs hu
  have hl : vs.size = args.length := by have := RVs.getK hargs; simpa using this
  have r0 : Rel none ⟨w.heap.size, []⟩ ⟨envOf 0 args, H, fn.ntmps⟩ G { tmps := vs ++ Array.replicate (fn.ntmps - vs.size) undef, defers := [] } w := by
    refine ⟨hG, hr, by simp; omega, fun t x hx => ?_, ⟨Nat.le_refl _, [], rfl, List.nodup_nil, fun _ h => by cases h⟩, fun _ h => by cases h⟩
    obtain ⟨_, h2⟩ := envOf_get hx
    rw [Nat.sub_zero] at h2
    obtain ⟨v, hv, hrv⟩ := (RVs_get.1 hargs).2 t x h2
    have hlt : t < vs.size := by simpa using (List.getElem?_eq_some_iff.1 hv).1
    exact ⟨v, by rw [Array.getElem?_append_left hlt]; simpa using hv, hrv⟩
  refine wpSIn_mono (h c0 cs hu _ G _ w r0) ?_
  rintro e a' cs' w' ⟨hd, S0, G0, q, r', k⟩
  have fin : (∃ u', cs' = { c0 with mode := u' } :: cs ∧ settle u' = .returning ∧ ∃ S', TSub S0 S' ∧ H.length ≤ S'.H.length ∧ S'.H = H') →
      a'.defers = [] ∧ ∃ u', cs' = { c0 with mode := u' } :: cs ∧ ∃ v, (results fn a'.tmps).run P w' = .ok v w' ∧ ∃ v2 G', (Ending.returned v : Ending) = .returned v2 ∧ settle u' = .returning ∧ G'.H = H' ∧ HRel G' w' ∧ Frm G w G' w' := by
    rintro ⟨u', e1, e2, S', t, hlen, hH⟩
    obtain ⟨G', r2, t2⟩ := t none _ G0 a' w' r' (fun id h => by cases h)
    refine ⟨hd, u', e1, .tuple #[], ?_, _, G', rfl, e2, by rw [r2.heap, hH], r2.rel, k.ghost t2 (by rw [hG, r2.heap]; exact hlen)⟩
    simp [results, hres]
  cases e with
  | normal => exact fin q
  | ret => exact fin q
  | _ => exact q.elim

/-! ### A function that defers such a call -/

/-- How the body of a function is left that has deferred g: g is run, then the results are read. -/
def QDef (P : Program) (E : Nat → Option TyI) (fn : Func) (g : FuncId) (xs : List AV) (n : Nat) (R : AV → List Blk → Prop) : Exit → St → Prop
  | .ret, S => ∃ H2, FnR P g xs S.H .returning H2 ∧ ∃ S', TSub ⟨S.env, H2, S.n⟩ S' ∧ n ≤ S'.H.length ∧ ∃ cc x, evRes E S'.env S'.H fn.results.toList = some (cc, x) ∧ cc = true ∧ R x S'.H
  | .normal, S => ∃ H2, FnR P g xs S.H .returning H2 ∧ ∃ S', TSub ⟨S.env, H2, S.n⟩ S' ∧ n ≤ S'.H.length ∧ ∃ cc x, evRes E S'.env S'.H fn.results.toList = some (cc, x) ∧ cc = true ∧ R x S'.H
  | .panic ch, S => ∃ H2, FnR P g xs S.H (.panicking ch) H2 ∧ ∃ S', TSub ⟨S.env, H2, S.n⟩ S' ∧ n ≤ S'.H.length ∧ ∃ cc x, evRes E S'.env S'.H fn.results.toList = some (cc, x) ∧ cc = true ∧ R x S'.H
  | _, _ => False

theorem FnT_of_D {f : FuncId} {fn : Func} {i0 i1 : Nat} {ops0 ops1 : Array Oper} {body : Code} {g : FuncId} {xs : List AV} (hE : EOK P E) (hf : P.funcs[f]? = some fn) (hb : fn.body = some (.seq (.region i0 ops0 false) (.seq (.region i1 ops1 false) body))) (hname : (fn.name == "runtime.NumGoroutine") = false) {args : List AV} {H : List Blk} (hn : args.length ≤ fn.ntmps) {R : AV → List Blk → Prop}
    (h : WlK P ops0 0 ops0.toList ⟨envOf 0 args, H, fn.ntmps⟩ fun S1 => WlF P ops1 0 ops1.toList S1 g xs fun S2 => W P none body S2 (QDef P E fn g xs H.length R)) : FnT P f args H R := by
  refine ⟨⟨fn, hf, hname, by rw [hb]; rfl⟩, fun G w vs hG hr hargs => ?_⟩
  refine callsIn_of_wp_marks hf hb trivial ?_
  have hl : vs.size = args.length := by have := RVs.getK hargs; simpa using this
  have r0 : Rel none ⟨w.heap.size, []⟩ ⟨envOf 0 args, H, fn.ntmps⟩ G { tmps := vs ++ Array.replicate (fn.ntmps - vs.size) undef, defers := [] } w := by
    refine ⟨hG, hr, by simp; omega, fun t x hx => ?_, ⟨Nat.le_refl _, [], rfl, List.nodup_nil, fun _ h => by cases h⟩, fun _ h => by cases h⟩
    obtain ⟨_, h2⟩ := envOf_get hx
    rw [Nat.sub_zero] at h2
    obtain ⟨v, hv, hrv⟩ := (RVs_get.1 hargs).2 t x h2
    have hlt : t < vs.size := by simpa using (List.getElem?_eq_some_iff.1 hv).1
    exact ⟨v, by rw [Array.getElem?_append_left hlt]; simpa using hv, hrv⟩
  have hw := h (fun k => by simp) _ G _ w r0
  refine wpIn_seq (wpIn_region (wpOpsIn_mono ?_ _ _ _ (by rw [range_ops]; exact hw)))
  rintro e a1 w1 ⟨rfl, hd1, S1, G1, h1, r1, k1⟩
  have hw1 := h1 (fun k => by simp) _ G1 a1 w1 hd1 r1
  refine wpIn_seq (wpIn_region (wpOpsIn_mono ?_ _ _ _ (by rw [range_ops]; exact hw1)))
  rintro e a2 w2 ⟨rfl, d, S2, G2, h2, r2, k2, hdv⟩
  have hw2 := h2 _ G2 a2 w2 r2
  refine wpIn_mono hw2 ?_
  rintro e a3 w3 ⟨S3, G3, q, r3, k3⟩
  have fin : ∀ u : FrameMode, u ≠ .run → (∃ H2, FnR P g xs S3.H u H2 ∧ ∃ S', TSub ⟨S3.env, H2, S3.n⟩ S' ∧ H.length ≤ S'.H.length ∧ ∃ cc x, evRes E S'.env S'.H fn.results.toList = some (cc, x) ∧ cc = true ∧ R x S'.H) →
      LeavesInM Fence.wide 0 P fn a3.tmps (fun e w' => ∃ v r G', e = .returned v ∧ R r G'.H ∧ RV G' r v ∧ HRel G' w' ∧ Frm G w G' w') a3.defers u w3 := by
    rintro u hu ⟨H2, hR, S', t, hlen, cc, x, hx1, hx2, hx3⟩
    obtain ⟨_, ms, m1, m2, m3⟩ := r3.marks
    rw [m1]
    refine leaves_marksG hu ms w3 m2 (fun r hr => (m3 r hr).2.1) (fun w4 ht => ?_)
    have hr4 := took_rel r3.rel ht (fun r hr => (m3 r hr).2)
    obtain ⟨hcal, p, qv, rfl, hpq⟩ := hdv.mono k3.gle
    obtain ⟨gfn, g1, g2, g3⟩ := hcal
    have hbn : gfn.body.isNone = false := by cases hx : gfn.body <;> simp_all
    refine ⟨hu, .inr ⟨fun h => by simp [Fence.wide] at h, .func g, qv.toArray, g, p.toArray ++ qv.toArray, rfl, ?_, fun _ _ => trivial, ?_⟩⟩
    · simp only [invoke, callFunc, Sem.run_bind, run_program, Result.andThen_ok, g1, g2, hbn, Bool.false_eq_true, if_false, Sem.run_ite, Sem.run_pure]
    · refine (hR G3 w4 (p.toArray ++ qv.toArray) r3.heap hr4 (by simpa using hpq)).mono ?_
      rintro e u' w5 ⟨v, G5, rfl, hs, hH5, hr5, hf5⟩
      simp only [hs]
      -- the results
      have r5 : Rel none ⟨w5.heap.size, []⟩ ⟨S3.env, H2, S3.n⟩ G5 { a3 with defers := [] } w5 := ⟨hH5, hr5, r3.size, r3.env.mono hf5.gle, ⟨Nat.le_refl _, [], rfl, List.nodup_nil, fun _ h => by cases h⟩, fun _ h => by cases h⟩
      obtain ⟨G6, r6, t6⟩ := t none _ G5 _ w5 r5 (fun id h => by cases h)
      obtain ⟨rv, hrv, hrr⟩ := evRes_ok hE r6.rel r6.env (fn := fn) (by rw [r6.heap]; exact hx1) hx2
      simp only [LeavesInM, LeavesIn]
      refine ⟨rv, hrv, rv, x, G6, rfl, by rw [r6.heap]; exact hx3, hrr, r6.rel, ?_⟩
      have kk := (k1.trans k2).trans k3
      have k4 : Frm G w G3 w4 := ⟨ht.os.trans kk.os, ht.tape.trans kk.tape, ht.output.trans kk.output, by rw [ht.size]; exact kk.size, fun b hb ho => by
        obtain ⟨c1, c2⟩ := kk.keep b hb ho
        exact ⟨(ht.other b fun hm => by have : w.heap.size ≤ b := (m3 b hm).1; omega).trans c1, c2⟩, kk.memNew, kk.gle⟩
      exact (k4.trans hf5).ghost t6 (by rw [hG, r6.heap]; exact hlen)
  cases e with
  | normal => exact fin _ (by simp) q
  | ret => exact fin _ (by simp) q
  | panic ch => exact fin _ (by simp) q
  | _ => exact q.elim

end
end Go.Gar

/- The frame, part 45: a pure contract, its arguments slices of one's own that are only read. -/
namespace Go.Gar

/-- Says nothing of memory. -/
def flat : D → Bool
  | .b _ | .i _ _ | .s _ => true
  | _ => false
theorem flat_rd {m m' : Mem} {d : D} {v : Value} (h : flat d = true) (r : RD m d v) : RD m' d v := by
  cases d <;> simp only [flat, reduceCtorEq] at h <;> simpa only [RD] using r

open Classical in
theorem Fn.read {P : Program} {f : FuncId} {ds : List D} {r : D} (h : Fn P f ds r) (hr : flat r = true) {xs : List AV} {H : List Blk} (hx : Frzs H xs ds) : FnT P f xs H fun x H' => x = .d r ∧ H' = H := by
  refine ⟨h.1, fun G w vs hG hrel hargs => ?_⟩
  let m : Mem := fun b k => if Own G b then w.cell? ⟨b, k, none⟩ else G.m b k
  have hle : G.m.le m := fun b k v hv => by
    by_cases ho : Own G b
    · rw [hrel.sep b ho k] at hv; cases hv
    · simp only [m, if_neg ho, hv]
  have hmem : MemOK m w := fun b k v hv => by
    simp only [m] at hv
    split at hv
    · exact hv
    · exact hrel.mem b k v hv
  have hds : RDs m ds vs.toList := frzs_ok hrel hle (fun b k v ho hc => by simp only [m, if_pos ho, hc]) (by rw [hG]; exact hx) hargs
  refine (h.2 m w vs hmem (Mem.le_trans hrel.st hle) hds).mono ?_
  rintro e w' ⟨v, m', rfl, h1, h2, h3, h4, h5, h6, h7, h8, h9⟩
  obtain ⟨k1, k2⟩ := grow_ok hrel h5 h6 h7 h8 h9 G.m (Mem.le_refl _) (fun _ _ _ h => .inl h) (fun b k u hu => by
    rw [World.cell?_of_block (w := w) (h9 b (mem_lt hrel hu))]
    exact hrel.mem b k u hu)
  exact ⟨v, .d r, G, rfl, ⟨rfl, hG⟩, by simpa only [RV] using flat_rd hr h1, k1, k2⟩
end Go.Gar

/- The frame, part 46: a walk's rules for panics; a slice that is made, its block given. -/
namespace Go.Gar

section
variable {P : Program} {ro : Option Nat} {ops : Array Oper} {i : Nat} {rest : List Oper} {S0 : St} {en : List (Nat × AV)} {hp : List Blk} {nt : Nat} {Q : Exit → St → Prop} {o : Oper} {E : Nat → Option TyI} {A : Prop} {acc : List Rc}

def panOp : Op → Option Operand
  | .panic x => some x
  | _ => none
theorem Xpan {x : Operand} {t : TypeId} {v : Value} (h : panOp o.op = some x) (hg : guardV ops en o = some true) (hx : opd en x = some (.d (.ifc t v))) (k : Q (.panic [{ v := .iface t v, recovered := false }]) ⟨en, hp, nt⟩) : Wl P ro ops i (o :: rest) ⟨en, hp, nt⟩ Q := by
  have ho : o.op = .panic x := by
    unfold panOp at h
    split at h
    · rename_i y hy; cases h; exact hy
    · cases h
  exact Wl_panic ho hg hx k

theorem Wl_X {S : St} {g : Nat} {xs : List AV} {ch : List PanicEntry} {H' : List Blk} (hg : guardV ops S.env o = some true) (h : evCall S.env o.op = some (g, xs)) (hT : FnX P g xs S.H ch H') (k : Q (.panic ch) ⟨S.env, H', S.n⟩) : Wl P ro ops i (o :: rest) S Q := by
  unfold evCall at h
  split at h
  · rename_i f l hcl
    obtain ⟨c, ho, hc, hl⟩ := callOf_eq hcl
    subst hl
    split at h
    · rename_i g' first cap ys hf hxs
      have : g' = g ∧ first ++ ys ++ cap = xs := by
        split at h
        · cases h; simp
        · cases h; exact ⟨rfl, rfl⟩
      obtain ⟨rfl, rfl⟩ := this
      exact Wl_callX ho hc hg hf hxs hT k
    · cases h
  · cases h

theorem XX {g : Nat} {args : List AV} {H : List Blk} {ch : List PanicEntry} {H' H'' : List Blk} (ids : List Nat) (hF : FnX P g args H ch H') (hg : guardV ops en o = some true) (h : evCall en o.op = some (g, AV.rens (rn ids hp.length) args))
    (hm : matchH (rn ids hp.length) hp ids H) (hn : nodupB ids = true) (ho : heapOk H.length H = true) (ha : AV.oks H.length args = true)
    (k : Q (.panic ch) ⟨en, H'', nt⟩) (hH : bkL ids hp (renH (rn ids hp.length) H') = H'' := by first | (simp only [NHl, Nat.reduceAdd]; rfl) | rfl) : Wl P ro ops i (o :: rest) ⟨en, hp, nt⟩ Q := by
  subst hH
  exact Wl_X (S := ⟨en, hp, nt⟩) hg h (hF.ren ids hn hm ho ha) k

theorem X_step {S : St} {g : Nat} {xs : List AV} {ch : List PanicEntry} {H' : List Blk} (h : evCall S.env o.op = some (g, xs)) (hT : FnX P g xs S.H ch H') : StepX P ro o S ch H' := by
  unfold evCall at h
  split at h
  · rename_i f l hcl
    obtain ⟨c, ho, hc, hl⟩ := callOf_eq hcl
    subst hl
    split at h
    · rename_i g' first cap ys hf hxs
      have : g' = g ∧ first ++ ys ++ cap = xs := by
        split at h
        · cases h; simp
        · cases h; exact ⟨rfl, rfl⟩
      obtain ⟨rfl, rfl⟩ := this
      intro N G a w K R r hR
      refine ⟨fun _ _ => trivial, ?_⟩
      have hfv := opd_ok r.env hf
      simp only [RV] at hfv
      obtain ⟨p, q, hfv, hp, hq⟩ := hfv
      have hrun := run_call (P := P) (f := g') hc hfv hT.1 ho w
      rw [Oper.semAt_eq _ _ _ (fun c e => by rw [ho] at e; cases e), hrun]
      simp only [Oper.uponIn]
      refine ⟨fnc_depth _, ?_⟩
      have hargs : RVs G (first ++ ys ++ cap) (p.toArray ++ c.args.map a.eval ++ q.toArray).toList := by
        have h1 := opds_ok r.env hxs
        have e : (p.toArray ++ c.args.map a.eval ++ q.toArray).toList = p ++ c.args.toList.map a.eval ++ q := by simp
        rw [e]
        exact (hp.app h1).app hq
      have hcall := hT.2 G w _ r.heap r.rel hargs
      have hcall' : CallsIn (fnc (rl G ro)) 0 P g' (p.toArray ++ c.args.map a.eval ++ q.toArray) w _ := hcall
      refine hcall'.mono ?_
      rintro e w' ⟨G', rfl, hH, hr', hfr⟩
      exact hR w' G' hH hr' hfr
    · cases h
  · cases h

theorem YX {g : Nat} {args : List AV} {H : List Blk} {ch : List PanicEntry} {H' H'' : List Blk} {e0 e : List (Nat × AV)} (ids : List Nat) (hF : FnX P g args H ch H') (hl : rstX (looks ops o) en = some e0) (hg : guardV ops e0 o = some true) (h : evCall e0 o.op = some (g, AV.rens (rn ids hp.length) args)) (hd : dstOK o.dst nt = true)
    (hm : matchH (rn ids hp.length) hp ids H) (hn : nodupB ids = true) (ho : heapOk H.length H = true) (ha : AV.oks H.length args = true) (he : pushO o.dst .u en = some e)
    (hk : Wd P ro E ops S0 A (⟨e0, hp, .u, .pan ch⟩ :: acc) rest ⟨e, H'', nt⟩) (hH : bkL ids hp (renH (rn ids hp.length) H') = H'' := by first | (simp only [NHl, Nat.reduceAdd]; rfl) | rfl) : Wd P ro E ops S0 A acc (o :: rest) ⟨en, hp, nt⟩ := by
  subst hH
  rw [pushO_eq he] at hk
  have := rstX_eq hl
  subst this
  exact Wd_pan (S := ⟨en, hp, nt⟩) hg (X_step (S := ⟨rst (looks ops o) en, hp, nt⟩) h (hF.ren ids hn hm ho ha)) hd hk

/-- The next operation waits for the one that ends in a panic. -/
def deadAt (ops : Array Oper) (acc : List Rc) : Bool :=
  match panAt (acc.reverse.map Rc.k) with
  | some (i, _) => (anc ops acc.length).testBit i
  | none => false
theorem Yd {e0 e : List (Nat × AV)} (_ : deadAt ops acc = true) (hl : rstX (looks ops o) en = some e0) (hd : dstOK o.dst nt = true) (he : pushO o.dst .u en = some e) (hk : Wd P ro E ops S0 A (⟨e0, hp, .u, .dead⟩ :: acc) rest ⟨e, hp, nt⟩) : Wd P ro E ops S0 A acc (o :: rest) ⟨en, hp, nt⟩ := by
  rw [pushO_eq he] at hk
  have := rstX_eq hl
  subst this
  exact Wd_dead (S := ⟨en, hp, nt⟩) hd hk
theorem YnX {id : Nat} (l : List (Nat × Nat)) {i0 : Nat} {ch : List PanicEntry} (hm : P.follows .mixedOrders = true) (hE : EOK P E) (hp' : panAt (acc.reverse.map Rc.k) = some (i0, ch)) (hd : drawOKX ops (acc.reverse.map Rc.k) l = true) (hx : extraL E ops acc.reverse hp l) (hQ : Q (.panic ch) ⟨[], hp, nt⟩) : Wd P ro E ops S0 (W P ro (.region id ops true) S0 Q) acc [] ⟨en, hp, nt⟩ :=
  Wd_nilX (S := ⟨en, hp, nt⟩) l hm hE hp' hd hx hQ

/-- One that lays a block, which is given. -/
theorem XaB (t : Nat) (q : D) (hE : EOK P E) {f : Nat → AV} {b : Blk} {c : Bool} {x' : AV} {e : List (Nat × AV)} {H' : List Blk} (_ : dstIn o.dst [t] = true) (hg : guardV ops en o = some true) (h : evA E en hp o.op = some (c, f, b)) (hb : b = .a q) (hd : dstOK o.dst nt = true) (he : pushO o.dst x' en = some e) (hH : snocX hp (.a q) = some H') (hx : f hp.length = x')
    (k : Wl P ro ops (i + 1) rest ⟨e, H', nt⟩ Q) (hc : c = true) : Wl P ro ops i (o :: rest) ⟨en, hp, nt⟩ Q := by
  subst hb
  exact Xa hE hg h hd he hH k hc hx
end

/-! ### Cells that are forgotten -/
theorem TSub.cells {S : St} (id : Nat) {cs : List AV} (cs' : List AV) (hid : S.H[id]? = some (.c cs)) (hcl : cs'.length = cs.length) (hw : ∀ (k : Nat) (x : AV), cs'[k]? = some x → ∃ y, cs[k]? = some y ∧ ∀ G v, RV G y v → RV G x v) :
    TSub S ⟨S.env, S.H.set id (.c cs'), S.n⟩ := by
  intro ro N G a w r _
  have hidG : G.H[id]? = some (.c cs) := by rw [r.heap]; exact hid
  have hlt : id < G.H.length := (List.getElem?_eq_some_iff.1 hidG).1
  let c' : Blk := .c cs'
  let G' : Gh := { ρ := G.ρ, H := G.H.set id c', m := G.m }
  have hst : BStep G G' id (.c cs) c' := by simp [c', BStep, G', hcl]
  have hget : ∀ j b, G'.H[j]? = some b → (j = id ∧ b = c') ∨ (j ≠ id ∧ G.H[j]? = some b) := by
    intro j b hb
    by_cases hj : j = id
    · subst hj
      left
      have hb' : (G.H.set j c')[j]? = some b := hb
      rw [List.getElem?_set_self hlt] at hb'
      exact ⟨rfl, (Option.some.inj hb').symm⟩
    · right
      have hb' : (G.H.set id c')[j]? = some b := hb
      rw [List.getElem?_set_ne (Ne.symm hj)] at hb'
      exact ⟨hj, hb'⟩
  have gle : GLe G G' := by
    refine ⟨fun j b hb => ?_, Mem.le_refl _⟩
    by_cases hj : j = id
    · subst hj
      rw [hidG] at hb; cases hb
      exact ⟨c', List.getElem?_set_self hlt, hst⟩
    · exact ⟨b, by show (G.H.set id c')[j]? = _; rw [List.getElem?_set_ne (Ne.symm hj)]; exact hb, BStep.refl _ _ _⟩
  have own : ∀ b, Own G' b → Own G b := by
    rintro b ⟨j, N, blk, hb, hlv, hρ⟩
    rcases hget j blk hb with ⟨rfl, rfl⟩ | ⟨_, h4⟩
    · exact ⟨j, N, _, hidG, rfl, hρ⟩
    · exact ⟨j, N, blk, h4, hlv, hρ⟩
  have rel : HRel G' w := by
    refine ⟨fun j b hb => ?_, fun i' j p q' b N N' hp hq lp lq r1 r2 => ?_, r.rel.mem, fun b hb k => r.rel.sep b (own b hb) k, r.rel.st⟩
    · rcases hget j b hb with ⟨rfl, rfl⟩ | ⟨h3, h4⟩
      · obtain ⟨b, N, vs, T, g1, g2, g3, g4, g6⟩ := r.rel.blk j _ hidG
        refine ⟨b, N, vs, T, g1, g2, g3, by rw [hcl]; exact g4, fun k z hz => ?_⟩
        obtain ⟨y, hy, hyz⟩ := hw k z hz
        obtain ⟨v, hv, hrv⟩ := g6 k _ hy
        exact ⟨v, hv, hyz _ _ (hrv.mono gle)⟩
      · exact (r.rel.blk j b h4).frm gle (fun _ _ _ _ => rfl) rfl
    · have back : ∀ (j : Nat) (b : Blk), G'.H[j]? = some b → b.live = true → ∃ b0 : Blk, G.H[j]? = some b0 ∧ b0.live = true := by
        intro j b hb hlv
        rcases hget j b hb with ⟨rfl, rfl⟩ | ⟨_, h4⟩
        · exact ⟨_, hidG, rfl⟩
        · exact ⟨b, h4, hlv⟩
      obtain ⟨p0, e1, e2⟩ := back i' p hp lp
      obtain ⟨q0, e3, e4⟩ := back j q' hq lq
      exact r.rel.inj i' j p0 q0 b N N' e1 e3 e2 e4 r1 r2
  have tle : TLe G G' := by
    refine ⟨fun j b b' hb hb' => ?_, Mem.le_refl _, fun b hb => own b hb, fun _ _ _ h => .inl h⟩
    obtain ⟨b'', hb'', hs''⟩ := gle.blk j b hb
    rw [hb'] at hb''; cases hb''
    exact hs''
  refine ⟨G', ⟨?_, rel, r.size, fun u z hz => ?_, r.marks.tle tle, fun k hk => ?_⟩, tle⟩
  · show G.H.set id c' = _
    rw [r.heap]
  · obtain ⟨v, hv, hrv⟩ := r.env u z hz
    exact ⟨v, hv, hrv.mono gle⟩
  · obtain ⟨q', l, M, q1, q2⟩ := r.round k hk
    rw [← r.heap] at q1
    have hne : k ≠ id := fun e => by subst e; rw [hidG] at q1; cases q1
    refine ⟨q', l, M, ?_, q2⟩
    show (S.H.set id c')[k]? = _
    rw [List.getElem?_set_ne (Ne.symm hne), ← r.heap]
    exact q1

theorem TSub.us {S : St} (id : Nat) {cs : List AV} (n : Nat) (hid : S.H[id]? = some (.c cs)) (hn : n = cs.length) : TSub S ⟨S.env, S.H.set id (.c (List.replicate n .u)), S.n⟩ := by
  subst hn
  refine TSub.cells id _ hid (by simp) fun k x hx => ?_
  obtain ⟨h1, h2⟩ := List.getElem?_eq_some_iff.1 hx
  rw [List.getElem_replicate] at h2
  subst h2
  rw [List.length_replicate] at h1
  exact ⟨_, List.getElem?_eq_getElem h1, fun _ _ _ => by simp [RV]⟩

/-- Blocks behind that nobody needs any more. -/
theorem FnD.drop {P : Program} {f : FuncId} {args : List AV} {H K : List Blk} {r : AV} (H' : List Blk) (h : FnD P f args H r K) (hs : subHeap H' K) (ho : heapOk H'.length H' = true) (hr : r.ok H'.length = true) (hl : Nat.ble H.length H'.length = true) : FnD P f args H r H' := by
  refine ⟨h.1, fun G w vs h1 h2 h3 => (h.2 G w vs h1 h2 h3).mono ?_⟩
  rintro e w' ⟨v, x, G', rfl, ⟨rfl, hK⟩, hv, hr', hfr⟩
  have hs' : subHeap H' G'.H := by rw [hK]; exact hs
  exact ⟨v, x, G'.cut H', rfl, ⟨rfl, rfl⟩, hv.cut hs' hr, hr'.cut hs' ho, hfr.ghost (TLe.cut hs') (by rw [h1]; exact Nat.le_of_ble_eq_true hl)⟩

/-! ### An interface compared with nil -/
def isIfcX : K → Bool
  | .ifc => true
  | _ => false
theorem kOf_isIfc {d : TypeDesc} (h : isIfcX (kOf d) = true) : ∃ ms, d = .interface ms := by
  unfold kOf at h
  split at h <;> first | exact ⟨_, rfl⟩ | (simp [isIfcX] at h; done)
theorem eq_nn {P : Program} {w : World} {t : TypeId} {ms : Array (String × TypeId)} (hu : P.underlying t = some (.interface ms)) : (Op.equal t .nilIface .nilIface).run P w = .ok true w := by
  have h : ∀ d : Nat, (Op.equalIn (d + 1) t .nilIface .nilIface).run P w = .ok true w := fun d => by simp [Op.equalIn, run_underlying hu]
  exact h 9999
theorem eq_hn {P : Program} {w : World} {t ti : TypeId} {v : Value} {ms : Array (String × TypeId)} (hu : P.underlying t = some (.interface ms)) : (Op.equal t (.iface ti v) .nilIface).run P w = .ok false w := by
  have h : ∀ d : Nat, (Op.equalIn (d + 1) t (.iface ti v) .nilIface).run P w = .ok false w := fun d => by simp [Op.equalIn, run_underlying hu]
  exact h 9999
def evIfN (E : Nat → Option TyI) (env : List (Nat × AV)) : Op → Option Bool
  | .binOp .neq t x (.const .nilIface) _ => match opd env x, E t with
    | some (.d .ni), some y => if isIfcX y.k then some false else none
    | some (.d (.ifc _ _)), some y => if isIfcX y.k then some true else none
    | _, _ => none
  | _ => none
theorem evIfN_ok {P : Program} {E : Nat → Option TyI} (hE : EOK P E) {S : St} {o : Oper} {b : Bool} (h : evIfN E S.env o.op = some b) : OpOK P o S (.d (.b b)) S.H := by
  unfold evIfN at h
  split at h
  · rename_i t x yt ho
    refine .of_run (f := fun a => do eqGuard .neq t x (.const .nilIface) (a.eval x) (a.eval (.const .nilIface)); binOp .neq t (a.eval x) (a.eval (.const .nilIface))) (fun a => by unfold execOp; simp only [ho]) fun ro N G a w r => ?_
    have hev : a.eval (.const .nilIface) = .nilIface := rfl
    split at h
    · rename_i y hx hy
      split at h
      · rename_i hi
        cases h
        have hv := opd_ok r.env hx
        simp only [RV, RD] at hv
        obtain ⟨d, hu, hd⟩ := ty_underlying (hE t y hy)
        rw [← hd] at hi
        obtain ⟨ms, rfl⟩ := kOf_isIfc hi
        refine ⟨.bool false, ?_, by simp [RV, RD]⟩
        rw [hev, hv]
        have he := eq_nn (P := P) (w := w) hu
        simp only [Sem.run_bind]
        simp [eqGuard, binOp, he]
      · cases h
    · rename_i ti vi y hx hy
      split at h
      · rename_i hi
        cases h
        have hv := opd_ok r.env hx
        simp only [RV, RD] at hv
        obtain ⟨d, hu, hd⟩ := ty_underlying (hE t y hy)
        rw [← hd] at hi
        obtain ⟨ms, rfl⟩ := kOf_isIfc hi
        refine ⟨.bool true, ?_, by simp [RV, RD]⟩
        rw [hev, hv]
        have he := eq_hn (P := P) (w := w) (ti := ti) (v := vi) hu
        simp only [Sem.run_bind]
        simp [eqGuard, binOp, he]
      · cases h
    · cases h
  · cases h
theorem evIfN_nodefer {E : Nat → Option TyI} {env : List (Nat × AV)} {op : Op} {b : Bool} (h : evIfN E env op = some b) : isDefer op = false := by
  cases op <;> first | rfl | cases h

/-! ### Steps of regions in functions that defer, in deferred calls -/
section
variable {P : Program} {ops : Array Oper} {i : Nat} {rest : List Oper} {en : List (Nat × AV)} {hp : List Blk} {nt : Nat} {K : St → Prop} {o : Oper} {E : Nat → Option TyI} {cs : List Frame} {Q : Exit → St → List Frame → Prop} {f : FuncId} {xs : List AV}
theorem Kq (hE : EOK P E) {x x' : AV} {c : Bool} {e : List (Nat × AV)} (hg : guardV ops en o = some true) (h : evQ E en hp o.op = some (c, x)) (hd : dstOK o.dst nt = true) (he : pushO o.dst x' en = some e) (k : WlK P ops (i + 1) rest ⟨e, hp, nt⟩ K) (hc : c = true) (hx : x = x' := by rfl) : WlK P ops i (o :: rest) ⟨en, hp, nt⟩ K := by
  subst hx
  rw [pushO_eq he] at k
  exact WlK_op (S := ⟨en, hp, nt⟩) hg (evQ_ok (S := ⟨en, hp, nt⟩) hE h hc) (by cases ho : o.op <;> first | rfl | (rw [ho] at h; cases h)) hd k
theorem Ka (hE : EOK P E) {f : Nat → AV} {b : Blk} {c : Bool} {x' : AV} {e : List (Nat × AV)} {H' : List Blk} (hg : guardV ops en o = some true) (h : evA E en hp o.op = some (c, f, b)) (hd : dstOK o.dst nt = true) (he : pushO o.dst x' en = some e) (hH : snocX hp b = some H') (k : WlK P ops (i + 1) rest ⟨e, H', nt⟩ K) (hc : c = true) (hx : f hp.length = x' := by rfl) : WlK P ops i (o :: rest) ⟨en, hp, nt⟩ K := by
  subst hx
  rw [pushO_eq he, snocX_eq hH] at k
  exact WlK_op (S := ⟨en, hp, nt⟩) hg (evA_ok (S := ⟨en, hp, nt⟩) hE h hc) (by cases ho : o.op <;> first | rfl | (rw [ho] at h; cases h)) hd k
theorem Kw (hE : EOK P E) {x x' : AV} {H' : List Blk} {c : Bool} {e : List (Nat × AV)} (hg : guardV ops en o = some true) (h : evW E en hp o.op = some (c, x, H')) (hd : dstOK o.dst nt = true) (he : pushO o.dst x' en = some e) (k : WlK P ops (i + 1) rest ⟨e, H', nt⟩ K) (hc : c = true) (hx : x = x' := by rfl) : WlK P ops i (o :: rest) ⟨en, hp, nt⟩ K := by
  subst hx
  rw [pushO_eq he] at k
  exact WlK_op (S := ⟨en, hp, nt⟩) hg (evW_ok (S := ⟨en, hp, nt⟩) hE h hc) (by cases ho : o.op <;> first | rfl | (rw [ho] at h; cases h)) hd k
theorem Kn (hE : EOK P E) {b : Bool} {e : List (Nat × AV)} (hg : guardV ops en o = some true) (h : evIfN E en o.op = some b) (hd : dstOK o.dst nt = true) (he : pushO o.dst (.d (.b b)) en = some e) (k : WlK P ops (i + 1) rest ⟨e, hp, nt⟩ K) : WlK P ops i (o :: rest) ⟨en, hp, nt⟩ K := by
  rw [pushO_eq he] at k
  exact WlK_op (S := ⟨en, hp, nt⟩) hg (evIfN_ok (S := ⟨en, hp, nt⟩) hE h) (evIfN_nodefer h) hd k
theorem KF {g : Nat} {ds : List D} {d : D} {e : List (Nat × AV)} (hT : Go.Gar.Fn P g ds d) (hg : guardV ops en o = some true) {fo : Operand} {l : List Operand} {ys : List AV} (h : callOf o.op = some (fo, l)) (hf : opd en fo = some (.fn (.func g) [] [])) (hxs : opds en l = some ys) (hx : AsD ys ds) (hd : dstOK o.dst nt = true) (he : pushO o.dst (.d d) en = some e)
    (k : WlK P ops (i + 1) rest ⟨e, hp, nt⟩ K) : WlK P ops i (o :: rest) ⟨en, hp, nt⟩ K := by
  obtain ⟨c, ho, hc, hl⟩ := callOf_eq h
  subst hl
  rw [pushO_eq he] at k
  exact WlK_F (S := ⟨en, hp, nt⟩) ho hc hg hf hxs hx hd hT k
theorem Fq (hE : EOK P E) {x x' : AV} {c : Bool} {e : List (Nat × AV)} (hg : guardV ops en o = some true) (h : evQ E en hp o.op = some (c, x)) (hd : dstOK o.dst nt = true) (he : pushO o.dst x' en = some e) (k : WlF P ops (i + 1) rest ⟨e, hp, nt⟩ f xs K) (hc : c = true) (hx : x = x' := by rfl) : WlF P ops i (o :: rest) ⟨en, hp, nt⟩ f xs K := by
  subst hx
  rw [pushO_eq he] at k
  exact WlF_op (S := ⟨en, hp, nt⟩) hg (evQ_ok (S := ⟨en, hp, nt⟩) hE h hc) (by cases ho : o.op <;> first | rfl | (rw [ho] at h; cases h)) hd k
theorem Sq (hE : EOK P E) {x x' : AV} {c : Bool} {e : List (Nat × AV)} (hg : guardV ops en o = some true) (h : evQ E en hp o.op = some (c, x)) (hd : dstOK o.dst nt = true) (he : pushO o.dst x' en = some e) (k : WlS P ops (i + 1) rest ⟨e, hp, nt⟩ cs Q) (hc : c = true) (hx : x = x' := by rfl) : WlS P ops i (o :: rest) ⟨en, hp, nt⟩ cs Q := by
  subst hx
  rw [pushO_eq he] at k
  exact WlS_op (S := ⟨en, hp, nt⟩) hg (evQ_ok (S := ⟨en, hp, nt⟩) hE h hc) hd k
theorem Srec {x : D} {cs' : List Frame} {e : List (Nat × AV)} (hr : isRecover o.op = true) (hg : guardV ops en o = some true) (hd : dstOK o.dst nt = true) (he : pushO o.dst (.d x) en = some e)
    (hx : (recoverD cs = none ∧ x = .ni ∧ cs' = cs) ∨ ∃ t v, recoverD cs = some (.iface t v, cs') ∧ x = .ifc t v)
    (k : WlS P ops (i + 1) rest ⟨e, hp, nt⟩ cs' Q) : WlS P ops i (o :: rest) ⟨en, hp, nt⟩ cs Q := by
  rw [pushO_eq he] at k
  exact WlS_rec (S := ⟨en, hp, nt⟩) hr hg hd hx k
end
end Go.Gar
