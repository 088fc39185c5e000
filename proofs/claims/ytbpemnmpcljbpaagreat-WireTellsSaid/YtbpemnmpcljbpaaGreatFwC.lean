/- The frame of these proofs, part C: a triple over the model's code with an abstract state (plain data, a small abstract heap), its rules, and the way from a given row to it.
Conditions: none; what each theorem asks stands in its own hypotheses. -/
import Derived.Test.YtbpemnmpcljbpaaGreatFwB
import Derived.ProofKit
import Derived.OpenShut
set_option linter.unusedSimpArgs false
set_option linter.unusedVariables false
set_option linter.unnecessarySimpa false
/- The frame, part 27: ghost steps: freezing, slices of no elements; a function's contract with a ghost step at its end. -/
namespace Go.Gar

mutual
/-- The slice of block `id` as the data that it holds. -/
def AV.frz (id : Nat) (x : D) : AV → AV
  | .sl i n sz => match Nat.beq i id with
    | true => if n = sln x then .d x else .sl i n sz
    | false => .sl i n sz
  | .ag cs => .ag (AV.frzs id x cs)
  | .tup cs => .tup (AV.frzs id x cs)
  | .fn f a b => .fn f (AV.frzs id x a) (AV.frzs id x b)
  | v => v
def AV.frzs (id : Nat) (x : D) : List AV → List AV
  | [] => []
  | v :: r => v.frz id x :: AV.frzs id x r
end
theorem frzs_map (id : Nat) (x : D) : ∀ l : List AV, AV.frzs id x l = l.map (AV.frz id x)
  | [] => rfl
  | v :: r => by simp [AV.frzs, frzs_map id x r]
def frzM (id : Nat) (x : D) : List (D × AV) → List (D × AV)
  | [] => []
  | p :: r => (p.1, p.2.frz id x) :: frzM id x r
theorem frzM_map (id : Nat) (x : D) : ∀ l : List (D × AV), frzM id x l = l.map fun p => (p.1, p.2.frz id x)
  | [] => rfl
  | v :: r => by simp [frzM, frzM_map id x r]
def Blk.frz (id : Nat) (x : D) : Blk → Blk
  | .c cs => .c (AV.frzs id x cs)
  | .m es => .m (frzM id x es)
  | b => b
def frzE (id : Nat) (x : D) : List (Nat × AV) → List (Nat × AV)
  | [] => []
  | p :: r => (p.1, p.2.frz id x) :: frzE id x r
def frzH (id : Nat) (x : D) : Nat → List Blk → List Blk
  | _, [] => []
  | i, b :: r => (match Nat.beq i id with | true => .gone | false => b.frz id x) :: frzH id x (i + 1) r

theorem get_frzE {id : Nat} {x : D} : ∀ {e : List (Nat × AV)} {t : Nat} {y : AV}, get (frzE id x e) t = some y → ∃ z, get e t = some z ∧ y = z.frz id x
  | [], t, y, h => by simp [frzE, get] at h
  | p :: r, t, y, h => by
    obtain ⟨k, v⟩ := p
    simp only [frzE, get] at h ⊢
    split at h
    · rename_i hb; rw [if_pos hb]; cases h; exact ⟨v, rfl, rfl⟩
    · rename_i hb; rw [if_neg hb]; exact get_frzE h
theorem frzH_get {id : Nat} {x : D} : ∀ {l : List Blk} {i j : Nat} {b : Blk}, (frzH id x i l)[j]? = some b → ∃ b0, l[j]? = some b0 ∧ ((i + j = id ∧ b = .gone) ∨ (i + j ≠ id ∧ b = b0.frz id x))
  | [], i, j, b, h => by simp [frzH] at h
  | c :: r, i, 0, b, h => by
    simp only [frzH, List.getElem?_cons_zero, Option.some.injEq] at h
    refine ⟨c, by simp, ?_⟩
    cases hb : Nat.beq i id with
    | true => rw [hb] at h; exact .inl ⟨by have := Nat.eq_of_beq_eq_true hb; omega, h.symm⟩
    | false => rw [hb] at h; exact .inr ⟨fun e => by rw [Nat.add_zero] at e; subst e; simp at hb, h.symm⟩
  | c :: r, i, j + 1, b, h => by
    simp only [frzH, List.getElem?_cons_succ] at h
    obtain ⟨b0, h1, h2⟩ := frzH_get h
    refine ⟨b0, by simpa using h1, ?_⟩
    rw [show i + (j + 1) = i + 1 + j by omega]
    exact h2
theorem frzH_get' {id : Nat} {x : D} : ∀ {l : List Blk} {i j : Nat} {b0 : Blk}, l[j]? = some b0 → (frzH id x i l)[j]? = some (if i + j = id then .gone else b0.frz id x)
  | [], i, j, b, h => by simp at h
  | c :: r, i, 0, b, h => by
    simp only [List.getElem?_cons_zero, Option.some.injEq] at h
    subst h
    simp only [frzH, List.getElem?_cons_zero, Nat.add_zero]
    cases hb : Nat.beq i id with
    | true => have := Nat.eq_of_beq_eq_true hb; subst this; simp
    | false => rw [if_neg (fun e => by subst e; simp at hb)]
  | c :: r, i, j + 1, b, h => by
    simp only [frzH, List.getElem?_cons_succ] at h ⊢
    rw [show i + (j + 1) = i + 1 + j by omega]
    exact frzH_get' h
/-- The ghost state where a block's data stay from now on. -/
def Gh.freeze (G : Gh) (w : World) (id : Nat) (x : D) : Gh where
  ρ := G.ρ
  H := frzH id x 0 G.H
  m := fun b k => match G.ρ id with
    | some p => if b = p.1 then w.cell? ⟨b, k, none⟩ else G.m b k
    | none => G.m b k

theorem freeze_step {G : Gh} {w : World} {id : Nat} {x : D} (hid : G.H[id]? = some (.a x)) {j : Nat} {b : Blk} (hb : G.H[j]? = some b) : ∃ b', (G.freeze w id x).H[j]? = some b' ∧ BStep G (G.freeze w id x) j b b' := by
  refine ⟨_, frzH_get' hb, ?_⟩
  rw [Nat.zero_add]
  by_cases hj : j = id
  · subst hj
    rw [hid] at hb; cases hb
    simp [BStep]
  · rw [if_neg hj]
    cases b <;> simp [BStep, Blk.frz, Gh.freeze, frzs_map]

theorem freeze_gle {G : Gh} {w : World} (hr : HRel G w) {id : Nat} {x : D} (hid : G.H[id]? = some (.a x)) : GLe G (G.freeze w id x) := by
  refine ⟨fun j b hb => freeze_step hid hb, fun b k v hv => ?_⟩
  show (match G.ρ id with | some p => if b = p.1 then w.cell? ⟨b, k, none⟩ else G.m b k | none => G.m b k) = some v
  split
  · split
    · exact hr.mem b k v hv
    · exact hv
  · exact hv

mutual
theorem RV.frz {G : Gh} {w : World} (hr : HRel G w) {id : Nat} {x : D} (hid : G.H[id]? = some (.a x)) : ∀ {y : AV} {v : Value}, RV G y v → RV (G.freeze w id x) (y.frz id x) v
  | .sl i n sz, v, r => by
    have hm := RV.mono (freeze_gle hr hid) r
    simp only [AV.frz]
    split
    · rename_i hb
      have hi := Nat.eq_of_beq_eq_true hb
      subst hi
      split
      · rename_i hn
        simp only [RV] at r ⊢
        obtain ⟨_, blk, hblk, hp⟩ := r
        rw [hid] at hblk; cases hblk
        obtain ⟨g1, g2, g3⟩ := hp
        obtain ⟨k1, k2, k3⟩ := hr.blk i _ hid
        rcases g3 hn with ⟨g4, a, rfl⟩ | ⟨b, N, cap, g4, rfl, g6, _⟩
        · exact (RD_sl k1).2 ⟨a, 0, by rw [← hn, g4], by omega, k2, .inl (by omega)⟩
        · rcases k3 with ⟨k3, k4⟩ | ⟨b', N', vs, T, k4, k5, k6, k7⟩
          · exact (RD_sl k1).2 ⟨_, cap, by rw [← hn], by omega, k2, .inl k3⟩
          · rw [g4] at k4; cases k4
            refine (RD_sl k1).2 ⟨_, cap, by rw [← hn], by omega, k2, .inr ⟨b, 0, rfl, fun k d hd => ?_⟩⟩
            obtain ⟨u, hu, h1c, hru⟩ := k7 k d hd
            refine ⟨u, ?_, h1c, hru.mono (freeze_gle hr hid).mem⟩
            show (match G.ρ i with | some p => if b = p.1 then w.cell? ⟨b, 0 + k, none⟩ else G.m b (0 + k) | none => G.m b (0 + k)) = some u
            rw [g4]
            simp only [if_true, Nat.zero_add]
            rw [cell_block k5]; exact hu
      · exact hm
    · exact hm
  | .ag cs, v, r => by
    simp only [AV.frz, RV] at r ⊢
    obtain ⟨vs, hv, h⟩ := r
    exact ⟨vs, hv, RVs.frz hr hid h⟩
  | .tup cs, v, r => by
    simp only [AV.frz, RV] at r ⊢
    obtain ⟨vs, hv, h⟩ := r
    exact ⟨vs, hv, RVs.frz hr hid h⟩
  | .fn f a b, v, r => by
    simp only [AV.frz, RV] at r ⊢
    obtain ⟨p, q, hv, h1, h2⟩ := r
    exact ⟨p, q, hv, RVs.frz hr hid h1, RVs.frz hr hid h2⟩
  | .d y, v, r => by have := RV.mono (freeze_gle hr hid) r; simpa only [AV.frz] using this
  | .u, v, r => by have := RV.mono (freeze_gle hr hid) r; simpa only [AV.frz] using this
  | .e0, v, r => by have := RV.mono (freeze_gle hr hid) r; simpa only [AV.frz] using this
  | .ptr _ _ _, v, r => by have := RV.mono (freeze_gle hr hid) r; simpa only [AV.frz] using this
  | .bs _ _ _ _ _, v, r => by have := RV.mono (freeze_gle hr hid) r; simpa only [AV.frz] using this
  | .ep _ _ _ _ _, v, r => by have := RV.mono (freeze_gle hr hid) r; simpa only [AV.frz] using this
  | .yl _, v, r => by have := RV.mono (freeze_gle hr hid) r; simpa only [AV.frz] using this
  | .dp _, v, r => by have := RV.mono (freeze_gle hr hid) r; simpa only [AV.frz] using this
  | .mp _, v, r => by have := RV.mono (freeze_gle hr hid) r; simpa only [AV.frz] using this
theorem RVs.frz {G : Gh} {w : World} (hr : HRel G w) {id : Nat} {x : D} (hid : G.H[id]? = some (.a x)) : ∀ {ys : List AV} {vs : List Value}, RVs G ys vs → RVs (G.freeze w id x) (AV.frzs id x ys) vs
  | [], vs, r => by simpa [AV.frzs, RVs] using r
  | y :: ys, vs, r => by
    simp only [AV.frzs, RVs] at r ⊢
    obtain ⟨v, q, hv, h1, h2⟩ := r
    exact ⟨v, q, hv, RV.frz hr hid h1, RVs.frz hr hid h2⟩
end

theorem BR.frz {G : Gh} {w : World} (hr : HRel G w) {id : Nat} {x : D} (hid : G.H[id]? = some (.a x)) {j : Nat} : ∀ {b : Blk}, BR G w j b → BR (G.freeze w id x) w j (b.frz id x)
  | .gone, _ => trivial
  | .c cs, h => by
    obtain ⟨b, N, vs, T, h1, h2, h3, h4, h6⟩ := h
    refine ⟨b, N, vs, T, h1, h2, h3, by rw [frzs_map]; simpa using h4, fun k y hy => ?_⟩
    rw [frzs_map, List.getElem?_map, Option.map_eq_some_iff] at hy
    obtain ⟨z, hz, rfl⟩ := hy
    obtain ⟨v, hv, hrv⟩ := h6 k z hz
    exact ⟨v, hv, hrv.frz hr hid⟩
  | .a y, h => by
    obtain ⟨h1, h2, h3⟩ := h
    refine ⟨h1, h2, h3.imp_right ?_⟩
    rintro ⟨b, N, vs, T, g1, g2, g3, g4⟩
    refine ⟨b, N, vs, T, g1, g2, g3, fun k d hd => ?_⟩
    obtain ⟨v, hv, h1c, hrd⟩ := g4 k d hd
    exact ⟨v, hv, h1c, hrd.mono (freeze_gle hr hid).mem⟩
  | .m es, h => by
    obtain ⟨b, N, ms, cl, h1, h2, h3, h4⟩ := h
    refine ⟨b, N, ms, cl, h1, h2, by rw [frzM_map]; simpa using h3, fun k q hq => ?_⟩
    rw [frzM_map, List.getElem?_map, Option.map_eq_some_iff] at hq
    obtain ⟨z, hz, rfl⟩ := hq
    obtain ⟨e, he, hd, hrv⟩ := h4 k z hz
    exact ⟨e, he, hd.mono (freeze_gle hr hid).mem, hrv.frz hr hid⟩
  | .lp r, h => by
    obtain ⟨l, N, df, tmps, h1, h2, h3, h4⟩ := h
    exact ⟨l, N, df, tmps, h1, h2, h3, h4.mono (freeze_gle hr hid)⟩

theorem own_freeze {G : Gh} {w : World} (hr : HRel G w) {id : Nat} {x : D} (hid : G.H[id]? = some (.a x)) {b : Nat} (h : Own (G.freeze w id x) b) : Own G b ∧ ∀ N, G.ρ id ≠ some (b, N) := by
  obtain ⟨j, N, blk, hb, hl, hρ⟩ := h
  obtain ⟨b0, h1, h2⟩ := frzH_get hb
  rw [Nat.zero_add] at h2
  rcases h2 with ⟨_, rfl⟩ | ⟨h2, rfl⟩
  · simp [Blk.live] at hl
  · have hl0 : b0.live = true := by cases b0 <;> simp_all [Blk.live, Blk.frz]
    refine ⟨⟨j, N, b0, h1, hl0, hρ⟩, fun N' hN' => h2 ?_⟩
    exact hr.inj j id b0 _ b N N' h1 hid hl0 rfl hρ hN'

theorem freeze_rel {G : Gh} {w : World} (hr : HRel G w) {id : Nat} {x : D} (hid : G.H[id]? = some (.a x)) : HRel (G.freeze w id x) w ∧ TLe G (G.freeze w id x) := by
  have hmem : ∀ b k v, (G.freeze w id x).m b k = some v → G.m b k = some v ∨ (∃ N, G.ρ id = some (b, N) ∧ w.cell? ⟨b, k, none⟩ = some v) := by
    intro b k v hv
    change (match G.ρ id with | some p => if b = p.1 then w.cell? ⟨b, k, none⟩ else G.m b k | none => G.m b k) = some v at hv
    split at hv
    · rename_i p hp
      split at hv
      · rename_i he; subst he; exact .inr ⟨p.2, hp, hv⟩
      · exact .inl hv
    · exact .inl hv
  refine ⟨⟨fun j b hb => ?_, fun i j p q b N N' hp hq lp lq r1 r2 => ?_, fun b k v hv => ?_, fun b hb k => ?_, fun b k v hv => (freeze_gle hr hid).mem b k v (hr.st b k v hv)⟩, ⟨fun j b b' hb hb' => ?_, (freeze_gle hr hid).mem, fun b hb => (own_freeze hr hid hb).1, fun b k v hv => ?_⟩⟩
  · obtain ⟨b0, h1, h2⟩ := frzH_get hb
    rcases h2 with ⟨_, rfl⟩ | ⟨_, rfl⟩
    · trivial
    · exact (hr.blk j b0 h1).frz hr hid
  · obtain ⟨p0, h1, h2⟩ := frzH_get hp
    obtain ⟨q0, h3, h4⟩ := frzH_get hq
    have e1 : p0.live = true := by
      rcases h2 with ⟨_, rfl⟩ | ⟨_, rfl⟩
      · simp [Blk.live] at lp
      · cases p0 <;> simp_all [Blk.live, Blk.frz]
    have e2 : q0.live = true := by
      rcases h4 with ⟨_, rfl⟩ | ⟨_, rfl⟩
      · simp [Blk.live] at lq
      · cases q0 <;> simp_all [Blk.live, Blk.frz]
    exact hr.inj i j p0 q0 b N N' h1 h3 e1 e2 r1 r2
  · rcases hmem b k v hv with h | ⟨_, _, h⟩
    · exact hr.mem b k v h
    · exact h
  · obtain ⟨h1, h2⟩ := own_freeze hr hid hb
    cases hm : (G.freeze w id x).m b k with
    | none => rfl
    | some v =>
      rcases hmem b k v hm with h | ⟨N, h, _⟩
      · rw [hr.sep b h1 k] at h; cases h
      · exact absurd h (h2 N)
  · obtain ⟨c, hc, hs⟩ := freeze_step (w := w) hid hb
    rw [hb'] at hc; cases hc
    exact hs
  · rcases hmem b k v hv with h | ⟨N, h, _⟩
    · exact .inl h
    · exact .inr ⟨id, N, _, hid, rfl, h⟩

theorem Marks.tle {N : NB} {G G' : Gh} {a : Act} {w : World} (h : Marks N G a w) (t : TLe G G') : Marks N G' a w := by
  obtain ⟨h0, ms, h1, h2, h3⟩ := h
  exact ⟨h0, ms, h1, h2, fun q hq => ⟨(h3 q hq).1, (h3 q hq).2.1, fun ho' => (h3 q hq).2.2 (t.own q ho')⟩⟩

/-- A slice that nobody writes any more becomes plain data. -/
theorem TSub.freeze {S : St} (id : Nat) {x : D} (hid : S.H[id]? = some (.a x)) : TSub S ⟨frzE id x S.env, frzH id x 0 S.H, S.n⟩ := by
  intro ro N G a w r _
  have hid' : G.H[id]? = some (.a x) := by rw [r.heap]; exact hid
  obtain ⟨h1, h2⟩ := freeze_rel r.rel hid'
  refine ⟨G.freeze w id x, ⟨by show frzH id x 0 G.H = _; rw [r.heap], h1, r.size, fun t y hy => ?_, r.marks.tle h2, fun i hi => ?_⟩, h2⟩
  · obtain ⟨z, hz, rfl⟩ := get_frzE hy
    obtain ⟨v, hv, hrv⟩ := r.env t z hz
    exact ⟨v, hv, hrv.frz r.rel hid'⟩
  · obtain ⟨q, l, M, q1, q2⟩ := r.round i hi
    refine ⟨q, l, M, ?_, q2⟩
    have := frzH_get' (id := id) (x := x) (i := 0) q1
    rw [Nat.zero_add, if_neg (fun e => by subst e; rw [hid] at q1; cases q1)] at this
    exact this

theorem TSub.trans {A B C : St} (h : TSub A B) (hl : B.H.length ≤ A.H.length → True) (k : TSub B C) (hlt : C.H.length ≤ B.H.length) : TSub A C := by
  intro ro N G a w r hc
  obtain ⟨G1, r1, t1⟩ := h ro N G a w r (fun id hid => Nat.lt_of_lt_of_le (hc id hid) hlt)
  obtain ⟨G2, r2, t2⟩ := k ro N G1 a w r1 hc
  refine ⟨G2, r2, ⟨fun id b b' hb hb' => ?_, Mem.le_trans t1.mem t2.mem, fun b hb => t1.own b (t2.own b hb), fun b k v hv => ?_⟩⟩
  · have hlt1 : id < G1.H.length := by
      have : id < G2.H.length := (List.getElem?_eq_some_iff.1 hb').1
      rw [r2.heap] at this
      rw [r1.heap]; omega
    exact (t1.blk id b _ hb (List.getElem?_eq_getElem hlt1)).trans (t2.blk id _ b' (List.getElem?_eq_getElem hlt1) hb')
  · rcases t2.memNew b k v hv with h | h
    · exact t1.memNew b k v h
    · exact .inr (t1.own b h)

/-- A slice of no elements, with no room, as data. -/
theorem TSub.e0 {S : St} (t : Nat) (q : D) (h : get S.env t = some .e0) (hs : isSl q = true) (hl : sln q = 0) (ho : slOk q) : TSub S ⟨(t, .d q) :: S.env, S.H, S.n⟩ := by
  intro ro N G a w r _
  refine ⟨G, ⟨r.heap, r.rel, r.size, fun u y hy => ?_, r.marks, r.round⟩, ⟨fun id b b' hb hb' => by rw [hb] at hb'; cases hb'; exact BStep.refl _ _ _, Mem.le_refl _, fun _ h => h, fun _ _ _ h => .inl h⟩⟩
  simp only [get] at hy
  split at hy
  · rename_i hb
    cases hy
    have := Nat.eq_of_beq_eq_true hb
    subst this
    obtain ⟨v, hv, hrv⟩ := r.env t _ h
    refine ⟨v, hv, ?_⟩
    simp only [RV] at hrv ⊢
    obtain ⟨a, rfl⟩ := hrv
    exact (RD_sl hs).2 ⟨a, 0, by rw [hl], by omega, ho, .inl hl⟩
  · exact r.env u y hy

/-- The heap with a block more that has no place in the world. -/
def Gh.nil (G : Gh) (q : D) : Gh := { ρ := fun id => if id = G.H.length then none else G.ρ id, H := G.H ++ [.a q], m := G.m }
theorem nil_low {G : Gh} {q : D} {id : Nat} {b : Blk} (h : G.H[id]? = some b) : (G.nil q).H[id]? = some b ∧ (G.nil q).ρ id = G.ρ id := by
  have hlt := (List.getElem?_eq_some_iff.1 h).1
  refine ⟨by show (G.H ++ [.a q])[id]? = _; rw [List.getElem?_append_left hlt]; exact h, ?_⟩
  show (if id = G.H.length then none else G.ρ id) = _
  rw [if_neg (by omega)]
theorem nil_gle (G : Gh) (q : D) : GLe G (G.nil q) := by
  refine ⟨fun id b hb => ?_, Mem.le_refl _⟩
  obtain ⟨h1, h2⟩ := nil_low (q := q) hb
  exact ⟨b, h1, (BStep.refl G id b).congr rfl h2⟩
theorem nil_get {G : Gh} {q : D} {id : Nat} {b : Blk} (h : (G.nil q).H[id]? = some b) : (G.H[id]? = some b ∧ (G.nil q).ρ id = G.ρ id) ∨ (id = G.H.length ∧ b = .a q ∧ (G.nil q).ρ id = none) := by
  rcases Nat.lt_or_ge id G.H.length with hlt | hge
  · have h' : G.H[id]? = some b := by
      change (G.H ++ [.a q])[id]? = _ at h
      rwa [List.getElem?_append_left hlt] at h
    exact .inl ⟨h', (nil_low h').2⟩
  · change (G.H ++ [.a q])[id]? = _ at h
    rw [List.getElem?_append_right hge] at h
    have h0 : id - G.H.length = 0 := by
      rcases Nat.eq_zero_or_pos (id - G.H.length) with h0 | h0
      · exact h0
      · rw [List.getElem?_eq_none (by simp; omega)] at h; cases h
    rw [h0] at h
    simp only [List.getElem?_cons_zero, Option.some.injEq] at h
    have hid : id = G.H.length := by omega
    refine .inr ⟨hid, h.symm, ?_⟩
    show (if id = G.H.length then none else G.ρ id) = none
    rw [if_pos hid]
theorem nil_rel {G : Gh} {w : World} (hr : HRel G w) {q : D} (hs : isSl q = true) (hl : sln q = 0) (ho : slOk q) : HRel (G.nil q) w ∧ TLe G (G.nil q) := by
  have own : ∀ b, Own (G.nil q) b → Own G b := by
    rintro b ⟨id, N, blk, hb, hlv, hρ⟩
    rcases nil_get hb with ⟨h1, h2⟩ | ⟨_, _, h3⟩
    · exact ⟨id, N, blk, h1, hlv, by rw [← h2]; exact hρ⟩
    · rw [h3] at hρ; cases hρ
  refine ⟨⟨fun id b hb => ?_, fun i j p q' b N N' hp hq lp lq r1 r2 => ?_, hr.mem, fun b hb k => hr.sep b (own b hb) k, hr.st⟩, ⟨fun id b b' hb hb' => ?_, Mem.le_refl _, own, fun _ _ _ h => .inl h⟩⟩
  · rcases nil_get hb with ⟨h1, h2⟩ | ⟨h1, rfl, h3⟩
    · exact (hr.blk id b h1).frm (nil_gle G q) (fun _ _ _ _ => rfl) h2
    · exact ⟨hs, ho, .inl ⟨hl, h3⟩⟩
  · rcases nil_get hp with ⟨h1, h2⟩ | ⟨_, _, h3⟩
    · rcases nil_get hq with ⟨h4, h5⟩ | ⟨_, _, h6⟩
      · exact hr.inj i j p q' b N N' h1 h4 lp lq (by rw [← h2]; exact r1) (by rw [← h5]; exact r2)
      · rw [h6] at r2; cases r2
    · rw [h3] at r1; cases r1
  · obtain ⟨h1, h2⟩ := nil_low (q := q) hb
    rw [h1] at hb'; cases hb'
    exact (BStep.refl G id b).congr rfl h2

/-- .. as a slice of one's own. -/
theorem TSub.e0own {S : St} (t : Nat) (q : D) (h : get S.env t = some .e0) (hs : isSl q = true) (hl : sln q = 0) (ho : slOk q) : TSub S ⟨(t, .sl S.H.length 0 (slsz q)) :: S.env, S.H ++ [.a q], S.n⟩ := by
  intro ro N G a w r _
  obtain ⟨h1, h2⟩ := nil_rel r.rel hs hl ho
  refine ⟨G.nil q, ⟨by show G.H ++ [.a q] = _; rw [r.heap], h1, r.size, fun u y hy => ?_, r.marks.tle h2, fun i hi => ?_⟩, h2⟩
  · simp only [get] at hy
    split at hy
    · rename_i hb
      cases hy
      have := Nat.eq_of_beq_eq_true hb
      subst this
      obtain ⟨v, hv, hrv⟩ := r.env t _ h
      refine ⟨v, hv, ?_⟩
      simp only [RV] at hrv ⊢
      obtain ⟨a, rfl⟩ := hrv
      refine ⟨rfl, .a q, by show (G.H ++ [Blk.a q])[S.H.length]? = _; rw [← r.heap]; simp, rfl, by omega, fun _ => .inl ⟨trivial, a, rfl⟩⟩
    · obtain ⟨v, hv, hrv⟩ := r.env u y hy
      exact ⟨v, hv, hrv.mono (nil_gle G q)⟩
  · obtain ⟨q', l, M, q1, q2⟩ := r.round i hi
    rw [← r.heap] at q1
    obtain ⟨n1, n2⟩ := nil_low (q := q) q1
    exact ⟨q', l, M, by rw [← r.heap]; exact n1, by rw [n2]; exact q2⟩

/-- .. that lies in a variable. -/
theorem TSub.e0ownc {S : St} (id i : Nat) (q : D) {cs : List AV} (hid : S.H[id]? = some (.c cs)) (h : cs[i]? = some .e0) (hs : isSl q = true) (hl : sln q = 0) (ho : slOk q) :
    TSub S ⟨S.env, S.H.set id (.c (cs.set i (.sl S.H.length 0 (slsz q)))) ++ [.a q], S.n⟩ := by
  intro ro N G a w r _
  obtain ⟨h1, h2⟩ := nil_rel r.rel hs hl ho
  have hidG : G.H[id]? = some (.c cs) := by rw [r.heap]; exact hid
  have hlt : id < G.H.length := (List.getElem?_eq_some_iff.1 hidG).1
  let c' : Blk := .c (cs.set i (.sl S.H.length 0 (slsz q)))
  let G' : Gh := { ρ := (G.nil q).ρ, H := (G.nil q).H.set id c', m := (G.nil q).m }
  have hst : BStep (G.nil q) G' id (.c cs) c' := by simp [c', BStep, G']
  have hlow := nil_low (q := q) hidG
  have hget : ∀ j b, G'.H[j]? = some b → (j = id ∧ b = c') ∨ (j ≠ id ∧ (G.nil q).H[j]? = some b) := by
    intro j b hb
    by_cases hj : j = id
    · subst hj
      left
      have hb' : ((G.nil q).H.set j c')[j]? = some b := hb
      rw [List.getElem?_set_self (List.getElem?_eq_some_iff.1 hlow.1).1] at hb'
      exact ⟨rfl, (Option.some.inj hb').symm⟩
    · right
      have hb' : ((G.nil q).H.set id c')[j]? = some b := hb
      rw [List.getElem?_set_ne (Ne.symm hj)] at hb'
      exact ⟨hj, hb'⟩
  have gle : GLe (G.nil q) G' := by
    refine ⟨fun j b hb => ?_, Mem.le_refl _⟩
    by_cases hj : j = id
    · subst hj
      rw [hlow.1] at hb; cases hb
      exact ⟨c', List.getElem?_set_self (List.getElem?_eq_some_iff.1 hlow.1).1, hst⟩
    · exact ⟨b, by show ((G.nil q).H.set id c')[j]? = _; rw [List.getElem?_set_ne (Ne.symm hj)]; exact hb, BStep.refl _ _ _⟩
  have hnew : G'.H[G.H.length]? = some (.a q) := by
    show ((G.nil q).H.set id c')[G.H.length]? = _
    rw [List.getElem?_set_ne (by omega)]
    show (G.H ++ [.a q])[G.H.length]? = _
    simp
  have own : ∀ b, Own G' b → Own (G.nil q) b := by
    rintro b ⟨j, N, blk, hb, hlv, hρ⟩
    rcases hget j blk hb with ⟨rfl, rfl⟩ | ⟨_, h4⟩
    · exact ⟨j, N, _, hlow.1, rfl, hρ⟩
    · exact ⟨j, N, blk, h4, hlv, hρ⟩
  have rel : HRel G' w := by
    refine ⟨fun j b hb => ?_, fun i' j p q' b N N' hp hq lp lq r1 r2 => ?_, h1.mem, fun b hb k => h1.sep b (own b hb) k, h1.st⟩
    · rcases hget j b hb with ⟨rfl, rfl⟩ | ⟨h3, h4⟩
      · obtain ⟨b, N, vs, T, g1, g2, g3, g4, g6⟩ := h1.blk j _ hlow.1
        refine ⟨b, N, vs, T, g1, g2, g3, by simpa using g4, fun k y hy => ?_⟩
        rw [List.getElem?_set] at hy
        split at hy
        · rename_i hki
          subst hki
          split at hy
          · cases hy
            obtain ⟨v, hv, hrv⟩ := g6 i _ h
            refine ⟨v, hv, ?_⟩
            simp only [RV] at hrv ⊢
            obtain ⟨a, rfl⟩ := hrv
            refine ⟨rfl, .a q, by rw [← r.heap]; exact hnew, rfl, by omega, fun _ => .inl ⟨trivial, a, rfl⟩⟩
          · cases hy
        · obtain ⟨v, hv, hrv⟩ := g6 k _ hy
          exact ⟨v, hv, hrv.mono gle⟩
      · exact (h1.blk j b h4).frm gle (fun _ _ _ _ => rfl) rfl
    · have back : ∀ (j : Nat) (b : Blk), G'.H[j]? = some b → b.live = true → ∃ b0 : Blk, (G.nil q).H[j]? = some b0 ∧ b0.live = true := by
        intro j b hb hlv
        rcases hget j b hb with ⟨rfl, rfl⟩ | ⟨_, h4⟩
        · exact ⟨_, hlow.1, rfl⟩
        · exact ⟨b, h4, hlv⟩
      obtain ⟨p0, e1, e2⟩ := back i' p hp lp
      obtain ⟨q0, e3, e4⟩ := back j q' hq lq
      exact h1.inj i' j p0 q0 b N N' e1 e3 e2 e4 r1 r2
  have tle : TLe G G' := by
    refine ⟨fun j b b' hb hb' => ?_, Mem.le_refl _, fun b hb => h2.own b (own b hb), fun _ _ _ h => .inl h⟩
    obtain ⟨n1, n2⟩ := nil_low (q := q) hb
    obtain ⟨b'', hb'', hs''⟩ := gle.blk j b n1
    rw [hb'] at hb''; cases hb''
    exact (h2.blk j b b hb n1).trans hs''
  refine ⟨G', ⟨?_, rel, r.size, fun u y hy => ?_, r.marks.tle tle, fun k hk => ?_⟩, tle⟩
  · show (G.H ++ [Blk.a q]).set id c' = _
    rw [List.set_append_left _ _ hlt, r.heap]
  · obtain ⟨v, hv, hrv⟩ := r.env u y hy
    exact ⟨v, hv, (hrv.mono (nil_gle G q)).mono gle⟩
  · obtain ⟨q', l, M, q1, q2⟩ := r.round k hk
    rw [← r.heap] at q1
    obtain ⟨n1, n2⟩ := nil_low (q := q) q1
    have hne : k ≠ id := fun e => by subst e; rw [hidG] at q1; cases q1
    refine ⟨q', l, M, ?_, by show (G.nil q).ρ k = _; rw [n2]; exact q2⟩
    show (S.H.set id c' ++ [Blk.a q])[k]? = _
    have : (G.H.set id c' ++ [Blk.a q])[k]? = some (.lp q') := by
      rw [List.getElem?_append_left (by simp; exact (List.getElem?_eq_some_iff.1 q1).1), List.getElem?_set_ne (Ne.symm hne)]
      exact q1
    rw [← r.heap]; exact this

section
variable {P : Program} {ro : Option Nat} {ops : Array Oper} {i : Nat} {rest : List Oper} {S : St} {Q : Exit → St → Prop} {E : Nat → Option TyI}

/-- A function out of its body, with a ghost step at its end. -/
theorem FnT_of_G {f : FuncId} {fn : Func} {c : Code} (hE : EOK P E) (hf : P.funcs[f]? = some fn) (hb : fn.body = some c) (hname : (fn.name == "runtime.NumGoroutine") = false) {args : List AV} {H : List Blk} (hn : args.length ≤ fn.ntmps) {R : AV → List Blk → Prop}
    (h : W P none c ⟨envOf 0 args, H, fn.ntmps⟩ (QRet fun S0 => ∃ S', TSub S0 S' ∧ H.length ≤ S'.H.length ∧ ∃ cc x, evRes E S'.env S'.H fn.results.toList = some (cc, x) ∧ cc = true ∧ R x S'.H)) : FnT P f args H R := by
  refine FnT_of_W hE hf hb hname hn (W_after h ?_)
  intro e S' q
  cases e with
  | normal => obtain ⟨S'', t, hl, q'⟩ := q; exact ⟨S'', t, hl, q'⟩
  | ret => obtain ⟨S'', t, hl, q'⟩ := q; exact ⟨S'', t, hl, q'⟩
  | _ => exact q.elim

end
end Go.Gar

/- The frame, part 28: a contract over a small heap, used at a great one: its blocks are found under other numbers. -/
namespace Go.Gar

/-- The number that block i of the small heap has: those of the list, then new ones behind. -/
def rn : List Nat → Nat → Nat → Nat
  | [], k, i => k + i
  | a :: _, _, 0 => a
  | _ :: r, k, i + 1 => rn r k i
theorem rn_lt : ∀ {ids : List Nat} {k i a : Nat}, ids[i]? = some a → rn ids k i = a
  | [], k, i, a, h => by simp at h
  | b :: r, k, 0, a, h => by simpa [rn] using h
  | b :: r, k, i + 1, a, h => by simp only [rn]; exact rn_lt (by simpa using h)
theorem rn_ge : ∀ {ids : List Nat} {k i : Nat}, ids.length ≤ i → rn ids k i = k + (i - ids.length)
  | [], k, i, h => by simp [rn]
  | b :: r, k, 0, h => by simp at h
  | b :: r, k, i + 1, h => by simp only [rn, List.length_cons]; rw [rn_ge (by simpa using h)]; congr 1; omega

mutual
def AV.ren (ι : Nat → Nat) : AV → AV
  | .ptr id o c => .ptr (ι id) o c
  | .sl id n sz => .sl (ι id) n sz
  | .bs id o n sz c => .bs (ι id) o n sz c
  | .ep id i o n sz => .ep (ι id) i o n sz
  | .ag cs => .ag (AV.rens ι cs)
  | .tup cs => .tup (AV.rens ι cs)
  | .fn f a b => .fn f (AV.rens ι a) (AV.rens ι b)
  | .yl id => .yl (ι id)
  | .mp id => .mp (ι id)
  | v => v
def AV.rens (ι : Nat → Nat) : List AV → List AV
  | [] => []
  | v :: r => v.ren ι :: AV.rens ι r
end
theorem rens_map (ι : Nat → Nat) : ∀ l : List AV, AV.rens ι l = l.map (AV.ren ι)
  | [] => rfl
  | v :: r => by simp [AV.rens, rens_map ι r]
def renM (ι : Nat → Nat) : List (D × AV) → List (D × AV)
  | [] => []
  | p :: r => (p.1, p.2.ren ι) :: renM ι r
theorem renM_map (ι : Nat → Nat) : ∀ l : List (D × AV), renM ι l = l.map fun p => (p.1, p.2.ren ι)
  | [] => rfl
  | v :: r => by simp [renM, renM_map ι r]
def renE (ι : Nat → Nat) : List (Nat × AV) → List (Nat × AV)
  | [] => []
  | p :: r => (p.1, p.2.ren ι) :: renE ι r
theorem get_renE {ι : Nat → Nat} : ∀ {e : List (Nat × AV)} {t : Nat}, get (renE ι e) t = (get e t).map (AV.ren ι)
  | [], t => by simp [renE, get]
  | p :: r, t => by
    obtain ⟨k, v⟩ := p
    simp only [renE, get]
    split
    · rfl
    · exact get_renE
def Blk.ren (ι : Nat → Nat) : Blk → Blk
  | .gone => .gone
  | .c cs => .c (AV.rens ι cs)
  | .a x => .a x
  | .m es => .m (renM ι es)
  | .lp r => .lp { r with env := renE ι r.env }
def renH (ι : Nat → Nat) : List Blk → List Blk
  | [] => []
  | b :: r => b.ren ι :: renH ι r
theorem renH_map (ι : Nat → Nat) : ∀ l : List Blk, renH ι l = l.map (Blk.ren ι)
  | [] => rfl
  | v :: r => by simp [renH, renH_map ι r]
theorem ren_live (ι : Nat → Nat) (b : Blk) : (b.ren ι).live = b.live := by cases b <;> rfl

mutual
theorem RV.ren {G0 G : Gh} {ι : Nat → Nat} (hm : G0.m.le G.m) (hb : ∀ id b, G0.H[id]? = some b → G.H[ι id]? = some (b.ren ι) ∧ G.ρ (ι id) = G0.ρ id) : ∀ {x : AV} {v : Value}, RV G0 x v → RV G (x.ren ι) v
  | .d x, v, r => by simp only [AV.ren, RV] at r ⊢; exact r.mono hm
  | .u, _, _ => by simp [AV.ren, RV]
  | .e0, _, r => by simpa only [AV.ren, RV] using r
  | .dp cs, v, r => by
    simp only [AV.ren, RV] at r ⊢
    obtain ⟨b, off, hv, hr⟩ := r
    exact ⟨b, off, hv, RDc.mono hm hr⟩
  | .ptr id o c, v, r => by
    simp only [AV.ren, RV] at r ⊢
    obtain ⟨h1, blk, h2, h3⟩ := r
    obtain ⟨k1, k2⟩ := hb id blk h2
    refine ⟨h1, _, k1, ?_⟩
    cases blk <;> simp_all [Blk.ren, rens_map]
  | .sl id n sz, v, r => by
    simp only [AV.ren, RV] at r ⊢
    obtain ⟨h1, blk, h2, h3⟩ := r
    obtain ⟨k1, k2⟩ := hb id blk h2
    refine ⟨h1, _, k1, ?_⟩
    cases blk <;> simp_all [Blk.ren]
  | .bs id o n sz c, v, r => by
    simp only [AV.ren, RV] at r ⊢
    obtain ⟨h1, blk, h2, h3⟩ := r
    obtain ⟨k1, k2⟩ := hb id blk h2
    refine ⟨h1, _, k1, ?_⟩
    cases blk <;> simp_all [Blk.ren, rens_map]
  | .ep id i o n sz, v, r => by
    simp only [AV.ren, RV] at r ⊢
    obtain ⟨h1, blk, h2, h3⟩ := r
    obtain ⟨k1, k2⟩ := hb id blk h2
    refine ⟨h1, _, k1, ?_⟩
    cases blk <;> simp_all [Blk.ren]
  | .yl id, v, r => by
    simp only [AV.ren, RV] at r ⊢
    obtain ⟨h1, blk, h2, h3⟩ := r
    obtain ⟨k1, k2⟩ := hb id blk h2
    refine ⟨h1, _, k1, ?_⟩
    cases blk <;> simp_all [Blk.ren]
  | .mp id, v, r => by
    simp only [AV.ren, RV] at r ⊢
    obtain ⟨h1, blk, h2, h3⟩ := r
    obtain ⟨k1, k2⟩ := hb id blk h2
    refine ⟨h1, _, k1, ?_⟩
    cases blk <;> simp_all [Blk.ren]
  | .ag cs, v, r => by
    simp only [AV.ren, RV] at r ⊢
    obtain ⟨vs, hv, h⟩ := r
    exact ⟨vs, hv, RVs.ren hm hb h⟩
  | .tup cs, v, r => by
    simp only [AV.ren, RV] at r ⊢
    obtain ⟨vs, hv, h⟩ := r
    exact ⟨vs, hv, RVs.ren hm hb h⟩
  | .fn f a b, v, r => by
    simp only [AV.ren, RV] at r ⊢
    obtain ⟨p, q, hv, h1, h2⟩ := r
    exact ⟨p, q, hv, RVs.ren hm hb h1, RVs.ren hm hb h2⟩
theorem RVs.ren {G0 G : Gh} {ι : Nat → Nat} (hm : G0.m.le G.m) (hb : ∀ id b, G0.H[id]? = some b → G.H[ι id]? = some (b.ren ι) ∧ G.ρ (ι id) = G0.ρ id) : ∀ {xs : List AV} {vs : List Value}, RVs G0 xs vs → RVs G (AV.rens ι xs) vs
  | [], _, r => by simpa [AV.rens, RVs] using r
  | x :: xs, vs, r => by
    simp only [AV.rens, RVs] at r ⊢
    obtain ⟨v, q, hv, h1, h2⟩ := r
    exact ⟨v, q, hv, RV.ren hm hb h1, RVs.ren hm hb h2⟩
end

mutual
theorem RV.unren {G0 G : Gh} {ι : Nat → Nat} {n : Nat} (hm : G.m.le G0.m) (hb : ∀ id, id < n → ∃ b, G0.H[id]? = some b ∧ G.H[ι id]? = some (b.ren ι) ∧ G.ρ (ι id) = G0.ρ id) : ∀ {x : AV} {v : Value}, x.ok n = true → RV G (x.ren ι) v → RV G0 x v
  | .d x, v, _, r => by simp only [AV.ren, RV] at r ⊢; exact r.mono hm
  | .u, _, _, _ => by simp [RV]
  | .e0, _, _, r => by simpa only [AV.ren, RV] using r
  | .dp cs, v, _, r => by
    simp only [AV.ren, RV] at r ⊢
    obtain ⟨b, off, hv, hr⟩ := r
    exact ⟨b, off, hv, RDc.mono hm hr⟩
  | .ptr id o c, v, ho, r => by
    simp only [AV.ren, RV] at r ⊢
    obtain ⟨h1, blk, h2, h3⟩ := r
    obtain ⟨b, k0, k1, k2⟩ := hb id (by simpa [AV.ok, Nat.blt_eq] using ho)
    rw [k1] at h2; cases h2
    refine ⟨h1, _, k0, ?_⟩
    cases b <;> simp_all [Blk.ren, rens_map]
  | .sl id n sz, v, ho, r => by
    simp only [AV.ren, RV] at r ⊢
    obtain ⟨h1, blk, h2, h3⟩ := r
    obtain ⟨b, k0, k1, k2⟩ := hb id (by simpa [AV.ok, Nat.blt_eq] using ho)
    rw [k1] at h2; cases h2
    refine ⟨h1, _, k0, ?_⟩
    cases b <;> simp_all [Blk.ren]
  | .bs id o n sz c, v, ho, r => by
    simp only [AV.ren, RV] at r ⊢
    obtain ⟨h1, blk, h2, h3⟩ := r
    obtain ⟨b, k0, k1, k2⟩ := hb id (by simpa [AV.ok, Nat.blt_eq] using ho)
    rw [k1] at h2; cases h2
    refine ⟨h1, _, k0, ?_⟩
    cases b <;> simp_all [Blk.ren, rens_map]
  | .ep id i o n sz, v, ho, r => by
    simp only [AV.ren, RV] at r ⊢
    obtain ⟨h1, blk, h2, h3⟩ := r
    obtain ⟨b, k0, k1, k2⟩ := hb id (by simpa [AV.ok, Nat.blt_eq] using ho)
    rw [k1] at h2; cases h2
    refine ⟨h1, _, k0, ?_⟩
    cases b <;> simp_all [Blk.ren]
  | .yl id, v, ho, r => by
    simp only [AV.ren, RV] at r ⊢
    obtain ⟨h1, blk, h2, h3⟩ := r
    obtain ⟨b, k0, k1, k2⟩ := hb id (by simpa [AV.ok, Nat.blt_eq] using ho)
    rw [k1] at h2; cases h2
    refine ⟨h1, _, k0, ?_⟩
    cases b <;> simp_all [Blk.ren]
  | .mp id, v, ho, r => by
    simp only [AV.ren, RV] at r ⊢
    obtain ⟨h1, blk, h2, h3⟩ := r
    obtain ⟨b, k0, k1, k2⟩ := hb id (by simpa [AV.ok, Nat.blt_eq] using ho)
    rw [k1] at h2; cases h2
    refine ⟨h1, _, k0, ?_⟩
    cases b <;> simp_all [Blk.ren]
  | .ag cs, v, ho, r => by
    simp only [AV.ren, RV] at r ⊢
    obtain ⟨vs, hv, h⟩ := r
    exact ⟨vs, hv, RVs.unren hm hb (by simpa [AV.ok] using ho) h⟩
  | .tup cs, v, ho, r => by
    simp only [AV.ren, RV] at r ⊢
    obtain ⟨vs, hv, h⟩ := r
    exact ⟨vs, hv, RVs.unren hm hb (by simpa [AV.ok] using ho) h⟩
  | .fn f a b, v, ho, r => by
    simp only [AV.ren, RV] at r ⊢
    simp only [AV.ok, Bool.and_eq_true] at ho
    obtain ⟨p, q, hv, h1, h2⟩ := r
    exact ⟨p, q, hv, RVs.unren hm hb ho.1 h1, RVs.unren hm hb ho.2 h2⟩
theorem RVs.unren {G0 G : Gh} {ι : Nat → Nat} {n : Nat} (hm : G.m.le G0.m) (hb : ∀ id, id < n → ∃ b, G0.H[id]? = some b ∧ G.H[ι id]? = some (b.ren ι) ∧ G.ρ (ι id) = G0.ρ id) : ∀ {xs : List AV} {vs : List Value}, AV.oks n xs = true → RVs G (AV.rens ι xs) vs → RVs G0 xs vs
  | [], _, _, r => by simpa [AV.rens, RVs] using r
  | x :: xs, vs, ho, r => by
    simp only [AV.rens, RVs] at r ⊢
    simp only [AV.oks, Bool.and_eq_true] at ho
    obtain ⟨v, q, hv, h1, h2⟩ := r
    exact ⟨v, q, hv, RV.unren hm hb ho.1 h1, RVs.unren hm hb ho.2 h2⟩
end

theorem BR.ren {G0 G : Gh} {w : World} {ι : Nat → Nat} (hm : G0.m.le G.m) (hb : ∀ id b, G0.H[id]? = some b → G.H[ι id]? = some (b.ren ι) ∧ G.ρ (ι id) = G0.ρ id) {i : Nat} (hρ : G.ρ (ι i) = G0.ρ i) : ∀ {b : Blk}, BR G0 w i b → BR G w (ι i) (b.ren ι)
  | .gone, _ => trivial
  | .c cs, h => by
    obtain ⟨b, N, vs, T, h1, h2, h3, h4, h6⟩ := h
    refine ⟨b, N, vs, T, hρ.trans h1, h2, h3, by rw [rens_map]; simpa using h4, fun k y hy => ?_⟩
    rw [rens_map, List.getElem?_map, Option.map_eq_some_iff] at hy
    obtain ⟨z, hz, rfl⟩ := hy
    obtain ⟨v, hv, hrv⟩ := h6 k z hz
    exact ⟨v, hv, hrv.ren hm hb⟩
  | .a y, h => by
    obtain ⟨h1, h2, h3⟩ := h
    refine ⟨h1, h2, ?_⟩
    rcases h3 with ⟨h3, h4⟩ | ⟨b, N, vs, T, g1, g2, g3, g4⟩
    · exact .inl ⟨h3, hρ.trans h4⟩
    · refine .inr ⟨b, N, vs, T, hρ.trans g1, g2, g3, fun k d hd => ?_⟩
      obtain ⟨v, hv, h1c, hrd⟩ := g4 k d hd
      exact ⟨v, hv, h1c, hrd.mono hm⟩
  | .m es, h => by
    obtain ⟨b, N, ms, cl, h1, h2, h3, h4⟩ := h
    refine ⟨b, N, ms, cl, hρ.trans h1, h2, by rw [renM_map]; simpa using h3, fun k q hq => ?_⟩
    rw [renM_map, List.getElem?_map, Option.map_eq_some_iff] at hq
    obtain ⟨z, hz, rfl⟩ := hq
    obtain ⟨e, he, hd, hrv⟩ := h4 k z hz
    exact ⟨e, he, hd.mono hm, hrv.ren hm hb⟩
  | .lp r, h => by
    obtain ⟨l, N, df, tmps, h1, h2, h3, h4⟩ := h
    refine ⟨l, N, df, tmps, hρ.trans h1, h2, h3, fun t x hx => ?_⟩
    change get (renE ι r.env) t = some x at hx
    rw [get_renE, Option.map_eq_some_iff] at hx
    obtain ⟨z, hz, rfl⟩ := hx
    obtain ⟨v, hv, hrv⟩ := h4 t z hz
    exact ⟨v, hv, hrv.ren hm hb⟩

theorem BR.unren {G0 G : Gh} {w : World} {ι : Nat → Nat} {n : Nat} (hm : G.m.le G0.m) (hb : ∀ id, id < n → ∃ b, G0.H[id]? = some b ∧ G.H[ι id]? = some (b.ren ι) ∧ G.ρ (ι id) = G0.ρ id) {i : Nat} (hρ : G.ρ (ι i) = G0.ρ i) : ∀ {b : Blk}, b.ok n = true → BR G w (ι i) (b.ren ι) → BR G0 w i b
  | .gone, _, _ => trivial
  | .c cs, ho, h => by
    obtain ⟨b, N, vs, T, h1, h2, h3, h4, h6⟩ := h
    rw [rens_map] at h4 h6
    refine ⟨b, N, vs, T, hρ.symm.trans h1, h2, h3, by simpa using h4, fun k y hy => ?_⟩
    obtain ⟨v, hv, hrv⟩ := h6 k (y.ren ι) (by simp [hy])
    exact ⟨v, hv, hrv.unren hm hb (oks_get ho hy)⟩
  | .a y, _, h => by
    obtain ⟨h1, h2, h3⟩ := h
    refine ⟨h1, h2, ?_⟩
    rcases h3 with ⟨h3, h4⟩ | ⟨b, N, vs, T, g1, g2, g3, g4⟩
    · exact .inl ⟨h3, hρ.symm.trans h4⟩
    · refine .inr ⟨b, N, vs, T, hρ.symm.trans g1, g2, g3, fun k d hd => ?_⟩
      obtain ⟨v, hv, h1c, hrd⟩ := g4 k d hd
      exact ⟨v, hv, h1c, hrd.mono hm⟩
  | .m es, ho, h => by
    obtain ⟨b, N, ms, cl, h1, h2, h3, h4⟩ := h
    rw [renM_map] at h3 h4
    refine ⟨b, N, ms, cl, hρ.symm.trans h1, h2, by simpa using h3, fun k q hq => ?_⟩
    obtain ⟨e, he, hd, hrv⟩ := h4 k (q.1, q.2.ren ι) (by simp [hq])
    exact ⟨e, he, hd.mono hm, hrv.unren hm hb (mapOk_get ho hq)⟩
  | .lp r, ho, h => by
    obtain ⟨l, N, df, tmps, h1, h2, h3, h4⟩ := h
    refine ⟨l, N, df, tmps, hρ.symm.trans h1, h2, h3, fun t x hx => ?_⟩
    obtain ⟨v, hv, hrv⟩ := h4 t (x.ren ι) (by show get (renE ι r.env) t = _; rw [get_renE, hx]; rfl)
    exact ⟨v, hv, hrv.unren hm hb (envOk_get ho hx)⟩

theorem BStep.ren {G0 G0' G G' : Gh} {ι : Nat → Nat} {i j : Nat} {b b' : Blk} (h : BStep G0 G0' i b b') (e : G.ρ j = G0.ρ i) (e' : G'.ρ j = G0'.ρ i) : BStep G G' j (b.ren ι) (b'.ren ι) := by
  cases b <;> cases b' <;> simp only [BStep, Blk.ren] at h ⊢ <;> simp_all [rens_map]

/-- The great heap with the small one's blocks laid back. -/
def bkL : List Nat → List Blk → List Blk → List Blk
  | [], H, l => H ++ l
  | a :: r, H, b :: l => bkL r (H.set a b) l
  | _ :: _, H, [] => H

theorem bkL_get : ∀ {ids : List Nat} {H l : List Blk} {j : Nat}, ids.Nodup → ids.length ≤ l.length → (∀ a ∈ ids, a < H.length) →
    (bkL ids H l)[j]? = if j ∈ ids then l[ids.idxOf j]? else if j < H.length then H[j]? else l[ids.length + (j - H.length)]?
  | [], H, l, j, _, _, _ => by
    simp only [bkL, List.not_mem_nil, if_false, List.length_nil, Nat.zero_add]
    split
    · rename_i h; rw [List.getElem?_append_left h]
    · rename_i h; rw [List.getElem?_append_right (by omega)]
  | a :: r, H, [], j, _, hl, _ => by simp at hl
  | a :: r, H, b :: l, j, hn, hl, ha => by
    obtain ⟨h1, h2⟩ := List.nodup_cons.1 hn
    simp only [bkL]
    rw [bkL_get h2 (by simpa using hl) (fun c hc => by simpa using ha c (by simp [hc]))]
    by_cases hj : j = a
    · subst hj
      have hlt := ha j (by simp)
      have e1 : (H.set j b).length = H.length := by simp
      have e2 : j ∈ j :: r := by simp
      simp only [h1, if_false, e1, hlt, if_true, e2, List.getElem?_set_self, List.idxOf_cons_self, List.getElem?_cons_zero]
    · have e3 : (j ∈ a :: r) ↔ (j ∈ r) := by simp [hj]
      by_cases hr : j ∈ r
      · have e4 : (a :: r).idxOf j = r.idxOf j + 1 := by
          rw [List.idxOf_cons]
          have : (a == j) = false := by simpa using (Ne.symm hj)
          rw [this]; rfl
        simp only [hr, if_true, e3, e4, List.getElem?_cons_succ]
      · simp only [hr, if_false, e3, List.length_set]
        split
        · rw [List.getElem?_set_ne (Ne.symm hj)]
        · simp only [List.length_cons]
          rw [show r.length + 1 + (j - H.length) = r.length + (j - H.length) + 1 by omega]
          simp

/-- The blocks of the small heap lie in the great one. -/
def matchH (ι : Nat → Nat) (H2 : List Blk) : List Nat → List Blk → Prop
  | [], [] => True
  | a :: r, b :: l => H2[a]? = some (b.ren ι) ∧ matchH ι H2 r l
  | _, _ => False
theorem matchH_len {ι : Nat → Nat} {H2 : List Blk} : ∀ {ids : List Nat} {H : List Blk}, matchH ι H2 ids H → ids.length = H.length
  | [], [], _ => rfl
  | a :: r, b :: l, h => by simp only [List.length_cons]; rw [matchH_len h.2]
  | [], _ :: _, h => h.elim
  | _ :: _, [], h => h.elim
theorem matchH_get {ι : Nat → Nat} {H2 : List Blk} : ∀ {ids : List Nat} {H : List Blk}, matchH ι H2 ids H → ∀ {i : Nat} {b : Blk}, H[i]? = some b → ∃ a, ids[i]? = some a ∧ H2[a]? = some (b.ren ι)
  | [], [], _, i, b, hb => by simp at hb
  | a :: r, c :: l, h, 0, b, hb => by simp at hb; subst hb; exact ⟨a, by simp, h.1⟩
  | a :: r, c :: l, h, i + 1, b, hb => by
    obtain ⟨x, h1, h2⟩ := matchH_get h.2 (i := i) (by simpa using hb)
    exact ⟨x, by simpa using h1, h2⟩
  | [], _ :: _, h, _, _, _ => h.elim
  | _ :: _, [], h, _, _, _ => h.elim

theorem ren_frame {G G0' : Gh} {w w' : World} {H H2 : List Blk} {ids : List Nat} (hG : G.H = H2) (hn : ids.Nodup) (hm : matchH (rn ids H2.length) H2 ids H) (hr : HRel G w)
    (hf : Frm ⟨fun i => G.ρ (rn ids H2.length i), H, G.m⟩ w G0' w') (h' : HRel G0' w') :
    ∃ G'' : Gh, G''.H = bkL ids H2 (renH (rn ids H2.length) G0'.H) ∧ HRel G'' w' ∧ Frm G w G'' w' ∧ G0'.m.le G''.m ∧ (∀ id b, G0'.H[id]? = some b → G''.H[rn ids H2.length id]? = some (b.ren (rn ids H2.length)) ∧ G''.ρ (rn ids H2.length id) = G0'.ρ id) := by
  generalize hι : rn ids H2.length = ι at *
  have hlen : ids.length = H.length := matchH_len hm
  have hgl : H.length ≤ G0'.H.length := hf.gle.len
  have hid : ∀ a ∈ ids, a < H2.length := by
    intro a ha
    obtain ⟨i, hi, rfl⟩ := List.mem_iff_getElem.1 ha
    obtain ⟨x, h1, h2⟩ := matchH_get hm (i := i) (b := H[i]'(by omega)) (by simp)
    rw [List.getElem?_eq_getElem hi] at h1
    cases h1
    exact (List.getElem?_eq_some_iff.1 h2).1
  have lowι : ∀ i (hi : i < ids.length), ι i = ids[i] := fun i hi => by rw [← hι]; exact rn_lt (List.getElem?_eq_getElem hi)
  have highι : ∀ i, ids.length ≤ i → ι i = H2.length + (i - ids.length) := fun i hi => by rw [← hι]; exact rn_ge hi
  let κ : Nat → Option Nat := fun j => if j ∈ ids then some (ids.idxOf j) else if j < H2.length then none else some (ids.length + (j - H2.length))
  have κι : ∀ i, κ (ι i) = some i := by
    intro i
    rcases Nat.lt_or_ge i ids.length with hi | hi
    · rw [lowι i hi]
      simp only [κ]
      rw [if_pos (List.getElem_mem hi), hn.idxOf_getElem i hi]
    · rw [highι i hi]
      simp only [κ]
      rw [if_neg (fun h => by have := hid _ h; omega), if_neg (by omega)]
      congr 1; omega
  have ικ : ∀ j i, κ j = some i → ι i = j := by
    intro j i h
    simp only [κ] at h
    split at h
    · rename_i hj
      cases h
      rw [lowι _ (List.idxOf_lt_length_of_mem hj), List.getElem_idxOf]
    · split at h
      · cases h
      · cases h
        rw [highι _ (by omega)]; omega
  let K : Gh := ⟨fun j => match κ j with | some i => G0'.ρ i | none => G.ρ j, bkL ids H2 (renH ι G0'.H), G0'.m⟩
  have kρ1 : ∀ i, K.ρ (ι i) = G0'.ρ i := fun i => by show (match κ (ι i) with | some i => G0'.ρ i | none => G.ρ (ι i)) = _; rw [κι]
  have kρ2 : ∀ j, κ j = none → K.ρ j = G.ρ j := fun j h => by show (match κ j with | some i => G0'.ρ i | none => G.ρ j) = _; rw [h]
  have kget : ∀ j, K.H[j]? = match κ j with | some i => (G0'.H[i]?).map (Blk.ren ι) | none => H2[j]? := by
    intro j
    show (bkL ids H2 (renH ι G0'.H))[j]? = _
    rw [renH_map, bkL_get hn (by simp; omega) hid]
    simp only [κ]
    split
    · simp
    · split
      · rfl
      · simp
  have kup : ∀ id b, G0'.H[id]? = some b → K.H[ι id]? = some (b.ren ι) ∧ K.ρ (ι id) = G0'.ρ id := by
    intro id b hb
    refine ⟨?_, kρ1 id⟩
    rw [kget, κι]
    simp [hb]
  have up0 : ∀ id b, H[id]? = some b → G.H[ι id]? = some (b.ren ι) := by
    intro id b hb
    obtain ⟨a, h1, h2⟩ := matchH_get hm hb
    have : ι id = a := by rw [← hι]; exact rn_lt h1
    rw [this, hG]; exact h2
  have own0 : ∀ b, Own ⟨fun i => G.ρ (ι i), H, G.m⟩ b → Own G b := by
    rintro b ⟨i, N, q, hq, hl, hρ⟩
    exact ⟨ι i, N, _, up0 i q hq, by rw [ren_live]; exact hl, hρ⟩
  have split : ∀ j b, K.H[j]? = some b → (∃ i b0, ι i = j ∧ κ j = some i ∧ G0'.H[i]? = some b0 ∧ b = b0.ren ι) ∨ (κ j = none ∧ G.H[j]? = some b) := by
    intro j b hb
    rw [kget] at hb
    cases hk : κ j with
    | none => rw [hk] at hb; exact .inr ⟨rfl, by rw [hG]; exact hb⟩
    | some i =>
      rw [hk] at hb
      simp only [Option.map_eq_some_iff] at hb
      obtain ⟨b0, h1, h2⟩ := hb
      exact .inl ⟨i, b0, ικ j i hk, rfl, h1, h2.symm⟩
  have far : ∀ j b N q, κ j = none → G.H[j]? = some q → q.live = true → G.ρ j = some (b, N) → b < w.heap.size ∧ ¬ Own ⟨fun i => G.ρ (ι i), H, G.m⟩ b := by
    intro j b N q hk hq hl hρ
    refine ⟨own_lt hr ⟨j, N, q, hq, hl, hρ⟩, ?_⟩
    rintro ⟨i, N', q', hq', hl', hρ'⟩
    have := hr.inj j (ι i) q _ b N N' hq (up0 i q' hq') hl (by rw [ren_live]; exact hl') hρ hρ'
    rw [this, κι] at hk; cases hk
  have ownK : ∀ b, Own K b → Own G0' b ∨ (Own G b ∧ b < w.heap.size ∧ ¬ Own ⟨fun i => G.ρ (ι i), H, G.m⟩ b) := by
    rintro b ⟨j, N, q, hq, hl, hρ⟩
    rcases split j q hq with ⟨i, b0, rfl, _, h3, rfl⟩ | ⟨h1, h2⟩
    · exact .inl ⟨i, N, b0, h3, by rw [ren_live] at hl; exact hl, by rw [← kρ1]; exact hρ⟩
    · rw [kρ2 j h1] at hρ
      exact .inr ⟨⟨j, N, q, h2, hl, hρ⟩, far j b N q h1 h2 hl hρ⟩
  have g2 : GLe G K := by
    refine ⟨fun j b hb => ?_, hf.gle.mem⟩
    cases hk : κ j with
    | none => exact ⟨b, by rw [kget, hk, ← hG]; exact hb, (BStep.refl G j b).congr rfl (kρ2 j hk)⟩
    | some i =>
      have hj : j < H2.length := by rw [← hG]; exact (List.getElem?_eq_some_iff.1 hb).1
      have hi : i < ids.length := by
        simp only [κ] at hk
        split at hk
        · rename_i hm; cases hk; exact List.idxOf_lt_length_of_mem hm
        · simp [hj] at hk
      have hji := ικ j i hk
      subst hji
      have hb1 := up0 i _ (List.getElem?_eq_getElem (l := H) (by omega : i < H.length))
      rw [hb] at hb1
      cases hb1
      obtain ⟨b', hb', hs⟩ := hf.gle.blk i H[i] (List.getElem?_eq_getElem (by omega : i < H.length))
      exact ⟨_, (kup i b' hb').1, hs.ren rfl (kρ1 i)⟩
  refine ⟨K, rfl, ⟨fun j b hb => ?_, fun i j p q b N N' hp hq lp lq r1 r2 => ?_, h'.mem, fun b hb k => ?_, h'.st⟩, ⟨hf.os, hf.tape, hf.output, hf.size, fun b hb ho => ?_, fun b k v hv => ?_, g2⟩, Mem.le_refl _, kup⟩
  · rcases split j b hb with ⟨i, b0, rfl, _, h3, rfl⟩ | ⟨h1, h2⟩
    · exact BR.ren (G0 := G0') (G := K) (ι := ι) (Mem.le_refl _) kup (kρ1 i) (h'.blk i b0 h3)
    · refine (hr.blk j b h2).frm g2 (fun q N hl hρ => ?_) (kρ2 j h1)
      obtain ⟨f1, f2⟩ := far j q N b h1 h2 hl hρ
      exact (hf.keep q f1 f2).1
  · rcases split i p hp with ⟨i0, p0, rfl, _, h3, rfl⟩ | ⟨h1, h2⟩
    · rw [kρ1] at r1
      rw [ren_live] at lp
      rcases split j q hq with ⟨j0, q0, rfl, _, h6, rfl⟩ | ⟨h4, h5⟩
      · rw [kρ1] at r2
        rw [ren_live] at lq
        rw [h'.inj i0 j0 p0 q0 b N N' h3 h6 lp lq r1 r2]
      · rw [kρ2 j h4] at r2
        obtain ⟨f1, f2⟩ := far j b N' q h4 h5 lq r2
        exact absurd ⟨i0, N, p0, h3, lp, r1⟩ (hf.keep b f1 f2).2
    · rw [kρ2 i h1] at r1
      rcases split j q hq with ⟨j0, q0, rfl, _, h6, rfl⟩ | ⟨h4, h5⟩
      · rw [kρ1] at r2
        rw [ren_live] at lq
        obtain ⟨f1, f2⟩ := far i b N p h1 h2 lp r1
        exact absurd ⟨j0, N', q0, h6, lq, r2⟩ (hf.keep b f1 f2).2
      · rw [kρ2 j h4] at r2
        exact hr.inj i j p q b N N' h2 h5 lp lq r1 r2
  · rcases ownK b hb with h | ⟨h1, h2, h3⟩
    · exact h'.sep b h k
    · cases hm : G0'.m b k with
      | none => rfl
      | some v =>
        rcases hf.memNew b k v hm with h | h | h
        · have := hr.sep b h1 k
          rw [show G.m b k = some v from h] at this; cases this
        · exact absurd h h3
        · omega
  · obtain ⟨h1, h2⟩ := hf.keep b hb (fun h => ho (own0 b h))
    refine ⟨h1, fun h => ?_⟩
    rcases ownK b h with h | ⟨h, _⟩
    · exact h2 h
    · exact ho h
  · rcases hf.memNew b k v hv with h | h | h
    · exact .inl h
    · exact .inr (.inl (own0 b h))
    · exact .inr (.inr h)

theorem ren_rel {G : Gh} {w : World} {H H2 : List Blk} {ids : List Nat} (hG : G.H = H2) (hn : ids.Nodup) (hm : matchH (rn ids H2.length) H2 ids H) (hr : HRel G w) (ho : heapOk H.length H = true) :
    HRel ⟨fun i => G.ρ (rn ids H2.length i), H, G.m⟩ w ∧ ∀ {x : List AV} {vs : List Value}, AV.oks H.length x = true → RVs G (AV.rens (rn ids H2.length) x) vs → RVs ⟨fun i => G.ρ (rn ids H2.length i), H, G.m⟩ x vs := by
  generalize hι : rn ids H2.length = ι at *
  have up0 : ∀ id b, H[id]? = some b → G.H[ι id]? = some (b.ren ι) ∧ ∃ h : id < ids.length, ι id = ids[id] := by
    intro id b hb
    obtain ⟨a, h1, h2⟩ := matchH_get hm hb
    have e : ι id = a := by rw [← hι]; exact rn_lt h1
    obtain ⟨h3, h4⟩ := List.getElem?_eq_some_iff.1 h1
    exact ⟨by rw [e, hG]; exact h2, h3, by rw [e, h4]⟩
  let G0 : Gh := ⟨fun i => G.ρ (ι i), H, G.m⟩
  have hb : ∀ id, id < H.length → ∃ b, G0.H[id]? = some b ∧ G.H[ι id]? = some (b.ren ι) ∧ G.ρ (ι id) = G0.ρ id :=
    fun id hid => ⟨H[id], List.getElem?_eq_getElem hid, (up0 id _ (List.getElem?_eq_getElem hid)).1, rfl⟩
  refine ⟨⟨fun i b hbi => ?_, fun i j p q b N N' hp hq lp lq r1 r2 => ?_, hr.mem, fun b hb k => ?_, hr.st⟩, fun hx h => RVs.unren (G0 := G0) (G := G) (ι := ι) (Mem.le_refl _) hb hx h⟩
  · exact BR.unren (G0 := G0) (G := G) (ι := ι) (Mem.le_refl _) hb rfl (heapOk_get ho hbi) (hr.blk _ _ (up0 i b hbi).1)
  · obtain ⟨e1, e2, e3⟩ := up0 i p hp
    obtain ⟨f1, f2, f3⟩ := up0 j q hq
    have := hr.inj _ _ _ _ b N N' e1 f1 (by rw [ren_live]; exact lp) (by rw [ren_live]; exact lq) r1 r2
    rw [e3, f3] at this
    exact (List.getElem_inj hn).1 this
  · obtain ⟨i, N, q, hq, hl, hρ⟩ := hb
    exact hr.sep b ⟨ι i, N, _, (up0 i q hq).1, by rw [ren_live]; exact hl, hρ⟩ k

/-- A contract over a small heap, at a great one. -/
theorem FnT.ren {P : Program} {f : FuncId} {args : List AV} {H H2 : List Blk} {R : AV → List Blk → Prop} (ids : List Nat) (h : FnT P f args H R) (hn : ids.Nodup) (hm : matchH (rn ids H2.length) H2 ids H) (ho : heapOk H.length H = true) (ha : AV.oks H.length args = true) :
    FnT P f (AV.rens (rn ids H2.length) args) H2 fun r H2' => ∃ r' H', R r' H' ∧ r = r'.ren (rn ids H2.length) ∧ H2' = bkL ids H2 (renH (rn ids H2.length) H') := by
  refine ⟨h.1, fun G w vs hG hr hargs => ?_⟩
  obtain ⟨h1, h2⟩ := ren_rel hG hn hm hr ho
  refine (h.2 _ w vs rfl h1 (h2 ha hargs)).mono ?_
  rintro e w' ⟨v, r, G0', rfl, hR, hv, hr', hfr⟩
  obtain ⟨G'', q1, q2, q3, q4, q5⟩ := ren_frame hG hn hm hr hfr hr'
  exact ⟨v, _, G'', rfl, ⟨r, G0'.H, hR, rfl, q1⟩, hv.ren q4 q5, q2, q3⟩

end Go.Gar

/- The frame, part 29: calls by contracts over a small heap; ranges, with the loop's record as a whole. -/
namespace Go.Gar

/-- A contract with one result. -/
def FnD (P : Program) (f : FuncId) (args : List AV) (H : List Blk) (r : AV) (H' : List Blk) : Prop := FnT P f args H fun x K => x = r ∧ K = H'

def nodupB : List Nat → Bool
  | [] => true
  | a :: r => (r.all fun b => !(Nat.beq a b)) && nodupB r
theorem nodupB_ok : ∀ {l : List Nat}, nodupB l = true → l.Nodup
  | [], _ => List.nodup_nil
  | a :: r, h => by
    simp only [nodupB, Bool.and_eq_true, List.all_eq_true] at h
    refine List.nodup_cons.2 ⟨fun ha => ?_, nodupB_ok h.2⟩
    have := h.1 a ha
    simp at this

theorem FnD.ren {P : Program} {f : FuncId} {args : List AV} {H H2 : List Blk} {r : AV} {H' : List Blk} (ids : List Nat) (h : FnD P f args H r H') (hn : nodupB ids = true) (hm : matchH (rn ids H2.length) H2 ids H) (ho : heapOk H.length H = true) (ha : AV.oks H.length args = true) :
    FnD P f (AV.rens (rn ids H2.length) args) H2 (r.ren (rn ids H2.length)) (bkL ids H2 (renH (rn ids H2.length) H')) :=
  (FnT.ren ids h (nodupB_ok hn) hm ho ha).mono fun x K ⟨r', H'', ⟨h1, h2⟩, h3, h4⟩ => by subst h1; subst h2; exact ⟨h3, h4⟩

section
variable {P : Program} {ro : Option Nat} {ops : Array Oper} {i : Nat} {rest : List Oper} {S S0 : St} {Q : Exit → St → Prop} {o : Oper} {E : Nat → Option TyI} {A : Prop} {acc : List Rc}

theorem Wl_D {g : Nat} {args : List AV} {H : List Blk} {r : AV} {H' : List Blk} (ids : List Nat) (hF : FnD P g args H r H') (hg : guardV ops S.env o = some true) (h : evCall S.env o.op = some (g, AV.rens (rn ids S.H.length) args)) (hd : dstOK o.dst S.n = true)
    (hm : matchH (rn ids S.H.length) S.H ids H) (hn : nodupB ids = true) (ho : heapOk H.length H = true) (ha : AV.oks H.length args = true)
    (k : Wl P ro ops (i + 1) rest ⟨pushE o.dst (r.ren (rn ids S.H.length)) S.env, bkL ids S.H (renH (rn ids S.H.length) H'), S.n⟩ Q) : Wl P ro ops i (o :: rest) S Q :=
  Wl_T hg h hd (hF.ren ids hn hm ho ha) fun x K ⟨h1, h2⟩ => by subst h1; subst h2; exact k
theorem Wd_D {g : Nat} {args : List AV} {H : List Blk} {r : AV} {H' : List Blk} (ids : List Nat) (hF : FnD P g args H r H') (hg : guardV ops (rst (looks ops o) S.env) o = some true) (h : evCall (rst (looks ops o) S.env) o.op = some (g, AV.rens (rn ids S.H.length) args)) (hd : dstOK o.dst S.n = true)
    (hm : matchH (rn ids S.H.length) S.H ids H) (hn : nodupB ids = true) (ho : heapOk H.length H = true) (ha : AV.oks H.length args = true)
    (hk : Wd P ro E ops S0 A (⟨rst (looks ops o) S.env, S.H, r.ren (rn ids S.H.length), .eff⟩ :: acc) rest ⟨pushE o.dst (r.ren (rn ids S.H.length)) S.env, bkL ids S.H (renH (rn ids S.H.length) H'), S.n⟩) : Wd P ro E ops S0 A acc (o :: rest) S :=
  Wd_T hg h hd (hF.ren ids hn hm ho ha) hk

/-- A contract with one result, out of the body. -/
theorem FnD_of_W {f : FuncId} {fn : Func} {c : Code} (hE : EOK P E) (hf : P.funcs[f]? = some fn) (hb : fn.body = some c) (hname : (fn.name == "runtime.NumGoroutine") = false) {args : List AV} {H : List Blk} {r : AV} {H' : List Blk} (hn : args.length ≤ fn.ntmps)
    (h : W P none c ⟨envOf 0 args, H, fn.ntmps⟩ (QRet fun S0 => ∃ S', TSub S0 S' ∧ H.length ≤ S'.H.length ∧ ∃ cc x, evRes E S'.env S'.H fn.results.toList = some (cc, x) ∧ cc = true ∧ x = r ∧ S'.H = H')) : FnD P f args H r H' :=
  FnT_of_G hE hf hb hname hn h

/-! ### Ranges -/

/-- The record of a range as it is laid. -/
def Lp.is (r : Lp) (n : Nat) (env : List (Nat × AV)) (ps : Array Tmp) (asg body : Code) : Prop :=
  r.state = .ready ∧ r.pending = none ∧ r.n = n ∧ r.env = env ∧ r.params = ps ∧ r.assign = asg ∧ r.body = body

/-- In a round; left by a jump. -/
def Lp.busy (r : Lp) : Lp := r.at_ .busy none
def Lp.left (r : Lp) (c : Code) : Lp := r.at_ .done (some c)
def Lp.out (r : Lp) : Lp := r.at_ .exhausted r.pending

theorem W_rangeL {g : Operand} {ps : Array Tmp} {asg body : Code} {f : FuncId} {first cap : List AV} (K : Lp → AV → List Blk → Prop) (hg : opd S.env g = some (.fn (.func f) first cap))
    (seq : ∀ r, r.is S.n S.env ps asg body → FnT P f (first ++ [.yl S.H.length] ++ cap) (S.H ++ [.lp r]) (K r))
    (k : ∀ r, r.is S.n S.env ps asg body → ∀ x H', K r x H' →
      (H'[S.H.length]? = some (.lp r) ∧ Q .normal ⟨S.env, H'.set S.H.length (.lp r.out), S.n⟩) ∨
      ∃ c, H'[S.H.length]? = some (.lp (r.left c)) ∧ W P ro c ⟨S.env, H'.set S.H.length (.lp (r.left c).out), S.n⟩ Q) : W P ro (.rangeFunc g ps asg body) S Q := by
  refine W_range (K := fun x H' => ∃ fn, K ⟨.ready, none, fn, S.n, S.env, ps, asg, body⟩ x H') hg (fun fn => (seq _ ⟨rfl, rfl, rfl, rfl, rfl, rfl, rfl⟩).mono fun x H h => ⟨fn, h⟩) ?_
  rintro x H' ⟨fn, h⟩
  rcases k _ ⟨rfl, rfl, rfl, rfl, rfl, rfl, rfl⟩ x H' h with ⟨h1, h2⟩ | ⟨c, h1, h2⟩
  · exact ⟨_, h1, rfl, h2⟩
  · exact ⟨_, h1, rfl, h2⟩

/-- Where a round is left: the record in its next state. -/
def QYl (id n : Nat) (r : Lp) (R : AV → List Blk → Prop) (e : Exit) (S : St) : Prop :=
  ∃ S'', TSub S S'' ∧ n ≤ S''.H.length ∧ S''.H[id]? = some (.lp r.busy) ∧
    match e with
    | .normal => R (.d (.b true)) (S''.H.set id (.lp r))
    | .ret => R (.d (.b false)) (S''.H.set id (.lp (r.left .ret)))
    | .exit i => R (.d (.b false)) (S''.H.set id (.lp (r.left (.exit i))))
    | .goto l => R (.d (.b false)) (S''.H.set id (.lp (r.left (.goto l))))
    | _ => False
def QAs (P : Program) (id n : Nat) (r : Lp) (body : Code) (R : AV → List Blk → Prop) : Exit → St → Prop
  | .normal, S => S.H[id]? = some (.lp r) ∧ W P (some id) body ⟨S.env, S.H.set id (.lp r.busy), S.n⟩ (QYl id n r R)
  | _, _ => False

theorem Lp.busy_at {r : Lp} (h : r.state = .ready) (h2 : r.pending = none) : r.busy.at_ .ready none = r := by
  obtain ⟨a, b, c, d, e, f, g, i⟩ := r
  subst h; subst h2; rfl

theorem YT_of_L {id n : Nat} {env : List (Nat × AV)} {ps : Array Tmp} {asg body : Code} {r : Lp} {H : List Blk} {args : List AV} {R : AV → List Blk → Prop} (hr : r.is n env ps asg body) (hid : H[id]? = some (.lp r)) (hlen : args.length = ps.size) (hps : (ps.toList.all fun t => Nat.blt t n) = true)
    (hb : W P (some id) asg ⟨parE ps.toList args env, H, n⟩ (QAs P id H.length r body R)) : YT P id args H R := by
  obtain ⟨h1, h2, h3, h4, h5, h6, h7⟩ := hr
  subst h3; subst h4; subst h5; subst h6; subst h7
  refine YT_of_W hid h1 hlen (fun t ht => ?_) (hb.mono ?_)
  · rw [List.all_eq_true] at hps
    have := hps t ht
    simpa [Nat.blt_eq] using this
  · intro e S q
    cases e with
    | normal =>
      obtain ⟨q1, q2⟩ := q
      refine ⟨r, q1, h1, ?_⟩
      rw [h2]
      refine W.mono q2 ?_
      rintro e S' ⟨S'', t, hl, hi, hm⟩
      have hlt := (List.getElem?_eq_some_iff.1 hi).1
      cases e with
      | normal => exact ⟨none, rfl, S'', t, hl, hlt, _, hi, by rw [show stateOf none = .ready from rfl, Lp.busy_at h1 h2]; exact hm⟩
      | ret => exact ⟨some .ret, rfl, S'', t, hl, hlt, _, hi, hm⟩
      | exit i => exact ⟨some (.exit i), rfl, S'', t, hl, hlt, _, hi, hm⟩
      | goto l => exact ⟨some (.goto l), rfl, S'', t, hl, hlt, _, hi, hm⟩
      | _ => exact hm.elim
    | _ => exact q.elim

end
end Go.Gar

/- The frame, part 30: the rules of a walk, each with its values in normal form; states cut down to what lives. -/
namespace Go.Gar

theorem fitsI_u8 (u : UInt8) : fitsI .i64 (u.toNat : Int) = true := by
  have := u.toNat_lt; simp [fitsI]; omega
theorem u8z {u : UInt8} (h : u.toNat = 0) : u = 0 := UInt8.toNat_inj.1 h
theorem nbeq (a b : Nat) : Nat.beq a b = decide (a = b) := by
  by_cases h : a = b
  · subst h; simp
  · rw [decide_eq_false h]; cases hb : Nat.beq a b with
    | false => rfl
    | true => exact absurd (Nat.eq_of_beq_eq_true hb) h
theorem wrapI_i64 (n : Int) : wrapI .i64 n = n := rfl
theorem wrapI_u8 (n : Int) : wrapI .u8 n = n % 256 := by
  simp [wrapI, IntKind.wrap, IntKind.bits, IntKind.signed]
theorem wrapI_u64 (n : Int) : wrapI .u64 n = n % 18446744073709551616 := by
  simp [wrapI, IntKind.wrap, IntKind.bits, IntKind.signed]
theorem kwrap_u8 (n : Int) : IntKind.wrap .u8 n = n % 256 := by
  simp [IntKind.wrap, IntKind.bits, IntKind.signed]
theorem fdiv_lit (n : Int) (k : Nat) : n.fdiv ((k : Nat) : Int) = n / (k : Int) := Int.fdiv_eq_ediv_of_nonneg n (Int.natCast_nonneg k)
theorem shr8 (n : Int) : n.fdiv (2 ^ min 8 64) = n / 256 := fdiv_lit n 256
theorem shr16 (n : Int) : n.fdiv (2 ^ min 16 64) = n / 65536 := fdiv_lit n 65536
theorem shr32 (n : Int) : n.fdiv (2 ^ min 32 64) = n / 4294967296 := fdiv_lit n 4294967296

/-- Normal forms of values. -/
theorem tF {p : Prop} (h : true = false) : p := absurd h (by decide)
theorem fT {p : Prop} (h : false = true) : p := absurd h (by decide)
/-- How a condition is read. -/
theorem HCl : (∀ (p : Prop) [Decidable p], (decide p = true) ↔ p) ∧ (∀ (p : Prop) [Decidable p], (decide p = false) ↔ ¬ p) ∧ (∀ b : Bool, ((!b) = true) ↔ b = false) ∧ (∀ b : Bool, ((!b) = false) ↔ b = true) ∧
    (∀ (α : Type) [BEq α] [LawfulBEq α] (a b : α), ((a == b) = true) ↔ a = b) ∧ (∀ (α : Type) [BEq α] [LawfulBEq α] (a b : α), ((a == b) = false) ↔ ¬ a = b) ∧ (∀ (α : Type) [BEq α] [LawfulBEq α] (a b : α), ((a != b) = true) ↔ ¬ a = b) ∧ (∀ (α : Type) [BEq α] [LawfulBEq α] (a b : α), ((a != b) = false) ↔ a = b) ∧
    (∀ (α : Type) (a b : α), (a ≠ b) ↔ ¬ a = b) ∧ (∀ a b : Int, (¬ a < b) ↔ b ≤ a) ∧ (∀ a b : Int, (¬ a ≤ b) ↔ b < a) ∧ (∀ (α : Type) [LE α] (a b : α), (a ≥ b) ↔ b ≤ a) ∧ (∀ (α : Type) [LT α] (a b : α), (a > b) ↔ b < a) :=
  ⟨fun p _ => decide_eq_true_iff, fun p _ => decide_eq_false_iff_not, fun b => by cases b <;> simp, fun b => by cases b <;> simp, fun α _ _ a b => beq_iff_eq, fun α _ _ a b => beq_eq_false_iff_ne, fun α _ _ a b => bne_iff_ne, fun α _ _ a b => bne_eq_false_iff_eq, fun α a b => Iff.rfl, fun a b => Int.not_lt, fun a b => Int.not_le, fun α _ a b => Iff.rfl, fun α _ a b => Iff.rfl⟩
theorem NSl : (∀ n, wrapI .i64 n = n) ∧ (∀ n, wrapI .u8 n = n % 256) ∧ (∀ n, wrapI .u64 n = n % 18446744073709551616) ∧ (∀ n, IntKind.wrap .u8 n = n % 256) ∧ IntKind.bits .i64 = 64 ∧ IntKind.bits .u8 = 8 ∧ IntKind.bits .u64 = 64 ∧
    (∀ n : Int, n.fdiv (2 ^ min 8 64) = n / 256) ∧ (∀ n : Int, n.fdiv (2 ^ min 16 64) = n / 65536) ∧ (∀ n : Int, n.fdiv (2 ^ min 32 64) = n / 4294967296) ∧
    (∀ l, sln (.by l) = l.length) ∧ (∀ l, sln (.is l) = l.length) ∧ (∀ k l, sln (.sl k l) = l.length) ∧ (∀ l, slsz (.by l) = 1) ∧ (∀ l, slsz (.is l) = 1) ∧ (∀ k l, slsz (.sl k l) = k) ∧
    (∀ {α : Type} (a : α) (l : List α), (a :: l).length = l.length + 1) ∧ (∀ {α : Type}, ([] : List α).length = 0) ∧ (∀ {α β : Type} (f : α → β) (l : List α), (l.map f).length = l.length) ∧
    (∀ n : Int, 0 + n = n) ∧ (∀ n : Int, n + 0 = n) ∧ (∀ n : Nat, 0 + n = n) ∧ (∀ n : Nat, n + 0 = n) ∧ (∀ n : Nat, (n : Int).toNat = n) ∧
    (∀ {α : Type} (a : α) (l : List α) (d : α), (a :: l).getD 0 d = a) ∧ (∀ {α : Type} (a : α) (l : List α) (n : Nat) (d : α), (a :: l).getD (n + 1) d = l.getD n d) ∧
    (∀ n l, dropD n (.by l) = .by (l.drop n)) ∧ (∀ n l, dropD n (.is l) = .is (l.drop n)) ∧ (∀ n k l, dropD n (.sl k l) = .sl k (l.drop n)) ∧ (∀ n l, takeD n (.by l) = .by (l.take n)) ∧ (∀ n l, takeD n (.is l) = .is (l.take n)) ∧ (∀ n k l, takeD n (.sl k l) = .sl k (l.take n)) ∧
    (∀ {α : Type} (a b c : List α), a ++ b ++ c = a ++ (b ++ c)) ∧ (∀ {α : Type} (a : List α), [] ++ a = a) ∧ (∀ {α : Type} (x : α) (a b : List α), x :: a ++ b = x :: (a ++ b)) ∧ (∀ {α : Type} (a : List α), a ++ [] = a) ∧
    (∀ {α : Type} (n : Nat) (x : α) (l : List α), (x :: l).drop (n + 1) = l.drop n) ∧ (∀ {α : Type} (l : List α), l.drop 0 = l) ∧ (∀ {α : Type} (n : Nat) (x : α) (l : List α), (x :: l).take (n + 1) = x :: l.take n) ∧ (∀ {α : Type} (l : List α), l.take 0 = []) ∧
    (!true) = false ∧ (!false) = true ∧ (∀ l : List UInt8, (l == l) = true) ∧ (∀ n : Int, (n == n) = true) ∧ (∀ b : Bool, (b == b) = true) ∧ (∀ n : Int, (n != n) = false) ∧ (∀ l : List UInt8, (l != l) = false) ∧ (∀ l : List Int, decide (l = l) = true) ∧ (∀ l : List UInt8, decide (l = l) = true) := by
  refine ⟨wrapI_i64, wrapI_u8, wrapI_u64, kwrap_u8, rfl, rfl, rfl, shr8, shr16, shr32, fun _ => rfl, fun _ => rfl, fun _ _ => rfl, fun _ => rfl, fun _ => rfl, fun _ _ => rfl, fun _ _ => rfl, rfl, fun _ _ => List.length_map _, Int.zero_add, Int.add_zero, Nat.zero_add, Nat.add_zero, Int.toNat_natCast, ?_⟩
  refine ⟨fun _ _ _ => rfl, fun _ _ _ _ => rfl, fun _ _ => rfl, fun _ _ => rfl, fun _ _ _ => rfl, fun _ _ => rfl, fun _ _ => rfl, fun _ _ _ => rfl, List.append_assoc, fun _ => rfl, fun _ _ _ => rfl, List.append_nil, fun _ _ _ => rfl, fun _ => rfl, fun _ _ _ => rfl, fun _ => rfl, rfl, rfl, ?_⟩
  simp
/-- .. of renamed values, of heaps. -/
theorem NHl : (∀ (ι : Nat → Nat) x, AV.ren ι (.d x) = .d x) ∧ (∀ (ι : Nat → Nat), AV.ren ι .u = .u) ∧ (∀ (ι : Nat → Nat), AV.ren ι .e0 = .e0) ∧ (∀ (ι : Nat → Nat) x, AV.ren ι (.dp x) = .dp x) ∧ (∀ (ι : Nat → Nat) a b c, AV.ren ι (.ptr a b c) = .ptr (ι a) b c) ∧ (∀ (ι : Nat → Nat) a b c, AV.ren ι (.sl a b c) = .sl (ι a) b c) ∧
    (∀ (ι : Nat → Nat) a, AV.ren ι (.ag a) = .ag (AV.rens ι a)) ∧ (∀ (ι : Nat → Nat) a, AV.ren ι (.tup a) = .tup (AV.rens ι a)) ∧ (∀ (ι : Nat → Nat) f a b, AV.ren ι (.fn f a b) = .fn f (AV.rens ι a) (AV.rens ι b)) ∧ (∀ (ι : Nat → Nat), AV.rens ι [] = []) ∧ (∀ (ι : Nat → Nat) x l, AV.rens ι (x :: l) = x.ren ι :: AV.rens ι l) ∧
    (∀ k i, rn [] k i = k + i) ∧ (∀ a r k, rn (a :: r) k 0 = a) ∧ (∀ a r k i, rn (a :: r) k (i + 1) = rn r k i) ∧
    (∀ H l, bkL [] H l = H ++ l) ∧ (∀ a r H b l, bkL (a :: r) H (b :: l) = bkL r (H.set a b) l) ∧ (∀ ι : Nat → Nat, renH ι [] = []) ∧ (∀ (ι : Nat → Nat) b l, renH ι (b :: l) = b.ren ι :: renH ι l) ∧
    (∀ (ι : Nat → Nat), Blk.ren ι .gone = .gone) ∧ (∀ (ι : Nat → Nat) l, Blk.ren ι (.c l) = .c (AV.rens ι l)) ∧ (∀ (ι : Nat → Nat) x, Blk.ren ι (.a x) = .a x) ∧
    (∀ {α : Type} (x a : α) (l : List α), (x :: l).set 0 a = a :: l) ∧ (∀ {α : Type} (x a : α) (l : List α) (n : Nat), (x :: l).set (n + 1) a = x :: l.set n a) ∧ (∀ {α : Type} (a : α) (n : Nat), [].set n a = []) ∧
    (∀ {α : Type} (a : List α), [] ++ a = a) ∧ (∀ {α : Type} (x : α) (a b : List α), x :: a ++ b = x :: (a ++ b)) ∧ (∀ {α : Type} (a : List α), a ++ [] = a) ∧ (∀ {α : Type} (a : α) (l : List α), (a :: l).length = l.length + 1) ∧ (∀ {α : Type}, ([] : List α).length = 0) ∧ (∀ n : Nat, 0 + n = n) ∧ (∀ n : Nat, n + 0 = n) := by
  refine ⟨fun _ _ => rfl, fun _ => rfl, fun _ => rfl, fun _ _ => rfl, fun _ _ _ _ => rfl, fun _ _ _ _ => rfl, fun _ _ => rfl, fun _ _ => rfl, fun _ _ _ _ => rfl, fun _ => rfl, fun _ _ _ => rfl, fun _ _ => rfl, fun _ _ _ => rfl, fun _ _ _ _ => rfl, fun _ _ => rfl, fun _ _ _ _ _ => rfl, fun _ => rfl, fun _ _ _ => rfl, fun _ => rfl, fun _ _ => rfl, fun _ _ => rfl, fun _ _ _ => rfl, fun _ _ _ _ => rfl, fun _ _ => rfl, fun _ => rfl, fun _ _ _ => rfl, List.append_nil, fun _ _ => rfl, rfl, Nat.zero_add, Nat.add_zero⟩
/-- Side conditions. -/
theorem SZl : (∀ a b, Nat.beq a b = decide (a = b)) ∧ (∀ n len, (inR n len = true) = (0 ≤ n ∧ n < (len : Int))) ∧ (∀ n, (fitsI .i64 n = true) = (-9223372036854775808 ≤ n ∧ n ≤ 9223372036854775807)) ∧ (∀ n, fitsI .u8 n = true) ∧ (∀ n, fitsI .u64 n = true) ∧
    (∀ l, sln (.by l) = l.length) ∧ (∀ l, sln (.is l) = l.length) ∧ (∀ k l, sln (.sl k l) = l.length) ∧ (∀ l, slsz (.by l) = 1) ∧ (∀ l, slsz (.is l) = 1) ∧ (∀ k l, slsz (.sl k l) = k) ∧
    (∀ l, isSl (.by l) = true) ∧ (∀ l, isSl (.is l) = true) ∧ (∀ k l, isSl (.sl k l) = true) ∧ (∀ {α : Type} (a b : List α), (a ++ b).length = a.length + b.length) ∧ (∀ n : Nat, n * 1 = n) ∧ (∀ n : Nat, 1 * n = n) := by
  refine ⟨nbeq, fun n len => propext inR_iff, fun n => ?_, fun _ => rfl, fun _ => rfl, fun _ => rfl, fun _ => rfl, fun _ _ => rfl, fun _ => rfl, fun _ => rfl, fun _ _ => rfl, fun _ => rfl, fun _ => rfl, fun _ _ => rfl, fun _ _ => List.length_append, Nat.mul_one, Nat.one_mul⟩
  simp only [fitsI, Bool.and_eq_true, decide_eq_true_eq]
mutual
theorem AV.ok_mono {k k' : Nat} (hk : k ≤ k') : ∀ {x : AV}, x.ok k = true → x.ok k' = true
  | .d _, _ => rfl
  | .u, _ => rfl
  | .e0, _ => rfl
  | .dp _, _ => rfl
  | .ptr _ _ _, h => by simp only [AV.ok, Nat.blt_eq] at h ⊢; omega
  | .sl _ _ _, h => by simp only [AV.ok, Nat.blt_eq] at h ⊢; omega
  | .bs _ _ _ _ _, h => by simp only [AV.ok, Nat.blt_eq] at h ⊢; omega
  | .ep _ _ _ _ _, h => by simp only [AV.ok, Nat.blt_eq] at h ⊢; omega
  | .yl _, h => by simp only [AV.ok, Nat.blt_eq] at h ⊢; omega
  | .mp _, h => by simp only [AV.ok, Nat.blt_eq] at h ⊢; omega
  | .ag cs, h => by simp only [AV.ok] at h ⊢; exact AV.oks_mono hk h
  | .tup cs, h => by simp only [AV.ok] at h ⊢; exact AV.oks_mono hk h
  | .fn _ a b, h => by simp only [AV.ok, Bool.and_eq_true] at h ⊢; exact ⟨AV.oks_mono hk h.1, AV.oks_mono hk h.2⟩
theorem AV.oks_mono {k k' : Nat} (hk : k ≤ k') : ∀ {l : List AV}, AV.oks k l = true → AV.oks k' l = true
  | [], _ => rfl
  | x :: r, h => by simp only [AV.oks, Bool.and_eq_true] at h ⊢; exact ⟨AV.ok_mono hk h.1, AV.oks_mono hk h.2⟩
end
theorem Frz_tup {H : List Blk} {xs : List AV} {l : List D} : Frz H (.tup xs) (.tup l) ↔ Frzs H xs l := by simp [Frz]
theorem Frz_ag {H : List Blk} {xs : List AV} {l : List D} : Frz H (.ag xs) (.agg l) ↔ Frzs H xs l := by simp [Frz]
theorem Frzs_cons {H : List Blk} {x : AV} {xs : List AV} {y : D} {l : List D} : Frzs H (x :: xs) (y :: l) ↔ Frz H x y ∧ Frzs H xs l := by
  simp only [Frzs]
  constructor
  · rintro ⟨_, _, h, h1, h2⟩; cases h; exact ⟨h1, h2⟩
  · rintro ⟨h1, h2⟩; exact ⟨_, _, rfl, h1, h2⟩
theorem Frzs_nil {H : List Blk} : Frzs H [] [] ↔ True := by simp [Frzs]
theorem Frz_d {H : List Blk} {x y : D} : Frz H (.d x) y ↔ y = x := by simp [Frz]
theorem Frz_e0 {H : List Blk} {y : D} : Frz H .e0 y ↔ isSl y = true ∧ sln y = 0 ∧ slOk y := by simp [Frz]
theorem Frz_sl {H : List Blk} {i n sz : Nat} {y : D} : Frz H (.sl i n sz) y ↔ H[i]? = some (.a y) ∧ n = sln y := by simp [Frz]
def pushO (dst : Option Tmp) (x : AV) (env : List (Nat × AV)) : Option (List (Nat × AV)) :=
  match dst with
  | some d => some ((d, x) :: env)
  | none => some env
theorem pushO_eq {dst : Option Tmp} {x : AV} {env e : List (Nat × AV)} (h : pushO dst x env = some e) : e = pushE dst x env := by
  cases dst <;> simp_all [pushO, pushE]
def rstX : List Nat → List (Nat × AV) → Option (List (Nat × AV))
  | [], _ => some []
  | t :: r, env => match get env t with
    | some x => match rstX r env with
      | some l => some ((t, x) :: l)
      | none => none
    | none => rstX r env
theorem rstX_eq : ∀ {l : List Nat} {env e : List (Nat × AV)}, rstX l env = some e → e = rst l env
  | [], env, e, h => by simp [rstX] at h; simp [rst, h]
  | t :: r, env, e, h => by
    simp only [rstX] at h
    simp only [rst]
    split at h
    · rename_i x hx
      rw [hx]
      split at h
      · rename_i l hl; cases h; rw [rstX_eq hl]
      · cases h
    · rename_i hx
      rw [hx]
      exact rstX_eq h
def snocX : List Blk → Blk → Option (List Blk)
  | [], b => some [b]
  | x :: r, b => match snocX r b with
    | some l => some (x :: l)
    | none => none
theorem snocX_eq : ∀ {H : List Blk} {b : Blk} {l : List Blk}, snocX H b = some l → l = H ++ [b]
  | [], b, l, h => by simp [snocX] at h; simp [h]
  | x :: r, b, l, h => by
    simp only [snocX] at h
    split at h
    · rename_i q hq; cases h; rw [snocX_eq hq]; rfl
    · cases h

section
variable {P : Program} {ro : Option Nat} {ops : Array Oper} {i : Nat} {rest : List Oper} {S0 : St} {en : List (Nat × AV)} {hp : List Blk} {nt : Nat} {Q : Exit → St → Prop} {o : Oper} {E : Nat → Option TyI} {A : Prop} {acc : List Rc}

/-- The end of a region: what does not live is forgotten. -/
theorem Xn (live : List Nat) {e : List (Nat × AV)} (h : rstX live en = some e) (k : Q .normal ⟨e, hp, nt⟩) : Wl P ro ops i [] ⟨en, hp, nt⟩ Q := by
  have := rstX_eq h
  subst this
  exact Wl_env (fun t x hx => (rst_get hx).2) (Wl_nil k)

theorem Xq (hE : EOK P E) {x x' : AV} {c : Bool} {e : List (Nat × AV)} (hg : guardV ops en o = some true) (h : evQ E en hp o.op = some (c, x)) (hd : dstOK o.dst nt = true) (he : pushO o.dst x' en = some e)
    (k : Wl P ro ops (i + 1) rest ⟨e, hp, nt⟩ Q) (hc : c = true) (hx : x = x' := by first | (simp only [NSl, NHl, Nat.reduceAdd, Int.reduceAdd, Int.reduceSub, Int.reduceMul, Int.reduceToNat, nS]; rfl) | rfl) : Wl P ro ops i (o :: rest) ⟨en, hp, nt⟩ Q := by
  subst hx
  rw [pushO_eq he] at k
  exact Wl_q hE hg h hd hc k
/-- Operations that hand on what is known. -/
def isMv : Op → Bool
  | .move _ | .assign _ | .extract _ _ | .pick _ _ _ => true
  | _ => false
theorem sg {b : Bool} (h : b = true) : b = true := h
theorem gWl {S : St} (k : Wl P ro ops i rest S Q) : Wl P ro ops i rest S Q := k
theorem gWd {S : St} (k : Wd P ro E ops S0 A acc rest S) : Wd P ro E ops S0 A acc rest S := k
theorem Wl_isMv {S : St} (_ : isMv o.op = true) (k : Wl P ro ops i (o :: rest) S Q) : Wl P ro ops i (o :: rest) S Q := k
theorem Wd_isMv {S : St} (_ : isMv o.op = true) (k : Wd P ro E ops S0 A acc (o :: rest) S) : Wd P ro E ops S0 A acc (o :: rest) S := k
theorem Xmv (hE : EOK P E) {x : AV} {e : List (Nat × AV)} (hg : guardV ops en o = some true) (h : evQ E en hp o.op = some (true, x)) (hd : dstOK o.dst nt = true) (he : pushO o.dst x en = some e)
    (k : Wl P ro ops (i + 1) rest ⟨e, hp, nt⟩ Q) : Wl P ro ops i (o :: rest) ⟨en, hp, nt⟩ Q := by
  rw [pushO_eq he] at k
  exact Wl_q hE hg h hd rfl k
theorem Xa (hE : EOK P E) {f : Nat → AV} {b : Blk} {c : Bool} {x' : AV} {e : List (Nat × AV)} {H' : List Blk} (hg : guardV ops en o = some true) (h : evA E en hp o.op = some (c, f, b)) (hd : dstOK o.dst nt = true) (he : pushO o.dst x' en = some e) (hH : snocX hp b = some H')
    (k : Wl P ro ops (i + 1) rest ⟨e, H', nt⟩ Q) (hc : c = true) (hx : f hp.length = x' := by first | (simp only [NSl, NHl, Nat.reduceAdd, Int.reduceAdd, Int.reduceSub, Int.reduceMul, Int.reduceToNat, nS]; rfl) | rfl) : Wl P ro ops i (o :: rest) ⟨en, hp, nt⟩ Q := by
  subst hx
  rw [pushO_eq he, snocX_eq hH] at k
  exact Wl_a hE hg h hd hc k
theorem Xao (hE : EOK P E) {q : D} {c : Bool} {x' : AV} {e : List (Nat × AV)} {H' : List Blk} (hg : guardV ops en o = some true) (h : evAO E en hp o.op = some (c, q)) (hd : dstOK o.dst nt = true) (he : pushO o.dst x' en = some e) (hH : snocX hp (.a q) = some H')
    (k : Wl P ro ops (i + 1) rest ⟨e, H', nt⟩ Q) (hc : c = true) (hx : .sl hp.length (sln q) (slsz q) = x' := by first | (simp only [NSl, NHl, Nat.reduceAdd, Int.reduceAdd, Int.reduceSub, Int.reduceMul, Int.reduceToNat, nS]; rfl) | rfl) : Wl P ro ops i (o :: rest) ⟨en, hp, nt⟩ Q := by
  subst hx
  rw [pushO_eq he, snocX_eq hH] at k
  exact Wl_ao hE hg h hd hc k
def dstIn (dst : Option Tmp) (L : List Nat) : Bool :=
  match dst with
  | some d => L.any (Nat.beq d)
  | none => false
theorem XaoL (L : List Nat) (hE : EOK P E) {q : D} {c : Bool} {x' : AV} {e : List (Nat × AV)} {H' : List Blk} (_ : dstIn o.dst L = true) (hg : guardV ops en o = some true) (h : evAO E en hp o.op = some (c, q)) (hd : dstOK o.dst nt = true) (he : pushO o.dst x' en = some e) (hH : snocX hp (.a q) = some H')
    (k : Wl P ro ops (i + 1) rest ⟨e, H', nt⟩ Q) (hc : c = true) (hx : .sl hp.length (sln q) (slsz q) = x' := by first | (simp only [NSl, NHl, Nat.reduceAdd, Int.reduceAdd, Int.reduceSub, Int.reduceMul, Int.reduceToNat, nS]; rfl) | rfl) : Wl P ro ops i (o :: rest) ⟨en, hp, nt⟩ Q := Xao hE hg h hd he hH k hc hx
theorem Xw (hE : EOK P E) {x x' : AV} {H' : List Blk} {c : Bool} {e : List (Nat × AV)} (hg : guardV ops en o = some true) (h : evW E en hp o.op = some (c, x, H')) (hd : dstOK o.dst nt = true) (he : pushO o.dst x' en = some e)
    (k : Wl P ro ops (i + 1) rest ⟨e, H', nt⟩ Q) (hc : c = true) (hx : x = x' := by first | (simp only [NSl, NHl, Nat.reduceAdd, Int.reduceAdd, Int.reduceSub, Int.reduceMul, Int.reduceToNat, nS]; rfl) | rfl) : Wl P ro ops i (o :: rest) ⟨en, hp, nt⟩ Q := by
  subst hx
  rw [pushO_eq he] at k
  exact Wl_w hE hg h hd hc k
theorem Xs {e : List (Nat × AV)} (hg : guardV ops en o = some false) (hd : dstOK o.dst nt = true) (he : pushO o.dst (.d (.tup [])) en = some e) (k : Wl P ro ops (i + 1) rest ⟨e, hp, nt⟩ Q) : Wl P ro ops i (o :: rest) ⟨en, hp, nt⟩ Q := by
  rw [pushO_eq he] at k
  exact Wl_skip hg hd k
theorem Xsplit {d : Nat} {b : Bool} (hg : gtmp ops o = some d) (hb : get en d = some (.d (.b b)))
    (ht : b = true → Wl P ro ops i (o :: rest) ⟨(d, .d (.b true)) :: en, hp, nt⟩ Q) (hf : b = false → Wl P ro ops i (o :: rest) ⟨(d, .d (.b false)) :: en, hp, nt⟩ Q) : Wl P ro ops i (o :: rest) ⟨en, hp, nt⟩ Q :=
  Wl_split hg hb ht hf
theorem Ysplit {d : Nat} {b : Bool} (hg : gtmp ops o = some d) (hb : get en d = some (.d (.b b)))
    (ht : b = true → Wd P ro E ops S0 A acc (o :: rest) ⟨(d, .d (.b true)) :: en, hp, nt⟩) (hf : b = false → Wd P ro E ops S0 A acc (o :: rest) ⟨(d, .d (.b false)) :: en, hp, nt⟩) : Wd P ro E ops S0 A acc (o :: rest) ⟨en, hp, nt⟩ :=
  Wd_split hg hb ht hf
theorem XF {g : Nat} {ds : List D} {r r' : D} {e : List (Nat × AV)} (hF : Go.Gar.Fn P g ds r) (hg : guardV ops en o = some true) (h : evCall en o.op = some (g, ds.map .d)) (hd : dstOK o.dst nt = true) (he : pushO o.dst (.d r') en = some e)
    (k : Wl P ro ops (i + 1) rest ⟨e, hp, nt⟩ Q) (hr : r = r' := by first | (simp only [NSl, NHl, Nat.reduceAdd, Int.reduceAdd, Int.reduceSub, Int.reduceMul, Int.reduceToNat, nS]; rfl) | rfl) : Wl P ro ops i (o :: rest) ⟨en, hp, nt⟩ Q := by
  subst hr
  rw [pushO_eq he] at k
  exact Wl_Fd hF hg h hd k
/-- .. whose arguments hold slices of no elements. -/
theorem XFz {g : Nat} {xs : List AV} {ds : List D} {r r' : D} {e : List (Nat × AV)} (hF : Go.Gar.Fn P g ds r) (hg : guardV ops en o = some true) (h : evCall en o.op = some (g, xs)) (hd : dstOK o.dst nt = true) (he : pushO o.dst (.d r') en = some e) (hx : AsD xs ds)
    (k : Wl P ro ops (i + 1) rest ⟨e, hp, nt⟩ Q) (hr : r = r' := by first | (simp only [NSl, NHl, Nat.reduceAdd, Int.reduceAdd, Int.reduceSub, Int.reduceMul, Int.reduceToNat, nS]; rfl) | rfl) : Wl P ro ops i (o :: rest) ⟨en, hp, nt⟩ Q := by
  subst hr
  rw [pushO_eq he] at k
  exact Wl_F hg h hd hF hx k
theorem XD {g : Nat} {args : List AV} {H : List Blk} {r r' : AV} {H' H'' : List Blk} {e : List (Nat × AV)} (ids : List Nat) (hF : FnD P g args H r H') (hg : guardV ops en o = some true) (h : evCall en o.op = some (g, AV.rens (rn ids hp.length) args)) (hd : dstOK o.dst nt = true)
    (hm : matchH (rn ids hp.length) hp ids H) (hn : nodupB ids = true) (ho : heapOk H.length H = true) (ha : AV.oks H.length args = true) (he : pushO o.dst r' en = some e)
    (k : Wl P ro ops (i + 1) rest ⟨e, H'', nt⟩ Q) (hr : r.ren (rn ids hp.length) = r' := by first | (simp only [NSl, NHl, Nat.reduceAdd, Int.reduceAdd, Int.reduceSub, Int.reduceMul, Int.reduceToNat, nS]; rfl) | rfl) (hH : bkL ids hp (renH (rn ids hp.length) H') = H'' := by first | (simp only [NHl, Nat.reduceAdd]; rfl) | rfl) : Wl P ro ops i (o :: rest) ⟨en, hp, nt⟩ Q := by
  subst hr; subst hH
  rw [pushO_eq he] at k
  exact Wl_D ids hF hg h hd hm hn ho ha k
theorem Xy {id : Nat} {xs : List AV} {r0 : Lp} {x : AV} {H' : List Blk} {e : List (Nat × AV)} (hT : YT P id xs hp fun r K => r = x ∧ K = H') (hg : guardV ops en o = some true) (h : evYield en o.op = some (id, xs)) (hd : dstOK o.dst nt = true) (hlp : hp[id]? = some (.lp r0)) (he : pushO o.dst x en = some e)
    (k : Wl P ro ops (i + 1) rest ⟨e, H', nt⟩ Q) : Wl P ro ops i (o :: rest) ⟨en, hp, nt⟩ Q := by
  rw [pushO_eq he] at k
  exact Wl_y hg h hd hlp hT fun r K ⟨h1, h2⟩ => by subst h1; subst h2; exact k

theorem W_rangeX {g : Operand} {ps : Array Tmp} {asg body : Code} {f : FuncId} {first cap xs : List AV} {L : Nat} {F : Lp → List Blk} (K : Lp → AV → List Blk → Prop) (hg : opd en g = some (.fn (.func f) first cap)) (hL : hp.length = L) (hxs : first ++ [.yl L] ++ cap = xs) (hF : ∀ r, hp ++ [.lp r] = F r)
    (seq : ∀ r, r.is nt en ps asg body → FnT P f xs (F r) (K r))
    (k : ∀ r, r.is nt en ps asg body → ∀ x H', K r x H' →
      (H'[L]? = some (.lp r) ∧ Q .normal ⟨en, H'.set L (.lp r.out), nt⟩) ∨
      ∃ c, H'[L]? = some (.lp (r.left c)) ∧ W P ro c ⟨en, H'.set L (.lp (r.left c).out), nt⟩ Q) : W P ro (.rangeFunc g ps asg body) ⟨en, hp, nt⟩ Q := by
  subst hL; subst hxs
  exact W_rangeL (S := ⟨en, hp, nt⟩) K hg (fun r hr => by have := seq r hr; rw [← hF] at this; exact this) k

theorem W_hp {c : Code} {hp' : List Blk} (h : hp = hp') (k : W P ro c ⟨en, hp', nt⟩ Q) : W P ro c ⟨en, hp, nt⟩ Q := by subst h; exact k
theorem TSub.refl (S : St) : TSub S S := fun _ _ G _ _ r _ => ⟨G, r, ⟨fun id b b' hb hb' => by rw [hb] at hb'; cases hb'; exact BStep.refl _ _ _, Mem.le_refl _, fun _ h => h, fun _ _ _ h => .inl h⟩⟩

/-- A loop: what holds of the round's number; its state; a measure. -/
def QRI {α : Type} (I : α → Prop) (St0 : α → St) (lt : α → Prop) (k : Nat) (Q : Exit → St → Prop) : Exit → St → Prop
  | .normal, S' => ∃ y, I y ∧ lt y ∧ k ≤ (St0 y).H.length ∧ TSub S' (St0 y)
  | e, S' => Q e S'
theorem W_loopI {α : Type} {c : Code} {S : St} (I : α → Prop) (St0 : α → St) (μ : α → Nat) (x0 : α) (h0 : I x0) (t : TSub S (St0 x0)) (hl : S.H.length ≤ (St0 x0).H.length)
    (body : ∀ x, I x → W P ro c (St0 x) (QRI I St0 (fun y => μ y < μ x) (St0 x).H.length Q)) : W P ro (.loop c) S Q := by
  refine W_loop (α := {x // I x}) (fun x => St0 x.1) (fun x => μ x.1) ⟨x0, h0⟩ t hl (fun x => (body x.1 x.2).mono ?_)
  intro e S' q
  cases e with
  | normal => obtain ⟨y, h1, h2, h3, h4⟩ := q; exact ⟨⟨y, h1⟩, h2, h3, h4⟩
  | _ => exact q

theorem envOk_mono {k k' : Nat} (hk : k ≤ k') {e : List (Nat × AV)} (h : envOk k e = true) : envOk k' e = true := by
  induction e with
  | nil => rfl
  | cons p r ih => simp only [envOk, Bool.and_eq_true] at h ⊢; exact ⟨AV.ok_mono hk h.1, ih h.2⟩
theorem Lp.is.ok {r : Lp} {n : Nat} {env : List (Nat × AV)} {ps : Array Tmp} {asg body : Code} (h : r.is n env ps asg body) {k : Nat} (hk : envOk k env = true) : ∀ k', (decide (k ≤ k')) = true → envOk k' r.env = true ∧ envOk k' r.busy.env = true ∧ envOk k' r.out.env = true ∧ ∀ c, envOk k' (r.left c).env = true := by
  intro k' hle
  have : envOk k' r.env = true := by rw [h.2.2.2.1]; exact envOk_mono (of_decide_eq_true hle) hk
  exact ⟨this, this, this, fun _ => this⟩

/-! ### Drawn regions -/

theorem Yn {id : Nat} (live : List Nat) {e : List (Nat × AV)} (l : List (Nat × Nat)) (hm : P.follows .mixedOrders = true) (hE : EOK P E) (hd : drawOK ops (acc.reverse.map Rc.k) l = true) (hx : extraL E ops acc.reverse hp l) (he : rstX live en = some e) (hQ : Q .normal ⟨e, hp, nt⟩) : Wd P ro E ops S0 (W P ro (.region id ops true) S0 Q) acc [] ⟨en, hp, nt⟩ := by
  have := rstX_eq he
  subst this
  exact Wd_env (fun t x hx => (rst_get hx).2) (Wd_nil (S := ⟨rst live en, hp, nt⟩) l hm hE hd hx hQ)
theorem Yp (hE : EOK P E) {x x' : AV} {c : Bool} {e0 e : List (Nat × AV)} (hl : rstX (looks ops o) en = some e0) (hg : guardV ops e0 o = some true) (h : ∀ H, evQ E e0 H o.op = some (c, x)) (hd : dstOK o.dst nt = true) (he : pushO o.dst x' en = some e)
    (hk : Wd P ro E ops S0 A (⟨e0, hp, x', .any⟩ :: acc) rest ⟨e, hp, nt⟩) (hc : c = true) (hx : x = x' := by first | (simp only [NSl, NHl, Nat.reduceAdd, Int.reduceAdd, Int.reduceSub, Int.reduceMul, Int.reduceToNat, nS]; rfl) | rfl) : Wd P ro E ops S0 A acc (o :: rest) ⟨en, hp, nt⟩ := by
  subst hx
  rw [pushO_eq he] at hk
  have := rstX_eq hl
  subst this
  exact Wd_p hE hg h hd hc hk
theorem Ymv (hE : EOK P E) {x : AV} {e0 e : List (Nat × AV)} (hl : rstX (looks ops o) en = some e0) (hg : guardV ops e0 o = some true) (h : ∀ H, evQ E e0 H o.op = some (true, x)) (hd : dstOK o.dst nt = true) (he : pushO o.dst x en = some e)
    (hk : Wd P ro E ops S0 A (⟨e0, hp, x, .any⟩ :: acc) rest ⟨e, hp, nt⟩) : Wd P ro E ops S0 A acc (o :: rest) ⟨en, hp, nt⟩ := by
  rw [pushO_eq he] at hk
  have := rstX_eq hl
  subst this
  exact Wd_p hE hg h hd rfl hk
theorem Yq {x x' : AV} {c : Bool} {e0 e : List (Nat × AV)} (hl : rstX (looks ops o) en = some e0) (hg : guardV ops e0 o = some true) (h : evQ E e0 hp o.op = some (c, x)) (hd : dstOK o.dst nt = true) (he : pushO o.dst x' en = some e)
    (hk : Wd P ro E ops S0 A (⟨e0, hp, x', .quiet⟩ :: acc) rest ⟨e, hp, nt⟩) (hc : c = true) (hx : x = x' := by first | (simp only [NSl, NHl, Nat.reduceAdd, Int.reduceAdd, Int.reduceSub, Int.reduceMul, Int.reduceToNat, nS]; rfl) | rfl) : Wd P ro E ops S0 A acc (o :: rest) ⟨en, hp, nt⟩ := by
  subst hx
  rw [pushO_eq he] at hk
  have := rstX_eq hl
  subst this
  exact Wd_q hg h hd hc hk
theorem Ys {e0 e : List (Nat × AV)} (hl : rstX (looks ops o) en = some e0) (hg : guardV ops e0 o = some false) (hd : dstOK o.dst nt = true) (he : pushO o.dst (.d (.tup [])) en = some e)
    (hk : Wd P ro E ops S0 A (⟨e0, hp, .d (.tup []), .skip⟩ :: acc) rest ⟨e, hp, nt⟩) : Wd P ro E ops S0 A acc (o :: rest) ⟨en, hp, nt⟩ := by
  rw [pushO_eq he] at hk
  have := rstX_eq hl
  subst this
  exact Wd_skip hg hd hk
theorem YF {g : Nat} {ds : List D} {q q' : D} {e0 e : List (Nat × AV)} (hF : Go.Gar.Fn P g ds q) (hl : rstX (looks ops o) en = some e0) (hg : guardV ops e0 o = some true) (h : evCall e0 o.op = some (g, ds.map .d)) (hd : dstOK o.dst nt = true) (he : pushO o.dst (.d q') en = some e)
    (hk : Wd P ro E ops S0 A (⟨e0, hp, .d q', .any⟩ :: acc) rest ⟨e, hp, nt⟩) (hr : q = q' := by first | (simp only [NSl, NHl, Nat.reduceAdd, Int.reduceAdd, Int.reduceSub, Int.reduceMul, Int.reduceToNat, nS]; rfl) | rfl) : Wd P ro E ops S0 A acc (o :: rest) ⟨en, hp, nt⟩ := by
  subst hr
  rw [pushO_eq he] at hk
  have := rstX_eq hl
  subst this
  exact Wd_Fd hF hg h hd hk
theorem YFz {g : Nat} {xs : List AV} {ds : List D} {q q' : D} {e0 e : List (Nat × AV)} (hF : Go.Gar.Fn P g ds q) (hl : rstX (looks ops o) en = some e0) (hg : guardV ops e0 o = some true) (h : evCall e0 o.op = some (g, xs)) (hd : dstOK o.dst nt = true) (he : pushO o.dst (.d q') en = some e) (hx : AsD xs ds)
    (hk : Wd P ro E ops S0 A (⟨e0, hp, .d q', .any⟩ :: acc) rest ⟨e, hp, nt⟩) (hr : q = q' := by first | (simp only [NSl, NHl, Nat.reduceAdd, Int.reduceAdd, Int.reduceSub, Int.reduceMul, Int.reduceToNat, nS]; rfl) | rfl) : Wd P ro E ops S0 A acc (o :: rest) ⟨en, hp, nt⟩ := by
  subst hr
  rw [pushO_eq he] at hk
  have := rstX_eq hl
  subst this
  exact Wd_F hg h hd hF hx hk
theorem YD {g : Nat} {args : List AV} {H : List Blk} {r r' : AV} {H' H'' : List Blk} {e0 e : List (Nat × AV)} (ids : List Nat) (hF : FnD P g args H r H') (hl : rstX (looks ops o) en = some e0) (hg : guardV ops e0 o = some true) (h : evCall e0 o.op = some (g, AV.rens (rn ids hp.length) args)) (hd : dstOK o.dst nt = true)
    (hm : matchH (rn ids hp.length) hp ids H) (hn : nodupB ids = true) (ho : heapOk H.length H = true) (ha : AV.oks H.length args = true) (he : pushO o.dst r' en = some e)
    (hk : Wd P ro E ops S0 A (⟨e0, hp, r', .eff⟩ :: acc) rest ⟨e, H'', nt⟩) (hr : r.ren (rn ids hp.length) = r' := by first | (simp only [NSl, NHl, Nat.reduceAdd, Int.reduceAdd, Int.reduceSub, Int.reduceMul, Int.reduceToNat, nS]; rfl) | rfl) (hH : bkL ids hp (renH (rn ids hp.length) H') = H'' := by first | (simp only [NHl, Nat.reduceAdd]; rfl) | rfl) : Wd P ro E ops S0 A acc (o :: rest) ⟨en, hp, nt⟩ := by
  subst hr; subst hH
  rw [pushO_eq he] at hk
  have := rstX_eq hl
  subst this
  exact Wd_D ids hF hg h hd hm hn ho ha hk
theorem Ya (hE : EOK P E) {f : Nat → AV} {b : Blk} {c : Bool} {x' : AV} {e0 e : List (Nat × AV)} {H' : List Blk} (hl : rstX (looks ops o) en = some e0) (hg : guardV ops e0 o = some true) (h : evA E e0 hp o.op = some (c, f, b)) (hd : dstOK o.dst nt = true) (he : pushO o.dst x' en = some e) (hH : snocX hp b = some H')
    (hk : Wd P ro E ops S0 A (⟨e0, hp, x', .eff⟩ :: acc) rest ⟨e, H', nt⟩) (hc : c = true) (hx : f hp.length = x' := by first | (simp only [NSl, NHl, Nat.reduceAdd, Int.reduceAdd, Int.reduceSub, Int.reduceMul, Int.reduceToNat, nS]; rfl) | rfl) : Wd P ro E ops S0 A acc (o :: rest) ⟨en, hp, nt⟩ := by
  subst hx
  rw [pushO_eq he, snocX_eq hH] at hk
  have := rstX_eq hl
  subst this
  exact Wd_a hE hg h hd hc hk
theorem Yw (hE : EOK P E) {x x' : AV} {H' : List Blk} {c : Bool} {e0 e : List (Nat × AV)} (hl : rstX (looks ops o) en = some e0) (hg : guardV ops e0 o = some true) (h : evW E e0 hp o.op = some (c, x, H')) (hd : dstOK o.dst nt = true) (he : pushO o.dst x' en = some e)
    (hk : Wd P ro E ops S0 A (⟨e0, hp, x', .eff⟩ :: acc) rest ⟨e, H', nt⟩) (hc : c = true) (hx : x = x' := by first | (simp only [NSl, NHl, Nat.reduceAdd, Int.reduceAdd, Int.reduceSub, Int.reduceMul, Int.reduceToNat, nS]; rfl) | rfl) : Wd P ro E ops S0 A acc (o :: rest) ⟨en, hp, nt⟩ := by
  subst hx
  rw [pushO_eq he] at hk
  have := rstX_eq hl
  subst this
  exact Wd_w hE hg h hd hc hk
end

theorem TSub.trans' {A B C : St} (h : TSub A B) (k : TSub B C) (hlt : C.H.length ≤ B.H.length) : TSub A C := h.trans (fun _ => trivial) k hlt
/-- The slice in a temporary becomes plain data. -/
theorem TSub.frz1 {S : St} (t id : Nat) {x : D} {n sz : Nat} (hid : S.H[id]? = some (.a x)) (ht : get S.env t = some (.sl id n sz)) (hn : n = sln x) : TSub S ⟨(t, .d x) :: S.env, frzH id x 0 S.H, S.n⟩ := by
  intro ro N G a w r _
  have hid' : G.H[id]? = some (.a x) := by rw [r.heap]; exact hid
  obtain ⟨h1, h2⟩ := freeze_rel r.rel hid'
  refine ⟨G.freeze w id x, ⟨by show frzH id x 0 G.H = _; rw [r.heap], h1, r.size, fun u y hy => ?_, r.marks.tle h2, fun i hi => ?_⟩, h2⟩
  · simp only [get] at hy
    split at hy
    · rename_i hb
      cases hy
      have := Nat.eq_of_beq_eq_true hb
      subst this
      obtain ⟨v, hv, hrv⟩ := r.env t _ ht
      refine ⟨v, hv, ?_⟩
      have := hrv.frz r.rel hid'
      simpa [AV.frz, hn] using this
    · obtain ⟨v, hv, hrv⟩ := r.env u y hy
      exact ⟨v, hv, hrv.mono (freeze_gle r.rel hid')⟩
  · obtain ⟨q, l, M, q1, q2⟩ := r.round i hi
    refine ⟨q, l, M, ?_, q2⟩
    have := frzH_get' (id := id) (x := x) (i := 0) q1
    rw [Nat.zero_add, if_neg (fun e => by subst e; rw [hid] at q1; cases q1)] at this
    exact this

/-- A contract whose first argument is a slice of no elements. -/
theorem FnT.e0 {P : Program} {f : FuncId} {rest : List AV} {H : List Blk} {R : AV → List Blk → Prop} (q : D) (hs : isSl q = true) (hl : sln q = 0) (ho : slOk q) (h : FnT P f (.sl H.length 0 (slsz q) :: rest) (H ++ [.a q]) R) : FnT P f (.e0 :: rest) H R := by
  refine ⟨h.1, fun G w vs hG hr hargs => ?_⟩
  obtain ⟨h1, h2⟩ := nil_rel hr hs hl ho
  have hfr : Frm G w (G.nil q) w := (Frm.refl G w).ghost h2 (by show G.H.length ≤ (G.H ++ [Blk.a q]).length; simp)
  have hGH : (G.nil q).H = H ++ [.a q] := by show G.H ++ [Blk.a q] = _; rw [hG]
  have ha : RVs (G.nil q) (.sl H.length 0 (slsz q) :: rest) vs.toList := by
    simp only [RVs] at hargs ⊢
    obtain ⟨v, r, hv, ⟨a, rfl⟩, hr⟩ := hargs
    refine ⟨_, r, hv, ?_, hr.mono (nil_gle G q)⟩
    simp only [RV]
    exact ⟨rfl, .a q, by rw [hGH]; simp, rfl, by omega, fun _ => .inl ⟨trivial, a, rfl⟩⟩
  refine (h.2 (G.nil q) w vs hGH h1 ha).mono ?_
  rintro e w' ⟨v, r, G', rfl, hR, hv, hr', hf⟩
  exact ⟨v, r, G', rfl, hR, hv, hr', hfr.trans hf⟩
end Go.Gar

/- The frame, part 31: from a given row to a pure contract: arguments as plain data; the statement of a law. -/
namespace Go.Gar

/-- The shape of a cell. -/
inductive Sh where
  | int (k : IntKind)
  | bool
  | str
  | by
  | is
  | sl (l : List Sh)

mutual
def OkD : Sh → D → Prop
  | .int k, d => ∃ n, d = .i k n ∧ (Lit.int k n).wf = true
  | .bool, d => ∃ b, d = .b b
  | .str, d => ∃ l, d = .s l ∧ l.length ≤ maxLen
  | .by, d => ∃ l, d = .by l ∧ l.length ≤ maxLen
  | .is, d => ∃ l, d = .is l ∧ l.length ≤ maxLen ∧ ∀ n ∈ l, (Lit.int .i64 n).wf = true
  | .sl shs, d => ∃ es, d = .sl (lenS shs) es ∧ es.length ≤ maxLen ∧ ∀ e ∈ es, OkDs shs e
def OkDs : List Sh → List D → Prop
  | [], ds => ds = []
  | s :: l, ds => ∃ d r, ds = d :: r ∧ OkD s d ∧ OkDs l r
def lenS : List Sh → Nat
  | [] => 0
  | _ :: l => lenS l + 1
end

def repS : Nat → List Sh → List Sh
  | 0, _ => []
  | n + 1, l => l ++ repS n l
mutual
/-- The shapes of a type's cells. -/
def shT (E : Nat → Option TyI) : Nat → Nat → Option (List Sh)
  | 0, _ => none
  | n + 1, t => match E t with
    | none => none
    | some y => match y.k with
      | .int k => some [.int k]
      | .bool => some [.bool]
      | .str => some [.str]
      | .sl e => match E e with
        | none => none
        | some z => match z.k with
          | .int .u8 => match Nat.beq z.size 1 with
            | true => some [.by]
            | false => none
          | .int .i64 => match Nat.beq z.size 1 with
            | true => some [.is]
            | false => none
          | _ => match shT E n e with
            | some l => match Nat.beq (lenS l) z.size, Nat.beq z.size 0 with
              | true, false => some [.sl l]
              | _, _ => none
            | none => none
      | .st fs => match shF E n 0 fs with
        | some l => match Nat.beq (lenS l) y.size with
          | true => some l
          | false => none
        | none => none
      | .arr k e => match E e, shT E n e with
        | some z, some l => match Nat.beq (lenS l) z.size, Nat.beq (k * z.size) y.size with
          | true, true => some (repS k l)
          | _, _ => none
        | _, _ => none
      | _ => none
def shF (E : Nat → Option TyI) : Nat → Nat → List (Nat × Nat) → Option (List Sh)
  | _, _, [] => some []
  | 0, _, _ :: _ => none
  | n + 1, o, (off, ft) :: r => match Nat.beq o off, E ft, shT E n ft with
    | true, some z, some l => match Nat.beq (lenS l) z.size with
      | true => match shF E n (o + z.size) r with
        | some l' => some (l ++ l')
        | none => none
      | false => none
    | _, _, _ => none
end

theorem lenS_len : ∀ l : List Sh, lenS l = l.length
  | [] => rfl
  | _ :: l => by simp [lenS, lenS_len l]

/-- The memory of a world, all of it. -/
def memOf (w : World) : Mem := fun b k => w.cell? ⟨b, k, none⟩

theorem OkDs_app : ∀ {a b : List Sh} {x y : List D}, OkDs a x → OkDs b y → OkDs (a ++ b) (x ++ y)
  | [], b, x, y, h, k => by simp only [OkDs] at h; subst h; exact k
  | s :: a, b, x, y, h, k => by
    simp only [OkDs] at h
    obtain ⟨d, r, rfl, h1, h2⟩ := h
    simp only [List.cons_append, OkDs]
    exact ⟨d, r ++ y, rfl, h1, OkDs_app h2 k⟩
theorem OkDs_len : ∀ {a : List Sh} {x : List D}, OkDs a x → x.length = a.length
  | [], x, h => by simp only [OkDs] at h; simp [h]
  | s :: a, x, h => by
    simp only [OkDs] at h
    obtain ⟨d, r, rfl, _, h2⟩ := h
    simp [OkDs_len h2]
theorem RDs_app {m : Mem} : ∀ {a b : List D} {x y : List Value}, RDs m a x → RDs m b y → RDs m (a ++ b) (x ++ y)
  | [], b, x, y, h, k => by simp only [RDs] at h; subst h; exact k
  | s :: a, b, x, y, h, k => by
    simp only [RDs] at h
    obtain ⟨d, r, rfl, h1, h2⟩ := h
    simp only [List.cons_append, RDs]
    exact ⟨d, r ++ y, rfl, h1, RDs_app h2 k⟩

theorem byte_nat {n : Int} (h : (Lit.int .u8 n).wf = true) : n = ((UInt8.ofNat n.toNat).toNat : Int) := by
  simp [Lit.wf, IntKind.min, IntKind.max, IntKind.signed, IntKind.bits] at h
  rw [UInt8.toNat_ofNat']
  omega

section
variable {P : Program} {E : Nat → Option TyI} {H : Type} {enc : TypeId × Value → H} {w : World} {base : Nat} {sp : Nat → Bool} {held : Bool}

theorem cellsOf_ty {t : Nat} {y : TyI} (h : mkTy P t = some y) : P.cellsOf t = y.size := by
  obtain ⟨i, d, z, h1, _, _, _, h5, _⟩ := mkTy_spec h
  simp [Program.cellsOf, h1, h5]
theorem under_ty {t : Nat} {y : TyI} (h : mkTy P t = some y) : ∃ d, P.underlying t = some d ∧ kOf d = y.k := by
  obtain ⟨i, d, z, _, h2, _, h4, _⟩ := mkTy_spec h
  exact ⟨d, h2, h4.symm⟩

theorem mapM_get {α : Type} {g : Nat → Option α} : ∀ {n s : Nat} {l : List α}, ((List.range' s n).mapM g) = some l → l.length = n ∧ ∀ i, i < n → l[i]? = g (s + i)
  | 0, s, l, h => by simp at h; subst h; simp
  | n + 1, s, l, h => by
    rw [List.range'_succ, List.mapM_cons] at h
    simp only [Option.bind_eq_bind, Option.pure_def, Option.bind_eq_some_iff, Option.some.injEq] at h
    obtain ⟨a, ha, r, hr, rfl⟩ := h
    obtain ⟨h1, h2⟩ := mapM_get hr
    refine ⟨by simp [h1], fun i hi => ?_⟩
    cases i with
    | zero => simp [ha]
    | succ i =>
      simp only [List.getElem?_cons_succ]
      rw [h2 i (by omega), show s + 1 + i = s + (i + 1) by omega]
theorem cells?_get {a : Addr} {n : Nat} {cs : List Value} (h : w.cells? base a n = some cs) : cs.length = n ∧ ∀ i, i < n → cs[i]? = w.cell? (a.add i) := by
  unfold World.cells? at h
  split at h
  · rw [List.range_eq_range'] at h
    obtain ⟨h1, h2⟩ := mapM_get h
    exact ⟨h1, fun i hi => by rw [h2 i hi, Nat.zero_add]⟩
  · cases h
theorem cell_spot {a : Addr} {v : Value} (h : w.cell? a = some v) : a.spot = none := by
  unfold World.cell? at h
  split at h
  · split at h
    · cases h
    · rename_i hs; cases hsp : a.spot with
      | none => rfl
      | some _ => rw [hsp] at hs; simp at hs
  · cases h
theorem add_none (b off k : Nat) : (Addr.mk b off none).add k = ⟨b, off + k, none⟩ := addr_add b off k
/-- Elements that read in a row. -/
theorem open_elems {b off sz : Nat} {shs : List Sh} {n : Nat} (hn : shs.length = sz) (h : ∀ i, i < n → ∃ ds vs, OkDs shs ds ∧ RDs (memOf w) ds vs ∧ (∀ c ∈ vs, c.oneCell' = true) ∧ vs.length = sz ∧ ∀ k, k < sz → vs[k]? = w.cell? ⟨b, off + i * sz + k, none⟩) :
    ∃ es : List (List D), es.length = n ∧ (∀ e ∈ es, OkDs shs e) ∧ RDe (memOf w) sz es b off := by
  induction n generalizing off with
  | zero => exact ⟨[], rfl, by simp, by simp [RDe]⟩
  | succ n ih =>
    obtain ⟨ds, vs, h1, h2, h3, h4, h5⟩ := h 0 (by omega)
    obtain ⟨es, k1, k2, k3⟩ := ih (off := off + sz) (fun i hi => by
      obtain ⟨ds, vs, g1, g2, g3, g4, g5⟩ := h (i + 1) (by omega)
      exact ⟨ds, vs, g1, g2, g3, g4, fun k hk => by rw [g5 k hk, Nat.succ_mul]; congr 2; omega⟩)
    refine ⟨ds :: es, by simp [k1], ?_, ?_⟩
    · intro e he
      rcases List.mem_cons.1 he with rfl | he
      · exact h1
      · exact k2 e he
    · simp only [RDe]
      refine ⟨by rw [OkDs_len h1, hn], RDc_get.2 fun k d hd => ?_, k3⟩
      obtain ⟨hl, hg⟩ := RDs_get.1 h2
      obtain ⟨v, hv, hr⟩ := hg k d hd
      have hk : k < sz := by rw [← h4]; exact (List.getElem?_eq_some_iff.1 hv).1
      refine ⟨v, ?_, h3 v (List.mem_of_getElem? hv), hr⟩
      have := h5 k hk
      rw [hv] at this
      show w.cell? ⟨b, off + k, none⟩ = some v
      rw [this]; congr 2; omega

theorem row_fields {E : Nat → Option TyI} (hE : EOK P E) {cs : List Value} {m : Nat} (ih : ∀ {n t : Nat} {shs : List Sh} {cs : List Value} {x : DataW H × List MemPlace}, n < m → shT E n t = some shs → (∃ fuel, DataW.trod enc P w base sp held fuel t cs = some x) → ∃ ds, OkDs shs ds ∧ RDs (memOf w) ds cs ∧ (∀ c ∈ cs, c.oneCell' = true)) :
    ∀ {n o : Nat} {fs : List (Nat × Nat)} {l : List Sh}, n ≤ m → shF E n o fs = some l → (∀ off ft, (off, ft) ∈ fs → ∃ fuel x, DataW.trod enc P w base sp held fuel ft ((cs.drop off).take (P.cellsOf ft)) = some x) →
      o + l.length ≤ cs.length → ∃ ds, OkDs l ds ∧ RDs (memOf w) ds ((cs.drop o).take l.length) ∧ (∀ c ∈ (cs.drop o).take l.length, c.oneCell' = true)
  | n, o, [], l, _, h, _, _ => by
    cases n <;> simp [shF] at h <;> subst h <;> exact ⟨[], by simp [OkDs], by simp [RDs], by simp⟩
  | 0, o, _ :: _, l, _, h, _, _ => by simp [shF] at h
  | n + 1, o, (off, ft) :: r, l, hnm, h, hx, hl => by
    simp only [shF] at h
    split at h
    · rename_i z l1 hb hz hs
      split at h
      · rename_i hlen
        split at h
        · rename_i l2 h2
          cases h
          have ho := Nat.eq_of_beq_eq_true hb
          subst ho
          have hsz := Nat.eq_of_beq_eq_true hlen
          rw [lenS_len] at hsz
          have hc := cellsOf_ty (hE _ _ hz)
          simp only [List.length_append] at hl
          obtain ⟨fuel, x, hxx⟩ := hx _ _ (List.mem_cons_self)
          obtain ⟨ds1, a1, a2, a3⟩ := ih (by omega) hs ⟨fuel, hxx⟩
          rw [hc, ← hsz] at a2 a3
          obtain ⟨ds2, b1, b2, b3⟩ := row_fields hE (fun h => ih h) (n := n) (by omega) h2 (fun off ft hm => hx off ft (List.mem_cons_of_mem _ hm)) (by omega)
          rw [← hsz] at b2 b3
          have e : (cs.drop o).take (l1 ++ l2).length = (cs.drop o).take l1.length ++ (cs.drop (o + l1.length)).take l2.length := by
            rw [List.length_append, List.take_add, List.drop_drop]
          refine ⟨ds1 ++ ds2, OkDs_app a1 b1, by rw [e]; exact RDs_app a2 b2, fun c hc => ?_⟩
          rw [e] at hc
          rcases List.mem_append.1 hc with hc | hc
          · exact a3 c hc
          · exact b3 c hc
        · cases h
      · cases h
    · cases h

theorem row_array {sz : Nat} {shs : List Sh} (hn : shs.length = sz) : ∀ {k : Nat} {cs : List Value}, cs.length = k * sz → (∀ i, i < k → ∃ ds, OkDs shs ds ∧ RDs (memOf w) ds ((cs.drop (i * sz)).take sz) ∧ ∀ c ∈ (cs.drop (i * sz)).take sz, c.oneCell' = true) →
    ∃ ds, OkDs (repS k shs) ds ∧ RDs (memOf w) ds cs ∧ ∀ c ∈ cs, c.oneCell' = true
  | 0, cs, hl, _ => by
    have : cs = [] := List.eq_nil_of_length_eq_zero (by simpa using hl)
    subst this
    exact ⟨[], by simp [repS, OkDs], by simp [RDs], by simp⟩
  | k + 1, cs, hl, h => by
    rw [Nat.succ_mul] at hl
    obtain ⟨ds1, a1, a2, a3⟩ := h 0 (by omega)
    simp only [Nat.zero_mul, List.drop_zero] at a2 a3
    obtain ⟨ds2, b1, b2, b3⟩ := row_array hn (k := k) (cs := cs.drop sz) (by simp; omega) (fun i hi => by
      obtain ⟨ds, c1, c2, c3⟩ := h (i + 1) (by omega)
      rw [Nat.succ_mul, Nat.add_comm, ← List.drop_drop] at c2 c3
      exact ⟨ds, c1, c2, c3⟩)
    refine ⟨ds1 ++ ds2, by simp only [repS]; exact OkDs_app a1 b1, ?_, fun c hc => ?_⟩
    · rw [← List.take_append_drop sz cs]; exact RDs_app a2 b2
    · rw [← List.take_append_drop sz cs] at hc
      rcases List.mem_append.1 hc with hc | hc
      · exact a3 c hc
      · exact b3 c hc

theorem trod_open {E : Nat → Option TyI} (hE : EOK P E) : ∀ (m : Nat) {n t : Nat} {shs : List Sh} {cs : List Value} {x : DataW H × List MemPlace}, n < m → shT E n t = some shs → (∃ fuel, DataW.trod enc P w base sp held fuel t cs = some x) → ∃ ds, OkDs shs ds ∧ RDs (memOf w) ds cs ∧ (∀ c ∈ cs, c.oneCell' = true)
  | 0, _, _, _, _, _, h, _, _ => by omega
  | m + 1, 0, t, shs, cs, x, _, h, _ => by simp [shT] at h
  | m + 1, n + 1, t, shs, cs, x, hnm, h, ⟨fuel, hx⟩ => by
    simp only [shT] at h
    split at h
    · cases h
    · rename_i y hy
      have hmk := hE _ _ hy
      obtain ⟨dsc, hu, hk⟩ := under_ty hmk
      split at h
      · rename_i k hyk
        cases h
        rw [hyk] at hk
        rw [kOf_int hk] at hu
        obtain ⟨v, rfl, _, hw⟩ := DataW.trod_int hu hx
        exact ⟨[.i k v], by simp [OkDs, OkD, hw], by simp [RDs, RD], by simp [Value.oneCell']⟩
      · rename_i hyk
        cases h
        rw [hyk] at hk
        rw [kOf_bool hk] at hu
        obtain ⟨v, rfl, _⟩ := DataW.trod_bool hu hx
        exact ⟨[.b v], by simp [OkDs, OkD], by simp [RDs, RD], by simp [Value.oneCell']⟩
      · rename_i hyk
        cases h
        rw [hyk] at hk
        rw [kOf_str hk] at hu
        obtain ⟨v, rfl, _, hw⟩ := DataW.trod_string hu hx
        exact ⟨[.s v.data.toList], by simp [OkDs, OkD]; simpa using hw, by simp [RDs, RD], by simp [Value.oneCell']⟩
      · rename_i e hyk
        rw [hyk] at hk
        rw [kOf_sl hk] at hu
        split at h
        · cases h
        · rename_i z hz
          have hmz := hE _ _ hz
          have hc := cellsOf_ty hmz
          obtain ⟨ez, hez, hkz⟩ := under_ty hmz
          -- elements of any kind
          have key : ∀ {sh : List Sh}, sh.length = z.size → z.size ≠ 0 → (∀ {cs : List Value} {x : DataW H × List MemPlace} {fuel : Nat}, DataW.trod enc P w base sp held fuel e cs = some x → ∃ ds, OkDs sh ds ∧ RDs (memOf w) ds cs ∧ (∀ c ∈ cs, c.oneCell' = true)) →
              ∃ a cap es, cs = [.slice a es.length cap] ∧ es.length ≤ cap ∧ es.length ≤ maxLen ∧ (∀ e ∈ es, OkDs sh e) ∧ (es = [] ∨ ∃ b off, a = some ⟨b, off, none⟩ ∧ RDe (memOf w) z.size es b off) := by
            intro sh hsh hnz hel
            rcases DataW.trod_slice hu hx with ⟨rfl, _⟩ | ⟨a, len, cap, elems, rest, n', rfl, rfl, _, _, hlc, hcm, hlen, hget, _⟩
            · exact ⟨none, 0, [], rfl, by simp, by simp, by simp, .inl rfl⟩
            · rcases Nat.eq_zero_or_pos len with h0 | h0
              · subst h0
                exact ⟨some a, cap, [], rfl, by simp, by simp, by simp, .inl rfl⟩
              · have at_ : ∀ i, i < len → ∃ vs x, w.cells? base (a.add (i * z.size)) z.size = some vs ∧ DataW.trod enc P w base sp held n' e vs = some x := by
                  intro i hi
                  have := hget i hi
                  rw [hc, List.getElem?_eq_getElem (by omega)] at this
                  rw [Option.bind_eq_some_iff] at this
                  obtain ⟨vs, h1, h2⟩ := this
                  exact ⟨vs, _, h1, h2⟩
                by_cases hz0 : z.size = 0
                · exact absurd hz0 hnz
                · obtain ⟨vs0, x0, h01, h02⟩ := at_ 0 h0
                  obtain ⟨e01, e02⟩ := cells?_get h01
                  have hsp : a.spot = none := by
                    have h3 := e02 0 (by omega)
                    rw [List.getElem?_eq_getElem (by omega)] at h3
                    have := cell_spot h3.symm
                    simpa [Addr.add] using this
                  obtain ⟨b, off, spt⟩ := a
                  simp only at hsp
                  subst hsp
                  obtain ⟨es, k1, k2, k3⟩ := open_elems (w := w) (b := b) (off := off) (sz := z.size) (shs := sh) (n := len) hsh (fun i hi => by
                    obtain ⟨vs, x', h1, h2⟩ := at_ i hi
                    obtain ⟨ds, d1, d2, d3⟩ := hel h2
                    obtain ⟨e1, e2⟩ := cells?_get h1
                    refine ⟨ds, vs, d1, d2, d3, e1, fun k hk => ?_⟩
                    rw [e2 k hk, add_none, add_none])
                  exact ⟨some ⟨b, off, none⟩, cap, es, by rw [k1], by omega, by omega, k2, .inr ⟨b, off, rfl, k3⟩⟩
          have conv : ∀ {q : D} {es : List (List D)} {a : Option Addr} {cap : Nat}, isSl q = true → slOk q → sln q = es.length → slc q = es.flatten → es.length ≤ cap → (es = [] ∨ ∃ b off, a = some ⟨b, off, none⟩ ∧ RDe (memOf w) z.size es b off) → RD (memOf w) q (.slice a es.length cap) := by
            intro q es a cap q1 q2 q3 q4 hc h5
            refine (RD_sl q1).2 ⟨a, cap, by rw [q3], by omega, q2, ?_⟩
            rcases h5 with rfl | ⟨b, off, ha, hr⟩
            · exact .inl (by simpa using q3)
            · refine .inr ⟨b, off, ha, ?_⟩
              rw [q4]
              exact RDc_get.1 (RDe_flat.1 hr).2
          split at h
          · rename_i hzk
            split at h
            · rename_i hb
              cases h
              have hz1 := Nat.eq_of_beq_eq_true hb
              rw [hzk] at hkz
              rw [kOf_int hkz] at hez
              obtain ⟨a, cap, es, rfl, h1, h2, h3, h4⟩ := key (sh := [.int .u8]) (by simp [hz1]) (by omega) (fun hx => by
                obtain ⟨v, rfl, _, hw⟩ := DataW.trod_int hez hx
                exact ⟨[.i .u8 v], by simp [OkDs, OkD, hw], by simp [RDs, RD], by simp [Value.oneCell']⟩)
              obtain ⟨l, l1, l2⟩ : ∃ l : List UInt8, es.flatten = l.map (fun x => D.i .u8 (x.toNat : Int)) ∧ l.length = es.length := by
                clear h1 h2 h4 conv key hx
                induction es with
                | nil => exact ⟨[], rfl, rfl⟩
                | cons e r ih =>
                  obtain ⟨l, l1, l2⟩ := ih (fun e he => h3 e (by simp [he]))
                  have h0 := h3 e (by simp)
                  simp only [OkDs, OkD] at h0
                  obtain ⟨d, r', rfl, ⟨n, rfl, hw⟩, rfl⟩ := h0
                  exact ⟨UInt8.ofNat n.toNat :: l, by simp only [List.flatten_cons, l1, List.map_cons, ← byte_nat hw, List.cons_append, List.nil_append], by simp [l2]⟩
              refine ⟨[.by l], by simp [OkDs, OkD]; omega, ?_, by simp [Value.oneCell']⟩
              simp only [RDs]
              exact ⟨_, [], rfl, conv (q := .by l) rfl trivial l2 l1.symm h1 h4, rfl⟩
            · cases h
          · rename_i hzk
            split at h
            · rename_i hb
              cases h
              have hz1 := Nat.eq_of_beq_eq_true hb
              rw [hzk] at hkz
              rw [kOf_int hkz] at hez
              obtain ⟨a, cap, es, rfl, h1, h2, h3, h4⟩ := key (sh := [.int .i64]) (by simp [hz1]) (by omega) (fun hx => by
                obtain ⟨v, rfl, _, hw⟩ := DataW.trod_int hez hx
                exact ⟨[.i .i64 v], by simp [OkDs, OkD, hw], by simp [RDs, RD], by simp [Value.oneCell']⟩)
              obtain ⟨l, l1, l2, l3⟩ : ∃ l : List Int, es.flatten = l.map (fun x => D.i .i64 x) ∧ l.length = es.length ∧ ∀ n ∈ l, (Lit.int .i64 n).wf = true := by
                clear h1 h2 h4 conv key hx
                induction es with
                | nil => exact ⟨[], rfl, rfl, by simp⟩
                | cons e r ih =>
                  obtain ⟨l, l1, l2, l3⟩ := ih (fun e he => h3 e (by simp [he]))
                  have h0 := h3 e (by simp)
                  simp only [OkDs, OkD] at h0
                  obtain ⟨d, r', rfl, ⟨n, rfl, hw⟩, rfl⟩ := h0
                  refine ⟨n :: l, by simp only [List.flatten_cons, l1, List.map_cons, List.cons_append, List.nil_append], by simp [l2], fun n' hn' => ?_⟩
                  rcases List.mem_cons.1 hn' with rfl | hn'
                  · exact hw
                  · exact l3 n' hn'
              refine ⟨[.is l], ?_, ?_, by simp [Value.oneCell']⟩
              · simp only [OkDs, OkD]
                exact ⟨_, [], rfl, ⟨l, rfl, by omega, l3⟩, rfl⟩
              · simp only [RDs]
                exact ⟨_, [], rfl, conv (q := .is l) rfl trivial l2 l1.symm h1 h4, rfl⟩
            · cases h
          · split at h
            · rename_i l hl
              split at h
              · rename_i hb hb0
                cases h
                have hz1 := Nat.eq_of_beq_eq_true hb
                rw [lenS_len] at hz1
                obtain ⟨a, cap, es, rfl, h1, h2, h3, h4⟩ := key (sh := l) hz1 (fun e => by rw [e] at hb0; cases hb0) (fun hx => trod_open hE m (by omega) hl ⟨_, hx⟩)
                refine ⟨[.sl (lenS l) es], ?_, ?_, by simp [Value.oneCell']⟩
                · simp only [OkDs, OkD]
                  exact ⟨_, [], rfl, ⟨es, rfl, h2, h3⟩, rfl⟩
                · simp only [RDs]
                  refine ⟨_, [], rfl, conv (q := .sl (lenS l) es) rfl (fun e he => by rw [OkDs_len (h3 e he), lenS_len]) rfl rfl h1 h4, rfl⟩
              · cases h
            · cases h
      · rename_i fs hyk
        rw [hyk] at hk
        obtain ⟨q, rfl, rfl⟩ := kOf_st hk
        split at h
        · rename_i l hl
          split at h
          · rename_i hb
            cases h
            have hz1 := Nat.eq_of_beq_eq_true hb
            rw [lenS_len] at hz1
            obtain ⟨xs, n', rfl, _, hlen, hxl, hget⟩ := DataW.trod_struct hu hx
            rw [cellsOf_ty hmk] at hlen
            obtain ⟨ds, d1, d2, d3⟩ := row_fields (m := m) hE (fun hh hs ⟨fuel, hx⟩ => trod_open hE m hh hs ⟨fuel, hx⟩) (cs := cs) (n := n) (by omega) hl (fun off ft hm => by
              simp only [List.mem_map, Prod.mk.injEq] at hm
              obtain ⟨f, hf, rfl, rfl⟩ := hm
              obtain ⟨i, hi, hfi⟩ := List.mem_iff_getElem.1 hf
              have hq : q[i]? = some f := by
                rw [← Array.getElem?_toList, List.getElem?_eq_getElem hi, hfi]
              have := hget i f hq
              have hi' : i < q.size := by simpa using hi
              rw [List.getElem?_eq_getElem (by omega)] at this
              exact ⟨n', _, this⟩) (by omega)
            rw [List.drop_zero, hz1, ← hlen, List.take_length] at d2 d3
            exact ⟨ds, d1, d2, d3⟩
          · cases h
        · cases h
      · rename_i k e hyk
        rw [hyk] at hk
        rw [kOf_arr hk] at hu
        split at h
        · rename_i z l hz hl
          split at h
          · rename_i hb hb2
            cases h
            have hz1 := Nat.eq_of_beq_eq_true hb
            have hz2 := Nat.eq_of_beq_eq_true hb2
            rw [lenS_len] at hz1
            have hc := cellsOf_ty (hE _ _ hz)
            obtain ⟨xs, n', rfl, _, hlen, hxl, hget⟩ := DataW.trod_array hu hx
            rw [cellsOf_ty hmk, ← hz2] at hlen
            refine row_array hz1 hlen (fun i hi => ?_)
            have := hget i hi
            rw [List.getElem?_eq_getElem (by omega), hc] at this
            exact trod_open hE m (by omega) hl ⟨n', this⟩
          · cases h
        · cases h
      · cases h
end
end Go.Gar

/- The frame, part 32: the statement of a law, out of a pure contract. -/
namespace Go.Gar
open Go.ChangeShapes Go.WideShapes Go.ChangeAt Go.RowKit

def okPar (E : Nat → Option TyI) (t : Nat) (d : D) : Prop :=
  match E t, shT E 40 t with
  | some y, some shs => match y.agg with
    | true => ∃ l, d = .agg l ∧ OkDs shs l
    | false => ∃ s, shs = [s] ∧ OkD s d
  | _, _ => False
def okPars (E : Nat → Option TyI) : List Nat → List D → Prop
  | [], ds => ds = []
  | t :: ts, ds => ∃ d r, ds = d :: r ∧ okPar E t d ∧ okPars E ts r
/-- A parameter of a type that is read. -/
def parB (E : Nat → Option TyI) (t : Nat) : Bool :=
  match E t, shT E 40 t with
  | some y, some shs => match y.agg, y.k, shs with
    | true, .st _, _ => true
    | true, .arr _ _, _ => true
    | false, .int _, [_] => true
    | false, .bool, [_] => true
    | false, .str, [_] => true
    | false, .sl _, [_] => true
    | _, _, _ => false
  | _, _ => false

section
variable {P : Program} {E : Nat → Option TyI} {H : Type} {enc : TypeId × Value → H} {W : World} {base : Nat} {sp : Nat → Bool} {held : Bool}

theorem par_open (hE : EOK P E) {t : Nat} {v : Value} {d : DataW H} {ps : List MemPlace} {b0 : Nat} {r : Reach} (hb : parB E t = true) (h : DataW.Trod enc P W base sp held t v d ps) (ho : Value.okWide P W r b0 t v) : ∃ x, okPar E t x ∧ RD (memOf W) x v := by
  unfold parB at hb
  unfold okPar
  cases hy : E t with
  | none => rw [hy] at hb; simp at hb
  | some y =>
    cases hs : shT E 40 t with
    | none => rw [hy, hs] at hb; simp at hb
    | some shs =>
      rw [hy, hs] at hb
      simp only at hb ⊢
      obtain ⟨fuel, hf⟩ := h
      obtain ⟨ds, d1, d2, d3⟩ := trod_open hE 41 (by omega) hs ⟨fuel, hf⟩
      obtain ⟨dsc, hu, hk⟩ := under_ty (hE _ _ hy)
      have notagg : (∀ cs, v ≠ .agg cs) → v.cells.toList = [v] := fun h => by cases v <;> first | rfl | exact absurd rfl (h _)
      have fin : ∀ s, shs = [s] → (∀ cs, v ≠ .agg cs) → ∃ x, (∃ s, shs = [s] ∧ OkD s x) ∧ RD (memOf W) x v := by
        intro s hs' hna
        subst hs'
        rw [notagg hna] at d2
        simp only [OkDs] at d1
        obtain ⟨x, r, rfl, h1, rfl⟩ := d1
        simp only [RDs] at d2
        obtain ⟨u, q, e, h2, rfl⟩ := d2
        cases e
        exact ⟨x, ⟨s, rfl, h1⟩, h2⟩
      split at hb
      · rename_i ha hk'
        simp only [ha]
        obtain ⟨q, hq, _⟩ := kOf_st (hk.trans hk')
        subst hq
        unfold Value.okWide at ho
        rw [hu] at ho
        obtain ⟨cs, rfl, _⟩ := ho
        exact ⟨.agg ds, ⟨ds, rfl, d1⟩, by simp only [RD]; exact ⟨cs.toList, by simp, d2⟩⟩
      · rename_i ha hk'
        simp only [ha]
        have hq := kOf_arr (hk.trans hk')
        subst hq
        unfold Value.okWide at ho
        rw [hu] at ho
        obtain ⟨cs, rfl, _⟩ := ho
        exact ⟨.agg ds, ⟨ds, rfl, d1⟩, by simp only [RD]; exact ⟨cs.toList, by simp, d2⟩⟩
      · rename_i s ha hk'
        simp only [ha]
        have hq := kOf_int (hk.trans hk')
        subst hq
        refine fin s rfl fun cs e => ?_
        subst e
        simp [Value.okWide, Cell.okWide, Cell.ok, hu] at ho
      · rename_i s ha hk'
        simp only [ha]
        have hq := kOf_bool (hk.trans hk')
        subst hq
        refine fin s rfl fun cs e => ?_
        subst e
        simp [Value.okWide, Cell.okWide, Cell.ok, hu] at ho
      · rename_i s ha hk'
        simp only [ha]
        have hq := kOf_str (hk.trans hk')
        subst hq
        refine fin s rfl fun cs e => ?_
        subst e
        simp [Value.okWide, Cell.okWide, Cell.ok, hu] at ho
      · rename_i s ha hk'
        simp only [ha]
        have hq := kOf_sl (hk.trans hk')
        subst hq
        refine fin s rfl fun cs e => ?_
        subst e
        simp [Value.okWide, Cell.okWide, Cell.ok, hu] at ho
      · cases hb

theorem pars_open (hE : EOK P E) {b0 : Nat} {r : Reach} : ∀ {ts : List Nat} {vs : List Value} {ds : List (DataW H)} {ps : List MemPlace}, ts.all (parB E) = true → DataW.TrodAll enc P W base sp held ts vs ds ps → (∀ (j : Nat) t v, ts[j]? = some t → vs[j]? = some v → Value.okWide P W r b0 t v) →
    (∃ xs, okPars E ts xs ∧ RDs (memOf W) xs vs) ∧ ds.length = ts.length
  | [], [], [], _, _, _, _ => ⟨⟨[], by simp [okPars], by simp [RDs]⟩, rfl⟩
  | t :: ts, v :: vs, d :: ds, ps, hb, h, ho => by
    simp only [List.all_cons, Bool.and_eq_true] at hb
    obtain ⟨p, q, h1, h2, _⟩ := h
    obtain ⟨x, x1, x2⟩ := par_open hE hb.1 h1 (ho 0 t v rfl rfl)
    obtain ⟨⟨xs, y1, y2⟩, hl⟩ := pars_open hE hb.2 h2 (fun j t v ht hv => ho (j + 1) t v (by simpa using ht) (by simpa using hv))
    exact ⟨⟨x :: xs, by simp only [okPars]; exact ⟨x, xs, rfl, x1, y1⟩, by simp only [RDs]; exact ⟨v, vs, rfl, x2, y2⟩⟩, by simp [hl]⟩
  | [], [], _ :: _, _, _, h, _ => h.elim
  | [], _ :: _, _, _, _, h, _ => by cases h
  | _ :: _, [], _, _, _, h, _ => by cases h
  | _ :: _, _ :: _, [], _, _, h, _ => by cases h

theorem trodAll_stays (hl : laidOutB P = true) {W' : World} (hb : Below W.heap.size W W') : ∀ {ts : List Nat} {vs : List Value} {ds : List (DataW H)} {ps : List MemPlace}, (ts.all fun t => P.readableRec t && decide (t < P.types.size)) = true → DataW.TrodAll enc P W 0 (fun _ => true) true ts vs ds ps → (∀ x ∈ ps, x.block < W.heap.size) →
    DataW.TrodAll enc P W' 0 (fun b => decide (b < W.heap.size)) true ts vs ds ps
  | [], [], [], _, _, h, _ => h
  | t :: ts, v :: vs, d :: ds, ps, hr, h, hlt => by
    simp only [List.all_cons, Bool.and_eq_true, decide_eq_true_eq] at hr
    obtain ⟨p, q, h1, h2, rfl⟩ := h
    exact ⟨p, q, Below.trod hl hr.1.1 hr.1.2 h1 hb (fun x hx => hlt x (by simp [hx])), trodAll_stays hl hb (by simpa using hr.2) h2 (fun x hx => hlt x (by simp [hx])), rfl⟩
  | [], [], _ :: _, _, _, h, _ => h.elim
  | [], _ :: _, _, _, _, h, _ => by cases h
  | _ :: _, [], _, _, _, h, _ => by cases h
  | _ :: _, _ :: _, [], _, _, h, _ => by cases h

theorem keptBut_of {W W' : World} (ho : W'.os = W.os) (hout : W'.output = W.output) (h : ∀ b, b < W.heap.size → W'.heap[b]? = W.heap[b]?) (may : MemPlace → Prop) : W.keptBut W' may := by
  refine ⟨ho, hout, fun i hi => ?_⟩
  rw [h i hi]
  exact (World.keptBut_refl W may).2.2 i hi

/-- What a law's call comes to. -/
theorem law_calls {fn : Func} {f : FuncId} {s : ChangeSpec} {tb : Nat} (hE : EOK P E) (hl : laidOutB P = true) (hr : (fn.params.toList.all fun t => P.readableRec t && decide (t < P.types.size)) = true) (hp : fn.params.toList.all (parB E) = true)
    (hres : fn.resultTypes.toList = [tb]) (htb : P.underlying tb = some .bool) (hvars : s.vars = []) (hs : ∀ (H : Type) (ds : List (DataW H)), ds.length = fn.params.toList.length → s.fn H ds = { results := [.lit (.bool true)], args := ds })
    (hF : ∀ xs, okPars E fn.params.toList xs → Go.Gar.Fn P f xs (.b true)) {args : Array Value} {ds gs : List (DataW H)} {before : List MemPlace}
    (hval : ∀ (j : Nat) t v, fn.params[j]? = some t → args[j]? = some v → Value.okWide P W .any base t v) (hW : DataW.Whole enc P fn.params.toList s.vars false W args.toList ds gs before) (hst : SOK (memOf W) := by intro b k v h; cases h) :
    Calls P f args W fun e W' => ∃ v, e = .returned v ∧ s.post enc P fn false true false false W args v W' := by
  have hW' := hW
  obtain ⟨p, q, hA, hV, rfl, _, _⟩ := hW
  rw [hvars] at hV
  obtain ⟨rfl, rfl⟩ := trodVars_none hV
  obtain ⟨⟨xs, x1, x2⟩, hlen⟩ := pars_open hE hp hA (fun j t v ht hv => hval j t v (by simpa using ht) (by simpa using hv))
  have hc := (hF xs x1).2 (memOf W) W args (fun b k v h => h) hst x2
  rw [callsIn_wide] at hc
  refine hc.mono ?_
  rintro e W' ⟨v, m', rfl, h1, _, _, _, h5, h6, h7, h8, h9⟩
  simp only [RD] at h1
  subst h1
  have hb : Below W.heap.size W W' := ⟨h5, h6, h7, h8, h9⟩
  have hlt : ∀ x ∈ p, x.block < W.heap.size := fun x hx => hW'.lt x (by simp [hx])
  have hsz : fn.resultTypes.size = 1 := by
    have := congrArg List.length hres; simpa using this
  refine ⟨_, rfl, ds, [], p ++ [], [], p, [], hW', ?_, ?_, ?_, keptBut_of h5 h7 h9 _, fun h => by cases h⟩
  · rw [hs H (ds ++ []) (by simpa using hlen), hres]
    simp only [Value.resultList, hsz, if_true]
    exact trodAll_mk1 (shut_bool htb true)
  · rw [hs H (ds ++ []) (by simpa using hlen)]
    rw [List.append_nil]
    exact trodAll_stays hl hb hr hA hlt
  · rw [hs H (ds ++ []) (by simpa using hlen), hvars]
    rfl

end
end Go.Gar
