/- Written by a program (pre.py) from the source of the same name. -/
/- How a circle ought to be: with a member more: the plain law. -/
import Derived.Test.YtjiejhikjlhchaaDoorIdealN
set_option linter.unusedSimpArgs false
set_option linter.unusedVariables false
set_option linter.unnecessarySimpa false
namespace Go.Proofs.YtjiejhikjlhchaaDoor
open Go.Gar
set_option maxRecDepth 4000

theorem mem_dropT {l : List Int} {d x : Int} : x ∈ dropT l d ↔ x ∈ l ∧ x ≠ d := by simp [dropT, List.mem_filter]
theorem drop_take (q : Int) (r : List Int) (k : Nat) : dropT (r.take k) q = (dropT r q).take (dropT (r.take k) q).length := by
  have h : dropT r q = dropT (r.take k) q ++ dropT (r.drop k) q := by
    unfold dropT; rw [← List.filter_append, List.take_append_drop]
  rw [h, List.take_left']; rfl
theorem drop_eq {q : Int} {r : List Int} (h : (dropT r q).length = r.length) : dropT r q = r ∧ q ∉ r := by
  have h2 : ∀ x ∈ r, (x != q) = true := by
    have := List.length_filter_eq_length_iff.1 (show (r.filter fun x => x != q).length = r.length from h)
    exact this
  exact ⟨List.filter_eq_self.2 h2, fun hm => by have := h2 q hm; simp at this⟩
structure MoreOK (l m : List Int) (q : Int) : Prop where
  len : m.length = l.length + 1
  right : rightM m = true
  mem : ∀ y, y ∈ m ↔ y ∈ l ∨ y = q
theorem more_ok {l : List Int} {q : Int} (hR : rightM l = true) (h11 : l.length < 12) (hq : isPl q = true) (hn : q ∉ l) : MoreOK l (memT (l ++ [q])) q := by
  obtain ⟨r1, r2, r3, r4⟩ := rightM_t hR
  obtain ⟨h1, h2⟩ := memT_spec (l ++ [q])
  have hm : ∀ y, y ∈ memT (l ++ [q]) ↔ y ∈ l ∨ y = q := fun y => by
    rw [h2]
    simp only [List.mem_append, List.mem_singleton]
    constructor
    · exact fun h => h.1
    · rintro (h | h)
      · exact ⟨.inl h, r4 y h⟩
      · exact ⟨.inr h, h ▸ hq⟩
  have hnd : (l ++ [q]).Nodup := by
    rw [List.nodup_append]
    refine ⟨pw_nodup r3, by simp, fun a ha b hb => ?_⟩
    rw [List.mem_singleton.1 hb]
    exact fun e => hn (e ▸ ha)
  have hlen : (memT (l ++ [q])).length = l.length + 1 := by
    have a1 := (pw_nodup h1).length_le_of_subset (l₂ := l ++ [q]) fun x hx => by
      rcases (hm x).1 hx with h | h
      · exact List.mem_append_left _ h
      · exact List.mem_append_right _ (List.mem_singleton.2 h)
    have a2 := hnd.length_le_of_subset (l₂ := memT (l ++ [q])) fun x hx => (hm x).2 (by
      rcases List.mem_append.1 hx with h | h
      · exact .inl h
      · exact .inr (List.mem_singleton.1 h))
    simp only [List.length_append, List.length_singleton] at a1 a2
    omega
  exact ⟨hlen, mem_right (by omega) (by omega), hm⟩
/-- The others, but for the new one. -/
theorem more_rot {l m : List Int} {q x : Int} (hR : rightM l = true) (ok : MoreOK l m q) (hn : q ∉ l) (hx : x ∈ l) : dropT (rotT x m) q = rotT x l := by
  obtain ⟨r1, r2, r3, r4⟩ := rightM_t hR
  obtain ⟨m1, m2, m3, m4⟩ := rightM_t ok.right
  have hxp := r4 x hx
  refine upT_unique ((rot_up hxp m4 m3).sublist List.filter_sublist) (rot_up hxp r4 r3) fun y => ?_
  rw [mem_dropT, rot_mem, rot_mem, ok.mem]
  constructor
  · rintro ⟨⟨h | h, h2⟩, h3⟩
    · exact ⟨h, h2⟩
    · exact absurd h h3
  · rintro ⟨h, h2⟩
    exact ⟨⟨.inl h, h2⟩, fun e => hn (e ▸ h)⟩
theorem more_list {l m : List Int} {q x : Int} (hR : rightM l = true) (ok : MoreOK l m q) (hn : q ∉ l) (hx : x ∈ l) :
    ((dropT (listT m x) q).length = (listT m x).length → listT m x = listT l x) ∧ dropT (listT m x) q = (listT l x).take (dropT (listT m x) q).length := by
  have hxm := (ok.mem x).2 (.inl hx)
  have hqm := (ok.mem q).2 (.inr rfl)
  have e1 : listT m x = (rotT x m).take 3 := by unfold listT; rw [oth_yes ok.right hxm]
  have e2 : listT l x = (rotT x l).take 3 := by unfold listT; rw [oth_yes hR hx]
  have hr := more_rot hR ok hn hx
  have hlen := rot_len (rightM_t ok.right).2.2.1 hxm
  have hqr : q ∈ rotT x m := rot_mem.2 ⟨hqm, fun e => hn (e ▸ hx)⟩
  rw [e1, e2, ← hr]
  generalize rotT x m = r at *
  have hp := drop_take q r 3
  have hle : (dropT (r.take 3) q).length ≤ 3 := Nat.le_trans (dropT_len _ _) (List.length_take_le _ _)
  refine ⟨fun h => ?_, ?_⟩
  · obtain ⟨h1, h2⟩ := drop_eq h
    have h3 : 3 ≤ r.length := by
      rcases Nat.lt_or_ge r.length 3 with h4 | h4
      · rw [List.take_of_length_le (by omega)] at h2; exact absurd hqr h2
      · exact h4
    rw [h1] at hp
    rw [List.length_take, Nat.min_eq_left h3] at hp
    exact hp
  · rw [List.take_take, Nat.min_eq_left hle]; exact hp
theorem last_drop {r : List Int} {q : Int} (h : r.getLastD (-1) ≠ q) (hr : r ≠ []) : (dropT r q).getLastD (-1) = r.getLastD (-1) := by
  obtain ⟨a, z, rfl⟩ : ∃ a z, r = a ++ [z] := ⟨r.dropLast, r.getLast hr, (List.dropLast_concat_getLast hr).symm⟩
  have hz : (a ++ [z]).getLastD (-1) = z := by rw [List.getLastD_eq_getLast?, List.getLast?_concat]; rfl
  rw [hz] at h ⊢
  have e : dropT (a ++ [z]) q = dropT a q ++ [z] := by
    unfold dropT
    rw [List.filter_append, List.filter_cons_of_pos (by simpa using h)]; rfl
  rw [e, List.getLastD_eq_getLast?, List.getLast?_concat]; rfl
/-- Who is ahead changes for the one behind the new one alone. -/
theorem more_pred {l m : List Int} {q x : Int} (hR : rightM l = true) (ok : MoreOK l m q) (hn : q ∉ l) (hx : x ∈ l) :
    (listT m q)[0]? = some ((listT m q).getD 0 0) ∧ ((listT m q).getD 0 0 = x → predT m x = q) ∧ ((listT m q).getD 0 0 ≠ x → predT m x = predT l x) := by
  have hxm := (ok.mem x).2 (.inl hx)
  have hqm := (ok.mem q).2 (.inr rfl)
  have h2 : 2 ≤ m.length := by have := (rightM_t hR).1; have := ok.len; omega
  obtain ⟨j, hj, hjq⟩ := List.mem_iff_getElem.1 hqm
  obtain ⟨hix, g1⟩ := rot_head ok.right h2 hj
  obtain ⟨_, g2⟩ := rot_last ok.right h2 hj
  rw [hjq] at g1 g2
  have g3 : (listT m q).getD 0 0 = m[ixR m.length j 1] := by rw [List.getD_eq_getElem?_getD, g1]; rfl
  refine ⟨by rw [g3]; exact g1, fun h => by rw [g3] at h; rw [h] at g2; exact g2, fun h => ?_⟩
  rw [g3] at h
  have e1 : predT m x = (rotT x m).getLastD (-1) := by unfold predT; rw [oth_yes ok.right hxm]
  have e2 : predT l x = (rotT x l).getLastD (-1) := by unfold predT; rw [oth_yes hR hx]
  have hlen := rot_len (rightM_t ok.right).2.2.1 hxm
  have hr0 : rotT x m ≠ [] := List.length_pos_iff.1 (by omega)
  rw [e1, e2, ← more_rot hR ok hn hx]
  refine (last_drop (fun hl => h ?_) hr0).symm
  obtain ⟨i, hi, hix2⟩ := List.mem_iff_getElem.1 hxm
  -- the one ahead of x is q: so x stands behind q
  have hN : ∃ i', ∃ h' : i' < m.length, ixR m.length i' 1 = i := by
    by_cases h0 : i = 0
    · exact ⟨m.length - 1, by omega, by unfold ixR; rw [if_neg (by omega)]; omega⟩
    · exact ⟨i - 1, by omega, by unfold ixR; rw [if_pos (by omega)]; omega⟩
  obtain ⟨i', hi', e⟩ := hN
  obtain ⟨_, g4⟩ := rot_last ok.right h2 hi'
  simp only [e] at g4
  rw [hix2, e1, hl] at g4
  have hnd := pw_nodup (rightM_t ok.right).2.2.1
  have : j = i' := (List.getElem_inj hnd).1 (hjq.trans g4)
  subst this
  simp only [e]
  exact hix2
end Go.Proofs.YtjiejhikjlhchaaDoor
