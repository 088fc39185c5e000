/- Written by a program (pre.py) from the source of the same name. -/
/- Views: deaths: the plain law. -/
import Derived.Test.YtflikcmbbljgeaaViewL
set_option linter.unusedSimpArgs false
set_option linter.unusedVariables false
set_option linter.unnecessarySimpa false
namespace Go.Proofs.Ytflikcmbbljgeaa
open Go.Gar
set_option maxRecDepth 4000

theorem fins_map (g : Int → Int) (f : Nat → Int) : fins (fun i => g (f i)) = (fins f).map g := rfl
theorem otT_dead {id n d : Int} (h : otT id n = true) : otT id (if n = d then -1 else n) = true := by
  split
  · simp [otT]
  · exact h
structure DeadOK (v : View) (d : Int) (w : View) : Prop where
  right : rightV w = true
  base : w.base = v.base
  id : w.id = v.id
  list : w.list = dropT v.list d
  pred : w.pred = if v.pred = d then -1 else v.pred
  f : w.f = fun i => if v.f i = d then -1 else v.f i
theorem dead_ok {v : View} {d : Int} (hv : rightV v = true) (hd : d ∉ v.base) : DeadOK v d (deadT v d) := by
  have e : deadT v d = ⟨v.id, v.base, dropT v.list d, if v.pred = d then -1 else v.pred, fun i => if v.f i = d then -1 else v.f i⟩ := by
    unfold deadT; rw [hv, decide_eq_false hd]; rfl
  obtain ⟨h1, h2, h3, h4, h5⟩ := rightV_t hv
  rw [e]
  refine ⟨?_, rfl, rfl, rfl, rfl, rfl⟩
  simp only [rightV, Bool.and_eq_true]
  refine ⟨⟨⟨h1, h2⟩, ?_⟩, otT_dead h4, ?_⟩
  · simp only [rightL, Bool.and_eq_true, decide_eq_true_eq] at h3 ⊢
    exact ⟨Nat.le_trans (dropT_len _ _) h3.1, rT_filter _ _ _ _ h3.2 (Int.le_refl _)⟩
  · have := fins_map (fun x => if x = d then -1 else x) v.f
    show (fins fun i => if v.f i = d then -1 else v.f i).all (otT v.id) = true
    rw [show (fins fun i => if v.f i = d then -1 else v.f i) = _ from this, List.all_map, List.all_eq_true]
    intro x hx
    exact otT_dead (List.all_eq_true.1 h5 x hx)
theorem mem_drop {l : List Int} {d x : Int} : x ∈ dropT l d ↔ x ∈ l ∧ x ≠ d := by simp [dropT, List.mem_filter]
/-- Who is known behind a death: the same ones, but for the dead one. -/
theorem kw_dead {v : View} {d : Int} (hv : rightV v = true) (hd : d ∉ v.base) : kwT (deadT v d) = dropT (kwT v) d := by
  obtain ⟨o1, o2, o3, o4, o5, o6⟩ := dead_ok hv hd
  obtain ⟨h1, h2⟩ := kwT_spec o1
  obtain ⟨k1, k2⟩ := kwT_spec hv
  rw [o3] at h1
  refine upT_unique h1 (List.Pairwise.sublist (List.filter_sublist) k1) fun x => ?_
  rw [h2, mem_drop, k2, o3]
  have hA : ∀ x, x ≠ -1 → (x ∈ allV (deadT v d) ↔ x ∈ allV v ∧ x ≠ d) := by
    intro x hx
    have hf := fins_map (fun x => if x = d then -1 else x) v.f
    have hf' : fins (deadT v d).f = (fins v.f).map (fun x => if x = d then -1 else x) := by rw [o6]; exact hf
    unfold allV
    rw [o2, o4, o5, hf']
    simp only [List.mem_append, List.mem_cons, List.not_mem_nil, or_false, List.mem_map, mem_drop]
    constructor
    · rintro (((h | h) | h) | ⟨y, h, hy⟩)
      · exact ⟨.inl (.inl (.inl h)), fun e => hd (e ▸ h)⟩
      · exact ⟨.inl (.inl (.inr h.1)), h.2⟩
      · split at h
        · exact absurd h hx
        · rename_i hn; exact ⟨.inl (.inr h), h ▸ hn⟩
      · split at hy
        · exact absurd hy.symm hx
        · rename_i hn; subst hy; exact ⟨.inr h, hn⟩
    · rintro ⟨((h | h) | h) | h, hn⟩
      · exact .inl (.inl (.inl h))
      · exact .inl (.inl (.inr ⟨h, hn⟩))
      · exact .inl (.inr (by rw [← h, if_neg hn]))
      · exact .inr ⟨x, h, by rw [if_neg hn]⟩
  constructor
  · rintro ⟨h, h', h''⟩
    have := (hA x h').1 h
    exact ⟨⟨this.1, h', h''⟩, this.2⟩
  · rintro ⟨⟨h, h', h''⟩, hn⟩
    exact ⟨(hA x h').2 ⟨h, hn⟩, h', h''⟩
theorem sk_dead {v : View} {d : Int} (hv : rightV v = true) (hd : d ∉ v.base) (h : skT (deadT v d).id (deadT v d).list (deadT v d).base = true) : skT v.id v.list v.base = true := by
  obtain ⟨o1, o2, o3, o4, o5, o6⟩ := dead_ok hv hd
  obtain ⟨r1, r2, r3, -, -⟩ := rightV_t hv
  obtain ⟨-, -, q3, -, -⟩ := rightV_t o1
  have hs : farT v.id v.id = 0 := by unfold farT; omega
  have hb := rightB_pl r2
  simp only [rightL, Bool.and_eq_true] at r3 q3
  rw [o3, o4] at q3
  rw [o3, o4, o2] at h
  obtain ⟨b, h1, h2, ⟨p, h3, h4⟩, h5⟩ := (sk_iff hb (dropT v.list d) v.id (by rw [hs]; exact q3.2)).1 h
  refine (sk_iff hb v.list v.id (by rw [hs]; exact r3.2)).2 ⟨b, h1, h2, ⟨p, (mem_drop.1 h3).1, h4⟩, fun hm => h5 (mem_drop.2 ⟨hm, fun e => hd (e ▸ h1)⟩)⟩
theorem fi_dead {v : View} {d : Int} (hv : rightV v = true) (hd : d ∉ v.base) : fiT (deadT v d) ≠ d := by
  obtain ⟨o1, o2, o3, o4, o5, o6⟩ := dead_ok hv hd
  obtain ⟨r1, r2, r3, -, -⟩ := rightV_t hv
  unfold fiT
  rw [if_pos o1, o2, o3, o4]
  cases hl : dropT v.list d with
  | nil => exact fun e => hd (e ▸ (anch_spec r1 r2).2)
  | cons p r =>
    have : p ∈ dropT v.list d := by rw [hl]; exact List.mem_cons_self ..
    exact (mem_drop.1 this).2
theorem same_dead {v : View} {d : Int} (hv : rightV v = true) (hd : d ∉ v.base) : sameV (deadT (deadT v d) d) (deadT v d) = true := by
  obtain ⟨o1, o2, o3, o4, o5, o6⟩ := dead_ok hv hd
  obtain ⟨p1, p2, p3, p4, p5, p6⟩ := dead_ok o1 (by rw [o2]; exact hd)
  have e : ∀ x : Int, (if (if x = d then -1 else x) = d then -1 else (if x = d then -1 else x)) = if x = d then -1 else x := by
    intro x
    by_cases h : x = d
    · simp only [h, if_true]; split <;> rfl
    · simp only [h, if_false]
  unfold sameV
  rw [p2, p3, p4, p5, p6, o2, o3, o4, o5, o6]
  simp only [e]
  simp [dropT]
end Go.Proofs.Ytflikcmbbljgeaa
