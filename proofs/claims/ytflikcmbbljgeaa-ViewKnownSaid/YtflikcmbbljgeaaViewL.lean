/- Written by a program (pre.py) from the source of the same name. -/
/- Views: small laws for the statements. -/
import Derived.Test.YtflikcmbbljgeaaViewM
set_option linter.unusedSimpArgs false
set_option linter.unusedVariables false
set_option linter.unnecessarySimpa false
namespace Go.Proofs.Ytflikcmbbljgeaa
open Go.Gar
set_option maxRecDepth 4000

theorem sameV_self (v : View) : sameV v v = true := by simp [sameV]
theorem kwT_len (v : View) (hb : v.base.length ≤ 1000) (hl : v.list.length ≤ 1000) : (kwT v).length ≤ 100000 := by
  cases h : rightV v with
  | false => rw [kwT_no h]; exact Nat.zero_le _
  | true =>
    obtain ⟨h1, h2⟩ := kwT_spec h
    have h3 := up_len h1 (fun x hx => ((h2 x).1 hx).1)
    have h4 : (allV v).length = v.base.length + v.list.length + 17 := by simp [allV, fins]; omega
    omega
theorem deadT_len (v : View) (d : Int) : (deadT v d).base.length = v.base.length ∧ (deadT v d).list.length ≤ v.list.length := by
  unfold deadT
  split
  · exact ⟨rfl, dropT_len _ _⟩
  · exact ⟨rfl, Nat.le_refl _⟩
theorem listedT_len (v : View) (l : List Int) : (listedT v l).base.length = v.base.length ∧ (listedT v l).list.length ≤ v.list.length + l.length := by
  unfold listedT
  split
  · exact ⟨rfl, Nat.le_add_left _ _⟩
  · exact ⟨rfl, Nat.le_add_right _ _⟩
theorem newT_len (id : Int) (base : List Int) : (newT id base).1.base.length ≤ base.length ∧ (newT id base).1.list.length = 0 := by
  unfold newT
  split
  · exact ⟨Nat.le_refl _, rfl⟩
  · exact ⟨Nat.zero_le _, rfl⟩
theorem an_le {id : Int} (hid : isPl id = true) : ∀ (l : List Int) (best : Int), (∀ y ∈ l, isPl y = true) → (best = -1 ∨ (isPl best = true ∧ best ≠ id)) →
    (∀ b, (b ∈ l ∨ (b = best ∧ best ≠ -1)) → b ≠ id → farT id (l.foldl (anS id) best) ≤ farT id b) ∧ (l.foldl (anS id) best = best ∨ l.foldl (anS id) best ∈ l)
  | [], best, _, h => by
    refine ⟨fun b hb _ => ?_, .inl rfl⟩
    rcases hb with hb | hb
    · cases hb
    · rw [hb.1]; exact Int.le_refl _
  | a :: l, best, hl, h => by
    simp only [List.foldl_cons]
    have ha := hl a (List.mem_cons_self ..)
    have ha' := isPl_t ha
    by_cases hc : a ≠ id ∧ (best < 0 ∨ farT id a < farT id best)
    · have e : anS id best a = a := if_pos hc
      rw [e]
      obtain ⟨g1, g2⟩ := an_le hid l a (fun y hy => hl y (List.mem_cons_of_mem _ hy)) (.inr ⟨ha, hc.1⟩)
      have g3 := g1 a (.inr ⟨rfl, by omega⟩) hc.1
      refine ⟨fun b hb hne => ?_, .inr (g2.elim (fun h => by rw [h]; exact List.mem_cons_self ..) (List.mem_cons_of_mem _))⟩
      rcases hb with hb | ⟨rfl, hb⟩
      · rcases List.mem_cons.1 hb with rfl | hb
        · exact g3
        · exact g1 b (.inl hb) hne
      · rcases hc.2 with h3 | h3
        · rcases h with h | h
          · exact absurd h hb
          · have := isPl_t h.1; omega
        · omega
    · have e : anS id best a = best := if_neg hc
      rw [e]
      obtain ⟨g1, g2⟩ := an_le hid l best (fun y hy => hl y (List.mem_cons_of_mem _ hy)) h
      refine ⟨fun b hb hne => ?_, g2.elim .inl fun h => .inr (List.mem_cons_of_mem _ h)⟩
      rcases hb with hb | hb
      · rcases List.mem_cons.1 hb with rfl | hb
        · have h3 : ¬ (best < 0) := fun h4 => hc ⟨hne, .inl h4⟩
          have h5 : ¬ (farT id b < farT id best) := fun h4 => hc ⟨hne, .inr h4⟩
          have hbest : best ≠ -1 := by omega
          have h6 := h.resolve_left hbest
          have := g1 best (.inr ⟨rfl, hbest⟩) h6.2
          omega
        · exact g1 b (.inl hb) hne
      · exact g1 b (.inr hb) hne
theorem anch_spec {id : Int} {l : List Int} (hid : isPl id = true) (h : rightB l = true) : (∀ b ∈ l, b ≠ id → farT id (anchT id l) ≤ farT id b) ∧ anchT id l ∈ l := by
  have hp := rightB_pl h
  have hs := an_some hid l (-1) hp (rightB_two h id)
  obtain ⟨h1, h2⟩ := an_le hid l (-1) hp (.inl rfl)
  exact ⟨fun b hb hne => h1 b (.inl hb) hne, h2.resolve_left hs⟩
theorem right_len {v : View} (h : rightV v = true) : v.base.length ≤ 1000 ∧ v.list.length ≤ 1000 := by
  obtain ⟨-, h2, h3, -, -⟩ := rightV_t h
  simp only [rightB, rightL, Bool.and_eq_true, decide_eq_true_eq] at h2 h3
  omega
set_option maxHeartbeats 4000000 in
theorem Anchor_no (v : View) (h : rightV v = false) (hb : v.base.length ≤ 9223372036854775807) (hl : v.list.length ≤ 9223372036854775807) : Go.Gar.Fn Try.prog 36 [v.d] (.i .i64 (-1)) := by
  have c1 := vRight_any v hb hl
  rw [h] at c1
  obtain ⟨id, base, list, pred, f⟩ := v
  refine Fn_of_W eok Try.func36 rfl rfl (Nat.le_of_ble_eq_true rfl) ?_
  have nS := True.intro
  repeat' (first | ((with_reducible refine sg ?_); first | with_reducible rfl | ((with_reducible refine fitG ?_); first | kernel_rfl | rfl | (simp [fitT, fitF, nS]; done)) | with_reducible refine andT ?_ ?_ | with_reducible exact Nat.beq_refl _ | with_reducible exact fitsI_u8 _ | ((with_reducible refine decide_eq_true ?_); first | omega | (simp only [SZl, nS]; omega)) | decide | (simp [SZl, slc, allOneD, D.one, allOne, AV.one, nS]; done) | (simp [SZl, nS]; omega)) | ((with_reducible refine gWl ?_); first | (refine Wl_isMv rfl ?_; refine Xmv eok rfl rfl rfl rfl ?_) | refine Xq eok rfl rfl rfl rfl ?_ ?_ | refine Xn [0, 1, 2, 5] rfl ?_ | refine XF (c1) rfl rfl rfl rfl ?_ | refine Xa eok rfl rfl rfl rfl rfl ?_ ?_) | refine W_seq ?_ | refine W_region ?_ | refine W_skip ?_ | refine W_ret ?_ | refine W_block ?_ | refine W_exit ?_ | refine W_cond_t rfl ?_ | refine W_cond_f rfl ?_ | (refine W_cond rfl (fun hc => ?_) (fun hc => ?_) <;> (try simp only [HCl] at hc) <;> (try (exfalso; omega))))
  refine ⟨_, _, rfl, rfl, ?_⟩; simp [Frz_tup, Frz_ag, Frzs_cons, Frzs_nil, Frz_d, Frz_e0, Frz_sl, sln, isSl, slOk]
set_option maxHeartbeats 4000000 in
theorem First_no (v : View) (h : rightV v = false) (hb : v.base.length ≤ 9223372036854775807) (hl : v.list.length ≤ 9223372036854775807) : Go.Gar.Fn Try.prog 38 [v.d] (.i .i64 (-1)) := by
  have c1 := vRight_any v hb hl
  rw [h] at c1
  obtain ⟨id, base, list, pred, f⟩ := v
  refine Fn_of_W eok Try.func38 rfl rfl (Nat.le_of_ble_eq_true rfl) ?_
  have nS := True.intro
  repeat' (first | ((with_reducible refine sg ?_); first | with_reducible rfl | ((with_reducible refine fitG ?_); first | kernel_rfl | rfl | (simp [fitT, fitF, nS]; done)) | with_reducible refine andT ?_ ?_ | with_reducible exact Nat.beq_refl _ | with_reducible exact fitsI_u8 _ | ((with_reducible refine decide_eq_true ?_); first | omega | (simp only [SZl, nS]; omega)) | decide | (simp [SZl, slc, allOneD, D.one, allOne, AV.one, nS]; done) | (simp [SZl, nS]; omega)) | ((with_reducible refine gWl ?_); first | (refine Wl_isMv rfl ?_; refine Xmv eok rfl rfl rfl rfl ?_) | refine Xq eok rfl rfl rfl rfl ?_ ?_ | refine Xn [0, 1, 2, 3, 4, 7, 14] rfl ?_ | refine XF (c1) rfl rfl rfl rfl ?_ | refine Xa eok rfl rfl rfl rfl rfl ?_ ?_) | refine W_seq ?_ | refine W_region ?_ | refine W_skip ?_ | refine W_ret ?_ | refine W_block ?_ | refine W_exit ?_ | refine W_cond_t rfl ?_ | refine W_cond_f rfl ?_ | (refine W_cond rfl (fun hc => ?_) (fun hc => ?_) <;> (try simp only [HCl] at hc) <;> (try (exfalso; omega))))
  refine ⟨_, _, rfl, rfl, ?_⟩; simp [Frz_tup, Frz_ag, Frzs_cons, Frzs_nil, Frz_d, Frz_e0, Frz_sl, sln, isSl, slOk]
set_option maxHeartbeats 4000000 in
theorem Known_no (v : View) (h : rightV v = false) (hb : v.base.length ≤ 9223372036854775807) (hl : v.list.length ≤ 9223372036854775807) : Go.Gar.Fn Try.prog 41 [v.d] (.is []) := by
  have c1 := vRight_any v hb hl
  rw [h] at c1
  obtain ⟨id, base, list, pred, f⟩ := v
  refine Fn_of_W eok Try.func41 rfl rfl (Nat.le_of_ble_eq_true rfl) ?_
  have nS := True.intro
  repeat' (first | ((with_reducible refine sg ?_); first | with_reducible rfl | ((with_reducible refine fitG ?_); first | kernel_rfl | rfl | (simp [fitT, fitF, nS]; done)) | with_reducible refine andT ?_ ?_ | with_reducible exact Nat.beq_refl _ | with_reducible exact fitsI_u8 _ | ((with_reducible refine decide_eq_true ?_); first | omega | (simp only [SZl, nS]; omega)) | decide | (simp [SZl, slc, allOneD, D.one, allOne, AV.one, nS]; done) | (simp [SZl, nS]; omega)) | ((with_reducible refine gWl ?_); first | (refine Wl_isMv rfl ?_; refine Xmv eok rfl rfl rfl rfl ?_) | refine Xq eok rfl rfl rfl rfl ?_ ?_ | refine Xn [0, 1, 2, 3, 4, 7, 9, 10] rfl ?_ | refine XF (c1) rfl rfl rfl rfl ?_ | refine Xa eok rfl rfl rfl rfl rfl ?_ ?_ | refine Xw eok rfl rfl rfl rfl ?_ ?_) | refine W_seq ?_ | refine W_region ?_ | refine W_skip ?_ | refine W_ret ?_ | refine W_block ?_ | refine W_exit ?_ | refine W_scope 3 ?_ | refine W_goto ?_ | refine W_label ?_ | refine W_cond_t rfl ?_ | refine W_cond_f rfl ?_ | (refine W_cond rfl (fun hc => ?_) (fun hc => ?_) <;> (try simp only [HCl] at hc) <;> (try (exfalso; omega))))
  refine ⟨_, _, rfl, rfl, ?_⟩; simp [Frz_tup, Frz_ag, Frzs_cons, Frzs_nil, Frz_d, Frz_e0, Frz_sl, sln, isSl, slOk]
def inI (z : Int) (l : List Int) (k : Nat) : Bool := (l.take k).any fun x => x == z
theorem inI_succ {z x : Int} {l : List Int} {k : Nat} (hx : l[k]? = some x) : inI z l (k + 1) = (inI z l k || (x == z)) := by
  unfold inI; rw [take_succ_of hx, List.any_append]; simp
theorem inI_all {z : Int} {l : List Int} : inI z l l.length = decide (z ∈ l) := by
  unfold inI
  rw [List.take_length]
  by_cases h : z ∈ l
  · rw [decide_eq_true h, List.any_eq_true]; exact ⟨z, h, beq_self_eq_true z⟩
  · rw [decide_eq_false h, List.any_eq_false]; exact fun x hx e => h ((beq_iff_eq.1 e) ▸ hx)
end Go.Proofs.Ytflikcmbbljgeaa
