/- Written by a program (pre.py) from the source of the same name. -/
/- Views: who is known. -/
import Derived.Test.YtflikcmbbljgeaaViewF
import Derived.Test.YtflikcmbbljgeaaShelfC
import Derived.Shelf.Slices.In.CompactI
import Derived.Shelf.Slices.In.SortNone
import Derived.Ground.Names2Prog
import Derived.Lib.RowBridge
set_option linter.unusedSimpArgs false
set_option linter.unusedVariables false
set_option linter.unnecessarySimpa false
namespace Go.Proofs.Ytflikcmbbljgeaa
open Go.Gar Go.Shelf Go.Sort Go.RowKit
set_option maxRecDepth 4000


theorem compI_own (zs : List Int) (h : zs.length ≤ 100000) : FnD Try.prog 73 [.sl 0 zs.length 1] [.a (.is zs)] (.sl 1 (Lib.compact zs).length 1) [.gone, .a (.is (Lib.compact zs))] :=
  FnD_cut is_ok ⟨_, Try.func73, rfl, rfl⟩ 0 (Lib.compact_length_le zs)
    (fun b cap w hH hb hc hm => calls_of_every_depth fun D => AnyS.slices_Compact_int_in Try.laysCompI D b 0 cap zs w hH (by omega) hc)
    (fun _ a w => calls_of_every_depth fun D => AnyS.slices_Compact_int_empty_in Try.laysCompI D a 0 w)
/-- Who is known: the others, sorted, each once. -/
def kwT (v : View) : List Int := if rightV v then Lib.compact (psT v.id (othT v.id v.base v.list v.pred v.f)) else []
theorem othT_len (id : Int) (base list : List Int) (pred : Int) (f : Nat → Int) : (othT id base list pred f).length ≤ base.length + list.length + 17 := by
  have h1 := addN_fold id base []
  have h2 := addN_fold id list (base.foldl (addN id) [])
  rw [List.length_nil] at h1
  show (addT id (addT id (addT id (addT id (addT id (addT id (addT id (addT id (addT id (addT id (addT id (addT id (addT id (addT id (addT id (addT id (addT id (rowsT id base list) pred) (f 0)) (f 1)) (f 2)) (f 3)) (f 4)) (f 5)) (f 6)) (f 7)) (f 8)) (f 9)) (f 10)) (f 11)) (f 12)) (f 13)) (f 14)) (f 15)).length + 0 ≤ _
  (repeat (refine addT_le ?_))
  unfold rowsT
  omega
set_option maxHeartbeats 8000000 in
theorem Known_fn (v : View) (hb : v.base.length ≤ 1000) (hl : v.list.length ≤ 1000) : Go.Gar.Fn Try.prog 41 [v.d] (.is (kwT v)) := by
  obtain ⟨id, base, list, pred, f⟩ := v
  have c1 := vRight_fn ⟨id, base, list, pred, f⟩ hb hl
  replace hb : base.length ≤ 1000 := hb
  replace hl : list.length ≤ 1000 := hl
  refine Fn_of_W eok Try.func41 rfl rfl (Nat.le_of_ble_eq_true rfl) ?_
  cases h : rightV ⟨id, base, list, pred, f⟩ with
  | false =>
    have hT : kwT ⟨id, base, list, pred, f⟩ = [] := by unfold kwT; rw [h]; rfl
    rw [h] at c1
    rw [hT]
    have nS := True.intro
    repeat' (first | ((with_reducible refine sg ?_); first | with_reducible rfl | ((with_reducible refine fitG ?_); first | kernel_rfl | rfl | (simp [fitT, fitF, nS]; done)) | with_reducible refine andT ?_ ?_ | with_reducible exact Nat.beq_refl _ | with_reducible exact fitsI_u8 _ | ((with_reducible refine decide_eq_true ?_); first | omega | (simp only [SZl, nS]; omega)) | decide | (simp [SZl, slc, allOneD, D.one, allOne, AV.one, nS]; done) | (simp [SZl, nS]; omega)) | ((with_reducible refine gWl ?_); first | (refine Wl_isMv rfl ?_; refine Xmv eok rfl rfl rfl rfl ?_) | refine Xq eok rfl rfl rfl rfl ?_ ?_ | refine Xn [0, 1, 2, 3, 4, 7, 9, 10] rfl ?_ | refine XF (c1) rfl rfl rfl rfl ?_ | refine Xa eok rfl rfl rfl rfl rfl ?_ ?_ | refine Xw eok rfl rfl rfl rfl ?_ ?_) | refine W_seq ?_ | refine W_region ?_ | refine W_skip ?_ | refine W_ret ?_ | refine W_block ?_ | refine W_exit ?_ | refine W_scope 3 ?_ | refine W_goto ?_ | refine W_label ?_ | refine W_cond_t rfl ?_ | refine W_cond_f rfl ?_ | (refine W_cond rfl (fun hc => ?_) (fun hc => ?_) <;> (try simp only [HCl] at hc) <;> (try (exfalso; omega))))
    refine ⟨_, _, rfl, rfl, ?_⟩; simp [Frz_tup, Frz_ag, Frzs_cons, Frzs_nil, Frz_d, Frz_e0, Frz_sl, sln, isSl, slOk]
  | true =>
  have hT : kwT ⟨id, base, list, pred, f⟩ = Lib.compact (psT id (othT id base list pred f)) := by unfold kwT; rw [h]; rfl
  rw [h] at c1
  rw [hT]
  have c2 := others_fn id base list pred f
  unfold vC at c2
  have nS := True.intro
  repeat' (first | ((with_reducible refine sg ?_); first | with_reducible rfl | ((with_reducible refine fitG ?_); first | kernel_rfl | rfl | (simp [fitT, fitF, nS]; done)) | with_reducible refine andT ?_ ?_ | with_reducible exact Nat.beq_refl _ | with_reducible exact fitsI_u8 _ | ((with_reducible refine decide_eq_true ?_); first | omega | (simp only [SZl, nS]; omega)) | decide | (simp [SZl, slc, allOneD, D.one, allOne, AV.one, nS]; done) | (simp [SZl, nS]; omega)) | ((with_reducible refine gWl ?_); first | (refine Wl_isMv rfl ?_; refine Xmv eok rfl rfl rfl rfl ?_) | refine Xq eok rfl rfl rfl rfl ?_ ?_ | refine Xn [0, 1, 2, 3, 4, 7, 9, 10] rfl ?_ | refine XF (c1) rfl rfl rfl rfl ?_ | refine XD [] (c2) rfl rfl rfl (by repeat' (first | exact True.intro | refine And.intro rfl ?_)) rfl rfl rfl rfl ?_ | refine Xa eok rfl rfl rfl rfl rfl ?_ ?_ | refine Xw eok rfl rfl rfl rfl ?_ ?_) | refine W_seq ?_ | refine W_region ?_ | refine W_skip ?_ | refine W_ret ?_ | refine W_block ?_ | refine W_exit ?_ | refine W_scope 3 ?_ | refine W_goto ?_ | refine W_label ?_ | refine W_cond_t rfl ?_ | refine W_cond_f rfl ?_ | (refine W_cond rfl (fun hc => ?_) (fun hc => ?_) <;> (try simp only [HCl] at hc) <;> (try (exfalso; omega))))
  refine W_ghost (TSub.e0ownc 1 0 (.is []) rfl rfl rfl rfl trivial) (by simp) ?_
  refine W_rangeX (K := fun r _ H' => H' = oH id base list pred f r (othT id base list pred f) []) rfl (by first | (simp only [NSl, NHl, Nat.reduceAdd, Int.reduceAdd, Int.reduceSub, Int.reduceMul, Int.reduceToNat]; done) | (simp only [NSl, NHl, Nat.reduceAdd, Int.reduceAdd, Int.reduceSub, Int.reduceMul, Int.reduceToNat]; rfl) | rfl) (by first | (simp only [NSl, NHl, Nat.reduceAdd, Int.reduceAdd, Int.reduceSub, Int.reduceMul, Int.reduceToNat]; done) | (simp only [NSl, NHl, Nat.reduceAdd, Int.reduceAdd, Int.reduceSub, Int.reduceMul, Int.reduceToNat]; rfl) | rfl) (fun r => rfl) ?_ ?_
  · intro r hr
    refine others_T id base list pred f hb hl hr rfl ?_
    intro n o L ho
    refine YT_of_L hr rfl rfl rfl ?_
    unfold oH vC
    have nS := True.intro
    repeat' (first | ((with_reducible refine sg ?_); first | with_reducible rfl | ((with_reducible refine fitG ?_); first | kernel_rfl | rfl | (simp [fitT, fitF, nS]; done)) | with_reducible refine andT ?_ ?_ | with_reducible exact Nat.beq_refl _ | with_reducible exact fitsI_u8 _ | ((with_reducible refine decide_eq_true ?_); first | omega | (simp only [SZl, nS]; omega)) | decide | (simp [SZl, slc, allOneD, D.one, allOne, AV.one, nS]; done) | (simp [SZl, nS]; omega)) | ((with_reducible refine gWl ?_); first | (refine Wl_isMv rfl ?_; refine Xmv eok rfl rfl rfl rfl ?_) | refine Xq eok rfl rfl rfl rfl ?_ ?_ | refine Xn [0, 1, 2, 3, 4, 7, 9, 10] rfl ?_ | refine Xa eok rfl rfl rfl rfl rfl ?_ ?_ | refine Xw eok rfl rfl rfl rfl ?_ ?_) | refine W_seq ?_ | refine W_region ?_ | refine W_skip ?_ | refine W_ret ?_ | refine W_block ?_ | refine W_exit ?_ | refine W_scope 3 ?_ | refine W_goto ?_ | refine W_label ?_ | refine W_cond_t rfl ?_ | refine W_cond_f rfl ?_ | (refine W_cond rfl (fun hc => ?_) (fun hc => ?_) <;> (try simp only [HCl] at hc) <;> (try (exfalso; omega))))
    refine ⟨rfl, W_hp (by first | (simp only [NSl, NHl, Nat.reduceAdd, Int.reduceAdd, Int.reduceSub, Int.reduceMul, Int.reduceToNat]; done) | (simp only [NSl, NHl, Nat.reduceAdd, Int.reduceAdd, Int.reduceSub, Int.reduceMul, Int.reduceToNat]; rfl) | rfl) ?_⟩
    have nS := True.intro
    repeat' (first | ((with_reducible refine sg ?_); first | with_reducible rfl | ((with_reducible refine fitG ?_); first | kernel_rfl | rfl | (simp [fitT, fitF, nS]; done)) | with_reducible refine andT ?_ ?_ | with_reducible exact Nat.beq_refl _ | with_reducible exact fitsI_u8 _ | ((with_reducible refine decide_eq_true ?_); first | omega | (simp only [SZl, nS]; omega)) | decide | (simp [SZl, slc, allOneD, D.one, allOne, AV.one, nS]; done) | (simp [SZl, nS]; omega)) | ((with_reducible refine gWl ?_); first | (refine Wl_isMv rfl ?_; refine Xmv eok rfl rfl rfl rfl ?_) | refine Xq eok rfl rfl rfl rfl ?_ ?_ | refine Xn [0, 1, 2, 3, 4, 7, 9, 10] rfl ?_ | refine Xa eok rfl rfl rfl rfl rfl ?_ ?_ | refine Xw eok rfl rfl rfl rfl ?_ ?_) | refine W_seq ?_ | refine W_region ?_ | refine W_skip ?_ | refine W_ret ?_ | refine W_block ?_ | refine W_exit ?_ | refine W_scope 3 ?_ | refine W_goto ?_ | refine W_label ?_ | refine W_cond_t rfl ?_ | refine W_cond_f rfl ?_ | (refine W_cond rfl (fun hc => ?_) (fun hc => ?_) <;> (try simp only [HCl] at hc) <;> (try (exfalso; omega))))
    exact ⟨_, TSub.refl _, Nat.le_refl _, rfl, rfl, rfl⟩
  · rintro r hr y H' rfl
    refine .inl ⟨rfl, ?_⟩
    have hlen := othT_len id base list pred f
    generalize othT id base list pred f = o at *
    have hs := sort_own id base list pred f o (by omega)
    have hc := compI_own (psT id o) (by rw [psT_len]; omega)
    rw [psT_len] at hc
    unfold oH vC at *
    have nS := True.intro
    repeat' (first | ((with_reducible refine sg ?_); first | with_reducible rfl | ((with_reducible refine fitG ?_); first | kernel_rfl | rfl | (simp [fitT, fitF, nS]; done)) | with_reducible refine andT ?_ ?_ | with_reducible exact Nat.beq_refl _ | with_reducible exact fitsI_u8 _ | ((with_reducible refine decide_eq_true ?_); first | omega | (simp only [SZl, nS]; omega)) | decide | (simp [SZl, slc, allOneD, D.one, allOne, AV.one, nS]; done) | (simp [SZl, nS]; omega)) | ((with_reducible refine gWl ?_); first | (refine Wl_isMv rfl ?_; refine Xmv eok rfl rfl rfl rfl ?_) | refine Xq eok rfl rfl rfl rfl ?_ ?_ | refine Xn [0, 1, 2, 3, 4, 7, 9, 10] rfl ?_ | refine XD [0, 3] (hs) rfl rfl rfl (by repeat' (first | exact True.intro | refine And.intro rfl ?_)) rfl rfl rfl rfl ?_ | refine XD [3] (hc) rfl rfl rfl (by repeat' (first | exact True.intro | refine And.intro rfl ?_)) rfl rfl rfl rfl ?_ | refine Xa eok rfl rfl rfl rfl rfl ?_ ?_ | refine Xw eok rfl rfl rfl rfl ?_ ?_) | refine W_seq ?_ | refine W_region ?_ | refine W_skip ?_ | refine W_ret ?_ | refine W_block ?_ | refine W_exit ?_ | refine W_scope 3 ?_ | refine W_goto ?_ | refine W_label ?_ | refine W_cond_t rfl ?_ | refine W_cond_f rfl ?_ | (refine W_cond rfl (fun hc => ?_) (fun hc => ?_) <;> (try simp only [HCl] at hc) <;> (try (exfalso; omega))))
    refine ⟨_, _, rfl, rfl, ?_⟩; simp [Frz_tup, Frz_ag, Frzs_cons, Frzs_nil, Frz_d, Frz_e0, Frz_sl, sln, isSl, slOk]
end Go.Proofs.Ytflikcmbbljgeaa
