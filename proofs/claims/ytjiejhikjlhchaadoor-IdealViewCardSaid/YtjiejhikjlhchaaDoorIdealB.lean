/- Written by a program (pre.py) from the source of the same name. -/
/- How a circle ought to be: the library's sorts; where a finger starts. -/
import Derived.Test.YtjiejhikjlhchaaDoorIdealA
import Derived.Test.YtjiejhikjlhchaaDoorShelfI
import Derived.Ground.NamesProg
import Derived.Shelf.Slices.In.SortAlone
set_option linter.unusedSimpArgs false
set_option linter.unusedVariables false
set_option linter.unnecessarySimpa false
namespace Go.Proofs.YtjiejhikjlhchaaDoor
open Go.Gar Go.Shelf Go.Sort Go.RowKit Go.Lib
set_option maxRecDepth 4000

theorem sortI_own (zs : List Int) (h : zs.length ≤ 100000) : FnD Tryd.prog 44 [.sl 0 zs.length 1] [.a (.is zs)] (.d (.tup [])) [.a (.is (sortI zs))] :=
  FnD_row is_ok ⟨_, Tryd.func44, rfl, rfl⟩ (List.length_mergeSort ..)
    (fun b cap w hH hb hc hm => calls_of_every_depth fun D => AnyS.slices_Sort_int_alone Tryd.laysSortI D b 0 cap zs w hH hb (by omega))
    (fun _ a w => calls_of_every_depth fun D => AnyS.slices_Sort_int_none_alone Tryd.laysSortI D a 0 w)
set_option maxHeartbeats 2000000 in
theorem others_c (id a b : Int) (c : Nat) (W : World) (hc : W.cell? ⟨c, 0, none⟩ = some (.int .i64 id)) : Calls Tryd.prog 56 (#[.int .i64 a, .int .i64 b] ++ #[.pointer (some ⟨c, 0, none⟩)]) W fun e w' => e = .returned (.int .i64 (cmpV (farT id a) (farT id b))) ∧ ∃ q, w' = W.drewN q := by
  have h1 := far_c id a
  have h2 := far_c id b
  have h3 := cmp_c (farT id a) (farT id b)
  generalize cmpV (farT id a) (farT id b) = z at *
  generalize farT id a = x at *
  generalize farT id b = y at *
  go_enter Tryd.func56, Tryd.ntmps56
  go_wp2
  go_big_quiet (first | (go_at_call 58; with_reducible first | exact Calls.quiet_of_same (h1 _) | exact Calls.quiet_of_same (h2 _)) | (go_at_call 57; with_reducible exact Calls.quiet_of_same (h3 _)))
  go_wp2
  go_ret
  exact ⟨rfl, nq, rfl⟩
theorem others_lays (id : Int) (c blk off size : Nat) (w : World) (hc : w.cell? ⟨c, 0, none⟩ = some (.int .i64 id)) (hne : c ≠ blk) (hlt : c < w.heap.size) :
    CmpLays1 Tryd.prog 56 #[.pointer (some ⟨c, 0, none⟩)] (Value.int .i64) (cfI id) blk off size w :=
  fun m os dk hs x y => (others_c id x y c _ (by unfold sortWorld; rw [cell?_grow _ _ _ (by show c < (putRow _ _ _ _ _).heap.size; rw [size_putRow]; exact hlt), cell?_putRow_other _ _ _ _ _ _ (Or.inl hne)]; exact hc)).mono fun _ _ ⟨he, q, hq⟩ => ⟨he, q, #[], by rw [hq, grow_empty]⟩
theorem sortO_own (id : Int) (zs : List Int) (h : zs.length ≤ 100000) :
    FnD Tryd.prog 60 [.sl 1 zs.length 1, .fn (.func 56) [] [.ptr 0 0 1]] [.c [.d (.i .i64 id)], .a (.is zs)] (.d (.tup [])) [.c [.d (.i .i64 id)], .a (.is (psT id zs))] := by
  refine ⟨⟨_, Tryd.func60, rfl, rfl⟩, fun G w vs hG hR hv => ?_⟩
  rw [callsIn_wide]
  obtain ⟨v, r0, hvs, hv1, u, r1, hr0, hv2, hr1⟩ := hv
  simp only [RVs] at hr1
  subst hr1
  subst hr0
  have hvs' : vs = #[v, u] := by rw [← Array.toArray_toList (xs := vs), hvs]
  subst hvs'
  simp only [RV] at hv1 hv2
  obtain ⟨p, q, rfl, hp0, hq⟩ := hv2
  simp only [RVs] at hp0 hq
  subst hp0
  obtain ⟨pv, r2, rfl, hpv, rfl⟩ := hq
  simp only [RV] at hpv
  obtain ⟨_, blk0, hb0', hpt⟩ := hpv
  have hbc : G.H[0]? = some (.c [.d (.i .i64 id)]) := by rw [hG]; rfl
  rw [hbc] at hb0'; cases hb0'
  obtain ⟨_, c, Nc, hρc, rfl⟩ := hpt
  obtain ⟨_, blk, hb, hp⟩ := hv1
  have hb1 : G.H[1]? = some (.a (.is zs)) := by rw [hG]; rfl
  rw [hb1] at hb; cases hb
  obtain ⟨_, _, hp⟩ := hp
  rcases hp (by rw [is_ok.n]) with ⟨h0, a, rfl⟩ | ⟨b, N, cap, hρ, rfl, hnc, hcm, hN⟩
  · have hz : zs = [] := List.length_eq_zero_iff.1 h0
    subst hz
    refine (AnyF.slices_SortFunc_none (P := Tryd.prog) { Tryd.laysSortF with } a 0 _ w).mono ?_
    rintro e w' ⟨rfl, rfl⟩
    have e0 : psT id [] = [] := List.length_eq_zero_iff.1 (psT_len id [])
    exact ⟨_, .d (.tup []), G, rfl, ⟨rfl, by rw [e0]; exact hG⟩, by simp only [RV, RD]; exact ⟨[], rfl, rfl⟩, hR, Frm.refl G _⟩
  · obtain ⟨_, _, hB⟩ := hR.blk 1 _ hb1
    rcases hB with ⟨_, hno⟩ | ⟨b', N', vs, T, hρ', hw, hM, hcell⟩
    · rw [hρ] at hno; cases hno
    rw [hρ] at hρ'; cases hρ'
    obtain ⟨c', Nc', vc, Tc, hρc', hwc, hMc, hlc, hcc⟩ := hR.blk 0 _ hbc
    rw [hρc] at hρc'; cases hρc'
    have hlt : b < w.heap.size := (Array.getElem?_eq_some_iff.1 hw).1
    have hltc : c < w.heap.size := (Array.getElem?_eq_some_iff.1 hwc).1
    have hne : c ≠ b := fun e => by
      subst e
      have := hR.inj 0 1 _ _ _ _ _ hbc hb1 rfl rfl hρc hρ
      cases this
    have hcid : w.cell? ⟨c, 0, none⟩ = some (.int .i64 id) := by
      obtain ⟨v0, q1, q2⟩ := hcc 0 (.d (.i .i64 id)) rfl
      simp only [RV, RD] at q2
      subst q2
      unfold World.cell?
      simp only [hwc, Option.isSome_none, Bool.false_eq_true, if_false]
      exact q1
    have hsz : zs.length = zs.toArray.size := rfl
    have hrun := Any.slices_SortFunc_eq Tryd.laysSortF (Value.int .i64) (fun _ => rfl) (cfI id) (cfI_swo id) 56 #[.pointer (some ⟨c, 0, none⟩)] b 0 cap zs.toArray w (enters_of Tryd.func56 (by kernel_rfl) rfl) (others_lays id c b 0 zs.toArray.size w hcid hne hltc) (row_holds is_ok hw hcell) hlt (by simp; omega)
    refine hrun.mono ?_
    rintro e w' ⟨rfl, n, os, rfl⟩
    have hvl : zs.length ≤ vs.size := by omega
    have hl := psT_len id zs
    obtain ⟨r1, r2⟩ := put_ok hR (cur := putCells (Value.int .i64) 0 (psT id zs).toArray vs) hb1 rfl (q := .a (.is (psT id zs))) rfl hρ (by simp [BStep, Gh.put, is_ok.z, is_ok.n, hl]) (by
      refine ⟨is_ok.sl _, is_ok.ok _, .inr ⟨b, N, _, T, hρ, setRow_heap w b vs _ T _ hw, by simp [putCells]; omega, ?_⟩⟩
      exact row_cells is_ok (fun k hk => ⟨by simpa using hk, by rw [getElem!_pos (psT id zs).toArray k (by simpa using hk), List.getD_eq_getElem?_getD, List.getElem?_eq_getElem hk]; simp⟩) (by omega))
    have hA : pdq (ltOf (cfI id)) zs.toArray 0 zs.toArray.size (Lib.bitLen zs.toArray.size) true true = (psT id zs).toArray := by unfold psT psA; rfl
    rw [hA]
    unfold sortWorld
    rw [putRow_ahead, setRow_put (Value.int .i64) hw]
    obtain ⟨r3, r4⟩ := grown_ok r1 n os
    exact ⟨_, .d (.tup []), G.put 1 (.a (.is (psT id zs))), rfl, ⟨rfl, by show G.H.set 1 _ = _; rw [hG]; rfl⟩, by simp only [RV, RD]; exact ⟨[], rfl, rfl⟩, r3, r2.trans r4⟩
/-- Where a finger starts. -/
def stT (a i : Int) : Int := if 0 ≤ i ∧ i < 16 then plT (plT a + 2 ^ i.toNat) else plT a
set_option maxHeartbeats 2000000 in
theorem start_c (a i : Int) (W : World) (hc : ∀ k : Nat, k < 16 → W.cell? ⟨0, k, none⟩ = some (.int .i64 (2 ^ k))) : Calls Tryd.prog 61 #[.int .i64 a, .int .i64 i] W fun e w' => e = .returned (.int .i64 (stT a i)) ∧ ∃ q, w' = W.drewN q := by
  have h1 := place_c a
  by_cases hi : 0 ≤ i ∧ i < 16
  · obtain ⟨k, rfl⟩ : ∃ k : Nat, i = k := ⟨i.toNat, by omega⟩
    have hk : k < 16 := by omega
    have hpl := plT_lt a
    have hpw : (2 : Int) ^ k ≤ 65536 := by
      have : (2 : Nat) ^ k ≤ 2 ^ 16 := Nat.pow_le_pow_right (by decide) (by omega)
      have h : ((2 ^ k : Nat) : Int) = (2 : Int) ^ k := by simp
      omega
    have hpw0 : 0 ≤ (2 : Int) ^ k := Int.pow_nonneg (by decide)
    have hw : wrap64 (plT a + 2 ^ k) = plT a + 2 ^ k := by unfold wrap64; omega
    have e : stT a k = plT (plT a + 2 ^ k) := if_pos hi
    have h2 := place_c (plT a + 2 ^ k)
    rw [e]
    generalize plT (plT a + 2 ^ k) = r at *
    generalize plT a = p at *
    have hcell := hc k hk
    go_enter Tryd.func61, Tryd.ntmps61
    go_wp2
    go_big_quiet (first | (go_at_call 69; with_reducible first | exact Calls.quiet_of_same (h1 _) | exact Calls.quiet_of_same (h2 _)))
    go_wp2
    go_ret
    exact ⟨rfl, nq, rfl⟩
  · have e : stT a i = plT a := if_neg hi
    rw [e]
    generalize plT a = p at *
    go_enter Tryd.func61, Tryd.ntmps61
    go_wp2_with (go_at_call 69; refine (h1 _).mono ?_; rintro e w' ⟨rfl, rfl⟩)
    all_goals (go_ret; exact ⟨rfl, 0, rfl⟩)
theorem Start_fn (a i : Int) : Go.Gar.Fn Tryd.prog 61 [.i .i64 a, .i .i64 i] (.i .i64 (stT a i)) := by
  refine ⟨⟨_, Tryd.func61, rfl, rfl⟩, fun m w vs hm hst hv => ?_⟩
  rw [callsIn_wide]
  have hvs : vs.toList = [.int .i64 a, .int .i64 i] := by
    simp only [RDs] at hv
    obtain ⟨v, l, h1, h2, u, l2, h3, h4, h5⟩ := hv
    simp only [RD] at h2 h4
    rw [h1, h3, h5, h2, h4]
  have hvs' : vs = #[.int .i64 a, .int .i64 i] := by rw [← Array.toArray_toList (xs := vs), hvs]
  subst hvs'
  refine (start_c a i w (fun k hk => hm 0 k _ (hst 0 k _ ?_))).mono ?_
  · rcases lt16 hk with rfl | rfl | rfl | rfl | rfl | rfl | rfl | rfl | rfl | rfl | rfl | rfl | rfl | rfl | rfl | rfl <;> rfl
  · rintro e w' ⟨rfl, q, rfl⟩
    exact ⟨_, m, rfl, by simp only [RD], Mem.le_refl _, fun b k v h => hm b k v h, fun b k v h => .inl h, rfl, rfl, rfl, Nat.le_refl _, fun _ _ => rfl⟩
end Go.Proofs.YtjiejhikjlhchaaDoor
