/- Written by a program (pre.py) from the source of the same name. -/
/- Views: SortFunc as a contract of this frame: v's block stays, the row's is sorted. -/
import Derived.Test.YtflikcmbbljgeaaViewE
import Derived.Test.YtflikcmbbljgeaaFwE
set_option linter.unusedSimpArgs false
set_option linter.unusedVariables false
set_option linter.unnecessarySimpa false
namespace Go.Proofs.Ytflikcmbbljgeaa
open Go.Gar Go.Shelf Go.Sort Go.RowKit Go.Lib
set_option maxRecDepth 4000

def psA (id : Int) (zs : List Int) : Array Int := pdq (ltOf (cfI id)) zs.toArray 0 zs.toArray.size (Lib.bitLen zs.toArray.size) true true
def psT (id : Int) (zs : List Int) : List Int := (psA id zs).toList
theorem psA_ok (id : Int) (zs : List Int) : PermIn 0 zs.toArray.size zs.toArray (psA id zs) ∧ SortedIn (ltOf (cfI id)) 0 zs.toArray.size (psA id zs) :=
  pdq_sorts (ltOf (cfI id)) (cfI_swo id) zs.toArray 0 zs.toArray.size (Lib.bitLen zs.toArray.size) true true (Nat.zero_le _) (Nat.le_refl _) (Or.inl rfl)
theorem psT_len (id : Int) (zs : List Int) : (psT id zs).length = zs.length := by
  have h := (psA_ok id zs).1
  unfold psT
  simpa using h.1
theorem is_ok : RowOK (Value.int .i64) (fun l : List Int => D.is l) (D.i .i64) where
  sl _ := rfl
  ok l := by simp [D.is, slOk]
  c l := by
    induction l with
    | nil => rfl
    | cons a r ih => simp only [D.is, slc, List.map_cons, List.flatten_cons] at ih ⊢
  n l := by simp [D.is, sln]
  z _ := rfl
  r m a v := by simp only [RD]
  one _ := rfl
theorem sort_own (id : Int) (base list : List Int) (pred : Int) (f : Nat → Int) (zs : List Int) (h : zs.length ≤ 100000) :
    FnD Try.prog 70 [.sl 1 zs.length 1, .fn (.func 71) [] [.ptr 0 0 20]] [.c (vC id base list pred f), .a (.is zs)] (.d (.tup [])) [.c (vC id base list pred f), .a (.is (psT id zs))] := by
  refine ⟨⟨_, Try.func70, rfl, rfl⟩, fun G w vs hG hR hv => ?_⟩
  rw [callsIn_wide]
  obtain ⟨v, r0, hvs, hv1, u, r1, hr0, hv2, hr1⟩ := hv
  simp only [RVs] at hr1
  subst hr1
  subst hr0
  have hvs' : vs = #[v, u] := by rw [← Array.toArray_toList (xs := vs), hvs]
  subst hvs'
  simp only [RV] at hv1 hv2
  obtain ⟨p, q, rfl, hp0, hq⟩ := hv2
  simp only [RVs] at hp0 hq
  subst hp0
  obtain ⟨pv, r2, rfl, hpv, rfl⟩ := hq
  simp only [RV] at hpv
  obtain ⟨_, blk0, hb0', hpt⟩ := hpv
  have hbc : G.H[0]? = some (.c (vC id base list pred f)) := by rw [hG]; rfl
  rw [hbc] at hb0'; cases hb0'
  obtain ⟨_, c, Nc, hρc, rfl⟩ := hpt
  obtain ⟨_, blk, hb, hp⟩ := hv1
  have hb1 : G.H[1]? = some (.a (.is zs)) := by rw [hG]; rfl
  rw [hb1] at hb; cases hb
  obtain ⟨_, _, hp⟩ := hp
  rcases hp (by rw [is_ok.n]) with ⟨h0, a, rfl⟩ | ⟨b, N, cap, hρ, rfl, hnc, hcm, hN⟩
  · have hz : zs = [] := List.length_eq_zero_iff.1 h0
    subst hz
    refine (AnyF.slices_SortFunc_none (P := Try.prog) { Try.laysSortF with } a 0 _ w).mono ?_
    rintro e w' ⟨rfl, rfl⟩
    have e0 : psT id [] = [] := List.length_eq_zero_iff.1 (psT_len id [])
    exact ⟨_, .d (.tup []), G, rfl, ⟨rfl, by rw [e0]; exact hG⟩, by simp only [RV, RD]; exact ⟨[], rfl, rfl⟩, hR, Frm.refl G _⟩
  · obtain ⟨_, _, hB⟩ := hR.blk 1 _ hb1
    rcases hB with ⟨_, hno⟩ | ⟨b', N', vs, T, hρ', hw, hM, hcell⟩
    · rw [hρ] at hno; cases hno
    rw [hρ] at hρ'; cases hρ'
    obtain ⟨c', Nc', vc, Tc, hρc', hwc, hMc, hlc, hcc⟩ := hR.blk 0 _ hbc
    rw [hρc] at hρc'; cases hρc'
    have hlt : b < w.heap.size := (Array.getElem?_eq_some_iff.1 hw).1
    have hltc : c < w.heap.size := (Array.getElem?_eq_some_iff.1 hwc).1
    have hne : c ≠ b := fun e => by
      subst e
      have := hR.inj 0 1 _ _ _ _ _ hbc hb1 rfl rfl hρc hρ
      cases this
    have hcid : w.cell? ⟨c, 0, none⟩ = some (.int .i64 id) := by
      obtain ⟨v0, q1, q2⟩ := hcc 0 (.d (.i .i64 id)) rfl
      simp only [RV, RD] at q2
      subst q2
      unfold World.cell?
      simp only [hwc, Option.isSome_none, Bool.false_eq_true, if_false]
      exact q1
    have hsz : zs.length = zs.toArray.size := rfl
    have hrun := Any.slices_SortFunc_eq Try.laysSortF (Value.int .i64) (fun _ => rfl) (cfI id) (cfI_swo id) 71 #[.pointer (some ⟨c, 0, none⟩)] b 0 cap zs.toArray w (enters_of Try.func71 (by kernel_rfl) rfl) (known_lays id c b 0 zs.toArray.size w hcid hne hltc) (row_holds is_ok hw hcell) hlt (by simp; omega)
    refine hrun.mono ?_
    rintro e w' ⟨rfl, n, os, rfl⟩
    have hvl : zs.length ≤ vs.size := by omega
    have hl := psT_len id zs
    obtain ⟨r1, r2⟩ := put_ok hR (cur := putCells (Value.int .i64) 0 (psT id zs).toArray vs) hb1 rfl (q := .a (.is (psT id zs))) rfl hρ (by simp [BStep, Gh.put, is_ok.z, is_ok.n, hl]) (by
      refine ⟨is_ok.sl _, is_ok.ok _, .inr ⟨b, N, _, T, hρ, setRow_heap w b vs _ T _ hw, by simp [putCells]; omega, ?_⟩⟩
      exact row_cells is_ok (fun k hk => ⟨by simpa using hk, by rw [getElem!_pos (psT id zs).toArray k (by simpa using hk), List.getD_eq_getElem?_getD, List.getElem?_eq_getElem hk]; simp⟩) (by omega))
    have hA : pdq (ltOf (cfI id)) zs.toArray 0 zs.toArray.size (Lib.bitLen zs.toArray.size) true true = (psT id zs).toArray := by unfold psT psA; rfl
    rw [hA]
    unfold sortWorld
    rw [putRow_ahead, setRow_put (Value.int .i64) hw]
    obtain ⟨r3, r4⟩ := grown_ok r1 n os
    exact ⟨_, .d (.tup []), G.put 1 (.a (.is (psT id zs))), rfl, ⟨rfl, by show G.H.set 1 _ = _; rw [hG]; rfl⟩, by simp only [RV, RD]; exact ⟨[], rfl, rfl⟩, r3, r2.trans r4⟩
end Go.Proofs.Ytflikcmbbljgeaa
