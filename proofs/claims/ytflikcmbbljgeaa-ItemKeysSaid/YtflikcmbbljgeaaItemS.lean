/- Written by a program (pre.py) from the source of the same name. -/
/- The library's sort and compact of texts, as contracts of this frame. -/
import Derived.Test.YtflikcmbbljgeaaItem1
import Derived.Test.YtflikcmbbljgeaaShelfS
import Derived.Test.YtflikcmbbljgeaaFwE
import Derived.Ground.NamesProg
import Derived.Shelf.Lay
import Derived.Shelf.Slices.In.CompactS
import Derived.Shelf.Slices.In.SortNone
import Derived.Shelf.Slices.In.SortAlone
import Derived.Lib.RowBridge
set_option linter.unusedSimpArgs false
set_option linter.unusedVariables false
set_option linter.unnecessarySimpa false
namespace Go.Proofs.Ytflikcmbbljgeaa
open Go.Gar Go.Shelf Go.Sort
set_option maxRecDepth 4000


abbrev strsD (l : List (List UInt8)) : D := .sl 1 (l.map fun s => [D.s s])
theorem strs_ok : RowOK encStr strsD D.s where
  sl _ := rfl
  ok l := by simp [strsD, slOk]
  c l := by
    induction l with
    | nil => rfl
    | cons a r ih => simp only [strsD, slc, List.map_cons, List.flatten_cons] at ih ⊢; rw [ih]; rfl
  n l := by simp [strsD, sln]
  z _ := rfl
  r m a v := by simp only [RD, encStr]
  one _ := rfl
def sortB (zs : List (List UInt8)) : List (List UInt8) := zs.mergeSort fun x y => decide (x ≤ y)
theorem sort_own (zs : List (List UInt8)) (h : zs.length ≤ 100000) : FnD Try.prog 54 [.sl 0 zs.length 1] [.a (strsD zs)] (.d (.tup [])) [.a (strsD (sortB zs))] :=
  FnD_row strs_ok ⟨_, Try.func54, rfl, rfl⟩ (List.length_mergeSort ..)
    (fun b cap w hH hb hc hm => calls_of_every_depth fun D => AnyS.slices_Sort_string_alone Try.laysSort D b 0 cap zs w hH hb (by omega))
    (fun _ a w => calls_of_every_depth fun D => AnyS.slices_Sort_string_none_alone Try.laysSort D a 0 w)
theorem compact_len (zs : List (List UInt8)) : (Lib.compact zs).length ≤ zs.length := Lib.compact_length_le zs
theorem compact_own (zs : List (List UInt8)) (h : zs.length ≤ 100000) : FnD Try.prog 55 [.sl 0 zs.length 1] [.a (strsD zs)] (.sl 1 (Lib.compact zs).length 1) [.gone, .a (strsD (Lib.compact zs))] :=
  FnD_cut strs_ok ⟨_, Try.func55, rfl, rfl⟩ [] (compact_len zs)
    (fun b cap w hH hb hc hm => calls_of_every_depth fun D => AnyS.slices_Compact_string_in Try.laysCompact D b 0 cap zs w hH (by omega) hc)
    (fun _ a w => calls_of_every_depth fun D => AnyS.slices_Compact_string_empty_in Try.laysCompact D a 0 w)
theorem compact_pos {zs : List (List UInt8)} (h : 0 < zs.length) : 0 < (Lib.compact zs).length := by
  cases zs with
  | nil => simp at h
  | cons a r =>
    have h0 : 0 ∈ (List.range (a :: r).length).filter (Lib.keeps (a :: r).toArray) := by
      rw [List.mem_filter]
      refine ⟨by simp, ?_⟩
      simp [Lib.keeps]
    have : (Lib.compact (a :: r)).length = ((List.range (a :: r).length).filter (Lib.keeps (a :: r).toArray)).length := by
      unfold Lib.compact Lib.compactUpTo; rw [List.length_map]
    rw [this]
    exact List.length_pos_of_mem h0
theorem compact_own2 (zs : List (List UInt8)) (h : zs.length ≤ 100000) (h0 : 0 < zs.length) : FnD Try.prog 55 [.sl 0 zs.length 1] [.a (strsD zs), .a (strsD [])] (.sl 1 (Lib.compact zs).length 1) [.gone, .a (strsD (Lib.compact zs))] :=
  FnD_cut2 strs_ok ⟨_, Try.func55, rfl, rfl⟩ [] (compact_len zs) (compact_pos h0)
    (fun b cap w hH hb hc hm => calls_of_every_depth fun D => AnyS.slices_Compact_string_in Try.laysCompact D b 0 cap zs w hH (by omega) hc)
end Go.Proofs.Ytflikcmbbljgeaa
