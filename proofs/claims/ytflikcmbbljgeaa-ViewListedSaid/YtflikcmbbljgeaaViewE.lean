/- Written by a program (pre.py) from the source of the same name. -/
/- Views: how the row is sorted: the library's SortFunc, with what compares. -/
import Derived.Test.YtflikcmbbljgeaaViewD
import Derived.Test.YtflikcmbbljgeaaShelfF
import Derived.Shelf.SlSortCmp.NoneTotal
import Derived.Ground.SlsfProg
set_option linter.unusedSimpArgs false
set_option linter.unusedVariables false
set_option linter.unnecessarySimpa false
namespace Go.Proofs.Ytflikcmbbljgeaa
open Go.Gar Go.Shelf Go.Sort Go.RowKit Go.Lib
set_option maxRecDepth 4000


def cfI (id a b : Int) : Int := cmpV (farT id a) (farT id b)
theorem cfI_lt (id a b : Int) : ltOf (cfI id) a b = decide (farT id a < farT id b) := by
  unfold ltOf cfI cmpV
  by_cases h1 : farT id a < farT id b
  · simp [h1]
  · by_cases h2 : farT id a > farT id b <;> simp [h1, h2]
theorem cfI_swo (id : Int) : SWO (ltOf (cfI id)) where
  irrefl x := by rw [cfI_lt]; simp
  trans x y z h1 h2 := by rw [cfI_lt] at *; simp at *; omega
  ntrans x y z h1 h2 := by rw [cfI_lt] at *; simp at *; omega
theorem known_lays (id : Int) (c blk off size : Nat) (w : World) (hc : w.cell? ⟨c, 0, none⟩ = some (.int .i64 id)) (hne : c ≠ blk) (hlt : c < w.heap.size) :
    CmpLays1 Try.prog 71 #[.pointer (some ⟨c, 0, none⟩)] (Value.int .i64) (cfI id) blk off size w :=
  fun m os dk hs x y => (known_c id x y c _ (by unfold sortWorld; rw [cell?_grow _ _ _ (by show c < (putRow _ _ _ _ _).heap.size; rw [size_putRow]; exact hlt), cell?_putRow_other _ _ _ _ _ _ (Or.inl hne)]; exact hc)).mono fun _ _ ⟨he, q, hq⟩ => ⟨he, q, #[], by rw [hq, grow_empty]⟩
theorem sortF_c (id : Int) (c b cap : Nat) (d : Array Int) (w : World) (hc : w.cell? ⟨c, 0, none⟩ = some (.int .i64 id)) (hne : c ≠ b) (hlt : c < w.heap.size) (hH : Holds (Value.int .i64) w b 0 d) (hb : b < w.heap.size) (hsz : d.size ≤ 100000) :
    Calls Try.prog 70 #[.slice (some ⟨b, 0, none⟩) d.size cap, .func (.func 71) #[] #[.pointer (some ⟨c, 0, none⟩)]] w fun e w' =>
      e = .returned (.tuple #[]) ∧ ∃ d' n os, PermIn 0 d.size d d' ∧ SortedIn (ltOf (cfI id)) 0 d.size d' ∧ w' = sortWorld (Value.int .i64) w b 0 n d' os :=
  Any.slices_SortFunc Try.laysSortF (Value.int .i64) (fun _ => rfl) (cfI id) (cfI_swo id) 71 _ b 0 cap d w (enters_of Try.func71 (by kernel_rfl) rfl) (known_lays id c b 0 d.size w hc hne hlt) hH hb (by omega)
end Go.Proofs.Ytflikcmbbljgeaa
