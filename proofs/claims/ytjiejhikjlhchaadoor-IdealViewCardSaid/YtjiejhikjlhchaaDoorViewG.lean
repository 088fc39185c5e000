/- Written by a program (pre.py) from the source of the same name. -/
/- Views: who is known. -/
import Derived.Test.YtjiejhikjlhchaaDoorViewF
import Derived.Test.YtjiejhikjlhchaaDoorShelfC
import Derived.Shelf.Slices.In.CompactI
import Derived.Shelf.Slices.In.SortNone
import Derived.Ground.Names2Prog
import Derived.Lib.RowBridge
set_option linter.unusedSimpArgs false
set_option linter.unusedVariables false
set_option linter.unnecessarySimpa false
namespace Go.Proofs.YtjiejhikjlhchaaDoor
open Go.Gar Go.Shelf Go.Sort Go.RowKit
set_option maxRecDepth 4000


theorem compI_own (zs : List Int) (h : zs.length ≤ 100000) : FnD Tryd.prog 45 [.sl 0 zs.length 1] [.a (.is zs)] (.sl 1 (Lib.compact zs).length 1) [.gone, .a (.is (Lib.compact zs))] :=
  FnD_cut is_ok ⟨_, Tryd.func45, rfl, rfl⟩ 0 (Lib.compact_length_le zs)
    (fun b cap w hH hb hc hm => calls_of_every_depth fun D => AnyS.slices_Compact_int_in Tryd.laysCompI D b 0 cap zs w hH (by omega) hc)
    (fun _ a w => calls_of_every_depth fun D => AnyS.slices_Compact_int_empty_in Tryd.laysCompI D a 0 w)
/-- Who is known: the others, sorted, each once. -/
def kwT (v : View) : List Int := if rightV v then Lib.compact (psT v.id (othT v.id v.base v.list v.pred v.f)) else []
theorem othT_len (id : Int) (base list : List Int) (pred : Int) (f : Nat → Int) : (othT id base list pred f).length ≤ base.length + list.length + 17 := by
  have h1 := addN_fold id base []
  have h2 := addN_fold id list (base.foldl (addN id) [])
  rw [List.length_nil] at h1
  show (addT id (addT id (addT id (addT id (addT id (addT id (addT id (addT id (addT id (addT id (addT id (addT id (addT id (addT id (addT id (addT id (addT id (rowsT id base list) pred) (f 0)) (f 1)) (f 2)) (f 3)) (f 4)) (f 5)) (f 6)) (f 7)) (f 8)) (f 9)) (f 10)) (f 11)) (f 12)) (f 13)) (f 14)) (f 15)).length + 0 ≤ _
  (repeat (refine addT_le ?_))
  unfold rowsT
  omega
end Go.Proofs.YtjiejhikjlhchaaDoor
