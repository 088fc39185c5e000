/- Part 55 of the texts of this proof, put together by a program and made short.
Conditions: none; what each theorem asks stands in its own hypotheses. -/
import Derived.Test.YtagnjflbhjmefaaGreatRb51
import Derived.Test.YtagnjflbhjmefaaGreatRb53
import Derived.Ground.NamesProg
import Derived.JoinedCond
import Derived.Shelf.Slices.In.SortAlone
import Derived.Shelf.Slices.In.SortNone
import Derived.Sort.Walk0
import Derived.KernelRfl
import Derived.RangeFuncIn
import Derived.Sort.Grow
import Derived.Laws.Cover3
import Derived.RecoverIn
import Derived.ProofKit
import Derived.OpenShut
import Derived.CallsIn
import Derived.RangeFuncLeaves
import Derived.OrdersIn
import Derived.TacticsIn
import Derived.ChangeKeysEq
import Derived.Laws.AppendOwn
import Derived.Laws.OwnMore
import Derived.Laws.MakeOwn
import Derived.Laws.Rows
import Derived.Laws.Cells
import Derived.Laws.Tables
import Derived.Laws.CopyRow
import Derived.Laws.Strings
import Derived.Laws.IdiomStrings
import Derived.Laws.BytesArg
import Derived.Test.YtagnjflbhjmefaaGreatProg
set_option linter.unusedSimpArgs false
set_option linter.unusedVariables false
set_option linter.unnecessarySimpa false
set_option maxHeartbeats 40000000
namespace Go.Proofs.YtagnjflbhjmefaaGreat
open Go.Gar
set_option maxRecDepth 100000 in
theorem H0 (os : Os) (started : os.Started) (H : Type) (enc : TypeId × Value → H) (F : Stop.Interp) :
  ReturnsInHanded {} Tryz.checked os 7 .any ((Rows.OpenSpec.upto Rows.ringedWalksSpec).pre6 enc Tryz.prog Tryz.f7 Rows.ringedWalksUptoRow.domain false) (((Rows.OpenSpec.upto Rows.ringedWalksSpec).at F).post enc Tryz.prog Tryz.f7 false true false false):=by
 refine returnsInHanded_of_cond (C:=Tryz.checked) (s:=Rows.OpenSpec.upto Rows.ringedWalksSpec) (k:=Rows.uptoSmall) rfl own started (by kernel_rfl) Tryz.func7
  (OpenSpec.witness (enc:=enc) (C:=Tryz.checked) (s:=Rows.OpenSpec.upto Rows.ringedWalksSpec) (k:=Rows.uptoSmall) rfl false ⟨#[],#[.agg #[.slice none 0 0,.slice none 0 0,.slice none 0 0,.slice none 0 0,.int .i64 0],.int .i64 0,.int .i64 0],[]⟩ 8 (by kernel_rfl) (by kernel_rfl) (by kernel_rfl)
   (x:=([.agg [.nil,.nil,.nil,.agg [.nil,.lit (.int .i64 0)]],.lit (.int .i64 0),.lit (.int .i64 0)],[],[])) (by kernel_rfl) rfl (by kernel_rfl)) ?_
 intro W base args ds gs before hval hW _ hk _
 refine HG (P:=Tryz.prog) (tb:=4) (s:=Rows.ringedWalksSpec) (B:=1048576) (S:=fun d => Rows.uptoBulk d ≤ 1048576) A8 meas laidOut (by kernel_rfl) (by kernel_rfl) (by kernel_rfl) Tryz.underlying4 rfl ?_ ?_ hval (Ju hk) hW
 ·intro H ds h
  match ds,h with
  | [d0,d1,d2],_ => rfl
 ·intro xs h
  obtain ⟨x0,r,rfl,h0,h⟩:=h
  obtain ⟨x1,r,rfl,h1,h⟩:=h
  obtain ⟨x2,r,rfl,h2,h⟩:=h
  cases h
  obtain ⟨c,gs,rfl,hc,hg,hb⟩:=Mh h0
  obtain ⟨n1,rfl,k1⟩:=JN h1
  obtain ⟨n2,rfl,k2⟩:=JN h2
  exact Nd.Jd c gs n1 n2 k2 hc hg hb
set_option maxRecDepth 100000 in
theorem HH : joinedFacts Tryz.pinned.checked.prog 7 Tryz.f7 (Rows.OpenSpec.upto Rows.ringedWalksSpec).bare Rows.ringedWalksUptoRow = true:=by
 unfold joinedFacts
 repeat' (with_reducible refine P2 ?_ ?_)
 all_goals (as_aux_lemma => kernel_rfl)
theorem ringedWalks_holds : Rows.RingedWalksUptoSaid :=
 OpenClaim.holds_of_cond 7 Tryz.f7 rfl rfl rfl rfl rfl rfl rfl ⟨rfl,rfl,rfl,rfl,rfl⟩ rfl rfl rfl rfl rfl (by kernel_rfl) Tryz.func7 HH
  (of_decide_eq_true (by kernel_rfl)) (by unfold Func.isWrapper;first | (rw [if_pos (by decide +kernel)];kernel_rfl) | (rw [if_neg (by decide +kernel)];exact ⟨rfl,rfl⟩))
  (fun os started H enc _ F => H0 os started H enc F)
end Go.Proofs.YtagnjflbhjmefaaGreat
