/- Part 51 of the texts of this proof, put together by a program and made short.
Conditions: none; what each theorem asks stands in its own hypotheses. -/
import Derived.Test.YtagnjflbhjmefaaGreatRb07
import Derived.Test.YtagnjflbhjmefaaGreatRb46
import Derived.Test.YtagnjflbhjmefaaGreatRows
import Derived.Ground.NamesProg
import Derived.Shelf.Slices.In.SortAlone
import Derived.Shelf.Slices.In.SortNone
import Derived.Sort.Walk0
import Derived.KernelRfl
import Derived.RangeFuncIn
import Derived.Sort.Grow
import Derived.Laws.Cover3
import Derived.RecoverIn
import Derived.ProofKit
import Derived.OpenShut
import Derived.CallsIn
import Derived.RangeFuncLeaves
import Derived.OrdersIn
import Derived.TacticsIn
import Derived.ChangeKeysEq
import Derived.Laws.AppendOwn
import Derived.Laws.OwnMore
import Derived.Laws.MakeOwn
import Derived.Laws.Rows
import Derived.Laws.Cells
import Derived.Laws.Tables
import Derived.Laws.CopyRow
import Derived.Laws.Strings
import Derived.Laws.IdiomStrings
import Derived.Laws.BytesArg
import Derived.Test.YtagnjflbhjmefaaGreatProg
set_option linter.unusedSimpArgs false
set_option linter.unusedVariables false
set_option linter.unnecessarySimpa false
set_option maxHeartbeats 40000000
namespace Go.Proofs.YtagnjflbhjmefaaGreat
open Go.Gar
set_option maxRecDepth 8000
theorem own : ownKnob Tryz.prog.godebug = none:=by kernel_rfl
theorem laidOut : laidOutB Tryz.prog = true:=by kernel_rfl
theorem wf_i64 {n : Int} (h : (Lit.int .i64 n).wf = true) : i64 n:=by
 simp [Lit.wf,IntKind.min,IntKind.max,IntKind.signed,IntKind.bits] at h
 unfold i64
 omega
theorem GY {X : Type} (f : X → List D) {Q : X → Prop} : ∀ {es : List (List D)},(∀ e ∈ es,∃ x,e = f x ∧ Q x) → ∃ l : List X,es = l.map f ∧ ∀ x ∈ l,Q x
 | [],_ => ⟨[],rfl,fun x hx => by cases hx⟩
 | e :: r,h => by
  obtain ⟨x,rfl,hx⟩:=h e (List.mem_cons_self ..)
  obtain ⟨l,rfl,hl⟩:=GY f (fun e he => h e (List.mem_cons_of_mem _ he))
  exact ⟨x :: l,rfl,fun y hy => by
   rcases List.mem_cons.1 hy with rfl | hy
   ·exact hx
   ·exact hl y hy⟩
theorem RN {e : List D} (h : C2 1048576 [.int .i64,.int .u8,.int .i64,.int .i64,.int .i64,.int .i64,.bool,.bool,.int .i64,.int .i64,.is,.str,.int .i64,.int .i64,.bool,.int .i64,.int .u8,.int .i64,.int .i64,.int .i64] e) : ∃ x : Nd.Call,e = x.cells ∧ Nd.Cj x.msg:=by
 obtain ⟨_,_,rfl,⟨x0,rfl,w0⟩,h⟩:=h
 obtain ⟨_,_,rfl,⟨x1,rfl,w1⟩,h⟩:=h
 obtain ⟨_,_,rfl,⟨x2,rfl,w2⟩,h⟩:=h
 obtain ⟨_,_,rfl,⟨x3,rfl,w3⟩,h⟩:=h
 obtain ⟨_,_,rfl,⟨x4,rfl,w4⟩,h⟩:=h
 obtain ⟨_,_,rfl,⟨x5,rfl,w5⟩,h⟩:=h
 obtain ⟨_,_,rfl,⟨x6,rfl⟩,h⟩:=h
 obtain ⟨_,_,rfl,⟨x7,rfl⟩,h⟩:=h
 obtain ⟨_,_,rfl,⟨x8,rfl,w8⟩,h⟩:=h
 obtain ⟨_,_,rfl,⟨x9,rfl,w9⟩,h⟩:=h
 obtain ⟨_,_,rfl,⟨x10,rfl,w10,v10⟩,h⟩:=h
 obtain ⟨_,_,rfl,⟨x11,rfl,w11⟩,h⟩:=h
 obtain ⟨_,_,rfl,⟨x12,rfl,w12⟩,h⟩:=h
 obtain ⟨_,_,rfl,⟨x13,rfl,w13⟩,h⟩:=h
 obtain ⟨_,_,rfl,⟨x14,rfl⟩,h⟩:=h
 obtain ⟨_,_,rfl,⟨x15,rfl,w15⟩,h⟩:=h
 obtain ⟨_,_,rfl,⟨x16,rfl,w16⟩,h⟩:=h
 obtain ⟨_,_,rfl,⟨x17,rfl,w17⟩,h⟩:=h
 obtain ⟨_,_,rfl,⟨x18,rfl,w18⟩,h⟩:=h
 obtain ⟨_,_,rfl,⟨x19,rfl,w19⟩,h⟩:=h
 cases h
 exact ⟨⟨x0,⟨x1,x2,x3,x4,x5,x6,x7,x8,x9,x10,⟨x11,x12,x13,x14⟩,x15⟩,x16,x17,x18,x19⟩,rfl,w10⟩
theorem SZ {e : List D} (h : C2 1048576 [.int .i64,.int .i64,.int .u8,.int .i64,.int .i64,.int .i64,.int .i64,.bool,.bool,.int .i64,.int .i64,.is,.str,.int .i64,.int .i64,.bool,.int .i64] e) : ∃ x : Nd.Past,e = x.cells ∧ Nd.Cj x.told:=by
 obtain ⟨_,_,rfl,⟨x0,rfl,w0⟩,h⟩:=h
 obtain ⟨_,_,rfl,⟨x1,rfl,w1⟩,h⟩:=h
 obtain ⟨_,_,rfl,⟨x2,rfl,w2⟩,h⟩:=h
 obtain ⟨_,_,rfl,⟨x3,rfl,w3⟩,h⟩:=h
 obtain ⟨_,_,rfl,⟨x4,rfl,w4⟩,h⟩:=h
 obtain ⟨_,_,rfl,⟨x5,rfl,w5⟩,h⟩:=h
 obtain ⟨_,_,rfl,⟨x6,rfl,w6⟩,h⟩:=h
 obtain ⟨_,_,rfl,⟨x7,rfl⟩,h⟩:=h
 obtain ⟨_,_,rfl,⟨x8,rfl⟩,h⟩:=h
 obtain ⟨_,_,rfl,⟨x9,rfl,w9⟩,h⟩:=h
 obtain ⟨_,_,rfl,⟨x10,rfl,w10⟩,h⟩:=h
 obtain ⟨_,_,rfl,⟨x11,rfl,w11,v11⟩,h⟩:=h
 obtain ⟨_,_,rfl,⟨x12,rfl,w12⟩,h⟩:=h
 obtain ⟨_,_,rfl,⟨x13,rfl,w13⟩,h⟩:=h
 obtain ⟨_,_,rfl,⟨x14,rfl,w14⟩,h⟩:=h
 obtain ⟨_,_,rfl,⟨x15,rfl⟩,h⟩:=h
 obtain ⟨_,_,rfl,⟨x16,rfl,w16⟩,h⟩:=h
 cases h
 exact ⟨⟨x0,x1,⟨x2,x3,x4,x5,x6,x7,x8,x9,x10,x11,⟨x12,x13,x14,x15⟩,x16⟩⟩,rfl,w11⟩
theorem Sc {e : List D} (h : C2 1048576 [.str,.int .i64,.int .i64,.bool] e) : ∃ x : Item,e = x.cells ∧ True:=by
 obtain ⟨_,_,rfl,⟨x0,rfl,w0⟩,h⟩:=h
 obtain ⟨_,_,rfl,⟨x1,rfl,w1⟩,h⟩:=h
 obtain ⟨_,_,rfl,⟨x2,rfl,w2⟩,h⟩:=h
 obtain ⟨_,_,rfl,⟨x3,rfl⟩,h⟩:=h
 cases h
 exact ⟨⟨x0,x1,x2,x3⟩,rfl,trivial⟩
theorem Rf {e : List D} (h : C2 1048576 [.int .i64,.by,.bool] e) : ∃ x : Nd.Bu,e = x.cells ∧ x.by_.length ≤ 1048576:=by
 obtain ⟨_,_,rfl,⟨x0,rfl,w0⟩,h⟩:=h
 obtain ⟨_,_,rfl,⟨x1,rfl,w1⟩,h⟩:=h
 obtain ⟨_,_,rfl,⟨x2,rfl⟩,h⟩:=h
 cases h
 exact ⟨⟨x0,x1,x2⟩,rfl,w1⟩
theorem SU {e : List D} (h : C2 1048576 [.int .i64,.is,.is,.int .i64,.int .i64,.int .i64,.int .i64,.int .i64,.int .i64,.int .i64,.int .i64,.int .i64,.int .i64,.int .i64,.int .i64,.int .i64,.int .i64,.int .i64,.int .i64,.int .i64,.int .i64,.int .i64,.int .i64,.sl [.int .i64,.int .u8,.int .i64,.int .i64,.int .i64,.int .i64,.bool,.bool,.int .i64,.int .i64,.is,.str,.int .i64,.int .i64,.bool,.int .i64,.int .u8,.int .i64,.int .i64,.int .i64],.sl [.int .i64,.int .i64,.int .u8,.int .i64,.int .i64,.int .i64,.int .i64,.bool,.bool,.int .i64,.int .i64,.is,.str,.int .i64,.int .i64,.bool,.int .i64],.int .u8,.int .i64,.int .u8,.int .u8,.int .i64,.int .i64,.int .i64,.bool,.bool,.int .i64,.str,.int .i64,.int .i64,.bool,.int .i64,.is,.int .i64,.int .u8,.int .u8,.int .i64,.int .i64,.int .i64,.bool,.bool,.int .i64,.str,.int .i64,.int .i64,.bool,.int .i64,.is,.int .i64,.int .u8,.int .u8,.int .i64,.int .i64,.int .i64,.bool,.bool,.int .i64,.str,.int .i64,.int .i64,.bool,.int .i64,.is,.int .i64,.int .i64,.str,.sl [.str,.int .i64,.int .i64,.bool],.int .i64] e) : ∃ n : Nd.Node,e = n.cells ∧ Nd.Y8 n:=by
 obtain ⟨_,_,rfl,⟨x0,rfl,w0⟩,h⟩:=h
 obtain ⟨_,_,rfl,⟨x1,rfl,w1,v1⟩,h⟩:=h
 obtain ⟨_,_,rfl,⟨x2,rfl,w2,v2⟩,h⟩:=h
 obtain ⟨_,_,rfl,⟨x3,rfl,w3⟩,h⟩:=h
 obtain ⟨_,_,rfl,⟨x4,rfl,w4⟩,h⟩:=h
 obtain ⟨_,_,rfl,⟨x5,rfl,w5⟩,h⟩:=h
 obtain ⟨_,_,rfl,⟨x6,rfl,w6⟩,h⟩:=h
 obtain ⟨_,_,rfl,⟨x7,rfl,w7⟩,h⟩:=h
 obtain ⟨_,_,rfl,⟨x8,rfl,w8⟩,h⟩:=h
 obtain ⟨_,_,rfl,⟨x9,rfl,w9⟩,h⟩:=h
 obtain ⟨_,_,rfl,⟨x10,rfl,w10⟩,h⟩:=h
 obtain ⟨_,_,rfl,⟨x11,rfl,w11⟩,h⟩:=h
 obtain ⟨_,_,rfl,⟨x12,rfl,w12⟩,h⟩:=h
 obtain ⟨_,_,rfl,⟨x13,rfl,w13⟩,h⟩:=h
 obtain ⟨_,_,rfl,⟨x14,rfl,w14⟩,h⟩:=h
 obtain ⟨_,_,rfl,⟨x15,rfl,w15⟩,h⟩:=h
 obtain ⟨_,_,rfl,⟨x16,rfl,w16⟩,h⟩:=h
 obtain ⟨_,_,rfl,⟨x17,rfl,w17⟩,h⟩:=h
 obtain ⟨_,_,rfl,⟨x18,rfl,w18⟩,h⟩:=h
 obtain ⟨_,_,rfl,⟨x19,rfl,w19⟩,h⟩:=h
 obtain ⟨_,_,rfl,⟨x20,rfl,w20⟩,h⟩:=h
 obtain ⟨_,_,rfl,⟨x21,rfl,w21⟩,h⟩:=h
 obtain ⟨_,_,rfl,⟨x22,rfl,w22⟩,h⟩:=h
 obtain ⟨_,_,rfl,⟨x23,rfl,w23,v23⟩,h⟩:=h
 obtain ⟨_,_,rfl,⟨x24,rfl,w24,v24⟩,h⟩:=h
 obtain ⟨_,_,rfl,⟨x25,rfl,w25⟩,h⟩:=h
 obtain ⟨_,_,rfl,⟨x26,rfl,w26⟩,h⟩:=h
 obtain ⟨_,_,rfl,⟨x27,rfl,w27⟩,h⟩:=h
 obtain ⟨_,_,rfl,⟨x28,rfl,w28⟩,h⟩:=h
 obtain ⟨_,_,rfl,⟨x29,rfl,w29⟩,h⟩:=h
 obtain ⟨_,_,rfl,⟨x30,rfl,w30⟩,h⟩:=h
 obtain ⟨_,_,rfl,⟨x31,rfl,w31⟩,h⟩:=h
 obtain ⟨_,_,rfl,⟨x32,rfl⟩,h⟩:=h
 obtain ⟨_,_,rfl,⟨x33,rfl⟩,h⟩:=h
 obtain ⟨_,_,rfl,⟨x34,rfl,w34⟩,h⟩:=h
 obtain ⟨_,_,rfl,⟨x35,rfl,w35⟩,h⟩:=h
 obtain ⟨_,_,rfl,⟨x36,rfl,w36⟩,h⟩:=h
 obtain ⟨_,_,rfl,⟨x37,rfl,w37⟩,h⟩:=h
 obtain ⟨_,_,rfl,⟨x38,rfl⟩,h⟩:=h
 obtain ⟨_,_,rfl,⟨x39,rfl,w39⟩,h⟩:=h
 obtain ⟨_,_,rfl,⟨x40,rfl,w40,v40⟩,h⟩:=h
 obtain ⟨_,_,rfl,⟨x41,rfl,w41⟩,h⟩:=h
 obtain ⟨_,_,rfl,⟨x42,rfl,w42⟩,h⟩:=h
 obtain ⟨_,_,rfl,⟨x43,rfl,w43⟩,h⟩:=h
 obtain ⟨_,_,rfl,⟨x44,rfl,w44⟩,h⟩:=h
 obtain ⟨_,_,rfl,⟨x45,rfl,w45⟩,h⟩:=h
 obtain ⟨_,_,rfl,⟨x46,rfl,w46⟩,h⟩:=h
 obtain ⟨_,_,rfl,⟨x47,rfl⟩,h⟩:=h
 obtain ⟨_,_,rfl,⟨x48,rfl⟩,h⟩:=h
 obtain ⟨_,_,rfl,⟨x49,rfl,w49⟩,h⟩:=h
 obtain ⟨_,_,rfl,⟨x50,rfl,w50⟩,h⟩:=h
 obtain ⟨_,_,rfl,⟨x51,rfl,w51⟩,h⟩:=h
 obtain ⟨_,_,rfl,⟨x52,rfl,w52⟩,h⟩:=h
 obtain ⟨_,_,rfl,⟨x53,rfl⟩,h⟩:=h
 obtain ⟨_,_,rfl,⟨x54,rfl,w54⟩,h⟩:=h
 obtain ⟨_,_,rfl,⟨x55,rfl,w55,v55⟩,h⟩:=h
 obtain ⟨_,_,rfl,⟨x56,rfl,w56⟩,h⟩:=h
 obtain ⟨_,_,rfl,⟨x57,rfl,w57⟩,h⟩:=h
 obtain ⟨_,_,rfl,⟨x58,rfl,w58⟩,h⟩:=h
 obtain ⟨_,_,rfl,⟨x59,rfl,w59⟩,h⟩:=h
 obtain ⟨_,_,rfl,⟨x60,rfl,w60⟩,h⟩:=h
 obtain ⟨_,_,rfl,⟨x61,rfl,w61⟩,h⟩:=h
 obtain ⟨_,_,rfl,⟨x62,rfl⟩,h⟩:=h
 obtain ⟨_,_,rfl,⟨x63,rfl⟩,h⟩:=h
 obtain ⟨_,_,rfl,⟨x64,rfl,w64⟩,h⟩:=h
 obtain ⟨_,_,rfl,⟨x65,rfl,w65⟩,h⟩:=h
 obtain ⟨_,_,rfl,⟨x66,rfl,w66⟩,h⟩:=h
 obtain ⟨_,_,rfl,⟨x67,rfl,w67⟩,h⟩:=h
 obtain ⟨_,_,rfl,⟨x68,rfl⟩,h⟩:=h
 obtain ⟨_,_,rfl,⟨x69,rfl,w69⟩,h⟩:=h
 obtain ⟨_,_,rfl,⟨x70,rfl,w70,v70⟩,h⟩:=h
 obtain ⟨_,_,rfl,⟨x71,rfl,w71⟩,h⟩:=h
 obtain ⟨_,_,rfl,⟨x72,rfl,w72⟩,h⟩:=h
 obtain ⟨_,_,rfl,⟨x73,rfl,w73⟩,h⟩:=h
 obtain ⟨_,_,rfl,⟨x74,rfl,w74,v74⟩,h⟩:=h
 obtain ⟨_,_,rfl,⟨x75,rfl,w75⟩,h⟩:=h
 cases h
 obtain ⟨cl,rfl,hcl⟩:=GY Nd.Call.cells (fun e he => RN (v23 e he))
 obtain ⟨sl,rfl,hsl⟩:=GY Nd.Past.cells (fun e he => SZ (v24 e he))
 obtain ⟨kl,rfl,hkl⟩:=GY Item.cells (fun e he => Sc (v74 e he))
 rw [List.length_map] at w23 w24 w74
 exact ⟨⟨⟨x0,x1,x2,x3,fun k => [x4,x5,x6,x7,x8,x9,x10,x11,x12,x13,x14,x15,x16,x17,x18,x19].getD k 0⟩,x20,⟨x21,x22,cl⟩,sl,x25,x26,⟨x27,x28,⟨x29,x30,x31,x32,x33,x34⟩,⟨x35,x36,x37,x38⟩,x39,x40,x41⟩,⟨x42,x43,⟨x44,x45,x46,x47,x48,x49⟩,⟨x50,x51,x52,x53⟩,x54,x55,x56⟩,⟨x57,x58,⟨x59,x60,x61,x62,x63,x64⟩,⟨x65,x66,x67,x68⟩,x69,x70,x71⟩,x72,x73,kl,x75⟩,rfl,
  ⟨wf_i64 w0,fun y hy => wf_i64 (v2 y hy),w1,w2,hcl,w23,hsl,w24,w74,w40,w55,w70⟩⟩
theorem Mh {d : D} (h : L5 1048576 T.get 28 d) : ∃ (c : Nd.AD) (gs : List Nd.Bu),d = c.d ∧ Nd.R5 c ∧ c.grams = gs.map Nd.Bu.cells ∧ ∀ g ∈ gs,g.by_.length ≤ 1048576:=by
 obtain ⟨l,rfl,h⟩:=h
 replace h : C2 1048576 [.sl [.int .i64,.is,.is,.int .i64,.int .i64,.int .i64,.int .i64,.int .i64,.int .i64,.int .i64,.int .i64,.int .i64,.int .i64,.int .i64,.int .i64,.int .i64,.int .i64,.int .i64,.int .i64,.int .i64,.int .i64,.int .i64,.int .i64,.sl [.int .i64,.int .u8,.int .i64,.int .i64,.int .i64,.int .i64,.bool,.bool,.int .i64,.int .i64,.is,.str,.int .i64,.int .i64,.bool,.int .i64,.int .u8,.int .i64,.int .i64,.int .i64],.sl [.int .i64,.int .i64,.int .u8,.int .i64,.int .i64,.int .i64,.int .i64,.bool,.bool,.int .i64,.int .i64,.is,.str,.int .i64,.int .i64,.bool,.int .i64],.int .u8,.int .i64,.int .u8,.int .u8,.int .i64,.int .i64,.int .i64,.bool,.bool,.int .i64,.str,.int .i64,.int .i64,.bool,.int .i64,.is,.int .i64,.int .u8,.int .u8,.int .i64,.int .i64,.int .i64,.bool,.bool,.int .i64,.str,.int .i64,.int .i64,.bool,.int .i64,.is,.int .i64,.int .u8,.int .u8,.int .i64,.int .i64,.int .i64,.bool,.bool,.int .i64,.str,.int .i64,.int .i64,.bool,.int .i64,.is,.int .i64,.int .i64,.str,.sl [.str,.int .i64,.int .i64,.bool],.int .i64],.is,.is,.sl [.int .i64,.by,.bool],.int .i64] l:=h
 obtain ⟨_,_,rfl,⟨x0,rfl,w0,v0⟩,h⟩:=h
 obtain ⟨_,_,rfl,⟨x1,rfl,w1,v1⟩,h⟩:=h
 obtain ⟨_,_,rfl,⟨x2,rfl,w2,v2⟩,h⟩:=h
 obtain ⟨_,_,rfl,⟨x3,rfl,w3,v3⟩,h⟩:=h
 obtain ⟨_,_,rfl,⟨x4,rfl,w4⟩,h⟩:=h
 cases h
 obtain ⟨nl,rfl,hnl⟩:=GY Nd.Node.cells (fun e he => SU (v0 e he))
 obtain ⟨gl,rfl,hgl⟩:=GY Nd.Bu.cells (fun e he => Rf (v3 e he))
 rw [List.length_map] at w0
 exact ⟨⟨nl,x1,x2,gl.map Nd.Bu.cells,x4⟩,gl,rfl,⟨w0,hnl,w1,w2,w3⟩,rfl,hgl⟩
theorem P2 {a b : Bool} (h : a = true) (k : b = true) : (a && b) = true:=by rw [h,k];rfl
theorem JN {d : D} (h : L5 1048576 T.get 3 d) : ∃ n,d = .i .i64 n ∧ i64 n:=by
 obtain ⟨s,hs,h⟩:=h;cases hs
 obtain ⟨n,rfl,h⟩:=h
 exact ⟨n,rfl,wf_i64 h⟩
theorem Me {H : Type} {l : List (DataW H)} {x : DataW H} (h : x ∈ l) : Rows.uptoBulk x ≤ Rows.uptoBulkAll l:=by
 induction l with
 | nil => cases h
 | cons a r ih =>
  simp only [Rows.uptoBulkAll]
  rcases List.mem_cons.1 h with rfl | h
  ·omega
  ·have:=ih h;omega
theorem Un {H : Type} (d : DataW H) : 1 ≤ Rows.uptoBulk d:=by
 cases d with
 | lit l => cases l <;> simp [Rows.uptoBulk]
 | _ => simp [Rows.uptoBulk]
theorem OC {H : Type} : ∀ l : List (DataW H),l.length ≤ Rows.uptoBulkAll l
 | [] => by simp [Rows.uptoBulkAll]
 | x :: r => by
  have:=Un x
  have:=OC r
  simp only [Rows.uptoBulkAll,List.length_cons]
  omega
theorem meas {H : Type} : To (H:=H) 1048576 (fun d => Rows.uptoBulk d ≤ 1048576):=by
 refine ⟨fun l h => ?_,fun e r h => ⟨?_,fun x hx => ?_⟩,fun l h x hx => ?_⟩
 ·simp only [Rows.uptoBulk] at h;omega
 ·simp only [Rows.uptoBulk] at h
  have:=OC e;omega
 ·simp only [Rows.uptoBulk] at h ⊢
  have:=Me hx;omega
 ·simp only [Rows.uptoBulk] at h ⊢
  have:=Me hx;omega
theorem Ju {H : Type} {ds gs : List (DataW H)} (h : Rows.uptoSmall H (ds ++ gs) = true) : ∀ d ∈ ds,Rows.uptoBulk d ≤ 1048576:=by
 intro d hd
 have h' : Rows.uptoBulkAll (ds ++ gs) ≤ 1048576:=of_decide_eq_true h
 have:=Me (l:=ds ++ gs) (List.mem_append_left _ hd)
 omega
end Go.Proofs.YtagnjflbhjmefaaGreat
