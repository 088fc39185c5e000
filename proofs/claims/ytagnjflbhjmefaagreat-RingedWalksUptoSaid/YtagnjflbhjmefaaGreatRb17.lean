/- Part 17 of the texts of this proof, put together by a program and made short.
Conditions: none; what each theorem asks stands in its own hypotheses. -/
import Derived.Test.YtagnjflbhjmefaaGreatRb16
import Derived.Sort.Walk0
import Derived.KernelRfl
import Derived.RangeFuncIn
import Derived.Sort.Grow
import Derived.Laws.Cover3
import Derived.RecoverIn
import Derived.ProofKit
import Derived.OpenShut
import Derived.CallsIn
import Derived.RangeFuncLeaves
import Derived.OrdersIn
import Derived.TacticsIn
import Derived.ChangeKeysEq
import Derived.Laws.AppendOwn
import Derived.Laws.OwnMore
import Derived.Laws.MakeOwn
import Derived.Laws.Rows
import Derived.Laws.Cells
import Derived.Laws.Tables
import Derived.Laws.CopyRow
import Derived.Laws.Strings
import Derived.Laws.IdiomStrings
import Derived.Laws.BytesArg
import Derived.Test.YtagnjflbhjmefaaGreatProg
set_option linter.unusedSimpArgs false
set_option linter.unusedVariables false
set_option linter.unnecessarySimpa false
set_option maxHeartbeats 40000000
namespace Go.Proofs.YtagnjflbhjmefaaGreat
open Go.Gar
set_option maxRecDepth 4000
def YY (f : Nat → Int) (d : Int) (x : Nat × (Nat → Int)) : Prop:=x.1 ≤ 16 ∧ ∀ i,x.2 i = if i < x.1 then (if f i = d then -1 else f i) else f i
theorem YY.at {f : Nat → Int} {d : Int} {k : Nat} {h : Nat → Int} (hi : YY f d (k,h)) : h k = f k:=by
 have:=hi.2 k
 simpa using this
end Go.Proofs.YtagnjflbhjmefaaGreat
namespace Go.Proofs.YtagnjflbhjmefaaGreat
namespace Nd
open Go.Gar
open Wi (AE Az)
set_option maxRecDepth 4000
structure Call where
 id : Int
 msg : AE
 why : Int
 ref : Int
 sent : Int
 tries : Int
def Call.cells (x : Call) : List D:=[.i .i64 x.id,.i .u8 x.msg.kind,.i .i64 x.msg.call,.i .i64 x.msg.src,.i .i64 x.msg.dst,.i .i64 x.msg.key,.b x.msg.slow,.b x.msg.done,.i .i64 x.msg.place,.i .i64 x.msg.pred,.is x.msg.list,.s x.msg.item.key,.i .i64 x.msg.item.value,.i .i64 x.msg.item.version,.b x.msg.item.gone,.i .i64 x.msg.code,.i .u8 x.why,.i .i64 x.ref,.i .i64 x.sent,.i .i64 x.tries]
def Call.d (x : Call) : D:=.agg x.cells
structure Calls where
 id : Int
 many : Int
 op : List Call
abbrev HE (l : List Call) : D:=.sl 20 (l.map Call.cells)
def Calls.cells (c : Calls) : List D:=[.i .i64 c.id,.i .i64 c.many,HE c.op]
def Calls.d (c : Calls) : D:=.agg c.cells
structure Past where
 src : Int
 call : Int
 told : AE
def Past.cells (p : Past) : List D:=[.i .i64 p.src,.i .i64 p.call,.i .u8 p.told.kind,.i .i64 p.told.call,.i .i64 p.told.src,.i .i64 p.told.dst,.i .i64 p.told.key,.b p.told.slow,.b p.told.done,.i .i64 p.told.place,.i .i64 p.told.pred,.is p.told.list,.s p.told.item.key,.i .i64 p.told.item.value,.i .i64 p.told.item.version,.b p.told.item.gone,.i .i64 p.told.code]
def Past.d (p : Past) : D:=.agg p.cells
abbrev AW (l : List Past) : D:=.sl 17 (l.map Past.cells)
structure Look where
 key : Int
 at_ : Int
 hops : Int
 slow : Bool
 found : Bool
 code : Int
structure Job where
 what : Int
 phase : Int
 look : Look
 item : Item
 owner : Int
 left : List Int
 code : Int
def Job.cells (j : Job) : List D:=[.i .u8 j.what,.i .u8 j.phase,.i .i64 j.look.key,.i .i64 j.look.at_,.i .i64 j.look.hops,.b j.look.slow,.b j.look.found,.i .i64 j.look.code,.s j.item.key,.i .i64 j.item.value,.i .i64 j.item.version,.b j.item.gone,.i .i64 j.owner,.is j.left,.i .i64 j.code]
def Job.d (j : Job) : D:=.agg j.cells
structure Node where
 view : View
 clock : Int
 calls : Calls
 seen : List Past
 phase : Int
 of_ : Int
 finger : Job
 mirror : Job
 client : Job
 next : Int
 last : List UInt8
 keep : List Item
 bad : Int
def Node.cells (n : Node) : List D:=n.view.cells ++ (.i .i64 n.clock :: (n.calls.cells ++ (AW n.seen :: .i .u8 n.phase :: .i .i64 n.of_ :: (n.finger.cells ++ (n.mirror.cells ++ (n.client.cells ++ [.i .i64 n.next,.s n.last,BB n.keep,.i .i64 n.bad]))))))
def Node.d (n : Node) : D:=.agg n.cells
structure AD where
 nodes : List Node
 gone : List Int
 base : List Int
 grams : List (List D)
 lost : Int
abbrev A2 (l : List Node) : D:=.sl 76 (l.map Node.cells)
def AD.cells (c : AD) : List D:=[A2 c.nodes,.is c.gone,.is c.base,.sl 3 c.grams,.i .i64 c.lost]
def AD.d (c : AD) : D:=.agg c.cells
def I6 (n : Int) : Bool:=decide (0 ≤ n) && decide (n ≤ 1099511627776)
theorem TR (n : Int) : Go.Gar.Fn Tryz.prog 153 [.i .i64 n] (.b (I6 n)):=by
 refine A3 A8 Tryz.func153 rfl rfl (Nat.le_of_ble_eq_true rfl) ?_
 have nS:=True.intro;obtain ⟨lv,st,ns,nc⟩:=wq [0,2] [];refine wk ?_;clear nc ns st lv;repeat' (first|with_reducible constructor|(with_reducible intro hc;try simp only[A1] at hc))
 all_goals (refine ⟨_,_,rfl,rfl,?_⟩;simp [BQ,I6, *];try omega)
theorem R9 (n : Int) : Go.Gar.Fn Tryz.prog 226 [.i .i64 n] (.b (I6 n)):=by
 refine A3 A8 Tryz.func226 rfl rfl (Nat.le_of_ble_eq_true rfl) ?_
 have nS:=True.intro;obtain ⟨lv,st,ns,nc⟩:=wq [0,2] [];refine wk ?_;clear nc ns st lv;repeat' (first|with_reducible constructor|(with_reducible intro hc;try simp only[A1] at hc))
 all_goals (refine ⟨_,_,rfl,rfl,?_⟩;simp [BQ,I6, *];try omega)
def Gu (phase of_ : Int) : Bool:=if phase = 0 then decide (of_ = 0) else decide (phase ≤ 3) && Az of_
theorem Uq (phase of_ : Int) : Go.Gar.Fn Tryz.prog 100 [.agg [.i .u8 phase,.i .i64 of_]] (.b (Gu phase of_)):=by
 refine A3 A8 Tryz.func100 rfl rfl (Nat.le_of_ble_eq_true rfl) ?_
 have nS:=True.intro;obtain ⟨lv,st,ns,nc⟩:=wq [0,1,2,5] [];refine wk ?_;clear nc ns st lv;repeat' (first|with_reducible constructor|(with_reducible intro hc;try simp only[A1] at hc))
 all_goals (refine ⟨_,_,rfl,rfl,?_⟩;simp [BQ,Gu,Az,DW, *];try omega)
theorem Vp (phase of_ : Int) : Go.Gar.Fn Tryz.prog 114 [.agg [.i .u8 phase,.i .i64 of_]] (.b (Gu phase of_)):=by
 refine A3 A8 Tryz.func114 rfl rfl (Nat.le_of_ble_eq_true rfl) ?_
 have nS:=True.intro;obtain ⟨lv,st,ns,nc⟩:=wq [0,1,2,5] [];refine wk ?_;clear nc ns st lv;repeat' (first|with_reducible constructor|(with_reducible intro hc;try simp only[A1] at hc))
 all_goals (refine ⟨_,_,rfl,rfl,?_⟩;simp [BQ,Gu,Az,DW, *];try omega)
def Oj (id n : Int) : Int × Int:=if Az id = true ∧ 1 ≤ n ∧ n ≤ 1048576 then (id * 1048576 + n,0) else (0,2)
theorem VU (id n : Int) : Go.Gar.Fn Tryz.prog 225 [.i .i64 id,.i .i64 n] (.tup [.i .i64 (Oj id n).1,.i .i64 (Oj id n).2]):=by
 have h1:=Wi.Ic id
 have hb : Az id = true → 0 ≤ id ∧ id < 65536:=Wi.Cw
 refine A3 A8 Tryz.func225 rfl rfl (Nat.le_of_ble_eq_true rfl) ?_
 cases h : Az id with
 | false =>
  rw [h] at h1
  have nS:=True.intro;obtain ⟨lv,st,ns,nc⟩:=wq [0,1,4,5,16] [];have c1:=@h1;have sc : No 3:=trivial;refine wk ?_;clear nc ns st lv sc c1;repeat' (first|with_reducible constructor|(with_reducible intro hc;try simp only[A1] at hc))
  all_goals (refine ⟨_,_,rfl,rfl,?_⟩;simp [FO,CC,Co,Ao,Oj,h])
 | true =>
  rw [h] at h1
  have hb':=hb h
  have nS:=True.intro;obtain ⟨lv,st,ns,nc⟩:=wq [0,1,4,5,16] [];have c1:=@h1;have sc : No 3:=trivial;refine wk ?_;clear nc ns st lv sc c1;repeat' (first|with_reducible constructor|(with_reducible intro hc;try simp only[A1] at hc))
  all_goals (refine ⟨_,_,rfl,rfl,?_⟩;simp only [FO,CC,Co,Ao,Oj,h,true_and,and_true];split <;> simp <;> omega)
end Nd
end Go.Proofs.YtagnjflbhjmefaaGreat
namespace Go.Proofs.YtagnjflbhjmefaaGreat
namespace Nd
open Go.Gar
open Wi (AE Az B7)
set_option maxRecDepth 4000
def AL (n : Node) : List AV:=.d (.i .i64 n.view.id) :: .d (.is n.view.base) :: .d (.is n.view.list) :: .d (.i .i64 n.view.pred) :: .d (.i .i64 (n.view.f 0)) :: .d (.i .i64 (n.view.f 1)) :: .d (.i .i64 (n.view.f 2)) :: .d (.i .i64 (n.view.f 3)) :: .d (.i .i64 (n.view.f 4)) :: .d (.i .i64 (n.view.f 5)) :: .d (.i .i64 (n.view.f 6)) :: .d (.i .i64 (n.view.f 7)) :: .d (.i .i64 (n.view.f 8)) :: .d (.i .i64 (n.view.f 9)) :: .d (.i .i64 (n.view.f 10)) :: .d (.i .i64 (n.view.f 11)) :: .d (.i .i64 (n.view.f 12)) :: .d (.i .i64 (n.view.f 13)) :: .d (.i .i64 (n.view.f 14)) :: .d (.i .i64 (n.view.f 15)) :: .d (.i .i64 n.clock) :: .d (.i .i64 n.calls.id) :: .d (.i .i64 n.calls.many) :: .d (HE n.calls.op) :: .d (AW n.seen) :: .d (.i .u8 n.phase) :: .d (.i .i64 n.of_) :: .d (.i .u8 n.finger.what) :: .d (.i .u8 n.finger.phase) :: .d (.i .i64 n.finger.look.key) :: .d (.i .i64 n.finger.look.at_) :: .d (.i .i64 n.finger.look.hops) :: .d (.b n.finger.look.slow) :: .d (.b n.finger.look.found) :: .d (.i .i64 n.finger.look.code) :: .d (.s n.finger.item.key) :: .d (.i .i64 n.finger.item.value) :: .d (.i .i64 n.finger.item.version) :: .d (.b n.finger.item.gone) :: .d (.i .i64 n.finger.owner) :: .d (.is n.finger.left) :: .d (.i .i64 n.finger.code) :: .d (.i .u8 n.mirror.what) :: .d (.i .u8 n.mirror.phase) :: .d (.i .i64 n.mirror.look.key) :: .d (.i .i64 n.mirror.look.at_) :: .d (.i .i64 n.mirror.look.hops) :: .d (.b n.mirror.look.slow) :: .d (.b n.mirror.look.found) :: .d (.i .i64 n.mirror.look.code) :: .d (.s n.mirror.item.key) :: .d (.i .i64 n.mirror.item.value) :: .d (.i .i64 n.mirror.item.version) :: .d (.b n.mirror.item.gone) :: .d (.i .i64 n.mirror.owner) :: .d (.is n.mirror.left) :: .d (.i .i64 n.mirror.code) :: .d (.i .u8 n.client.what) :: .d (.i .u8 n.client.phase) :: .d (.i .i64 n.client.look.key) :: .d (.i .i64 n.client.look.at_) :: .d (.i .i64 n.client.look.hops) :: .d (.b n.client.look.slow) :: .d (.b n.client.look.found) :: .d (.i .i64 n.client.look.code) :: .d (.s n.client.item.key) :: .d (.i .i64 n.client.item.value) :: .d (.i .i64 n.client.item.version) :: .d (.b n.client.item.gone) :: .d (.i .i64 n.client.owner) :: .d (.is n.client.left) :: .d (.i .i64 n.client.code) :: .d (.i .i64 n.next) :: .d (.s n.last) :: .d (BB n.keep) :: .d (.i .i64 n.bad) :: []
theorem Su (n : Node) (k : Nat) : AV.oks k (AL n) = true:=rfl
abbrev Uz (f : Nat) : AV:=.fn (.func f) [] [.ptr 0 0 76]
abbrev CX : List AV:=[Uz 106,Uz 107,Uz 108,Uz 109,Uz 111,Uz 113,Uz 115,Uz 117,Uz 119]
theorem UM (n : Node) : BK Tryz.prog 157 [.bs 1 0 9 1 9] [.c (AL n),.c CX] (.fn (.func 222) [] [.ptr 2 0 1]) [.c (AL n),.c CX,.c [.bs 1 0 9 1 9]]:=by
 refine AB A8 Tryz.func157 rfl rfl (Nat.le_of_ble_eq_true rfl) ?_
 unfold CX Uz
 have nS:=True.intro;obtain ⟨lv,st,ns,nc⟩:=wq [0,1,2] [];refine wk ?_;clear nc ns st lv;repeat' (first|with_reducible constructor|(with_reducible intro hc;try simp only[A1] at hc))
 exact ⟨⟨[(2,.fn (.func 222) [] [.ptr 2 0 1])],[.c (AL n),.c CX,.c [.bs 1 0 9 1 9]],_⟩,(A0.ck rfl),Nat.le_of_ble_eq_true rfl,_,_,rfl,rfl,rfl,rfl⟩
theorem XV (n : Node) (b1 b2 b3 b4 b5 b6 b7 b8 b9 : Bool) (h1 : BK Tryz.prog 106 [.ptr 0 0 76] [.c (AL n)] (.d (.b b1)) [.c (AL n)]) (h2 : BK Tryz.prog 107 [.ptr 0 0 76] [.c (AL n)] (.d (.b b2)) [.c (AL n)]) (h3 : BK Tryz.prog 108 [.ptr 0 0 76] [.c (AL n)] (.d (.b b3)) [.c (AL n)]) (h4 : BK Tryz.prog 109 [.ptr 0 0 76] [.c (AL n)] (.d (.b b4)) [.c (AL n)]) (h5 : BK Tryz.prog 111 [.ptr 0 0 76] [.c (AL n)] (.d (.b b5)) [.c (AL n)]) (h6 : BK Tryz.prog 113 [.ptr 0 0 76] [.c (AL n)] (.d (.b b6)) [.c (AL n)]) (h7 : BK Tryz.prog 115 [.ptr 0 0 76] [.c (AL n)] (.d (.b b7)) [.c (AL n)]) (h8 : BK Tryz.prog 117 [.ptr 0 0 76] [.c (AL n)] (.d (.b b8)) [.c (AL n)]) (h9 : BK Tryz.prog 119 [.ptr 0 0 76] [.c (AL n)] (.d (.b b9)) [.c (AL n)]) :
  BK Tryz.prog 105 [.bs 1 0 9 1 9] [.c (AL n),.c CX] (.d (.b (b1 && (b2 && (b3 && (b4 && (b5 && (b6 && (b7 && (b8 && (b9))))))))))) [.c (AL n),.c CX]:=by
 obtain ⟨B,hB⟩ : ∃ B,(b1 && (b2 && (b3 && (b4 && (b5 && (b6 && (b7 && (b8 && (b9))))))))) = B:=⟨_,rfl⟩
 rw [hB]
 refine BK.drop (K:=[.c (AL n),.c CX,.c [.d (.b B)]]) _ ?_ ⟨.inr rfl,.inr rfl,trivial⟩ rfl rfl rfl
 refine AB A8 Tryz.func105 rfl rfl (Nat.le_of_ble_eq_true rfl) ?_
 have nS:=True.intro;obtain ⟨lv,st,ns,nc⟩:=wq [0,2,3,5,6,8] [];have d1:=Ds.mk [0,1] (UM n);refine wk ?_;clear nc ns st lv d1;repeat' (first|with_reducible constructor|(with_reducible intro hc;try simp only[A1] at hc))
 refine Bn (K:=fun r _ H' => (B = true ∧ H' = [.c (AL n),.c CX,.c [.d (.b false)],.c [.bs 1 0 9 1 9],.lp r]) ∨ (B = false ∧ H' = [.c (AL n),.c CX,.c [.d (.b false)],.c [.bs 1 0 9 1 9],.lp (r.left .ret)])) rfl (by first | (simp only [Ai,Ae,Nat.reduceAdd,Int.reduceAdd,Int.reduceSub,Int.reduceMul,Int.reduceToNat];done) | (simp only [Ai,Ae,Nat.reduceAdd,Int.reduceAdd,Int.reduceSub,Int.reduceMul,Int.reduceToNat];rfl) | rfl) (by first | (simp only [Ai,Ae,Nat.reduceAdd,Int.reduceAdd,Int.reduceSub,Int.reduceMul,Int.reduceToNat];done) | (simp only [Ai,Ae,Nat.reduceAdd,Int.reduceAdd,Int.reduceSub,Int.reduceMul,Int.reduceToNat];rfl) | rfl) (fun r => rfl) ?_ ?_
 ·intro r hr
  have hT : ∀ v : Bool,v = true → YT Tryz.prog 4 [.d (.b v)] [.c (AL n),.c CX,.c [.d (.b false)],.c [.bs 1 0 9 1 9],.lp r] fun x K => x = .d (.b true) ∧ K = [.c (AL n),.c CX,.c [.d (.b false)],.c [.bs 1 0 9 1 9],.lp r]:=by
   rintro _ rfl
   refine B0 hr rfl rfl rfl ?_
   have nS:=True.intro;obtain ⟨lv,st,ns,nc⟩:=wq [0,2,3,5,6,8] [];refine wk ?_;clear nc ns st lv;repeat' (first|with_reducible constructor|(with_reducible intro hc;try simp only[A1] at hc))
   refine ⟨rfl,CB (by first | (simp only [Ai,Ae,Nat.reduceAdd,Int.reduceAdd,Int.reduceSub,Int.reduceMul,Int.reduceToNat];done) | (simp only [Ai,Ae,Nat.reduceAdd,Int.reduceAdd,Int.reduceSub,Int.reduceMul,Int.reduceToNat];rfl) | rfl) ?_⟩
   have nS:=True.intro;obtain ⟨lv,st,ns,nc⟩:=wq [0,2,3,5,6,8] [];refine wk ?_;clear nc ns st lv;repeat' (first|with_reducible constructor|(with_reducible intro hc;try simp only[A1] at hc))
   exact ⟨_,A0.refl _,Nat.le_refl _,rfl,rfl,rfl⟩
  have hF : ∀ v : Bool,v = false → YT Tryz.prog 4 [.d (.b v)] [.c (AL n),.c CX,.c [.d (.b false)],.c [.bs 1 0 9 1 9],.lp r] fun x K => x = .d (.b false) ∧ K = [.c (AL n),.c CX,.c [.d (.b false)],.c [.bs 1 0 9 1 9],.lp (r.left .ret)]:=by
   rintro _ rfl
   refine B0 hr rfl rfl rfl ?_
   have nS:=True.intro;obtain ⟨lv,st,ns,nc⟩:=wq [0,2,3,5,6,8] [];refine wk ?_;clear nc ns st lv;repeat' (first|with_reducible constructor|(with_reducible intro hc;try simp only[A1] at hc))
   refine ⟨rfl,CB (by first | (simp only [Ai,Ae,Nat.reduceAdd,Int.reduceAdd,Int.reduceSub,Int.reduceMul,Int.reduceToNat];done) | (simp only [Ai,Ae,Nat.reduceAdd,Int.reduceAdd,Int.reduceSub,Int.reduceMul,Int.reduceToNat];rfl) | rfl) ?_⟩
   have nS:=True.intro;obtain ⟨lv,st,ns,nc⟩:=wq [0,2,3,5,6,8] [];refine wk ?_;clear nc ns st lv;repeat' (first|with_reducible constructor|(with_reducible intro hc;try simp only[A1] at hc))
   exact ⟨_,A0.refl _,Nat.le_refl _,rfl,rfl,rfl⟩
  refine BP A8 Tryz.func222 rfl rfl (Nat.le_of_ble_eq_true rfl) ?_
  have hk:=And.intro (Su n) (hr.ok (k:=4) rfl)
  have nS:=True.intro;obtain ⟨lv,st,ns,nc⟩:=wq [0,1,4,5,6,7,8,15] [];have un : No 10:=trivial;have g1T:=@hT;have g1F:=@hF;have d1:=Ds.mk [0] (h1);have d2:=Ds.mk [0] (h2);have d3:=Ds.mk [0] (h3);have d4:=Ds.mk [0] (h4);have d5:=Ds.mk [0] (h5);have d6:=Ds.mk [0] (h6);have d7:=Ds.mk [0] (h7);have d8:=Ds.mk [0] (h8);have d9:=Ds.mk [0] (h9);refine wk ?_;clear nc ns st lv d9 d8 d7 d6 d5 d4 d3 d2 d1 g1F g1T un;repeat' (first|with_reducible constructor|(with_reducible intro hc;try simp only[A1] at hc))
  all_goals clear h1 h2 h3 h4 h5 h6 h7 h8 h9 hT hF
  all_goals first
   | (guard_hyp hc : b9 = true;exact ⟨⟨[],[.c (AL n),.c CX,.c [.d (.b false)],.c [.bs 1 0 9 1 9],.lp r],_⟩,(A0.ck rfl),Nat.le_refl _,_,_,rfl,rfl,.inl ⟨by rw [← hB];simp only [*,Bool.and_self],rfl⟩⟩)
   | exact ⟨⟨[],[.c (AL n),.c CX,.c [.d (.b false)],.c [.bs 1 0 9 1 9],.lp (r.left .ret)],_⟩,(A0.ck rfl),Nat.le_refl _,_,_,rfl,rfl,.inr ⟨by rw [← hB];simp only [*,Bool.and_false,Bool.false_and,Bool.and_self],rfl⟩⟩
 ·rintro r hr y H' (⟨h,rfl⟩ | ⟨h,rfl⟩)
  ·refine .inl ⟨rfl,?_⟩
   have nS:=True.intro;obtain ⟨lv,st,ns,nc⟩:=wq [0,2,3,5,6,8] [];refine wk ?_;clear nc ns st lv;repeat' (first|with_reducible constructor|(with_reducible intro hc;try simp only[A1] at hc))
   exact ⟨⟨[(2,.ptr 2 0 1)],[.c (AL n),.c CX,.c [.d (.b true)]],_⟩,(A0.ck rfl),Nat.le_of_ble_eq_true rfl,_,_,rfl,rfl,by rw [h],by rw [h]⟩
  ·refine .inr ⟨.ret,rfl,?_⟩
   have nS:=True.intro;obtain ⟨lv,st,ns,nc⟩:=wq [0,2,3,5,6,8] [];refine wk ?_;clear nc ns st lv;repeat' (first|with_reducible constructor|(with_reducible intro hc;try simp only[A1] at hc))
   exact ⟨⟨[(2,.ptr 2 0 1)],[.c (AL n),.c CX,.c [.d (.b false)]],_⟩,(A0.ck rfl),Nat.le_of_ble_eq_true rfl,_,_,rfl,rfl,by rw [h],by rw [h]⟩
end Nd
end Go.Proofs.YtagnjflbhjmefaaGreat
namespace Go.Proofs.YtagnjflbhjmefaaGreat
open Go.Gar
set_option maxRecDepth 4000
def newV (id : Int) (base : List Int) : View:=⟨id,base,[],-1,fun _ => -1⟩
def zeroV : View:=⟨0,[],[],0,fun _ => 0⟩
def newT (id : Int) (base : List Int) : View × Int:=if C1 (newV id base) then (newV id base,0) else (zeroV,2)
theorem Vl (id : Int) (base : List Int) (hid : i64 id) (hb : base.length ≤ 1000) : Go.Gar.Fn Tryz.prog 85 [.i .i64 id,.is base] (.tup [(newT id base).1.d,.i .i64 (newT id base).2]):=by
 have c2:=Ki (newV id base) hid (fun y hy => by cases hy) hb (show ([] : List Int).length ≤ 1000 by decide)
 change Go.Gar.Fn _ _ [.agg [.i .i64 id,.is base,.is [],.i .i64 (-1),.i .i64 (-1),.i .i64 (-1),.i .i64 (-1),.i .i64 (-1),.i .i64 (-1),.i .i64 (-1),.i .i64 (-1),.i .i64 (-1),.i .i64 (-1),.i .i64 (-1),.i .i64 (-1),.i .i64 (-1),.i .i64 (-1),.i .i64 (-1),.i .i64 (-1),.i .i64 (-1)]] _ at c2
 unfold newT
 refine A3 A8 Tryz.func85 rfl rfl (Nat.le_of_ble_eq_true rfl) ?_
 cases h : C1 (newV id base) with
 | true =>
  rw [h] at c2
  have nS:=True.intro;obtain ⟨lv,st,ns,nc⟩:=wq [0,1,4,5,6,7,14,22] [];have z1:=@c2;have un : No 17:=trivial;refine wk ?_;clear nc ns st lv un z1;repeat' (first|with_reducible constructor|(with_reducible intro hc;try simp only[A1] at hc))
  refine ⟨_,_,rfl,rfl,?_⟩;simp [AH,A6,A5,A4,newV,View.d,View.cells]
 | false =>
  rw [h] at c2
  have nS:=True.intro;obtain ⟨lv,st,ns,nc⟩:=wq [0,1,4,5,6,7,14,22] [];have z1:=@c2;have un : No 17:=trivial;refine wk ?_;clear nc ns st lv un z1;repeat' (first|with_reducible constructor|(with_reducible intro hc;try simp only[A1] at hc))
  refine ⟨_,_,rfl,rfl,?_⟩;simp [AH,A6,A5,A4,zeroV,View.d,View.cells]
end Go.Proofs.YtagnjflbhjmefaaGreat
namespace Go.Proofs.YtagnjflbhjmefaaGreat
open Go.Gar
theorem Rt (l : List UInt8) (a : Nat) : l.foldl (fun a d => a * 256 + d.toNat) a = a * 256 ^ l.length + Cq l:=by
 induction l generalizing a with
 | nil => simp [Cq]
 | cons d r ih =>
  have e : Cq (d :: r) = d.toNat * 256 ^ r.length + Cq r:=by
   show r.foldl _ (0 * 256 + d.toNat) = _
   rw [ih];simp
  simp only [List.foldl_cons,List.length_cons]
  rw [ih,e,Nat.pow_succ,Nat.add_mul,Nat.mul_assoc,Nat.mul_comm 256,Nat.add_assoc]
theorem IN (d : UInt8) (l : List UInt8) : Cq (d :: l) = d.toNat * 256 ^ l.length + Cq l:=by
 show l.foldl _ (0 * 256 + d.toNat) = _
 rw [Rt];simp
theorem I4 (n i : Nat) : (X0 n i).toNat = n / 256 ^ i % 256:=by
 simp [X0]
theorem NU (n k : Nat) : (Dj n k).length = k:=by simp [Dj]
theorem S7 (n k : Nat) : Cq (Dj n k) = n % 256 ^ k:=by
 induction k with
 | zero => simp [Dj,Cq,Nat.mod_one]
 | succ k ih =>
  rw [Ex,IN,ih,NU,I4,Nat.pow_succ,Nat.mod_mul]
  rw [Nat.mul_comm,Nat.add_comm]
theorem QK (n : Nat) : n < 256 ^ size n:=by
 have h:=(size_pos (n:=n) (k:=size n))
 have h0 : n / 256 ^ size n = 0:=Nat.eq_zero_of_not_pos (fun h1 => absurd (h.1 h1) (Nat.lt_irrefl _))
 have hp : 0 < 256 ^ size n:=Nat.pow_pos (by decide)
 rcases (Nat.div_eq_zero_iff).1 h0 with h1 | h1
 ·omega
 ·exact h1
theorem MN (n : Nat) : GD n = Dj n (size n):=rfl
theorem SX (n : Nat) : Cq (GD n) = n:=by
 rw [MN,S7,Nat.mod_eq_of_lt (QK n)]
theorem Ub (n : Nat) : (GD n).length = size n:=NU _ _
theorem R4 (n : Nat) (h : 0 < size n) : (GD n).getD 0 0 ≠ 0:=by
 obtain ⟨k,hk⟩ : ∃ k,size n = k + 1:=⟨size n - 1,by omega⟩
 rw [MN,hk,Ex]
 intro e
 have e':=congrArg UInt8.toNat e
 simp only [List.getD_cons_zero,I4,UInt8.toNat_zero] at e'
 have h1:=(size_pos (n:=n) (k:=k)).2 (by omega)
 have h2:=QK n
 rw [hk,Nat.pow_succ] at h2
 have h3 : n / 256 ^ k < 256:=(Nat.div_lt_iff_lt_mul (Nat.pow_pos (by decide))).2 (by rwa [Nat.mul_comm])
 omega
theorem LV (n : Nat) (r : List UInt8) (h : n ≤ 1099511627776) : Ag (Ck n ++ r) = (n,r,0):=by
 have hs:=size_le n (by omega)
 have hl:=Ub n
 have hm : (UInt8.ofNat (size n)).toNat = size n:=by rw [UInt8.toNat_ofNat'];omega
 have e1 : (GD n ++ r).take (size n) = GD n:=by rw [← hl];simp
 have e2 : (GD n ++ r).drop (size n) = r:=by rw [← hl];simp
 simp only [Ck,List.cons_append,Ag,hm]
 rw [if_neg (by omega),if_neg (by simp;omega),e1,e2,SX,if_neg]
 rintro (⟨h1,h2⟩ | h1)
 ·refine R4 n h1 (Eq.trans ?_ h2)
  rw [List.getD_eq_getElem?_getD,List.getD_eq_getElem?_getD,List.getElem?_append_left (by omega)]
 ·omega
theorem Tt (n k : Nat) : Dj (n % 256 ^ k) k = Dj n k:=by
 unfold Dj
 apply List.map_congr_left
 intro j hj
 have hj' : j < k:=by simpa using hj
 have : (X0 (n % 256 ^ k) (k - 1 - j)).toNat = (X0 n (k - 1 - j)).toNat:=by
  rw [I4,I4]
  obtain ⟨i,hi⟩ : ∃ i,k = (k - 1 - j) + 1 + i:=⟨j,by omega⟩
  generalize k - 1 - j = q at *
  subst hi
  rw [show q + 1 + i = q + (1 + i) by omega,Nat.pow_add,Nat.mod_mul_right_div_self,show 1 + i = i + 1 by omega,Nat.pow_succ,Nat.mul_comm (256 ^ i) 256,Nat.mod_mul_right_mod]
 exact UInt8.toNat_inj.1 this
theorem SN (l : List UInt8) : Dj (Cq l) l.length = l:=by
 induction l with
 | nil => rfl
 | cons d r ih =>
  have hp : 0 < 256 ^ r.length:=Nat.pow_pos (by decide)
  have hv:=JO r
  have hd:=d.toNat_lt
  rw [List.length_cons,Ex,← Tt,IN,Nat.add_comm,Nat.add_mul_mod_self_right,Nat.mod_eq_of_lt hv,ih]
  congr 1
  apply UInt8.toNat_inj.1
  rw [I4,Nat.add_comm,Nat.mul_comm,Nat.mul_add_div hp,Nat.div_eq_of_lt hv]
  omega
theorem size_eq {n k : Nat} (h1 : n < 256 ^ k) (h2 : k = 0 ∨ 256 ^ (k - 1) ≤ n) : size n = k:=by
 have a:=(size_pos (n:=n) (k:=k))
 have b:=(size_pos (n:=n) (k:=k - 1))
 have c : n / 256 ^ k = 0:=Nat.div_eq_of_lt h1
 rcases h2 with h2 | h2
 ·subst h2;omega
 ·have : 0 < n / 256 ^ (k - 1):=Nat.div_pos h2 (Nat.pow_pos (by decide))
  have:=b.1 this
  omega
theorem Lo {b r : List UInt8} {n : Nat} (h : Ag b = (n,r,0)) : b = Ck n ++ r ∧ n ≤ 1099511627776:=by
 rcases b with _ | ⟨m,l⟩
 ·simp [Ag] at h
 ·simp only [Ag] at h
  split at h
  ·simp at h
  ·rename_i h6
   split at h
   ·simp at h
   ·rename_i hr
    split at h
    ·simp at h
    ·rename_i hP
     simp only [Prod.mk.injEq,and_true] at h
     obtain ⟨rfl,rfl⟩:=h
     have hlen : (l.take m.toNat).length = m.toNat:=by simp;omega
     have hsz : size (Cq (l.take m.toNat)) = m.toNat:=by
      refine size_eq (by have:=JO (l.take m.toNat);rwa [hlen] at this) ?_
      rcases Nat.eq_zero_or_pos m.toNat with h0 | h0
      ·exact .inl h0
      ·right
       rcases hl : l with _ | ⟨d,q⟩
       ·rw [hl] at hr;simp at hr;omega
       ·obtain ⟨k,hk⟩ : ∃ k,m.toNat = k + 1:=⟨m.toNat - 1,by omega⟩
        rw [hl,hk,List.take_succ_cons] at hlen
        rw [hk,List.take_succ_cons,IN]
        simp only [List.length_cons,Nat.add_right_cancel_iff] at hlen
        rw [hlen,Nat.add_sub_cancel]
        have hd : d.toNat ≠ 0:=fun e => hP (.inl ⟨h0,by rw [hl];exact u8z e⟩)
        have : 1 * 256 ^ k ≤ d.toNat * 256 ^ k:=Nat.mul_le_mul_right _ (by omega)
        omega
     refine ⟨?_,by omega⟩
     have e : GD (Cq (l.take m.toNat)) = l.take m.toNat:=by
      rw [MN,hsz]
      have:=SN (l.take m.toNat)
      rwa [hlen] at this
     simp only [Ck,e,hsz,List.cons_append,List.take_append_drop]
     congr 1
     apply UInt8.toNat_inj.1
     rw [UInt8.toNat_ofNat']
     have:=m.toNat_lt
     omega
theorem EG : ∀ (k : Nat) (r : List UInt8) (acc : List Int),(Bi k r acc).1.length ≤ acc.length + k
 | 0,r,acc => by simp [Bi]
 | k + 1,r,acc => by
  simp only [Bi]
  split
  ·have:=EG k (Ag r).2.1 (acc ++ [((Ag r).1 : Int)])
   simp only [List.length_append,List.length_cons,List.length_nil] at this
   omega
  ·simp
theorem LG (b : List UInt8) : (AX b).1.length ≤ 255:=by
 rcases b with _ | ⟨m,r⟩
 ·simp [AX]
 ·have h1:=EG m.toNat r []
  have h2:=m.toNat_lt
  simp only [AX]
  simp only [List.length_nil] at h1
  omega
theorem IT (s r : List UInt8) (h : s.length ≤ 255) : AQ (UInt8.ofNat s.length :: s ++ r) = (s,r,0):=by
 have hm : (UInt8.ofNat s.length).toNat = s.length:=by rw [UInt8.toNat_ofNat'];omega
 simp only [List.cons_append,AQ,hm]
 rw [if_neg (by simp)]
 simp
theorem Gq (r : List UInt8) : ∀ (l : List Int) (acc : List Int),l.all fits = true → Bi l.length (AA l ++ r) acc = (acc ++ l,r,0)
 | [],acc,_ => by simp [Bi,AA]
 | n :: l,acc,h => by
  simp only [List.all_cons,Bool.and_eq_true] at h
  obtain ⟨m,rfl,hm⟩:=Hm h.1
  simp only [List.length_cons,Bi,AA,Int.toNat_natCast,List.append_assoc,LV m _ hm,if_true]
  rw [Gq r l _ h.2]
  simp
theorem M0 (l : List Int) (r : List UInt8) (h : l.length ≤ 255) (hf : l.all fits = true) : AX (UInt8.ofNat l.length :: AA l ++ r) = (l,r,0):=by
 have hm : (UInt8.ofNat l.length).toNat = l.length:=by rw [UInt8.toNat_ofNat'];omega
 simp only [List.cons_append,AX,hm]
 rw [Gq r l [] hf]
 simp
theorem ON (b : List UInt8) : (∃ n r,Ag b = (n,r,0) ∧ b = Ck n ++ r ∧ n ≤ 1099511627776) ∨ Ag b = (0,[],11) ∨ Ag b = (0,[],12):=by
 rcases hb : Ag b with ⟨n,r,e⟩
 by_cases he : e = 0
 ·subst he
  obtain ⟨h1,h2⟩:=Lo hb
  exact .inl ⟨n,r,rfl,h1,h2⟩
 ·right
  rcases b with _ | ⟨m,l⟩
  ·simp [Ag] at hb;simp [← hb.1,← hb.2.1,← hb.2.2]
  ·simp only [Ag] at hb
   split at hb
   ·simp at hb;simp [← hb.1,← hb.2.1,← hb.2.2]
   ·split at hb
    ·simp at hb;simp [← hb.1,← hb.2.1,← hb.2.2]
    ·split at hb
     ·simp at hb;simp [← hb.1,← hb.2.1,← hb.2.2]
     ·simp at hb;exact absurd hb.2.2.symm he
theorem FU (b : List UInt8) : (∃ s r,AQ b = (s,r,0) ∧ b = UInt8.ofNat s.length :: s ++ r ∧ s.length ≤ 255) ∨ AQ b = ([],[],11):=by
 rcases b with _ | ⟨m,l⟩
 ·exact .inr rfl
 ·have hm:=m.toNat_lt
  simp only [AQ]
  by_cases h : l.length < m.toNat
  ·rw [if_pos h];exact .inr rfl
  ·rw [if_neg h]
   have hl : (l.take m.toNat).length = m.toNat:=by simp;omega
   refine .inl ⟨_,_,rfl,?_,by omega⟩
   rw [hl,List.cons_append,List.take_append_drop]
   congr 1
   apply UInt8.toNat_inj.1
   rw [UInt8.toNat_ofNat'];omega
theorem Is : ∀ (k : Nat) (b : List UInt8) (acc : List Int),(∃ l r,Bi k b acc = (acc ++ l,r,0) ∧ b = AA l ++ r ∧ l.length = k ∧ l.all fits = true) ∨ ∃ e,Bi k b acc = ([],[],e) ∧ e ≠ 0
 | 0,b,acc => .inl ⟨[],b,by simp [Bi],by simp [AA],rfl,rfl⟩
 | k + 1,b,acc => by
  simp only [Bi]
  rcases ON b with ⟨n,r,h,hb,hn⟩ | h | h
  ·rw [h]
   simp only [if_true]
   rcases Is k r (acc ++ [(n : Int)]) with ⟨l,r',h1,h2,h3,h4⟩ | ⟨e,h1,h2⟩
   ·refine .inl ⟨(n : Int) :: l,r',by rw [h1];simp,?_,by simp [h3],?_⟩
    ·rw [hb,h2];simp [AA]
    ·have hf : fits (n : Int) = true:=by simp [fits];omega
     simp only [List.all_cons,hf,h4,Bool.and_self]
   ·exact .inr ⟨e,h1,h2⟩
  ·rw [h];exact .inr ⟨11,by simp,by decide⟩
  ·rw [h];exact .inr ⟨12,by simp,by decide⟩
theorem J4 (b : List UInt8) : (∃ l r,AX b = (l,r,0) ∧ b = UInt8.ofNat l.length :: AA l ++ r ∧ l.length ≤ 255 ∧ l.all fits = true) ∨ ∃ e,AX b = ([],[],e) ∧ e ≠ 0:=by
 rcases b with _ | ⟨m,q⟩
 ·exact .inr ⟨11,rfl,by decide⟩
 ·have hm:=m.toNat_lt
  simp only [AX]
  rcases Is m.toNat q [] with ⟨l,r',h1,h2,h3,h4⟩ | ⟨e,h1,h2⟩
  ·refine .inl ⟨l,r',by rw [h1];simp,?_,by omega,h4⟩
   rw [List.cons_append,← h2,h3]
   congr 1
   apply UInt8.toNat_inj.1
   rw [UInt8.toNat_ofNat'];omega
  ·exact .inr ⟨e,h1,h2⟩
end Go.Proofs.YtagnjflbhjmefaaGreat
namespace Go.Proofs.YtagnjflbhjmefaaGreat
open Go.Gar
set_option maxRecDepth 4000
def Cp (a x b : Int) : Bool:=if Bm a = Bm b then decide (Bm x ≠ Bm a) else decide (AK a x > 0 ∧ AK a x < AK a b)
def Es : Int → List Int → List Int → Bool
 | _,[],_ => false
 | a,p :: r,base => base.any (fun b => Cp a b p) || Es p r base
theorem Wc {g : Int → Bool} {l : List Int} {k : Nat} {b : Int} (hb : l[k]? = some b) (h : g b = true) : l.any g = true:=List.any_eq_true.2 ⟨b,List.mem_of_getElem? hb,h⟩
theorem LR {g : Int → Bool} {l : List Int} {k : Nat} {b : Int} (hb : l[k]? = some b) (h : g b = false) (hp : ∀ x ∈ l.take k,g x = false) : ∀ x ∈ l.take (k + 1),g x = false:=by
 intro x hx
 rw [AR hb,List.mem_append] at hx
 rcases hx with hx | hx
 ·exact hp x hx
 ·rw [List.mem_singleton.1 hx];exact h
theorem NM {x : Int} : ∀ (l : List Int) (f : Int),rT x f l = true → ∀ y ∈ l,AK x y > f
 | [],f,_,y,hy => by cases hy
 | a :: r,f,h,y,hy => by
  simp only [rT,Bool.and_eq_true,decide_eq_true_eq] at h
  rcases List.mem_cons.1 hy with rfl | hy
  ·exact h.1.2
  ·have:=NM r _ h.2 y hy;omega
theorem Ua {x : Int} {base : List Int} (hb : ∀ b ∈ base,Ay b = true) : ∀ (l : List Int) (a : Int),rT x (AK x a) l = true →
  (Es a l base = true ↔ ∃ b ∈ base,AK x a < AK x b ∧ (∃ p ∈ l,AK x b < AK x p) ∧ b ∉ l)
 | [],a,_ => by simp [Es]
 | p :: r,a,h => by
  simp only [rT,Bool.and_eq_true,decide_eq_true_eq] at h
  obtain ⟨⟨hp,hf⟩,hr⟩:=h
  have hpl:=BN hp
  have hfar:=NM r _ hr
  have hbt : ∀ b,Cp a b p = true ↔ AK x a < AK x b ∧ AK x b < AK x p:=by
   intro b
   have hne : Bm a ≠ Bm p:=by unfold Bm;unfold AK at hf;omega
   unfold Cp
   rw [if_neg hne,decide_eq_true_eq]
   unfold AK at *
   omega
  simp only [Es,Bool.or_eq_true,List.any_eq_true,hbt]
  rw [Ua hb r p hr]
  constructor
  ·rintro (⟨b,h1,h2,h3⟩ | ⟨b,h1,h2,⟨q,h3,h4⟩,h5⟩)
   ·refine ⟨b,h1,h2,⟨p,List.mem_cons_self ..,h3⟩,fun hm => ?_⟩
    rcases List.mem_cons.1 hm with rfl | hm
    ·omega
    ·have:=hfar b hm;omega
   ·refine ⟨b,h1,by omega,⟨q,List.mem_cons_of_mem _ h3,h4⟩,fun hm => ?_⟩
    rcases List.mem_cons.1 hm with rfl | hm
    ·omega
    ·exact h5 hm
  ·rintro ⟨b,h1,h2,⟨q,h3,h4⟩,h5⟩
   by_cases e : AK x b < AK x p
   ·exact .inl ⟨b,h1,h2,e⟩
   ·right
    have hbp:=BN (hb b h1)
    have hne : AK x b ≠ AK x p:=fun e2 => h5 (by
     have : b = p:=by unfold AK at e2;omega
     rw [this];exact List.mem_cons_self ..)
    refine ⟨b,h1,by omega,⟨q,?_,h4⟩,fun hm => h5 (List.mem_cons_of_mem _ hm)⟩
    rcases List.mem_cons.1 h3 with rfl | h3
    ·omega
    ·exact h3
theorem WW (a x b : Int) (ha : i64 a) (hx : i64 x) (hb : i64 b) : Go.Gar.Fn Tryz.prog 27 [.i .i64 a,.i .i64 x,.i .i64 b] (.b (Cp a x b)):=by
 have c1:=BM a ha
 have c2:=BM b hb
 have c3:=BM x hx
 have c4:=GT a x ha hx
 have c5:=GT a b ha hb
 refine A3 A8 Tryz.func27 rfl rfl (Nat.le_of_ble_eq_true rfl) ?_
 by_cases h : Bm a = Bm b
 ·have f1:=Ar h
  have hT : Cp a x b = decide (Bm x ≠ Bm a):=if_pos h
  by_cases h2 : Bm x = Bm a
  ·have f2:=Bb h2
   have hT2 : Cp a x b = false:=by rw [hT];simp [h2]
   have nS:=And.intro f1 f2;obtain ⟨lv,st,ns,nc⟩:=wq [0,1,2,6,11] [];have c1:=@c1;have c2:=@c2;have c3:=@c3;refine wk ?_;clear nc ns st lv c3 c2 c1;repeat' (first|with_reducible constructor|(with_reducible intro hc;try simp only[A1] at hc))
   refine ⟨_,_,rfl,rfl,?_⟩;simp [AH,A6,A5,A4,hT2]
  ·have f2:=Be h2
   have hT2 : Cp a x b = true:=by rw [hT];simp [h2]
   have nS:=And.intro f1 f2;obtain ⟨lv,st,ns,nc⟩:=wq [0,1,2,6,11] [];have c1:=@c1;have c2:=@c2;have c3:=@c3;refine wk ?_;clear nc ns st lv c3 c2 c1;repeat' (first|with_reducible constructor|(with_reducible intro hc;try simp only[A1] at hc))
   refine ⟨_,_,rfl,rfl,?_⟩;simp [AH,A6,A5,A4,hT2]
 ·have f1:=eq_false' h
  have hT : Cp a x b = decide (AK a x > 0 ∧ AK a x < AK a b):=if_neg h
  by_cases h2 : AK a x > 0
  ·have f2 : decide (AK a x > 0) = true:=decide_eq_true h2
   have hT2 : Cp a x b = decide (AK a x < AK a b):=by rw [hT];simp [h2]
   have nS:=And.intro f1 f2;obtain ⟨lv,st,ns,nc⟩:=wq [0,1,2,6,11] [];have c1:=@c1;have c2:=@c2;have c3:=@c3;have c4:=@c4;have c5:=@c5;refine wk ?_;clear nc ns st lv c5 c4 c3 c2 c1;repeat' (first|with_reducible constructor|(with_reducible intro hc;try simp only[A1] at hc))
   refine ⟨_,_,rfl,rfl,?_⟩;simp [AH,A6,A5,A4,hT2]
  ·have f2 : decide (AK a x > 0) = false:=decide_eq_false h2
   have hT2 : Cp a x b = false:=by rw [hT];simp [h2]
   have nS:=And.intro f1 f2;obtain ⟨lv,st,ns,nc⟩:=wq [0,1,2,6,11] [];have c1:=@c1;have c2:=@c2;have c3:=@c3;have c4:=@c4;have c5:=@c5;refine wk ?_;clear nc ns st lv c5 c4 c3 c2 c1;repeat' (first|with_reducible constructor|(with_reducible intro hc;try simp only[A1] at hc))
   refine ⟨_,_,rfl,rfl,?_⟩;simp [AH,A6,A5,A4,hT2]
theorem KU (x : Int) (l base : List Int) (hx : i64 x) (hl : ∀ y ∈ l,i64 y) (hb : ∀ y ∈ base,i64 y) (hn : l.length ≤ 1000) (hm : base.length ≤ 1000) : Go.Gar.Fn Tryz.prog 47 [.i .i64 x,.is l,.is base] (.b (Es x l base)):=by
 refine A3 A8 Tryz.func47 rfl rfl (Nat.le_of_ble_eq_true rfl) ?_
 have nS:=True.intro;obtain ⟨lv,st,ns,nc⟩:=wq [0,1,2,6,7,8,9,14,20,32] [];have pr : AC []:=trivial;refine wd ?_;clear nc ns st lv pr;repeat' (first|with_reducible constructor|(with_reducible intro hc;try simp only[A1] at hc))
 refine Aq (fun k => k ≤ l.length ∧ i64 (ahead x l k) ∧ Es x l base = Es (ahead x l k) (l.drop k) base) (fun k : Nat => ⟨[(0,.d (.i .i64 x)),(1,.d (.is l)),(2,.d (.is base)),(6,.d (.b false)),(7,.d (.i .i64 (ahead x l k))),(8,.d (.i .i64 k))],[],37⟩) (fun k => l.length - k) 0 ⟨Nat.zero_le _,hx,rfl⟩ ?_ (Nat.le_refl _) ?_
 ·exact A0.cut rfl (by repeat' (first | exact True.intro | refine And.intro (by (first | rfl | ((with_reducible_and_instances refine congrArg (fun z => some (AV.d (D.i _ z))) ?_);omega) | (refine congrArg (fun z => some (AV.d (D.i _ z))) (?_ : (_ : Int) = _);omega) | (refine congrArg some ?_;simp only [ahead];done) | (refine congrArg some ?_;simp [ahead];done))) ?_)) (by repeat' (first | exact True.intro | refine And.intro (Or.inr rfl) ?_ | refine And.intro (Or.inl ⟨rfl,rfl⟩) ?_ | refine And.intro (Or.inr (by simp only [ahead])) ?_ | refine And.intro (Or.inr (by simp [ahead])) ?_)) (by first | rfl | (simp (decide:=true) [AT,A7.ok,AV.oks,AV.ok,hk];done)) rfl
 rintro k ⟨hk,hA,hS⟩
 by_cases hkl : k < l.length
 ·obtain ⟨p,hp⟩:=AG hkl
  have gp:=AY hp
  have hpi:=hl p (List.mem_of_getElem? hp)
  have hd : l.drop k = p :: l.drop (k + 1):=by
   rw [List.drop_eq_getElem_cons hkl]
   rw [List.getElem?_eq_getElem hkl] at hp
   cases hp;rfl
  have hN : ahead x l (k + 1) = p:=gp
  rw [hd] at hS
  generalize hat : ahead x l k = a at *
  have nS:=gp;obtain ⟨lv,st,ns,nc⟩:=wq [0,1,2,6,7,8,9,14,20,32] [];have pr : AC []:=trivial;refine wd ?_;clear nc ns st lv pr;repeat' (first|with_reducible constructor|(with_reducible intro hc;try simp only[A1] at hc))
  refine Aq (fun j => j ≤ base.length ∧ ∀ b ∈ base.take j,Cp a b p = false) (fun j : Nat => ⟨[(0,.d (.i .i64 x)),(1,.d (.is l)),(2,.d (.is base)),(6,.d (.b false)),(7,.d (.i .i64 a)),(8,.d (.i .i64 k)),(9,.d (.i .i64 j))],[],37⟩) (fun j => base.length - j) 0 ⟨Nat.zero_le _,fun _ h => by cases h⟩ ?_ (Nat.le_refl _) ?_
  ·exact A0.ck rfl
  rintro j ⟨hj,hpre⟩
  by_cases hjl : j < base.length
  ·obtain ⟨b,hbj⟩:=AG hjl
   have gb:=AY hbj
   have c1:=WW a b p hA (hb b (List.mem_of_getElem? hbj)) hpi
   cases hI : Cp a b p with
   | true =>
    rw [hI] at c1
    have hT : Es x l base = true:=by
     rw [hS];show (base.any _ || _) = true
     rw [Wc (g:=fun b => Cp a b p) hbj hI];rfl
    have nS:=And.intro gp gb;obtain ⟨lv,st,ns,nc⟩:=wq [0,1,2,6,7,8,9,14,20,32] [];have c1:=@c1;have pr : AC []:=trivial;refine wd ?_;clear nc ns st lv pr c1;repeat' (first|with_reducible constructor|(with_reducible intro hc;try simp only[A1] at hc))
    refine ⟨_,_,rfl,rfl,?_⟩;simp [AH,A6,A5,A4,hT]
   | false =>
    rw [hI] at c1
    have hpre':=LR (g:=fun b => Cp a b p) hbj hI hpre
    have nS:=And.intro gp gb;obtain ⟨lv,st,ns,nc⟩:=wq [0,1,2,6,7,8,9,14,20,32] [];have c1:=@c1;have pr : AC []:=trivial;refine wd ?_;clear nc ns st lv pr c1;repeat' (first|with_reducible constructor|(with_reducible intro hc;try simp only[A1] at hc))
    refine ⟨j + 1,⟨hjl,hpre'⟩,by omega,Nat.le_refl _,?_⟩
    exact A0.ck rfl
  ·have e : j = base.length:=by omega
   subst e
   rw [List.take_length] at hpre
   have hS' : Es x l base = Es p (l.drop (k + 1)) base:=by
    rw [hS];show (base.any _ || _) = _
    rw [show base.any (fun b => Cp a b p) = false from List.any_eq_false.2 fun b hb => by rw [hpre b hb];simp];rfl
   rw [← hN] at hS' hpi
   have nS:=gp;obtain ⟨lv,st,ns,nc⟩:=wq [0,1,2,6,7,8,9,14,20,32] [];have pr : AC []:=trivial;refine wd ?_;clear nc ns st lv pr;repeat' (first|with_reducible constructor|(with_reducible intro hc;try simp only[A1] at hc))
   refine ⟨k + 1,⟨hkl,hpi,hS'⟩,by omega,Nat.le_refl _,?_⟩
   exact A0.cut rfl (by repeat' (first | exact True.intro | refine And.intro (by (first | rfl | ((with_reducible_and_instances refine congrArg (fun z => some (AV.d (D.i _ z))) ?_);omega) | (refine congrArg (fun z => some (AV.d (D.i _ z))) (?_ : (_ : Int) = _);omega) | (refine congrArg some ?_;simp only [hN];done) | (refine congrArg some ?_;simp [hN];done))) ?_)) (by repeat' (first | exact True.intro | refine And.intro (Or.inr rfl) ?_ | refine And.intro (Or.inl ⟨rfl,rfl⟩) ?_ | refine And.intro (Or.inr (by simp only [hN])) ?_ | refine And.intro (Or.inr (by simp [hN])) ?_)) (by first | rfl | (simp (decide:=true) [AT,A7.ok,AV.oks,AV.ok,hk];done)) rfl
 ·have e : k = l.length:=by omega
  subst e
  have hT : Es x l base = false:=by rw [hS,List.drop_length];rfl
  have nS:=True.intro;obtain ⟨lv,st,ns,nc⟩:=wq [0,1,2,6,7,8,9,14,20,32] [];have pr : AC []:=trivial;refine wd ?_;clear nc ns st lv pr;repeat' (first|with_reducible constructor|(with_reducible intro hc;try simp only[A1] at hc))
  refine ⟨_,_,rfl,rfl,?_⟩;simp [AH,A6,A5,A4,hT]
end Go.Proofs.YtagnjflbhjmefaaGreat
