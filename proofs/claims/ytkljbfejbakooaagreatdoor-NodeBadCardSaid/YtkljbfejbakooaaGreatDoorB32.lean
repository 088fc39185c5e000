/- Part 32 of a proof, put together by a program. Conditions: none beyond those that a theorem states. -/
import Derived.Test.YtkljbfejbakooaaGreatDoorB30
set_option linter.unusedSimpArgs false
set_option linter.unusedVariables false
set_option linter.unnecessarySimpa false
set_option maxHeartbeats 40000000
namespace Go.Proofs.YtkljbfejbakooaaGreatDoor
open Go.Gar
set_option maxRecDepth 4000
def dH (f : Nat → Int) (d : Int) (x : Nat × (Nat → Int)) : Prop:=x.1 ≤ 16 ∧ ∀ i,x.2 i = if i < x.1 then (if f i = d then -1 else f i) else f i
theorem dH.at {f : Nat → Int} {d : Int} {k : Nat} {h : Nat → Int} (hi : dH f d (k,h)) : h k = f k:=by
 have:=hi.2 k;simpa using this
theorem lt16 {k : Nat} (h : k < 16) : k = 0 ∨ k = 1 ∨ k = 2 ∨ k = 3 ∨ k = 4 ∨ k = 5 ∨ k = 6 ∨ k = 7 ∨ k = 8 ∨ k = 9 ∨ k = 10 ∨ k = 11 ∨ k = 12 ∨ k = 13 ∨ k = 14 ∨ k = 15:=by omega
theorem QS {v : View} (h : Ck v = true) : Bc v.id = true ∧ C9 v.base = true ∧ Bv v.id v.list = true ∧ EO v.id v.pred = true ∧ (GK v.f).all (EO v.id) = true:=by
 simp only [Ck,Bool.and_eq_true] at h;exact ⟨h.1.1.1,h.1.1.2,h.1.2,h.2.1,h.2.2⟩
end Go.Proofs.YtkljbfejbakooaaGreatDoor
namespace Go.Proofs.YtkljbfejbakooaaGreatDoor
namespace Nd
open Go.Gar
open Wi (A8 B2)
set_option maxRecDepth 4000
structure Call where
 id : Int
 msg : A8
 why : Int
 ref : Int
 sent : Int
 tries : Int
def Call.cells (x : Call) : List D:=[.i .i64 x.id,.i .u8 x.msg.kind,.i .i64 x.msg.call,.i .i64 x.msg.src,.i .i64 x.msg.dst,.i .i64 x.msg.key,.b x.msg.slow,.b x.msg.done,.i .i64 x.msg.place,.i .i64 x.msg.pred,.is x.msg.list,.s x.msg.item.key,.i .i64 x.msg.item.value,.i .i64 x.msg.item.version,.b x.msg.item.gone,.i .i64 x.msg.code,.i .u8 x.why,.i .i64 x.ref,.i .i64 x.sent,.i .i64 x.tries]
def Call.d (x : Call) : D:=.agg x.cells
structure Calls where
 id : Int
 many : Int
 op : List Call
abbrev AK (l : List Call) : D:=.sl 20 (l.map Call.cells)
def Calls.cells (c : Calls) : List D:=[.i .i64 c.id,.i .i64 c.many,AK c.op]
def Calls.d (c : Calls) : D:=.agg c.cells
structure Past where
 src : Int
 call : Int
 told : A8
def Past.cells (p : Past) : List D:=[.i .i64 p.src,.i .i64 p.call,.i .u8 p.told.kind,.i .i64 p.told.call,.i .i64 p.told.src,.i .i64 p.told.dst,.i .i64 p.told.key,.b p.told.slow,.b p.told.done,.i .i64 p.told.place,.i .i64 p.told.pred,.is p.told.list,.s p.told.item.key,.i .i64 p.told.item.value,.i .i64 p.told.item.version,.b p.told.item.gone,.i .i64 p.told.code]
def Past.d (p : Past) : D:=.agg p.cells
abbrev AJ (l : List Past) : D:=.sl 17 (l.map Past.cells)
structure Look where
 key : Int
 at_ : Int
 hops : Int
 slow : Bool
 found : Bool
 code : Int
structure Job where
 what : Int
 phase : Int
 look : Look
 item : Item
 owner : Int
 left : List Int
 code : Int
def Job.cells (j : Job) : List D:=[.i .u8 j.what,.i .u8 j.phase,.i .i64 j.look.key,.i .i64 j.look.at_,.i .i64 j.look.hops,.b j.look.slow,.b j.look.found,.i .i64 j.look.code,.s j.item.key,.i .i64 j.item.value,.i .i64 j.item.version,.b j.item.gone,.i .i64 j.owner,.is j.left,.i .i64 j.code]
def Job.d (j : Job) : D:=.agg j.cells
structure Node where
 view : View
 clock : Int
 calls : Calls
 seen : List Past
 phase : Int
 of_ : Int
 finger : Job
 mirror : Job
 client : Job
 next : Int
 last : List UInt8
 keep : List Item
 bad : Int
def Node.cells (n : Node) : List D:=n.view.cells ++ (.i .i64 n.clock :: (n.calls.cells ++ (AJ n.seen :: .i .u8 n.phase :: .i .i64 n.of_ :: (n.finger.cells ++ (n.mirror.cells ++ (n.client.cells ++ [.i .i64 n.next,.s n.last,AZ n.keep,.i .i64 n.bad]))))))
def Node.d (n : Node) : D:=.agg n.cells
structure YC where
 nodes : List Node
 gone : List Int
 base : List Int
 grams : List (List D)
 lost : Int
abbrev bh (l : List Node) : D:=.sl 76 (l.map Node.cells)
def YC.cells (c : YC) : List D:=[bh c.nodes,.is c.gone,.is c.base,.sl 3 c.grams,.i .i64 c.lost]
def YC.d (c : YC) : D:=.agg c.cells
def HQ (n : Int) : Bool:=decide (0 ≤ n) && decide (n ≤ 1099511627776)
theorem Xj (n : Int) : Go.Gar.Fn Tryz.prog 77 [.i .i64 n] (.b (HQ n)):=by
 refine zF A6 Tryz.func77 ?_;refine wk [0,2] [] A0 A0 ?_;with_reducible repeat' first|constructor|intro hc;try simp only[AB] at hc
 all_goals (refine ⟨_,_,rfl,rfl,?_⟩;simp [B9,HQ, *];try omega)
theorem UJ (n : Int) : Go.Gar.Fn Tryz.prog 231 [.i .i64 n] (.b (HQ n)):=by
 refine zF A6 Tryz.func231 ?_;refine wk [0,2] [] A0 A0 ?_;with_reducible repeat' first|constructor|intro hc;try simp only[AB] at hc
 all_goals (refine ⟨_,_,rfl,rfl,?_⟩;simp [B9,HQ, *];try omega)
def Gj (phase of_ : Int) : Bool:=if phase = 0 then decide (of_ = 0) else decide (phase ≤ 3) && B2 of_
theorem Xh (phase of_ : Int) : Go.Gar.Fn Tryz.prog 34 [.agg [.i .u8 phase,.i .i64 of_]] (.b (Gj phase of_)):=by
 refine zF A6 Tryz.func34 ?_;refine wk [0,1,2,5] [] A0 A0 ?_;with_reducible repeat' first|constructor|intro hc;try simp only[AB] at hc
 all_goals (refine ⟨_,_,rfl,rfl,?_⟩;simp [B9,Gj,B2,DW, *];try omega)
theorem Zf (phase of_ : Int) : Go.Gar.Fn Tryz.prog 97 [.agg [.i .u8 phase,.i .i64 of_]] (.b (Gj phase of_)):=by
 refine zF A6 Tryz.func97 ?_;refine wk [0,1,2,5] [] A0 A0 ?_;with_reducible repeat' first|constructor|intro hc;try simp only[AB] at hc
 all_goals (refine ⟨_,_,rfl,rfl,?_⟩;simp [B9,Gj,B2,DW, *];try omega)
def PD (id n : Int) : Int × Int:=if B2 id = true ∧ 1 ≤ n ∧ n ≤ 1048576 then (id * 1048576 + n,0) else (0,2)
theorem YB (id n : Int) : Go.Gar.Fn Tryz.prog 54 [.i .i64 id,.i .i64 n] (.tup [.i .i64 (PD id n).1,.i .i64 (PD id n).2]):=by
 have h1:=Wi.Jq id;have hb : B2 id = true → 0 ≤ id ∧ id < 65536:=Wi.DG;refine zF A6 Tryz.func54 ?_
 cases h : B2 id with
 | false =>
  rw [h] at h1;have sc : No 3:=trivial;refine wk [0,1,4,5,16] [] A0 (AG @h1) ?_;clear sc
  all_goals (refine ⟨_,_,rfl,rfl,?_⟩;simp [Eb,BS,C4,By,PD,h])
 | true =>
  rw [h] at h1;have hb':=hb h;have sc : No 3:=trivial;refine wk [0,1,4,5,16] [] A0 (AG @h1) ?_;clear sc;with_reducible repeat' first|constructor|intro hc;try simp only[AB] at hc
  all_goals (refine ⟨_,_,rfl,rfl,?_⟩;simp only [Eb,BS,C4,By,PD,h,true_and,and_true];split <;> simp <;> omega)
end Nd
end Go.Proofs.YtkljbfejbakooaaGreatDoor
namespace Go.Proofs.YtkljbfejbakooaaGreatDoor
namespace Nd
open Go.Gar
open Wi (A8 B2 Ai)
set_option maxRecDepth 4000
abbrev Dv : List Nat:=[0,2,3,5,6,8]
def AH (n : Node) : List AV:=.d (.i .i64 n.view.id) :: .d (.is n.view.base) :: .d (.is n.view.list) :: .d (.i .i64 n.view.pred) :: .d (.i .i64 (n.view.f 0)) :: .d (.i .i64 (n.view.f 1)) :: .d (.i .i64 (n.view.f 2)) :: .d (.i .i64 (n.view.f 3)) :: .d (.i .i64 (n.view.f 4)) :: .d (.i .i64 (n.view.f 5)) :: .d (.i .i64 (n.view.f 6)) :: .d (.i .i64 (n.view.f 7)) :: .d (.i .i64 (n.view.f 8)) :: .d (.i .i64 (n.view.f 9)) :: .d (.i .i64 (n.view.f 10)) :: .d (.i .i64 (n.view.f 11)) :: .d (.i .i64 (n.view.f 12)) :: .d (.i .i64 (n.view.f 13)) :: .d (.i .i64 (n.view.f 14)) :: .d (.i .i64 (n.view.f 15)) :: .d (.i .i64 n.clock) :: .d (.i .i64 n.calls.id) :: .d (.i .i64 n.calls.many) :: .d (AK n.calls.op) :: .d (AJ n.seen) :: .d (.i .u8 n.phase) :: .d (.i .i64 n.of_) :: .d (.i .u8 n.finger.what) :: .d (.i .u8 n.finger.phase) :: .d (.i .i64 n.finger.look.key) :: .d (.i .i64 n.finger.look.at_) :: .d (.i .i64 n.finger.look.hops) :: .d (.b n.finger.look.slow) :: .d (.b n.finger.look.found) :: .d (.i .i64 n.finger.look.code) :: .d (.s n.finger.item.key) :: .d (.i .i64 n.finger.item.value) :: .d (.i .i64 n.finger.item.version) :: .d (.b n.finger.item.gone) :: .d (.i .i64 n.finger.owner) :: .d (.is n.finger.left) :: .d (.i .i64 n.finger.code) :: .d (.i .u8 n.mirror.what) :: .d (.i .u8 n.mirror.phase) :: .d (.i .i64 n.mirror.look.key) :: .d (.i .i64 n.mirror.look.at_) :: .d (.i .i64 n.mirror.look.hops) :: .d (.b n.mirror.look.slow) :: .d (.b n.mirror.look.found) :: .d (.i .i64 n.mirror.look.code) :: .d (.s n.mirror.item.key) :: .d (.i .i64 n.mirror.item.value) :: .d (.i .i64 n.mirror.item.version) :: .d (.b n.mirror.item.gone) :: .d (.i .i64 n.mirror.owner) :: .d (.is n.mirror.left) :: .d (.i .i64 n.mirror.code) :: .d (.i .u8 n.client.what) :: .d (.i .u8 n.client.phase) :: .d (.i .i64 n.client.look.key) :: .d (.i .i64 n.client.look.at_) :: .d (.i .i64 n.client.look.hops) :: .d (.b n.client.look.slow) :: .d (.b n.client.look.found) :: .d (.i .i64 n.client.look.code) :: .d (.s n.client.item.key) :: .d (.i .i64 n.client.item.value) :: .d (.i .i64 n.client.item.version) :: .d (.b n.client.item.gone) :: .d (.i .i64 n.client.owner) :: .d (.is n.client.left) :: .d (.i .i64 n.client.code) :: .d (.i .i64 n.next) :: .d (.s n.last) :: .d (AZ n.keep) :: .d (.i .i64 n.bad) :: []
theorem X7 (n : Node) (k : Nat) : AV.oks k (AH n) = true:=rfl
abbrev Y9 (f : Nat) : AV:=.fn (.func f) [] [.ptr 0 0 76]
abbrev Ch : List AV:=[Y9 89,Y9 90,Y9 91,Y9 92,Y9 94,Y9 96,Y9 98,Y9 100,Y9 102]
theorem Xz (n : Node) : B4 Tryz.prog 158 [.bs 1 0 9 1 9] [.c (AH n),.c Ch] (.fn (.func 236) [] [.ptr 2 0 1]) [.c (AH n),.c Ch,.c [.bs 1 0 9 1 9]]:=by
 refine zD A6 Tryz.func158 ?_;unfold Ch Y9;refine wk [0,1,2] [] A0 A0 ?_;exact ⟨⟨[(2,.fn (.func 236) [] [.ptr 2 0 1])],[.c (AH n),.c Ch,.c [.bs 1 0 9 1 9]],_⟩,(A1.ck rfl),Nat.le_of_ble_eq_true rfl,_,_,rfl,rfl,rfl,rfl⟩
theorem ax (n : Node) (b1 b2 b3 b4 b5 b6 b7 b8 b9 : Bool) (h1 : B4 Tryz.prog 89 [.ptr 0 0 76] [.c (AH n)] (.d (.b b1)) [.c (AH n)]) (h2 : B4 Tryz.prog 90 [.ptr 0 0 76] [.c (AH n)] (.d (.b b2)) [.c (AH n)]) (h3 : B4 Tryz.prog 91 [.ptr 0 0 76] [.c (AH n)] (.d (.b b3)) [.c (AH n)]) (h4 : B4 Tryz.prog 92 [.ptr 0 0 76] [.c (AH n)] (.d (.b b4)) [.c (AH n)]) (h5 : B4 Tryz.prog 94 [.ptr 0 0 76] [.c (AH n)] (.d (.b b5)) [.c (AH n)]) (h6 : B4 Tryz.prog 96 [.ptr 0 0 76] [.c (AH n)] (.d (.b b6)) [.c (AH n)]) (h7 : B4 Tryz.prog 98 [.ptr 0 0 76] [.c (AH n)] (.d (.b b7)) [.c (AH n)]) (h8 : B4 Tryz.prog 100 [.ptr 0 0 76] [.c (AH n)] (.d (.b b8)) [.c (AH n)]) (h9 : B4 Tryz.prog 102 [.ptr 0 0 76] [.c (AH n)] (.d (.b b9)) [.c (AH n)]) :
  B4 Tryz.prog 88 [.bs 1 0 9 1 9] [.c (AH n),.c Ch] (.d (.b (b1 && (b2 && (b3 && (b4 && (b5 && (b6 && (b7 && (b8 && (b9))))))))))) [.c (AH n),.c Ch]:=by
 obtain ⟨B,hB⟩ : ∃ B,(b1 && (b2 && (b3 && (b4 && (b5 && (b6 && (b7 && (b8 && (b9))))))))) = B:=⟨_,rfl⟩;rw [hB];refine B4.drop (K:=[.c (AH n),.c Ch,.c [.d (.b B)]]) _ ?_ ⟨.inr rfl,.inr rfl,trivial⟩ rfl rfl rfl;refine zD A6 Tryz.func88 ?_;have d1:=Ds.mk [0,1] (Xz n);refine wk Dv [] A0 A0 ?_;clear d1;refine zG (K:=fun r _ H' => (B = true ∧ H' = [.c (AH n),.c Ch,.c [.d (.b false)],.c [.bs 1 0 9 1 9],.lp r]) ∨ (B = false ∧ H' = [.c (AH n),.c Ch,.c [.d (.b false)],.c [.bs 1 0 9 1 9],.lp (r.left .ret)])) ?_ ?_
 ·intro r hr
  have hT : ∀ v : Bool,v = true → YT Tryz.prog 4 [.d (.b v)] [.c (AH n),.c Ch,.c [.d (.b false)],.c [.bs 1 0 9 1 9],.lp r] fun x K => x = .d (.b true) ∧ K = [.c (AH n),.c Ch,.c [.d (.b false)],.c [.bs 1 0 9 1 9],.lp r]:=by
   rintro _ rfl;refine BG hr rfl rfl rfl ?_;refine wk Dv [] A0 A0 ?_;refine zR ?_;refine wk Dv [] A0 A0 ?_;exact ⟨_,A1.refl _,Nat.le_refl _,rfl,rfl,rfl⟩
  have hF : ∀ v : Bool,v = false → YT Tryz.prog 4 [.d (.b v)] [.c (AH n),.c Ch,.c [.d (.b false)],.c [.bs 1 0 9 1 9],.lp r] fun x K => x = .d (.b false) ∧ K = [.c (AH n),.c Ch,.c [.d (.b false)],.c [.bs 1 0 9 1 9],.lp (r.left .ret)]:=by
   rintro _ rfl;refine BG hr rfl rfl rfl ?_;refine wk Dv [] A0 A0 ?_;refine zR ?_;refine wk Dv [] A0 A0 ?_;exact ⟨_,A1.refl _,Nat.le_refl _,rfl,rfl,rfl⟩
  refine zT A6 Tryz.func236 ?_;have hk:=And.intro (X7 n) (hr.ok (k:=4) rfl);have un : No 10:=trivial;have g1T:=@hT;have g1F:=@hF;have d1:=Ds.mk [0] (h1);have d2:=Ds.mk [0] (h2);have d3:=Ds.mk [0] (h3);have d4:=Ds.mk [0] (h4);have d5:=Ds.mk [0] (h5);have d6:=Ds.mk [0] (h6);have d7:=Ds.mk [0] (h7);have d8:=Ds.mk [0] (h8);have d9:=Ds.mk [0] (h9);refine wk [0,1,4,5,6,7,8,15] [] A0 A0 ?_;clear d9 d8 d7 d6 d5 d4 d3 d2 d1 g1F g1T un;with_reducible repeat' first|constructor|intro hc;try simp only[AB] at hc
  all_goals clear h1 h2 h3 h4 h5 h6 h7 h8 h9 hT hF
  all_goals first
   | (guard_hyp hc : b9 = true;exact ⟨⟨[],[.c (AH n),.c Ch,.c [.d (.b false)],.c [.bs 1 0 9 1 9],.lp r],_⟩,(A1.ck rfl),Nat.le_refl _,_,_,rfl,rfl,.inl ⟨by rw [← hB];simp only [*,Bool.and_self],rfl⟩⟩)
   | exact ⟨⟨[],[.c (AH n),.c Ch,.c [.d (.b false)],.c [.bs 1 0 9 1 9],.lp (r.left .ret)],_⟩,(A1.ck rfl),Nat.le_refl _,_,_,rfl,rfl,.inr ⟨by rw [← hB];simp only [*,Bool.and_false,Bool.false_and,Bool.and_self],rfl⟩⟩
 ·rintro r hr y H' (⟨h,rfl⟩ | ⟨h,rfl⟩)
  ·refine .inl ⟨rfl,?_⟩;refine wk Dv [] A0 A0 ?_;exact ⟨⟨[(2,.ptr 2 0 1)],[.c (AH n),.c Ch,.c [.d (.b true)]],_⟩,(A1.ck rfl),Nat.le_of_ble_eq_true rfl,_,_,rfl,rfl,by rw [h],by rw [h]⟩
  ·refine .inr ⟨.ret,rfl,?_⟩;refine wk Dv [] A0 A0 ?_;exact ⟨⟨[(2,.ptr 2 0 1)],[.c (AH n),.c Ch,.c [.d (.b false)]],_⟩,(A1.ck rfl),Nat.le_of_ble_eq_true rfl,_,_,rfl,rfl,by rw [h],by rw [h]⟩
end Nd
end Go.Proofs.YtkljbfejbakooaaGreatDoor
namespace Go.Proofs.YtkljbfejbakooaaGreatDoor
namespace Nd
open Go.Gar
open Wi (A8 B2 Ai AA BN mC)
set_option maxRecDepth 4000
def Look.cells (l : Look) : List D:=[.i .i64 l.key,.i .i64 l.at_,.i .i64 l.hops,.b l.slow,.b l.found,.i .i64 l.code]
def Look.d (l : Look) : D:=.agg l.cells
abbrev aE (l : List A8) : D:=.sl 15 (l.map Wi.A8.cells)
abbrev hC (n : Node) (aq : AV) : List AV:=.d (.i .i64 n.view.id) :: .d (.is n.view.base) :: .d (.is n.view.list) :: .d (.i .i64 n.view.pred) :: .d (.i .i64 (n.view.f 0)) :: .d (.i .i64 (n.view.f 1)) :: .d (.i .i64 (n.view.f 2)) :: .d (.i .i64 (n.view.f 3)) :: .d (.i .i64 (n.view.f 4)) :: .d (.i .i64 (n.view.f 5)) :: .d (.i .i64 (n.view.f 6)) :: .d (.i .i64 (n.view.f 7)) :: .d (.i .i64 (n.view.f 8)) :: .d (.i .i64 (n.view.f 9)) :: .d (.i .i64 (n.view.f 10)) :: .d (.i .i64 (n.view.f 11)) :: .d (.i .i64 (n.view.f 12)) :: .d (.i .i64 (n.view.f 13)) :: .d (.i .i64 (n.view.f 14)) :: .d (.i .i64 (n.view.f 15)) :: .d (.i .i64 n.clock) :: .d (.i .i64 n.calls.id) :: .d (.i .i64 n.calls.many) :: .d (AK n.calls.op) :: .d (AJ n.seen) :: .d (.i .u8 n.phase) :: .d (.i .i64 n.of_) :: .d (.i .u8 n.finger.what) :: .d (.i .u8 n.finger.phase) :: .d (.i .i64 n.finger.look.key) :: .d (.i .i64 n.finger.look.at_) :: .d (.i .i64 n.finger.look.hops) :: .d (.b n.finger.look.slow) :: .d (.b n.finger.look.found) :: .d (.i .i64 n.finger.look.code) :: .d (.s n.finger.item.key) :: .d (.i .i64 n.finger.item.value) :: .d (.i .i64 n.finger.item.version) :: .d (.b n.finger.item.gone) :: .d (.i .i64 n.finger.owner) :: .d (.is n.finger.left) :: .d (.i .i64 n.finger.code) :: .d (.i .u8 n.mirror.what) :: .d (.i .u8 n.mirror.phase) :: .d (.i .i64 n.mirror.look.key) :: .d (.i .i64 n.mirror.look.at_) :: .d (.i .i64 n.mirror.look.hops) :: .d (.b n.mirror.look.slow) :: .d (.b n.mirror.look.found) :: .d (.i .i64 n.mirror.look.code) :: .d (.s n.mirror.item.key) :: .d (.i .i64 n.mirror.item.value) :: .d (.i .i64 n.mirror.item.version) :: .d (.b n.mirror.item.gone) :: .d (.i .i64 n.mirror.owner) :: .d (.is n.mirror.left) :: .d (.i .i64 n.mirror.code) :: .d (.i .u8 n.client.what) :: .d (.i .u8 n.client.phase) :: .d (.i .i64 n.client.look.key) :: .d (.i .i64 n.client.look.at_) :: .d (.i .i64 n.client.look.hops) :: .d (.b n.client.look.slow) :: .d (.b n.client.look.found) :: .d (.i .i64 n.client.look.code) :: .d (.s n.client.item.key) :: .d (.i .i64 n.client.item.value) :: .d (.i .i64 n.client.item.version) :: .d (.b n.client.item.gone) :: .d (.i .i64 n.client.owner) :: .d (.is n.client.left) :: .d (.i .i64 n.client.code) :: .d (.i .i64 n.next) :: .d (.s n.last) :: .d (AZ n.keep) :: .d (.i .i64 n.bad) :: aq :: []
abbrev hK (n : Node) (k : List Item) : Node:={ n with keep:=k }
abbrev mX (x : A8) : List AV:=[.d (.i .u8 x.kind),.d (.i .i64 x.call),.d (.i .i64 x.src),.d (.i .i64 x.dst),.d (.i .i64 x.key),.d (.b x.slow),.d (.b x.done),.d (.i .i64 x.place),.d (.i .i64 x.pred),.d (.is x.list),.d (.s x.item.key),.d (.i .i64 x.item.value),.d (.i .i64 x.item.version),.d (.b x.item.gone),.d (.i .i64 x.code)]
abbrev Wa : AV:=.fn (.func 128) [] [.ptr 0 0 77,.ptr 1 0 15]
abbrev WZ : AV:=.fn (.func 130) [] [.ptr 0 0 77,.ptr 1 0 15]
theorem R6 (n : Node) (m : A8) (w : Int) : B4 Tryz.prog 211 [.d (.i .u8 w),.ptr 3 0 1,.ptr 2 0 1] ([.c (hC n .e0),.c (mX m),.c [.ptr 0 0 77],.c [WZ]]) (.fn (.func 212) [] [.ptr 3 0 1,.ptr 4 0 1,.ptr 2 0 1]) ([.c (hC n .e0),.c (mX m),.c [.ptr 0 0 77],.c [WZ],.c [.d (.i .u8 w)]]):=by
 refine zD A6 Tryz.func211 ?_;refine wk [0,1,2,3,4] [] A0 A0 ?_;exact ⟨_,(A1.ck rfl),Nat.le_of_ble_eq_true rfl,_,_,rfl,rfl,rfl,rfl⟩
abbrev eH : List (D × AV):=[(.i .u8 1,Wa),(.i .u8 2,Wa),(.i .u8 3,Wa),(.i .u8 5,.fn (.func 212) [] [.ptr 3 0 1,.ptr 5 0 1,.ptr 2 0 1]),(.i .u8 6,.fn (.func 212) [] [.ptr 3 0 1,.ptr 6 0 1,.ptr 2 0 1]),(.i .u8 7,.fn (.func 212) [] [.ptr 3 0 1,.ptr 7 0 1,.ptr 2 0 1])]
theorem UG (n : Node) (m : A8) : B4 Tryz.prog 133 [.ptr 0 0 77,Wa,WZ] ([.c (hC n .e0),.c (mX m)]) (.mp 4) ([.c (hC n .e0),.c (mX m),.c [.ptr 0 0 77],.c [WZ],.m eH,.c [.d (.i .u8 5)],.c [.d (.i .u8 6)],.c [.d (.i .u8 7)]]):=by
 have c5:=R6 n m 5;have c6:=R6 n m 6;have c7:=R6 n m 7;refine zD A6 Tryz.func133 ?_;have d1:=Ds.mk [0,1,2,3] (c5);have d2:=Ds.mk [0,1,2,3] (c6);have d3:=Ds.mk [0,1,2,3] (c7);refine wk [0,1,2,3,5,6,7] [] A0 A0 ?_;clear d3 d2 d1;exact ⟨_,(A1.ck rfl),Nat.le_of_ble_eq_true rfl,_,_,rfl,rfl,rfl,rfl⟩
end Nd
end Go.Proofs.YtkljbfejbakooaaGreatDoor
namespace Go.Proofs.YtkljbfejbakooaaGreatDoor
namespace Nd
open Go.Gar
set_option maxRecDepth 4000
structure MR where
 to : Int
 by_ : List UInt8
 harmed : Bool
def MR.cells (g : MR) : List D:=[.i .i64 g.to,.by g.by_,.b g.harmed]
def MR.d (g : MR) : D:=.agg g.cells
end Nd
end Go.Proofs.YtkljbfejbakooaaGreatDoor
