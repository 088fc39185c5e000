/- Part 26 of the texts of this proof, put together by a program and made short.
Conditions: none; what each theorem asks stands in its own hypotheses. -/
import Derived.Test.YtagnjflbhjmefaaGreatRb19
import Derived.Test.YtagnjflbhjmefaaGreatRb24
import Derived.Ground.NamesProg
import Derived.Shelf.Slices.In.SortAlone
import Derived.Shelf.Slices.In.SortNone
import Derived.Sort.Walk0
import Derived.KernelRfl
import Derived.RangeFuncIn
import Derived.Sort.Grow
import Derived.Laws.Cover3
import Derived.RecoverIn
import Derived.ProofKit
import Derived.OpenShut
import Derived.CallsIn
import Derived.RangeFuncLeaves
import Derived.OrdersIn
import Derived.TacticsIn
import Derived.ChangeKeysEq
import Derived.Laws.AppendOwn
import Derived.Laws.OwnMore
import Derived.Laws.MakeOwn
import Derived.Laws.Rows
import Derived.Laws.Cells
import Derived.Laws.Tables
import Derived.Laws.CopyRow
import Derived.Laws.Strings
import Derived.Laws.IdiomStrings
import Derived.Laws.BytesArg
import Derived.Test.YtagnjflbhjmefaaGreatProg
set_option linter.unusedSimpArgs false
set_option linter.unusedVariables false
set_option linter.unnecessarySimpa false
set_option maxHeartbeats 40000000
namespace Go.Proofs.YtagnjflbhjmefaaGreat
namespace Nd
open Go.Gar Go.Shelf Go.Sort Go.RowKit Go.Lib
open Wi (AE Az B7)
set_option maxRecDepth 4000
def Gn (zs : List Int) : List Int:=zs.mergeSort fun x y => decide (x ≤ y)
theorem N1 (zs : List Int) : (Gn zs).Pairwise (· ≤ ·):=by
 have h:=List.pairwise_mergeSort (le:=fun x y : Int => decide (x ≤ y)) (fun a b c h1 h2 => by simp only [decide_eq_true_eq] at *;omega) (fun a b => by simp only [Bool.or_eq_true,decide_eq_true_eq];omega) zs
 exact h.imp fun h => by simpa using h
theorem Yv : Q9 (Value.int .i64) (fun l : List Int => D.is l) (D.i .i64) where
 sl _:=rfl
 ok l:=by simp [D.is,A4]
 c l:=by
  induction l with
  | nil => rfl
  | cons a r ih => simp only [D.is,slc,List.map_cons,List.flatten_cons] at ih ⊢
 n l:=by simp [D.is,A6]
 z _:=rfl
 r m a v:=by simp only [RD]
 one _:=rfl
theorem Rm (zs : List Int) (h : zs.length ≤ 100000) : BK Tryz.prog 122 [.sl 0 zs.length 1] [.a (.is zs)] (.d (.tup [])) [.a (.is (Gn zs))] :=
 Vq Yv ⟨_,Tryz.func122,rfl,rfl⟩ (List.length_mergeSort ..)
  (fun b cap w hH hb hc hm => calls_of_every_depth fun D => AnyS.slices_Sort_int_alone Tryz.Li D b 0 cap zs w hH hb (by omega))
  (fun _ a w => calls_of_every_depth fun D => AnyS.slices_Sort_int_none_alone Tryz.Li D a 0 w)
theorem PK (l : List Int) (hl : l.length ≤ 1048576) : BK Tryz.prog 121 [.d (.is l)] [] (.sl 0 l.length 1) [.a (.is l)]:=by
 refine AB A8 Tryz.func121 rfl rfl (Nat.le_of_ble_eq_true rfl) ?_
 have nS:=True.intro
 repeat' (first | ((with_reducible refine sg ?_);first | with_reducible rfl | ((with_reducible refine Cy ?_);first | kernel_rfl | rfl | (simp [Bh,C9,nS];done)) | with_reducible refine Cl ?_ ?_ | with_reducible exact Nat.beq_refl _ | with_reducible exact Ad _ | ((with_reducible refine decide_eq_true ?_);first | omega | (simp only [Bl,nS];omega)) | decide | (simp [Bl,slc,Ac,D.one,Ax,AV.one,nS];done) | (simp [Bl,nS];omega)) | ((with_reducible refine WX ?_);first | (refine EZ rfl ?_;refine WT A8 rfl rfl rfl rfl ?_) | refine Xd [7] A8 rfl rfl rfl rfl rfl rfl ?_ ?_ | refine XsnE A8 rfl rfl rfl rfl rfl rfl (fun hnil => ?_) ?_ | refine XsnN A8 rfl rfl rfl rfl rfl rfl (fun hnil => ?_) ?_ | refine Xq A8 rfl rfl rfl rfl ?_ ?_ | refine Xn [0,2,4] rfl ?_ | refine Xw A8 rfl rfl rfl rfl ?_ ?_) | refine Fz ?_ | refine GL ?_ | refine EI ?_ | refine Fw ?_ | refine D9 ?_ | refine EJ ?_ | refine CQ rfl ?_ | refine CP rfl ?_ | (refine GB rfl (fun hc => ?_) (fun hc => ?_) <;> (try simp only [A1] at hc) <;> (try (exfalso;omega))))
 ·have e:=is_nil hnil
  subst e
  have nS:=True.intro;obtain ⟨lv,st,ns,nc⟩:=wq [0,2,4] [];refine wk ?_;clear nc ns st lv;repeat' (first|with_reducible constructor|(with_reducible intro hc;try simp only[A1] at hc))
  exact ⟨_,A0.J1 2 (.is []) rfl rfl rfl trivial,Nat.zero_le _,_,_,rfl,rfl,rfl,rfl⟩
 ·exact ⟨_,(A0.ck rfl),Nat.zero_le _,_,_,rfl,rfl,rfl,rfl⟩
theorem DZ {l : List Int} {k : Nat} (h : k < l.length) : l.getD k 0 = l[k]:=by simp [h]
theorem Pj {l : List Int} : l.Nodup ↔ ∀ k,k < l.length → l.getD k 0 ∉ l.take k:=by
 unfold List.Nodup
 rw [List.pairwise_iff_getElem]
 constructor
 ·intro h k hk hm
  obtain ⟨j,hj,e⟩:=List.mem_iff_getElem.1 hm
  rw [List.length_take] at hj
  rw [List.getElem_take,DZ hk] at e
  exact h j k (by omega) hk (by omega) e
 ·intro h i j hi hj hij e
  refine h j hj ?_
  rw [DZ hj,List.mem_iff_getElem]
  exact ⟨i,by rw [List.length_take];omega,by rw [List.getElem_take];exact e⟩
theorem Ms {l : List Int} (hs : l.Pairwise (· ≤ ·)) : l.Nodup ↔ ∀ k,k < l.length → k = 0 ∨ l.getD (k - 1) 0 ≠ l.getD k 0:=by
 unfold List.Nodup
 rw [List.pairwise_iff_getElem] at hs ⊢
 constructor
 ·intro h k hk
  by_cases h0 : k = 0
  ·exact .inl h0
  ·rw [DZ hk,DZ (show k - 1 < l.length by omega)]
   exact .inr (h (k - 1) k (by omega) hk (by omega))
 ·intro h i j hi hj hij
  rcases h j hj with h0 | h0
  ·omega
  ·rw [DZ hj,DZ (show j - 1 < l.length by omega)] at h0
   have h2:=hs (j - 1) j (by omega) hj (by omega)
   by_cases h3 : i = j - 1
   ·subst h3;exact h0
   ·have h1:=hs i (j - 1) hi (by omega) (by omega)
    omega
def sK (nodes : List Node) (zs : List Int) (k : Nat) : Bool:=Az (zs.getD k 0) && (decide (k = 0 ∨ zs.getD (k - 1) 0 ≠ zs.getD k 0) && !(AZ nodes (zs.getD k 0)))
def He (nodes : List Node) (gone : List Int) (k : Nat) : Bool:=Az (gone.getD k 0) && (!(AZ nodes (gone.getD k 0)) && !(decide (gone.getD k 0 ∈ gone.take k)))
theorem NV {l : List Int} {q : Int → Prop} : (∀ k,k < l.length → q (l.getD k 0)) ↔ ∀ x ∈ l,q x:=by
 constructor
 ·intro h x hx
  obtain ⟨k,hk,e⟩:=List.mem_iff_getElem.1 hx
  have:=h k hk
  rwa [DZ hk,e] at this
 ·intro h k hk
  rw [DZ hk];exact h _ (List.getElem_mem hk)
theorem Vn (nodes : List Node) (gone : List Int) : Ba (Gn gone).length (sK nodes (Gn gone)) = Ba gone.length (He nodes gone):=by
 have hm : ∀ x,x ∈ Gn gone ↔ x ∈ gone:=fun x => List.mem_mergeSort
 have hp : (Gn gone).Perm gone:=List.mergeSort_perm _ _
 have hs:=N1 gone
 generalize Gn gone = zs at *
 rw [Bool.eq_iff_iff,EK,EK]
 have e1 : (∀ k,k < zs.length → sK nodes zs k = true) ↔ (∀ x ∈ zs,Az x = true ∧ AZ nodes x = false) ∧ zs.Nodup:=by
  rw [Ms hs,← NV (q:=fun x => Az x = true ∧ AZ nodes x = false)]
  simp only [sK,Bool.and_eq_true,decide_eq_true_eq,Bool.not_eq_true']
  exact ⟨fun h => ⟨fun k hk => ⟨(h k hk).1,(h k hk).2.2⟩,fun k hk => (h k hk).2.1⟩,fun h k hk => ⟨(h.1 k hk).1,h.2 k hk,(h.1 k hk).2⟩⟩
 have e2 : (∀ k,k < gone.length → He nodes gone k = true) ↔ (∀ x ∈ gone,Az x = true ∧ AZ nodes x = false) ∧ gone.Nodup:=by
  rw [Pj,← NV (q:=fun x => Az x = true ∧ AZ nodes x = false)]
  simp only [He,Bool.and_eq_true,Bool.not_eq_true',decide_eq_false_iff_not]
  exact ⟨fun h => ⟨fun k hk => ⟨(h k hk).1,(h k hk).2.1⟩,fun k hk => (h k hk).2.2⟩,fun h k hk => ⟨(h.1 k hk).1,(h.1 k hk).2,h.2 k hk⟩⟩
 rw [e1,e2,hp.nodup_iff]
 constructor
 ·rintro ⟨h1,h2⟩;exact ⟨fun x hx => h1 x ((hm x).2 hx),h2⟩
 ·rintro ⟨h1,h2⟩;exact ⟨fun x hx => h1 x ((hm x).1 hx),h2⟩
theorem MP (nodes : List Node) (gone : List Int) (hn : nodes.length ≤ 1048576) (hg : gone.length ≤ 1048576) : Go.Gar.Fn Tryz.prog 68 [.is gone,A2 nodes] (.b (decide (gone.length ≤ 1000) && Ba gone.length (He nodes gone))):=by
 refine A3 A8 Tryz.func68 rfl rfl (Nat.le_of_ble_eq_true rfl) ?_
 by_cases h1 : gone.length > 1000
 ·have f1 : decide ((gone.length : Int) > 1000) = true:=decide_eq_true (by omega)
  rw [decide_eq_false (by omega)]
  have nS:=f1;obtain ⟨lv,st,ns,nc⟩:=wq [0,1,4,5,6,7,10,15,16,17,18,43] [];refine wk ?_;clear nc ns st lv;repeat' (first|with_reducible constructor|(with_reducible intro hc;try simp only[A1] at hc))
  refine ⟨_,_,rfl,rfl,?_⟩;simp [AH,A6,A5,A4]
 have f1 : decide ((gone.length : Int) > 1000) = false:=decide_eq_false (by omega)
 rw [decide_eq_true (show gone.length ≤ 1000 by omega),Bool.true_and,← Vn]
 have d1:=PK gone hg
 have d2:=Rm gone (by omega)
 have hsl : (Gn gone).length = gone.length:=List.length_mergeSort ..
 rw [← hsl] at d1 d2
 have nS:=f1;obtain ⟨lv,st,ns,nc⟩:=wq [0,1,4,5,6,7,10,15,16,17,18,43] [5];have d1:=Ds.mk [] (d1);have d2:=Ds.mk [0] (d2);refine wk ?_;clear nc ns st lv d2 d1;repeat' (first|with_reducible constructor|(with_reducible intro hc;try simp only[A1] at hc))
 refine B3 (A0.Sx 5 0 (x:=.is (Gn gone)) rfl rfl rfl) (by simp [E5]) ?_
 have nS:=True.intro;obtain ⟨lv,st,ns,nc⟩:=wq [0,1,4,5,6,7,10,15,16,17,18,43] [];refine wk ?_;clear nc ns st lv;repeat' (first|with_reducible constructor|(with_reducible intro hc;try simp only[A1] at hc))
 generalize hzs : Gn gone = zs at *
 have hzl : zs.length ≤ 1000:=by omega
 clear d1 d2
 refine AS (fun k => k ≤ zs.length ∧ Ba k (sK nodes zs) = true) (fun k : Nat => [(17,.d (.i .i64 k))]) (fun k => zs.length - k) 0 ⟨Nat.zero_le _,rfl⟩ (fun _ => rfl) ?_ ?_
 ·exact A0.ck rfl
 rintro k ⟨hk,hpre⟩
 by_cases hkl : k < zs.length
 ·obtain ⟨x,hx⟩:=AG hkl
  have gx:=AY hx
  have c1:=It x
  have c2:=Nx nodes x (by omega)
  have f6 : decide (CN (Do x) nodes ≥ 0) = AZ nodes x:=E8 (Do x) nodes
  have hK : sK nodes zs k = (Az x && (decide (k = 0 ∨ zs.getD (k - 1) 0 ≠ x) && !(AZ nodes x))):=by unfold sK;rw [gx]
  generalize CN (Do x) nodes = z at *
  generalize Az x = p1 at *
  generalize AZ nodes x = p2 at *
  by_cases h0 : k = 0
  ·have f7 : decide ((k : Int) > 0) = false:=decide_eq_false (by omega)
   have nS:=And.intro gx (And.intro f6 f7);obtain ⟨lv,st,ns,nc⟩:=wq [0,1,4,5,6,7,10,15,16,17,18,43] [];have c1:=@c1;have c2:=@c2;refine wk ?_;clear nc ns st lv c2 c1;repeat' (first|with_reducible constructor|(with_reducible intro hc;try simp only[A1] at hc))
   all_goals clear c1 c2
   all_goals first
    | (refine ⟨k + 1,⟨hkl,B6 hpre (by rw [hK];grind)⟩,by omega,Nat.le_refl _,?_⟩
       exact A0.ck rfl)
    | (refine ⟨_,_,rfl,rfl,?_⟩;simp only [Ao];rw [C4 hkl (by rw [hK];grind)])
  ·have f7 : decide ((k : Int) > 0) = true:=decide_eq_true (by omega)
   have e1 : (k : Int) - 1 = ((k - 1 : Nat) : Int):=by omega
   obtain ⟨y,hy⟩:=AG (xs:=zs) (k:=k - 1) (by omega)
   have gy:=AY hy
   rw [gy] at hK
   have nS:=And.intro gx (And.intro gy (And.intro f6 (And.intro f7 e1)));obtain ⟨lv,st,ns,nc⟩:=wq [0,1,4,5,6,7,10,15,16,17,18,43] [];have c1:=@c1;have c2:=@c2;refine wk ?_;clear nc ns st lv c2 c1;repeat' (first|with_reducible constructor|(with_reducible intro hc;try simp only[A1] at hc))
   all_goals clear c1 c2
   all_goals first
    | (refine ⟨k + 1,⟨hkl,B6 hpre (by rw [hK];grind)⟩,by omega,Nat.le_refl _,?_⟩
       exact A0.ck rfl)
    | (refine ⟨_,_,rfl,rfl,?_⟩;simp only [Ao];rw [C4 hkl (by rw [hK];grind)])
 have e : k = zs.length:=by omega
 subst e
 rw [hpre]
 have nS:=True.intro;obtain ⟨lv,st,ns,nc⟩:=wq [0,1,4,5,6,7,10,15,16,17,18,43] [];refine wk ?_;clear nc ns st lv;repeat' (first|with_reducible constructor|(with_reducible intro hc;try simp only[A1] at hc))
 refine ⟨_,_,rfl,rfl,?_⟩;simp [AH,A6,A5,A4]
end Nd
end Go.Proofs.YtagnjflbhjmefaaGreat
