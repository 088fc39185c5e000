/- Part 7 of a proof, put together by a program. Conditions: none beyond those that a theorem states. -/
import Derived.Test.YtkljbfejbakooaaGreatDoorB06
set_option linter.unusedSimpArgs false
set_option linter.unusedVariables false
set_option linter.unnecessarySimpa false
set_option maxHeartbeats 40000000
namespace Go.Gar
def cv : List AV → Option (List D)
 | [] => some []
 | .d x :: r => match cv r with
  | some l => some (x :: l)
  | none => none
 | _ :: _ => none
theorem W3 : ∀ {l : List AV} {xs : List D},cv l = some xs → l = xs.map .d
 | [],xs,h => by simp [cv] at h;subst h;rfl
 | .d x :: r,xs,h => by
  simp only [cv] at h;split at h
  ·rename_i l hl;cases h;rw [W3 hl];rfl
  ·cases h
 | .u :: _,_,h | .ptr _ _ _ :: _,_,h | .sl _ _ _ :: _,_,h | .bs _ _ _ _ _ :: _,_,h | .ep _ _ _ _ _ :: _,_,h | .e0 :: _,_,h | .ag _ :: _,_,h | .tup _ :: _,_,h | .fn _ _ _ :: _,_,h | .yl _ :: _,_,h | .dp _ :: _,_,h | .mp _ :: _,_,h => by simp [cv] at h
def setRows (off : Nat) (xs : List D) : Nat → List (List D) → List (List D)
 | _,[] => []
 | 0,r :: l => (r.take off ++ xs ++ r.drop (off + xs.length)) :: l
 | i + 1,r :: l => r :: setRows off xs i l
theorem KR (off : Nat) (xs : List D) : ∀ (i : Nat) (l : List (List D)),(setRows off xs i l).length = l.length
 | _,[] => by cases ‹Nat› <;> rfl
 | 0,_ :: _ => rfl
 | i + 1,r :: l => by simp [setRows,KR off xs i l]
theorem MJ {off sz : Nat} {xs : List D} (hs : off + xs.length ≤ sz) : ∀ {i : Nat} {l : List (List D)},(∀ e ∈ l,e.length = sz) → ∀ e ∈ setRows off xs i l,e.length = sz
 | i,[],_,e,he => by cases i <;> cases he
 | 0,r :: l,h,e,he => by
  have hr:=h r (List.mem_cons_self ..);rcases List.mem_cons.1 he with rfl | he
  ·simp;omega
  ·exact h e (List.mem_cons_of_mem _ he)
 | i + 1,r :: l,h,e,he => by
  rcases List.mem_cons.1 he with rfl | he
  ·exact h _ (List.mem_cons_self ..)
  ·exact MJ hs (fun e he => h e (List.mem_cons_of_mem _ he)) e he
theorem JL {off sz : Nat} {xs : List D} (hs : off + xs.length ≤ sz) : ∀ {i : Nat} {l : List (List D)},(∀ e ∈ l,e.length = sz) → i < l.length →
  (setRows off xs i l).flatten = l.flatten.take (i * sz + off) ++ xs ++ l.flatten.drop (i * sz + off + xs.length)
 | i,[],_,hi => by simp at hi
 | 0,r :: l,h,hi => by
  have hr:=h r (List.mem_cons_self ..);simp only [setRows,List.flatten_cons,Nat.zero_mul,Nat.zero_add];rw [List.take_append_of_le_length (by omega),List.drop_append_of_le_length (by omega)];simp only [List.append_assoc]
 | i + 1,r :: l,h,hi => by
  have hr:=h r (List.mem_cons_self ..);have ih:=JL hs (i:=i) (fun e he => h e (List.mem_cons_of_mem _ he)) (by simp at hi;omega);simp only [setRows,List.flatten_cons];have e1 : (i + 1) * sz + off = r.length + (i * sz + off):=by rw [hr,Nat.succ_mul];omega
  rw [ih,e1,List.take_length_add_append,Nat.add_assoc r.length,List.drop_length_add_append];simp only [List.append_assoc]
theorem PZ {sz : Nat} : ∀ {l : List (List D)},(∀ e ∈ l,e.length = sz) → l.flatten.length = l.length * sz
 | [],_ => by simp
 | r :: l,h => by
  have:=PZ (fun e he => h e (List.mem_cons_of_mem r he));rw [List.flatten_cons,List.length_append,this,h r (List.mem_cons_self ..),List.length_cons,Nat.succ_mul];omega
def Yv (E : Nat → Option AT) (env : List (Nat × AV)) (H : List A2) (op : Op) : Option (Bool × List A2) :=
 match op with
 | .store t a x => match E t,Bh env a,Bh env x with
  | some y,some (.ep id i off n sz),some v => match Jc v with
   | some vl => match cv vl with
    | some xs => match H[id]? with
     | some (.a (.sl sz' rows)) => match setH id (.a (.sl sz' (setRows off xs i rows))) H with
      | some H' => some (Nat.beq n rows.length && Nat.blt i n && Nat.beq y.size xs.length && Nat.ble (off + xs.length) sz && Nat.beq sz sz' && AQ xs,H')
      | none => none
     | _ => none
    | none => none
   | none => none
  | _,_,_ => none
 | _ => none
theorem Qj {G : Gh} : ∀ {xs : List D} {vs : List Value},AS G (xs.map .d) vs → ∀ (k : Nat) (x : D),xs[k]? = some x → ∃ v,vs[k]? = some v ∧ RD G.m x v
 | [],_,_,k,x,h => by simp at h
 | d :: r,vs,hv,k,x,h => by
  simp only [List.map_cons,AS] at hv;obtain ⟨v,r',rfl,h1,h2⟩:=hv
  cases k with
  | zero => simp at h;subst h;exact ⟨v,rfl,by simpa only [RV] using h1⟩
  | succ k => exact Qj h2 k x (by simpa using h)
theorem Gz : ∀ {xs : List D},AQ xs = true → ∀ (k : Nat) (x : D),xs[k]? = some x → x.one = true
 | [],_,k,x,h => by simp at h
 | d :: r,ho,k,x,h => by
  simp only [AQ,Bool.and_eq_true] at ho
  cases k with
  | zero => simp at h;subst h;exact ho.1
  | succ k => exact Gz ho.2 k x (by simpa using h)
variable {E : Nat → Option AT}
theorem Yx {P : Program} (hE : Ay P E) {S : St} {o : Oper} {c : Bool} {H' : List A2} (h : Yv E S.env S.H o.op = some (c,H')) (hc : c = true) : CN P o S .u H':=by
 subst hc;unfold Yv at h;split at h
 ·rename_i t a x ho;split at h
  ·rename_i y id i off n sz xv hy' ha hx;split at h
   ·rename_i vl hvl;split at h
    ·rename_i xs hxs;have:=W3 hxs;subst this;split at h
     ·rename_i sz' rows hl;split at h
      ·rename_i q hq;simp only [Option.some.injEq,Prod.mk.injEq,Bool.and_eq_true] at h;obtain ⟨⟨⟨⟨⟨⟨hn,hi⟩,hsz⟩,hfit⟩,hsz'⟩,hone⟩,rfl⟩:=h;have hn:=Nat.eq_of_beq_eq_true hn;have hsz:=Nat.eq_of_beq_eq_true hsz;have hsz':=Nat.eq_of_beq_eq_true hsz';have hfit:=Nat.le_of_ble_eq_true hfit;rw [Nat.blt_eq] at hi;subst hn;subst hsz';obtain ⟨hid,rfl⟩:=Hq hq;have hy:=hE t y hy';intro ro N G act w r;have hl' : G.H[id]? = some (.a (.sl sz rows)):=by rw [r.heap];exact hl
       have hva:=AI r.rel.st r.env ha;have hvx:=AI r.rel.st r.env hx;have hvs:=Ha hvl hvx;have hvn : (act.eval x).cells.toList.length = xs.length:=by have:=AS.H8 hvs;simpa using this
       simp only [RV] at hva;obtain ⟨_,blk,hb,hp⟩:=hva;rw [hl'] at hb;cases hb;obtain ⟨_,_,hp⟩:=hp;obtain ⟨b,M,hρ,hva⟩:=hp rfl;obtain ⟨_,hrows,hB⟩:=r.rel.blk id _ hl';simp only [A3] at hrows;rcases hB with ⟨h0,hno⟩ | ⟨b',M',vs,T,hρ',hw,hM,hcell⟩
       ·rw [hρ] at hno;cases hno
       rw [hρ] at hρ';cases hρ';have hfl:=PZ hrows;have hi2 : i * sz + sz ≤ rows.length * sz:=by rw [← Nat.succ_mul];exact Nat.mul_le_mul_right sz hi
       have hvl2 : rows.flatten.length ≤ vs.size:=by
        rcases Nat.eq_zero_or_pos rows.flatten.length with h0 | h0
        ·omega
        ·obtain ⟨v,hv,_⟩:=hcell (rows.flatten.length - 1) _ (List.getElem?_eq_getElem (by simp only [slc];omega));have:=(Array.getElem?_eq_some_iff.1 hv).1;omega
       have hst:=run_storeCells_at P b (i * sz + off) T (act.eval x).cells.toList 0 vs w hw (by rw [hvn];simp;omega) (fun v hv => by
        obtain ⟨k,hk⟩:=List.getElem?_of_mem hv;have hkl:=(List.getElem?_eq_some_iff.1 hk).1;obtain ⟨v',hv',hrd⟩:=Qj hvs k _ (List.getElem?_eq_getElem (by omega : k < xs.length));rw [hk] at hv';cases hv'
        exact Qh (Gz hone k _ (List.getElem?_eq_getElem (by omega))) hrd)
       simp only [Nat.add_zero] at hst
       obtain ⟨r1,r2⟩:=OW r.rel (cur:=(vs.toList.take (i * sz + off) ++ (act.eval x).cells.toList ++ vs.toList.drop (i * sz + off + (act.eval x).cells.toList.length)).toArray) hl' rfl (q:=.a (.sl sz (setRows off xs i rows))) rfl hρ (by simp [AC,Gh.put,A9,An,KR]) (by
        refine ⟨rfl,MJ hfit hrows,.inr ⟨b,M,_,T,hρ,setRow_heap w b vs _ T _ hw,by rw [hvn];simp at hvn ⊢;omega,fun j z hz => ?_⟩⟩;replace hz : (setRows off xs i rows).flatten[j]? = some z:=hz;rw [JL hfit hrows hi] at hz
        obtain ⟨v,hv,hrv⟩:=GX (R:=fun d v => v.oneCell' = true ∧ RD G.m d v) (cs:=rows.flatten) (xs:=xs) (vs:=vs.toList) (us:=(act.eval x).cells.toList) (off:=i * sz + off) (by rw [hfl];omega) (by simpa using hvl2) hvn
         (fun k x hx => by obtain ⟨v,h1,h2⟩:=hcell k x hx;exact ⟨v,by simpa using h1,h2⟩)
         (fun k x hx => by
          obtain ⟨v,h1,h2⟩:=Qj hvs k x hx
          exact ⟨v,h1,Qh (Gz hone k x hx) h2,h2⟩) j z hz
        exact ⟨v,by simpa using hv,hrv⟩)
       have key : (Instr.storeAt t (act.eval a) (act.eval x)).run P w = .ok () (w.setRow b (vs.toList.take (i * sz + off) ++ (act.eval x).cells.toList ++ vs.toList.drop (i * sz + off + (act.eval x).cells.toList.length)).toArray):=by
        rw [hva];simp only [Instr.storeAt,Instr.sureAddr,Sem.run_bind,Sem.run_pure,Result.andThen_ok,storeVar,Af hy];rw [if_neg (by simp at hvn;omega)];exact hst
       refine ⟨.skip,_,_,?_,.inl ⟨rfl,rfl⟩,?_,r1,r2⟩
       ·unfold execOp;simp only [ho,Sem.run_bind,key,Result.andThen_ok,Sem.run_pure]
       ·show G.H.set id _ = S.H.set id _;rw [r.heap]
      ·cases h
     ·cases h
    ·cases h
   ·cases h
  ·cases h
 ·cases h
theorem Ny {env : List (Nat × AV)} {H : List A2} {op : Op} {r : Bool × List A2} (h : Yv E env H op = some r) : ∀ c,op ≠ .defer c:=fun c e => by subst e;cases h
end Go.Gar
namespace Go.Gar
open Go.ChangeShapes Go.WideShapes Go.ChangeAt Go.RowKit
end Go.Gar
namespace Go.Gar
theorem CTl : (∀ (α β : Type) (f : α → β) (a b : List α),(a ++ b).map f = a.map f ++ b.map f) ∧ (∀ (α β : Type) (f : α → β) (x : α) (a : List α),(x :: a).map f = f x :: a.map f) ∧ (∀ (α β : Type) (f : α → β),([] : List α).map f = []) ∧
  (∀ (α : Type) (a b : List α),(a ++ b).length = a.length + b.length) ∧ (∀ (α : Type) (x : α) (a : List α),(x :: a).length = a.length + 1) ∧ (∀ (α : Type),([] : List α).length = 0) ∧ (∀ (α β : Type) (f : α → β) (a : List α),(a.map f).length = a.length) :=
 ⟨fun _ _ _ _ _ => List.map_append,fun _ _ _ _ _ => rfl,fun _ _ _ => rfl,fun _ _ _ => List.length_append,fun _ _ _ => rfl,fun _ => rfl,fun _ _ _ _ => List.length_map _⟩
theorem A1.cn {S S' : St} (hn : S'.n = S.n) (he : IX S'.env S.env:=by repeat' (first | exact True.intro | refine And.intro (by (first | rfl | ((with_reducible_and_instances refine congrArg (fun z => some (AV.d (D.i _ z))) ?_);omega) | (refine congrArg (fun z => some (AV.d (D.i _ z))) (?_ : (_ : Int) = _);omega) | (refine congrArg some ?_;simp only [CTl,nC];done) | (refine congrArg some ?_;simp [nC];done))) ?_))
  (hH : Ak S'.H S.H:=by repeat' (first | exact True.intro | refine And.intro (Or.inr rfl) ?_ | refine And.intro (Or.inl ⟨rfl,rfl⟩) ?_ | refine And.intro (Or.inr (by simp only [CTl,nC])) ?_ | refine And.intro (Or.inr (by simp only [CTl,nC];rfl)) ?_ | refine And.intro (Or.inr (by simp [nC])) ?_))
  (ho : AY S'.H.length S'.H = true:=by first | rfl | (simp (decide:=true) [AY,A2.ok,AV.oks,AV.ok];done) | (simp (decide:=true) [AY,A2.ok,AV.oks,AV.ok,hk];done)) (heo : Cy S'.H.length S'.env = true:=by rfl) : A1 S S':=A1.cut hn he hH ho heo
theorem VK {P : Program} {E : Nat → Option AT} {f : FuncId} {fn : Func} {c : Code} (hE : Ay P E) (hf : P.funcs[f]? = some fn) (hb : fn.body = some c) (hname : (fn.name == "runtime.NumGoroutine") = false) {args : List AV} {H H' : List A2} {r : AV} (hn : args.length ≤ fn.ntmps)
  (h : W P none c ⟨Bz 0 args,H,fn.ntmps⟩ (IG fun S0 => ∃ S',A1 S0 S' ∧ H.length ≤ S'.H.length ∧ ∃ cc x,CZ E S'.env S'.H fn.results.toList = some (cc,x) ∧ cc = true ∧ x = r ∧ Ak H' S'.H))
  (ho : AY H'.length H' = true:=by rfl) (hr : r.ok H'.length = true:=by rfl) (hl : Nat.ble H.length H'.length = true:=by rfl) : B4 P f args H r H':=by
 have hT : I5 P f args H fun x K => x = r ∧ Ak H' K:=L6 hE hf hb hname hn h;refine ⟨hT.1,fun G w vs h1 h2 h3 => (hT.2 G w vs h1 h2 h3).mono ?_⟩
 rintro e w' ⟨v,x,G',rfl,⟨rfl,hs'⟩,hv,hr',hfr⟩;exact ⟨v,x,G'.cut H',rfl,⟨rfl,rfl⟩,hv.cut hs' hr,hr'.cut hs' ho,hfr.ghost (SQ.cut hs') (by rw [h1];exact Nat.le_of_ble_eq_true hl)⟩
section
variable {P : Program} {E : Nat → Option AT} {f : FuncId} {fn : Func} {c : Code}
theorem zF (hE : Ay P E) (hf : P.funcs[f]? = some fn) {ds : List D} {r : D} (h : W P none c ⟨Bz 0 (ds.map .d),[],fn.ntmps⟩ (IG fun S' => ∃ cc x,CZ E S'.env S'.H fn.results.toList = some (cc,x) ∧ cc = true ∧ B9 S'.H x r))
  (hb : fn.body = some c := by rfl) (hname : (fn.name == "runtime.NumGoroutine") = false := by rfl) (hn : ds.length ≤ fn.ntmps := by exact Nat.le_of_ble_eq_true rfl) : Fn P f ds r := YE hE hf hb hname hn h
variable {args : List AV} {H : List A2} {R : AV → List A2 → Prop}
theorem zT (hE : Ay P E) (hf : P.funcs[f]? = some fn) (h : W P none c ⟨Bz 0 args,H,fn.ntmps⟩ (IG fun S0 => ∃ S',A1 S0 S' ∧ H.length ≤ S'.H.length ∧ ∃ cc x,CZ E S'.env S'.H fn.results.toList = some (cc,x) ∧ cc = true ∧ R x S'.H)) (hb : fn.body = some c := by rfl) (hname : (fn.name == "runtime.NumGoroutine") = false := by rfl) (hn : args.length ≤ fn.ntmps := by exact Nat.le_of_ble_eq_true rfl) : I5 P f args H R := L6 hE hf hb hname hn h
variable {H' : List A2}
theorem zD (hE : Ay P E) (hf : P.funcs[f]? = some fn) {r : AV} (h : W P none c ⟨Bz 0 args,H,fn.ntmps⟩ (IG fun S0 => ∃ S',A1 S0 S' ∧ H.length ≤ S'.H.length ∧ ∃ cc x,CZ E S'.env S'.H fn.results.toList = some (cc,x) ∧ cc = true ∧ x = r ∧ S'.H = H')) (hb : fn.body = some c := by rfl) (hname : (fn.name == "runtime.NumGoroutine") = false := by rfl) (hn : args.length ≤ fn.ntmps := by exact Nat.le_of_ble_eq_true rfl) : B4 P f args H r H' := VL hE hf hb hname hn h
theorem zC (hE : Ay P E) (hf : P.funcs[f]? = some fn) {r : AV} (h : W P none c ⟨Bz 0 args,H,fn.ntmps⟩ (IG fun S0 => ∃ S',A1 S0 S' ∧ H.length ≤ S'.H.length ∧ ∃ cc x,CZ E S'.env S'.H fn.results.toList = some (cc,x) ∧ cc = true ∧ x = r ∧ Ak H' S'.H)) (hb : fn.body = some c := by rfl) (hname : (fn.name == "runtime.NumGoroutine") = false := by rfl) (hn : args.length ≤ fn.ntmps := by exact Nat.le_of_ble_eq_true rfl) (ho : AY H'.length H' = true:=by rfl) (hr : r.ok H'.length = true:=by rfl) (hl : Nat.ble H.length H'.length = true:=by rfl) : B4 P f args H r H':=VK hE hf hb hname hn h ho hr hl
theorem zX (hE : Ay P E) (hf : P.funcs[f]? = some fn) {ch : List PanicEntry} (h : W P none c ⟨Bz 0 args,H,fn.ntmps⟩ (aV ch fun S0 => ∃ S',A1 S0 S' ∧ H.length ≤ S'.H.length ∧ S'.H = H')) (hb : fn.body = some c := by rfl) (hname : (fn.name == "runtime.NumGoroutine") = false := by rfl) (hn : args.length ≤ fn.ntmps := by exact Nat.le_of_ble_eq_true rfl) : IE P f args H ch H' := VN hE hf hb hname hn h
theorem zR {id n : Nat} {r : Lp} {body : Code} {en : List (Nat × AV)} {hp hp' : List A2} {nt : Nat} (k : W P (some id) body ⟨en,hp',nt⟩ (el id n r R)) (h1 : hp[id]? = some (.lp r):=by rfl) (h2 : hp.set id (.lp r.busy) = hp':=by first | (simp only [Ie,Ec,Nat.reduceAdd,Int.reduceAdd,Int.reduceSub,Int.reduceMul,Int.reduceToNat];done) | (simp only [Ie,Ec,Nat.reduceAdd,Int.reduceAdd,Int.reduceSub,Int.reduceMul,Int.reduceToNat];rfl) | rfl) : QAs P id n r body R .normal ⟨en,hp,nt⟩:=by
 subst h2;exact ⟨h1,k⟩
theorem zE {rs : List ResultVar} {S : St} {r : D} {cc : Bool} {x : AV} (he : CZ E S.env S.H rs = some (cc,x):=by rfl) (hc : cc = true:=by rfl) (hf : B9 S.H x r:=by simp [Ab,A9,A4,A3]) : ∃ cc x,CZ E S.env S.H rs = some (cc,x) ∧ cc = true ∧ B9 S.H x r:=⟨cc,x,he,hc,hf⟩
end
theorem zG {P : Program} {ro : Option Nat} {Q : Exit → St → Prop} {g : Operand} {ps : Array Tmp} {asg body : Code} {f : FuncId} {first cap xs : List AV} {L : Nat} {F : Lp → List A2} {en : List (Nat × AV)} {hp : List A2} {nt : Nat} (K : Lp → AV → List A2 → Prop)
  (seq : ∀ r,r.is nt en ps asg body → I5 P f xs (F r) (K r))
  (k : ∀ r,r.is nt en ps asg body → ∀ x H',K r x H' →
   (H'[L]? = some (.lp r) ∧ Q .normal ⟨en,H'.set L (.lp r.out),nt⟩) ∨
   ∃ c,H'[L]? = some (.lp (r.left c)) ∧ W P ro c ⟨en,H'.set L (.lp (r.left c).out),nt⟩ Q)
  (hg : Bh en g = some (.fn (.func f) first cap):=by exact rfl) (hL : hp.length = L:=by first | (simp only [Ie,Ec,Nat.reduceAdd,Int.reduceAdd,Int.reduceSub,Int.reduceMul,Int.reduceToNat];done) | (simp only [Ie,Ec,Nat.reduceAdd,Int.reduceAdd,Int.reduceSub,Int.reduceMul,Int.reduceToNat];rfl) | rfl) (hxs : first ++ [.yl L] ++ cap = xs:=by first | (simp only [Ie,Ec,Nat.reduceAdd,Int.reduceAdd,Int.reduceSub,Int.reduceMul,Int.reduceToNat];done) | (simp only [Ie,Ec,Nat.reduceAdd,Int.reduceAdd,Int.reduceSub,Int.reduceMul,Int.reduceToNat];rfl) | rfl) (hF : ∀ r,hp ++ [.lp r] = F r:=by intro r;first | (simp only [Ie,Ec,Nat.reduceAdd,Int.reduceAdd,Int.reduceSub,Int.reduceMul,Int.reduceToNat];done) | (simp only [Ie,Ec,Nat.reduceAdd,Int.reduceAdd,Int.reduceSub,Int.reduceMul,Int.reduceToNat];rfl) | rfl) : W P ro (.rangeFunc g ps asg body) ⟨en,hp,nt⟩ Q :=
 VX K hg hL hxs hF seq k
theorem CT0 : (∀ (α : Type) (a b c : List α),(a ++ b) ++ c = a ++ (b ++ c)) ∧ (∀ (α : Type) (a : List α),a ++ [] = a) ∧ (∀ (α : Type) (a : List α),[] ++ a = a) ∧ (∀ (α : Type) (x : α) (a b : List α),(x :: a) ++ b = x :: (a ++ b)) ∧ (∀ (α : Type) (a : List α),a.take 0 = []) ∧ (∀ (α : Type) (p : α → Bool),([] : List α).any p = false) ∧
  (∀ (α : Type) (p : α → Bool),([] : List α).filter p = []) ∧ (∀ (α β : Type) (f : β → α → β) (x : β),([] : List α).foldl f x = x) ∧ (∀ (α : Type) (a b : α),(if True then a else b) = a) ∧ (∀ (α : Type) (a b : α),(if False then a else b) = b) ∧ (∀ b : Bool,(true || b) = true) ∧ (∀ b : Bool,(false || b) = b):=by
 simp
theorem A1.co {S S' : St} (hn : S'.n = S.n) (he : IX S'.env S.env:=by repeat' (first | exact True.intro | refine And.intro (by (first | rfl | ((with_reducible_and_instances refine congrArg (fun z => some (AV.d (D.i _ z))) ?_);omega) | (refine congrArg (fun z => some (AV.d (D.i _ z))) (?_ : (_ : Int) = _);omega) | (refine congrArg some ?_;simp only [CT0,nC,Int.reduceEq,if_true,if_false,Nat.add_sub_cancel,Nat.succ_ne_zero];done) | (refine congrArg some ?_;simp [nC];done))) ?_))
  (hH : Ak S'.H S.H:=by repeat' (first | exact True.intro | refine And.intro (Or.inr rfl) ?_ | refine And.intro (Or.inl ⟨rfl,rfl⟩) ?_ | refine And.intro (Or.inr (by simp only [CT0,nC,Int.reduceEq,if_true,if_false,Nat.add_sub_cancel,Nat.succ_ne_zero])) ?_ | refine And.intro (Or.inr (by simp only [CT0,nC,Int.reduceEq,if_true,if_false,Nat.add_sub_cancel,Nat.succ_ne_zero];rfl)) ?_ | refine And.intro (Or.inr (by simp [nC])) ?_))
  (ho : AY S'.H.length S'.H = true:=by first | rfl | (simp (decide:=true) [AY,A2.ok,AV.oks,AV.ok];done) | (simp (decide:=true) [AY,A2.ok,AV.oks,AV.ok,hk];done)) (heo : Cy S'.H.length S'.env = true:=by rfl) : A1 S S':=A1.cut hn he hH ho heo
end Go.Gar
