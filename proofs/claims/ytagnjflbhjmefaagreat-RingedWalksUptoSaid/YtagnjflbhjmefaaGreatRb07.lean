/- Part 7 of the texts of this proof, put together by a program and made short.
Conditions: none; what each theorem asks stands in its own hypotheses. -/
import Derived.Test.YtagnjflbhjmefaaGreatRb06
set_option linter.unusedSimpArgs false
set_option linter.unusedVariables false
set_option linter.unnecessarySimpa false
set_option maxHeartbeats 40000000
namespace Go.Gar
def Y0 : List AV → Option (List D)
 | [] => some []
 | .d x :: r => match Y0 r with
  | some l => some (x :: l)
  | none => none
 | _ :: _ => none
theorem TL : ∀ {l : List AV} {xs : List D},Y0 l = some xs → l = xs.map .d
 | [],xs,h => by simp [Y0] at h;subst h;rfl
 | .d x :: r,xs,h => by
  simp only [Y0] at h
  split at h
  ·rename_i l hl
   cases h
   rw [TL hl];rfl
  ·cases h
 | .u :: _,_,h | .ptr _ _ _ :: _,_,h | .sl _ _ _ :: _,_,h | .bs _ _ _ _ _ :: _,_,h | .ep _ _ _ _ _ :: _,_,h | .e0 :: _,_,h | .ag _ :: _,_,h | .tup _ :: _,_,h | .fn _ _ _ :: _,_,h | .yl _ :: _,_,h | .dp _ :: _,_,h | .mp _ :: _,_,h => by simp [Y0] at h
def setRows (off : Nat) (xs : List D) : Nat → List (List D) → List (List D)
 | _,[] => []
 | 0,r :: l => (r.take off ++ xs ++ r.drop (off + xs.length)) :: l
 | i + 1,r :: l => r :: setRows off xs i l
theorem Iq (off : Nat) (xs : List D) : ∀ (i : Nat) (l : List (List D)),(setRows off xs i l).length = l.length
 | _,[] => by cases ‹Nat› <;> rfl
 | 0,_ :: _ => rfl
 | i + 1,r :: l => by simp [setRows,Iq off xs i l]
theorem JX {off sz : Nat} {xs : List D} (hs : off + xs.length ≤ sz) : ∀ {i : Nat} {l : List (List D)},(∀ e ∈ l,e.length = sz) → ∀ e ∈ setRows off xs i l,e.length = sz
 | i,[],_,e,he => by cases i <;> cases he
 | 0,r :: l,h,e,he => by
  have hr:=h r (List.mem_cons_self ..)
  rcases List.mem_cons.1 he with rfl | he
  ·simp;omega
  ·exact h e (List.mem_cons_of_mem _ he)
 | i + 1,r :: l,h,e,he => by
  rcases List.mem_cons.1 he with rfl | he
  ·exact h _ (List.mem_cons_self ..)
  ·exact JX hs (fun e he => h e (List.mem_cons_of_mem _ he)) e he
theorem Hj {off sz : Nat} {xs : List D} (hs : off + xs.length ≤ sz) : ∀ {i : Nat} {l : List (List D)},(∀ e ∈ l,e.length = sz) → i < l.length →
  (setRows off xs i l).flatten = l.flatten.take (i * sz + off) ++ xs ++ l.flatten.drop (i * sz + off + xs.length)
 | i,[],_,hi => by simp at hi
 | 0,r :: l,h,hi => by
  have hr:=h r (List.mem_cons_self ..)
  simp only [setRows,List.flatten_cons,Nat.zero_mul,Nat.zero_add]
  rw [List.take_append_of_le_length (by omega),List.drop_append_of_le_length (by omega)];simp only [List.append_assoc]
 | i + 1,r :: l,h,hi => by
  have hr:=h r (List.mem_cons_self ..)
  have ih:=Hj hs (i:=i) (fun e he => h e (List.mem_cons_of_mem _ he)) (by simp at hi;omega)
  simp only [setRows,List.flatten_cons]
  have e1 : (i + 1) * sz + off = r.length + (i * sz + off):=by rw [hr,Nat.succ_mul];omega
  rw [ih,e1,List.take_length_add_append,Nat.add_assoc r.length,List.drop_length_add_append];simp only [List.append_assoc]
theorem Of {sz : Nat} : ∀ {l : List (List D)},(∀ e ∈ l,e.length = sz) → l.flatten.length = l.length * sz
 | [],_ => by simp
 | r :: l,h => by
  have:=Of (fun e he => h e (List.mem_cons_of_mem r he))
  rw [List.flatten_cons,List.length_append,this,h r (List.mem_cons_self ..),List.length_cons,Nat.succ_mul];omega
def V7 (E : Nat → Option Ap) (env : List (Nat × AV)) (H : List A7) (op : Op) : Option (Bool × List A7) :=
 match op with
 | .store t a x => match E t,Cc env a,Cc env x with
  | some y,some (.ep id i off n sz),some v => match IZ v with
   | some vl => match Y0 vl with
    | some xs => match H[id]? with
     | some (.a (.sl sz' rows)) => match setH id (.a (.sl sz' (setRows off xs i rows))) H with
      | some H' => some (Nat.beq n rows.length && Nat.blt i n && Nat.beq y.size xs.length && Nat.ble (off + xs.length) sz && Nat.beq sz sz' && Ac xs,H')
      | none => none
     | _ => none
    | none => none
   | none => none
  | _,_,_ => none
 | _ => none
theorem Pg {G : Gh} : ∀ {xs : List D} {vs : List Value},Aj G (xs.map .d) vs → ∀ (k : Nat) (x : D),xs[k]? = some x → ∃ v,vs[k]? = some v ∧ RD G.m x v
 | [],_,_,k,x,h => by simp at h
 | d :: r,vs,hv,k,x,h => by
  simp only [List.map_cons,Aj] at hv
  obtain ⟨v,r',rfl,h1,h2⟩:=hv
  cases k with
  | zero => simp at h;subst h;exact ⟨v,rfl,by simpa only [RV] using h1⟩
  | succ k => exact Pg h2 k x (by simpa using h)
theorem Ft : ∀ {xs : List D},Ac xs = true → ∀ (k : Nat) (x : D),xs[k]? = some x → x.one = true
 | [],_,k,x,h => by simp at h
 | d :: r,ho,k,x,h => by
  simp only [Ac,Bool.and_eq_true] at ho
  cases k with
  | zero => simp at h;subst h;exact ho.1
  | succ k => exact Ft ho.2 k x (by simpa using h)
theorem VO {P : Program} {E : Nat → Option Ap} (hE : B8 P E) {S : St} {o : Oper} {c : Bool} {H' : List A7} (h : V7 E S.env S.H o.op = some (c,H')) (hc : c = true) : Cn P o S .u H':=by
 subst hc
 unfold V7 at h
 split at h
 ·rename_i t a x ho
  split at h
  ·rename_i y id i off n sz xv hy' ha hx
   split at h
   ·rename_i vl hvl
    split at h
    ·rename_i xs hxs
     have:=TL hxs
     subst this
     split at h
     ·rename_i sz' rows hl
      split at h
      ·rename_i q hq
       simp only [Option.some.injEq,Prod.mk.injEq,Bool.and_eq_true] at h
       obtain ⟨⟨⟨⟨⟨⟨hn,hi⟩,hsz⟩,hfit⟩,hsz'⟩,hone⟩,rfl⟩:=h
       have hn:=Nat.eq_of_beq_eq_true hn
       have hsz:=Nat.eq_of_beq_eq_true hsz
       have hsz':=Nat.eq_of_beq_eq_true hsz'
       have hfit:=Nat.le_of_ble_eq_true hfit
       rw [Nat.blt_eq] at hi
       subst hn;subst hsz'
       obtain ⟨hid,rfl⟩:=Gi hq
       have hy:=hE t y hy'
       intro ro N G act w r
       have hl' : G.H[id]? = some (.a (.sl sz rows)):=by rw [r.heap];exact hl
       have hva:=AM r.env ha
       have hvx:=AM r.env hx
       have hvs:=Ge hvl hvx
       have hvn : (act.eval x).cells.toList.length = xs.length:=by have:=Aj.GI hvs;simpa using this
       simp only [RV] at hva
       obtain ⟨_,blk,hb,hp⟩:=hva
       rw [hl'] at hb;cases hb
       obtain ⟨_,_,hp⟩:=hp
       obtain ⟨b,M,hρ,hva⟩:=hp rfl
       obtain ⟨_,hrows,hB⟩:=r.rel.blk id _ hl'
       simp only [A4] at hrows
       rcases hB with ⟨h0,hno⟩ | ⟨b',M',vs,T,hρ',hw,hM,hcell⟩
       ·rw [hρ] at hno;cases hno
       rw [hρ] at hρ';cases hρ'
       have hfl:=Of hrows
       have hi2 : i * sz + sz ≤ rows.length * sz:=by rw [← Nat.succ_mul];exact Nat.mul_le_mul_right sz hi
       have hvl2 : rows.flatten.length ≤ vs.size:=by
        rcases Nat.eq_zero_or_pos rows.flatten.length with h0 | h0
        ·omega
        ·obtain ⟨v,hv,_⟩:=hcell (rows.flatten.length - 1) _ (List.getElem?_eq_getElem (by simp only [slc];omega))
         have:=(Array.getElem?_eq_some_iff.1 hv).1;omega
       have hst:=run_storeCells_at P b (i * sz + off) T (act.eval x).cells.toList 0 vs w hw (by rw [hvn];simp;omega) (fun v hv => by
        obtain ⟨k,hk⟩:=List.getElem?_of_mem hv
        have hkl:=(List.getElem?_eq_some_iff.1 hk).1
        obtain ⟨v',hv',hrd⟩:=Pg hvs k _ (List.getElem?_eq_getElem (by omega : k < xs.length))
        rw [hk] at hv';cases hv'
        exact Q1 (Ft hone k _ (List.getElem?_eq_getElem (by omega))) hrd)
       simp only [Nat.add_zero] at hst
       obtain ⟨r1,r2⟩:=Kp r.rel (cur:=(vs.toList.take (i * sz + off) ++ (act.eval x).cells.toList ++ vs.toList.drop (i * sz + off + (act.eval x).cells.toList.length)).toArray) hl' rfl (q:=.a (.sl sz (setRows off xs i rows))) rfl hρ (by simp [AF,Gh.put,A6,Av,Iq]) (by
        refine ⟨rfl,JX hfit hrows,.inr ⟨b,M,_,T,hρ,setRow_heap w b vs _ T _ hw,by rw [hvn];simp at hvn ⊢;omega,fun j z hz => ?_⟩⟩
        replace hz : (setRows off xs i rows).flatten[j]? = some z:=hz
        rw [Hj hfit hrows hi] at hz
        obtain ⟨v,hv,hrv⟩:=FC (R:=fun d v => v.oneCell' = true ∧ RD G.m d v) (cs:=rows.flatten) (xs:=xs) (vs:=vs.toList) (us:=(act.eval x).cells.toList) (off:=i * sz + off) (by rw [hfl];omega) (by simpa using hvl2) hvn
         (fun k x hx => by obtain ⟨v,h1,h2⟩:=hcell k x hx;exact ⟨v,by simpa using h1,h2⟩)
         (fun k x hx => by
          obtain ⟨v,h1,h2⟩:=Pg hvs k x hx
          exact ⟨v,h1,Q1 (Ft hone k x hx) h2,h2⟩) j z hz
        exact ⟨v,by simpa using hv,hrv⟩)
       have key : (Instr.storeAt t (act.eval a) (act.eval x)).run P w = .ok () (w.setRow b (vs.toList.take (i * sz + off) ++ (act.eval x).cells.toList ++ vs.toList.drop (i * sz + off + (act.eval x).cells.toList.length)).toArray):=by
        rw [hva]
        simp only [Instr.storeAt,Instr.sureAddr,Sem.run_bind,Sem.run_pure,Result.andThen_ok,storeVar,An hy]
        rw [if_neg (by simp at hvn;omega)]
        exact hst
       refine ⟨.skip,_,_,?_,.inl ⟨rfl,rfl⟩,?_,r1,r2⟩
       ·unfold execOp
        simp only [ho,Sem.run_bind,key,Result.andThen_ok,Sem.run_pure]
       ·show G.H.set id _ = S.H.set id _
        rw [r.heap]
      ·cases h
     ·cases h
    ·cases h
   ·cases h
  ·cases h
 ·cases h
theorem N6 {E : Nat → Option Ap} {env : List (Nat × AV)} {H : List A7} {op : Op} {r : Bool × List A7} (h : V7 E env H op = some r) : ∀ c,op ≠ .defer c:=fun c e => by subst e;cases h
section
variable {P : Program} {ro : Option Nat} {E : Nat → Option Ap} {ops : Array Oper} {i : Nat} {rest : List Oper} {Q : Exit → St → Prop} {o : Oper} {en : List (Nat × AV)} {hp : List A7} {nt : Nat} {S0 : St} {A : Prop} {acc : List Rc}
theorem Xsc (hE : B8 P E) {c : Bool} {H' H'' : List A7} {e : List (Nat × AV)} (hg : A9 ops en o = some true) (h : V7 E en hp o.op = some (c,H')) (hd : AJ o.dst nt = true) (he : Af o.dst .u en = some e)
  (k : Wl P ro ops (i + 1) rest ⟨e,H'',nt⟩ Q) (hc : c = true) (hH : H' = H'':=by first | (simp only [nS];rfl) | rfl) : Wl P ro ops i (o :: rest) ⟨en,hp,nt⟩ Q:=by
 subst hH
 rw [AO he] at k
 exact Ir hg (VO (S:=⟨en,hp,nt⟩) hE h hc) (N6 h) hd k
end
end Go.Gar
namespace Go.Gar
open Go.ChangeShapes Go.WideShapes Go.ChangeAt Go.RowKit
mutual
def S5 (B : Nat) : Sh → D → Prop
 | .int k,d => ∃ n,d = .i k n ∧ (Lit.int k n).wf = true
 | .bool,d => ∃ b,d = .b b
 | .str,d => ∃ l,d = .s l ∧ l.length ≤ B
 | .by,d => ∃ l,d = .by l ∧ l.length ≤ B
 | .is,d => ∃ l,d = .is l ∧ l.length ≤ B ∧ ∀ n ∈ l,(Lit.int .i64 n).wf = true
 | .sl shs,d => ∃ es,d = .sl (LF shs) es ∧ es.length ≤ B ∧ ∀ e ∈ es,C2 B shs e
def C2 (B : Nat) : List Sh → List D → Prop
 | [],ds => ds = []
 | s :: l,ds => ∃ d r,ds = d :: r ∧ S5 B s d ∧ C2 B l r
end
structure To {H : Type} (B : Nat) (S : DataW H → Prop) : Prop where
 str : ∀ l,S (.lit (.string l)) → l.length ≤ B
 sl : ∀ e r,S (.slice e r) → e.length ≤ B ∧ ∀ x ∈ e,S x
 ag : ∀ l,S (.agg l) → ∀ x ∈ l,S x
theorem L4 {B : Nat} : ∀ {a b : List Sh} {x y : List D},C2 B a x → C2 B b y → C2 B (a ++ b) (x ++ y)
 | [],b,x,y,h,k => by simp only [C2] at h;subst h;exact k
 | s :: a,b,x,y,h,k => by
  simp only [C2] at h
  obtain ⟨d,r,rfl,h1,h2⟩:=h
  simp only [List.cons_append,C2]
  exact ⟨d,r ++ y,rfl,h1,L4 h2 k⟩
theorem Kk {B : Nat} : ∀ {a : List Sh} {x : List D},C2 B a x → x.length = a.length
 | [],x,h => by simp only [C2] at h;simp [h]
 | s :: a,x,h => by
  simp only [C2] at h
  obtain ⟨d,r,rfl,_,h2⟩:=h
  simp [Kk h2]
section
variable {P : Program} {E : Nat → Option Ap} {H : Type} {enc : TypeId × Value → H} {w : World} {base : Nat} {sp : Nat → Bool} {held : Bool} {B : Nat} {S : DataW H → Prop}
theorem OZ {b off sz : Nat} {shs : List Sh} {n : Nat} (hn : shs.length = sz) (h : ∀ i,i < n → ∃ ds vs,C2 B shs ds ∧ CF (Dt w) ds vs ∧ (∀ c ∈ vs,c.oneCell' = true) ∧ vs.length = sz ∧ ∀ k,k < sz → vs[k]? = w.cell? ⟨b,off + i * sz + k,none⟩) :
  ∃ es : List (List D),es.length = n ∧ (∀ e ∈ es,C2 B shs e) ∧ MR (Dt w) sz es b off:=by
 induction n generalizing off with
 | zero => exact ⟨[],rfl,by simp,by simp [MR]⟩
 | succ n ih =>
  obtain ⟨ds,vs,h1,h2,h3,h4,h5⟩:=h 0 (by omega)
  obtain ⟨es,k1,k2,k3⟩:=ih (off:=off + sz) (fun i hi => by
   obtain ⟨ds,vs,g1,g2,g3,g4,g5⟩:=h (i + 1) (by omega)
   exact ⟨ds,vs,g1,g2,g3,g4,fun k hk => by rw [g5 k hk,Nat.succ_mul];congr 2;omega⟩)
  refine ⟨ds :: es,by simp [k1],?_,?_⟩
  ·intro e he
   rcases List.mem_cons.1 he with rfl | he
   ·exact h1
   ·exact k2 e he
  ·simp only [MR]
   refine ⟨by rw [Kk h1,hn],Ef.2 fun k d hd => ?_,k3⟩
   obtain ⟨hl,hg⟩:=Cg.1 h2
   obtain ⟨v,hv,hr⟩:=hg k d hd
   have hk : k < sz:=by rw [← h4];exact (List.getElem?_eq_some_iff.1 hv).1
   refine ⟨v,?_,h3 v (List.mem_of_getElem? hv),hr⟩
   have:=h5 k hk
   rw [hv] at this
   show w.cell? ⟨b,off + k,none⟩ = some v
   rw [this];congr 2;omega
theorem Ip {E : Nat → Option Ap} (hE : B8 P E) {cs : List Value} {m : Nat} (ih : ∀ {n t : Nat} {shs : List Sh} {cs : List Value} {x : DataW H × List MemPlace},n < m → Uy E n t = some shs → (∃ fuel,DataW.trod enc P w base sp held fuel t cs = some x) → S x.1 → ∃ ds,C2 B shs ds ∧ CF (Dt w) ds cs ∧ (∀ c ∈ cs,c.oneCell' = true)) :
  ∀ {n o : Nat} {fs : List (Nat × Nat)} {l : List Sh},n ≤ m → Y1 E n o fs = some l → (∀ off ft,(off,ft) ∈ fs → ∃ fuel x,DataW.trod enc P w base sp held fuel ft ((cs.drop off).take (P.cellsOf ft)) = some x ∧ S x.1) →
   o + l.length ≤ cs.length → ∃ ds,C2 B l ds ∧ CF (Dt w) ds ((cs.drop o).take l.length) ∧ (∀ c ∈ (cs.drop o).take l.length,c.oneCell' = true)
 | n,o,[],l,_,h,_,_ => by
  cases n <;> simp [Y1] at h <;> subst h <;> exact ⟨[],by simp [C2],by simp [CF],by simp⟩
 | 0,o,_ :: _,l,_,h,_,_ => by simp [Y1] at h
 | n + 1,o,(off,ft) :: r,l,hnm,h,hx,hl => by
  simp only [Y1] at h
  split at h
  ·rename_i z l1 hb hz hs
   split at h
   ·rename_i hlen
    split at h
    ·rename_i l2 h2
     cases h
     have ho:=Nat.eq_of_beq_eq_true hb
     subst ho
     have hsz:=Nat.eq_of_beq_eq_true hlen
     rw [F8] at hsz
     have hc:=EO (hE _ _ hz)
     simp only [List.length_append] at hl
     obtain ⟨fuel,x,hxx,hSx⟩:=hx _ _ (List.mem_cons_self)
     obtain ⟨ds1,a1,a2,a3⟩:=ih (by omega) hs ⟨fuel,hxx⟩ hSx
     rw [hc,← hsz] at a2 a3
     obtain ⟨ds2,b1,b2,b3⟩:=Ip hE (fun h => ih h) (n:=n) (by omega) h2 (fun off ft hm => hx off ft (List.mem_cons_of_mem _ hm)) (by omega)
     rw [← hsz] at b2 b3
     have e : (cs.drop o).take (l1 ++ l2).length = (cs.drop o).take l1.length ++ (cs.drop (o + l1.length)).take l2.length:=by
      rw [List.length_append,List.take_add,List.drop_drop]
     refine ⟨ds1 ++ ds2,L4 a1 b1,by rw [e];exact MQ a2 b2,fun c hc => ?_⟩
     rw [e] at hc
     rcases List.mem_append.1 hc with hc | hc
     ·exact a3 c hc
     ·exact b3 c hc
    ·cases h
   ·cases h
  ·cases h
theorem Ja {sz : Nat} {shs : List Sh} (hn : shs.length = sz) : ∀ {k : Nat} {cs : List Value},cs.length = k * sz → (∀ i,i < k → ∃ ds,C2 B shs ds ∧ CF (Dt w) ds ((cs.drop (i * sz)).take sz) ∧ ∀ c ∈ (cs.drop (i * sz)).take sz,c.oneCell' = true) →
  ∃ ds,C2 B (T3 k shs) ds ∧ CF (Dt w) ds cs ∧ ∀ c ∈ cs,c.oneCell' = true
 | 0,cs,hl,_ => by
  have : cs = []:=List.eq_nil_of_length_eq_zero (by simpa using hl)
  subst this
  exact ⟨[],by simp [T3,C2],by simp [CF],by simp⟩
 | k + 1,cs,hl,h => by
  rw [Nat.succ_mul] at hl
  obtain ⟨ds1,a1,a2,a3⟩:=h 0 (by omega)
  simp only [Nat.zero_mul,List.drop_zero] at a2 a3
  obtain ⟨ds2,b1,b2,b3⟩:=Ja hn (k:=k) (cs:=cs.drop sz) (by simp;omega) (fun i hi => by
   obtain ⟨ds,c1,c2,c3⟩:=h (i + 1) (by omega)
   rw [Nat.succ_mul,Nat.add_comm,← List.drop_drop] at c2 c3
   exact ⟨ds,c1,c2,c3⟩)
  refine ⟨ds1 ++ ds2,by simp only [T3];exact L4 a1 b1,?_,fun c hc => ?_⟩
  ·rw [← List.take_append_drop sz cs];exact MQ a2 b2
  ·rw [← List.take_append_drop sz cs] at hc
   rcases List.mem_append.1 hc with hc | hc
   ·exact a3 c hc
   ·exact b3 c hc
theorem FE {E : Nat → Option Ap} (hE : B8 P E) (hM : To B S) : ∀ (m : Nat) {n t : Nat} {shs : List Sh} {cs : List Value} {x : DataW H × List MemPlace},n < m → Uy E n t = some shs → (∃ fuel,DataW.trod enc P w base sp held fuel t cs = some x) → S x.1 → ∃ ds,C2 B shs ds ∧ CF (Dt w) ds cs ∧ (∀ c ∈ cs,c.oneCell' = true)
 | 0,_,_,_,_,_,h,_,_,_ => by omega
 | m + 1,0,t,shs,cs,x,_,h,_,_ => by simp [Uy] at h
 | m + 1,n + 1,t,shs,cs,x,hnm,h,⟨fuel,hx⟩,hS => by
  simp only [Uy] at h
  split at h
  ·cases h
  ·rename_i y hy
   have hmk:=hE _ _ hy
   obtain ⟨dsc,hu,hk⟩:=HR hmk
   split at h
   ·rename_i k hyk
    cases h
    rw [hyk] at hk
    rw [Eh hk] at hu
    obtain ⟨v,rfl,_,hw⟩:=DataW.trod_int hu hx
    exact ⟨[.i k v],by simp [C2,S5,hw],by simp [CF,RD],by simp [Value.oneCell']⟩
   ·rename_i hyk
    cases h
    rw [hyk] at hk
    rw [HW hk] at hu
    obtain ⟨v,rfl,_⟩:=DataW.trod_bool hu hx
    exact ⟨[.b v],by simp [C2,S5],by simp [CF,RD],by simp [Value.oneCell']⟩
   ·rename_i hyk
    cases h
    rw [hyk] at hk
    rw [E7 hk] at hu
    obtain ⟨v,rfl,hxe,hw⟩:=DataW.trod_string hu hx
    rw [hxe] at hS
    have hSl:=hM.str _ hS
    exact ⟨[.s v.data.toList],by simp only [C2,S5];exact ⟨_,[],rfl,⟨_,rfl,hSl⟩,rfl⟩,by simp [CF,RD],by simp [Value.oneCell']⟩
   ·rename_i e hyk
    rw [hyk] at hk
    rw [Ca hk] at hu
    split at h
    ·cases h
    ·rename_i z hz
     have hmz:=hE _ _ hz
     have hc:=EO hmz
     obtain ⟨ez,hez,hkz⟩:=HR hmz
     have key : ∀ {sh : List Sh},sh.length = z.size → z.size ≠ 0 → (∀ {cs : List Value} {x : DataW H × List MemPlace} {fuel : Nat},DataW.trod enc P w base sp held fuel e cs = some x → S x.1 → ∃ ds,C2 B sh ds ∧ CF (Dt w) ds cs ∧ (∀ c ∈ cs,c.oneCell' = true)) →
       ∃ a cap es,cs = [.slice a es.length cap] ∧ es.length ≤ cap ∧ es.length ≤ B ∧ (∀ e ∈ es,C2 B sh e) ∧ (es = [] ∨ ∃ b off,a = some ⟨b,off,none⟩ ∧ MR (Dt w) z.size es b off):=by
      intro sh hsh hnz hel
      rcases DataW.trod_slice hu hx with ⟨rfl,_⟩ | ⟨a,len,cap,elems,rest,n',rfl,rfl,hxe,_,hlc,hcm,hlen,hget,_⟩
      ·exact ⟨none,0,[],rfl,by simp,by simp,by simp,.inl rfl⟩
      ·rw [hxe] at hS
       obtain ⟨hSl,hSe⟩:=hM.sl _ _ hS
       rw [List.length_map] at hSl
       rcases Nat.eq_zero_or_pos len with h0 | h0
       ·subst h0
        exact ⟨some a,cap,[],rfl,by simp,by simp,by simp,.inl rfl⟩
       ·have at_ : ∀ i,i < len → ∃ vs x,w.cells? base (a.add (i * z.size)) z.size = some vs ∧ DataW.trod enc P w base sp held n' e vs = some x ∧ S x.1:=by
         intro i hi
         have:=hget i hi
         rw [hc,List.getElem?_eq_getElem (by omega)] at this
         rw [Option.bind_eq_some_iff] at this
         obtain ⟨vs,h1,h2⟩:=this
         exact ⟨vs,_,h1,h2,hSe _ (List.mem_map_of_mem (List.getElem_mem _))⟩
        by_cases hz0 : z.size = 0
        ·exact absurd hz0 hnz
        ·obtain ⟨vs0,x0,h01,h02,_⟩:=at_ 0 h0
         obtain ⟨e01,e02⟩:=JY h01
         have hsp : a.spot = none:=by
          have h3:=e02 0 (by omega)
          rw [List.getElem?_eq_getElem (by omega)] at h3
          have:=cell_spot h3.symm
          simpa [Addr.add] using this
         obtain ⟨b,off,spt⟩:=a
         simp only at hsp
         subst hsp
         obtain ⟨es,k1,k2,k3⟩:=OZ (w:=w) (b:=b) (off:=off) (sz:=z.size) (shs:=sh) (n:=len) hsh (fun i hi => by
          obtain ⟨vs,x',h1,h2,h2S⟩:=at_ i hi
          obtain ⟨ds,d1,d2,d3⟩:=hel h2 h2S
          obtain ⟨e1,e2⟩:=JY h1
          refine ⟨ds,vs,d1,d2,d3,e1,fun k hk => ?_⟩
          rw [e2 k hk,OY,OY])
         exact ⟨some ⟨b,off,none⟩,cap,es,by rw [k1],by omega,by omega,k2,.inr ⟨b,off,rfl,k3⟩⟩
     have conv : ∀ {q : D} {es : List (List D)} {a : Option Addr} {cap : Nat},A5 q = true → A4 q → A6 q = es.length → slc q = es.flatten → es.length ≤ cap → (es = [] ∨ ∃ b off,a = some ⟨b,off,none⟩ ∧ MR (Dt w) z.size es b off) → RD (Dt w) q (.slice a es.length cap):=by
      intro q es a cap q1 q2 q3 q4 hc h5
      refine (CO q1).2 ⟨a,cap,by rw [q3],by omega,q2,?_⟩
      rcases h5 with rfl | ⟨b,off,ha,hr⟩
      ·exact .inl (by simpa using q3)
      ·refine .inr ⟨b,off,ha,?_⟩
       rw [q4]
       exact Ef.1 (I5.1 hr).2
     split at h
     ·rename_i hzk
      split at h
      ·rename_i hb
       cases h
       have hz1:=Nat.eq_of_beq_eq_true hb
       rw [hzk] at hkz
       rw [Eh hkz] at hez
       obtain ⟨a,cap,es,rfl,h1,h2,h3,h4⟩:=key (sh:=[.int .u8]) (by simp [hz1]) (by omega) (fun hx _ => by
        obtain ⟨v,rfl,_,hw⟩:=DataW.trod_int hez hx
        exact ⟨[.i .u8 v],by simp [C2,S5,hw],by simp [CF,RD],by simp [Value.oneCell']⟩)
       obtain ⟨l,l1,l2⟩ : ∃ l : List UInt8,es.flatten = l.map (fun x => D.i .u8 (x.toNat : Int)) ∧ l.length = es.length:=by
        clear h1 h2 h4 conv key hx
        induction es with
        | nil => exact ⟨[],rfl,rfl⟩
        | cons e r ih =>
         obtain ⟨l,l1,l2⟩:=ih (fun e he => h3 e (by simp [he]))
         have h0:=h3 e (by simp)
         simp only [C2,S5] at h0
         obtain ⟨d,r',rfl,⟨n,rfl,hw⟩,rfl⟩:=h0
         exact ⟨UInt8.ofNat n.toNat :: l,by simp only [List.flatten_cons,l1,List.map_cons,← Ts hw,List.cons_append,List.nil_append],by simp [l2]⟩
       refine ⟨[.by l],by simp [C2,S5];omega,?_,by simp [Value.oneCell']⟩
       simp only [CF]
       exact ⟨_,[],rfl,conv (q:=.by l) rfl trivial l2 l1.symm h1 h4,rfl⟩
      ·cases h
     ·rename_i hzk
      split at h
      ·rename_i hb
       cases h
       have hz1:=Nat.eq_of_beq_eq_true hb
       rw [hzk] at hkz
       rw [Eh hkz] at hez
       obtain ⟨a,cap,es,rfl,h1,h2,h3,h4⟩:=key (sh:=[.int .i64]) (by simp [hz1]) (by omega) (fun hx _ => by
        obtain ⟨v,rfl,_,hw⟩:=DataW.trod_int hez hx
        exact ⟨[.i .i64 v],by simp [C2,S5,hw],by simp [CF,RD],by simp [Value.oneCell']⟩)
       obtain ⟨l,l1,l2,l3⟩ : ∃ l : List Int,es.flatten = l.map (fun x => D.i .i64 x) ∧ l.length = es.length ∧ ∀ n ∈ l,(Lit.int .i64 n).wf = true:=by
        clear h1 h2 h4 conv key hx
        induction es with
        | nil => exact ⟨[],rfl,rfl,by simp⟩
        | cons e r ih =>
         obtain ⟨l,l1,l2,l3⟩:=ih (fun e he => h3 e (by simp [he]))
         have h0:=h3 e (by simp)
         simp only [C2,S5] at h0
         obtain ⟨d,r',rfl,⟨n,rfl,hw⟩,rfl⟩:=h0
         refine ⟨n :: l,by simp only [List.flatten_cons,l1,List.map_cons,List.cons_append,List.nil_append],by simp [l2],fun n' hn' => ?_⟩
         rcases List.mem_cons.1 hn' with rfl | hn'
         ·exact hw
         ·exact l3 n' hn'
       refine ⟨[.is l],?_,?_,by simp [Value.oneCell']⟩
       ·simp only [C2,S5]
        exact ⟨_,[],rfl,⟨l,rfl,by omega,l3⟩,rfl⟩
       ·simp only [CF]
        exact ⟨_,[],rfl,conv (q:=.is l) rfl trivial l2 l1.symm h1 h4,rfl⟩
      ·cases h
     ·split at h
      ·rename_i l hl
       split at h
       ·rename_i hb hb0
        cases h
        have hz1:=Nat.eq_of_beq_eq_true hb
        rw [F8] at hz1
        obtain ⟨a,cap,es,rfl,h1,h2,h3,h4⟩:=key (sh:=l) hz1 (fun e => by rw [e] at hb0;cases hb0) (fun hx hSx => FE hE hM m (by omega) hl ⟨_,hx⟩ hSx)
        refine ⟨[.sl (LF l) es],?_,?_,by simp [Value.oneCell']⟩
        ·simp only [C2,S5]
         exact ⟨_,[],rfl,⟨es,rfl,h2,h3⟩,rfl⟩
        ·simp only [CF]
         refine ⟨_,[],rfl,conv (q:=.sl (LF l) es) rfl (fun e he => by rw [Kk (h3 e he),F8]) rfl rfl h1 h4,rfl⟩
       ·cases h
      ·cases h
   ·rename_i fs hyk
    rw [hyk] at hk
    obtain ⟨q,rfl,rfl⟩:=Ih hk
    split at h
    ·rename_i l hl
     split at h
     ·rename_i hb
      cases h
      have hz1:=Nat.eq_of_beq_eq_true hb
      rw [F8] at hz1
      obtain ⟨xs,n',rfl,hxe,hlen,hxl,hget⟩:=DataW.trod_struct hu hx
      rw [hxe] at hS
      have hSe:=hM.ag _ hS
      rw [EO hmk] at hlen
      obtain ⟨ds,d1,d2,d3⟩:=Ip (m:=m) hE (fun hh hs ⟨fuel,hx⟩ hSx => FE hE hM m hh hs ⟨fuel,hx⟩ hSx) (cs:=cs) (n:=n) (by omega) hl (fun off ft hm => by
       simp only [List.mem_map,Prod.mk.injEq] at hm
       obtain ⟨f,hf,rfl,rfl⟩:=hm
       obtain ⟨i,hi,hfi⟩:=List.mem_iff_getElem.1 hf
       have hq : q[i]? = some f:=by
        rw [← Array.getElem?_toList,List.getElem?_eq_getElem hi,hfi]
       have:=hget i f hq
       have hi' : i < q.size:=by simpa using hi
       rw [List.getElem?_eq_getElem (by omega)] at this
       exact ⟨n',_,this,hSe _ (List.mem_map_of_mem (List.getElem_mem _))⟩) (by omega)
      rw [List.drop_zero,hz1,← hlen,List.take_length] at d2 d3
      exact ⟨ds,d1,d2,d3⟩
     ·cases h
    ·cases h
   ·rename_i k e hyk
    rw [hyk] at hk
    rw [FP hk] at hu
    split at h
    ·rename_i z l hz hl
     split at h
     ·rename_i hb hb2
      cases h
      have hz1:=Nat.eq_of_beq_eq_true hb
      have hz2:=Nat.eq_of_beq_eq_true hb2
      rw [F8] at hz1
      have hc:=EO (hE _ _ hz)
      obtain ⟨xs,n',rfl,hxe,hlen,hxl,hget⟩:=DataW.trod_array hu hx
      rw [hxe] at hS
      have hSe:=hM.ag _ hS
      rw [EO hmk,← hz2] at hlen
      refine Ja hz1 hlen (fun i hi => ?_)
      have:=hget i hi
      rw [List.getElem?_eq_getElem (by omega),hc] at this
      exact FE hE hM m (by omega) hl ⟨n',this⟩ (hSe _ (List.mem_map_of_mem (List.getElem_mem _)))
     ·cases h
    ·cases h
   ·cases h
end
def L5 (B : Nat) (E : Nat → Option Ap) (t : Nat) (d : D) : Prop :=
 match E t,Uy E 40 t with
 | some y,some shs => match y.agg with
  | true => ∃ l,d = .agg l ∧ C2 B shs l
  | false => ∃ s,shs = [s] ∧ S5 B s d
 | _,_ => False
def Ht (B : Nat) (E : Nat → Option Ap) : List Nat → List D → Prop
 | [],ds => ds = []
 | t :: ts,ds => ∃ d r,ds = d :: r ∧ L5 B E t d ∧ Ht B E ts r
section
variable {P : Program} {E : Nat → Option Ap} {H : Type} {enc : TypeId × Value → H} {W : World} {base : Nat} {sp : Nat → Bool} {held : Bool} {B : Nat} {S : DataW H → Prop}
theorem Rx (hE : B8 P E) (hM : To B S) {t : Nat} {v : Value} {d : DataW H} {ps : List MemPlace} {b0 : Nat} {r : Reach} (hb : W6 E t = true) (h : DataW.Trod enc P W base sp held t v d ps) (hS : S d) (ho : Value.okWide P W r b0 t v) : ∃ x,L5 B E t x ∧ RD (Dt W) x v:=by
 unfold W6 at hb
 unfold L5
 cases hy : E t with
 | none => rw [hy] at hb;simp at hb
 | some y =>
  cases hs : Uy E 40 t with
  | none => rw [hy,hs] at hb;simp at hb
  | some shs =>
   rw [hy,hs] at hb
   simp only at hb ⊢
   obtain ⟨fuel,hf⟩:=h
   obtain ⟨ds,d1,d2,d3⟩:=FE hE hM 41 (by omega) hs ⟨fuel,hf⟩ hS
   obtain ⟨dsc,hu,hk⟩:=HR (hE _ _ hy)
   have notagg : (∀ cs,v ≠ .agg cs) → v.cells.toList = [v]:=fun h => by cases v <;> first | rfl | exact absurd rfl (h _)
   have fin : ∀ s,shs = [s] → (∀ cs,v ≠ .agg cs) → ∃ x,(∃ s,shs = [s] ∧ S5 B s x) ∧ RD (Dt W) x v:=by
    intro s hs' hna
    subst hs'
    rw [notagg hna] at d2
    simp only [C2] at d1
    obtain ⟨x,r,rfl,h1,rfl⟩:=d1
    simp only [CF] at d2
    obtain ⟨u,q,e,h2,rfl⟩:=d2
    cases e
    exact ⟨x,⟨s,rfl,h1⟩,h2⟩
   split at hb
   ·rename_i ha hk'
    simp only [ha]
    obtain ⟨q,hq,_⟩:=Ih (hk.trans hk')
    subst hq
    unfold Value.okWide at ho
    rw [hu] at ho
    obtain ⟨cs,rfl,_⟩:=ho
    exact ⟨.agg ds,⟨ds,rfl,d1⟩,by simp only [RD];exact ⟨cs.toList,by simp,d2⟩⟩
   ·rename_i ha hk'
    simp only [ha]
    have hq:=FP (hk.trans hk')
    subst hq
    unfold Value.okWide at ho
    rw [hu] at ho
    obtain ⟨cs,rfl,_⟩:=ho
    exact ⟨.agg ds,⟨ds,rfl,d1⟩,by simp only [RD];exact ⟨cs.toList,by simp,d2⟩⟩
   ·rename_i s ha hk'
    simp only [ha]
    have hq:=Eh (hk.trans hk')
    subst hq
    refine fin s rfl fun cs e => ?_
    subst e
    simp [Value.okWide,Cell.okWide,Cell.ok,hu] at ho
   ·rename_i s ha hk'
    simp only [ha]
    have hq:=HW (hk.trans hk')
    subst hq
    refine fin s rfl fun cs e => ?_
    subst e
    simp [Value.okWide,Cell.okWide,Cell.ok,hu] at ho
   ·rename_i s ha hk'
    simp only [ha]
    have hq:=E7 (hk.trans hk')
    subst hq
    refine fin s rfl fun cs e => ?_
    subst e
    simp [Value.okWide,Cell.okWide,Cell.ok,hu] at ho
   ·rename_i s ha hk'
    simp only [ha]
    have hq:=Ca (hk.trans hk')
    subst hq
    refine fin s rfl fun cs e => ?_
    subst e
    simp [Value.okWide,Cell.okWide,Cell.ok,hu] at ho
   ·cases hb
theorem Jz (hE : B8 P E) (hM : To B S) {b0 : Nat} {r : Reach} : ∀ {ts : List Nat} {vs : List Value} {ds : List (DataW H)} {ps : List MemPlace},ts.all (W6 E) = true → DataW.TrodAll enc P W base sp held ts vs ds ps → (∀ d ∈ ds,S d) → (∀ (j : Nat) t v,ts[j]? = some t → vs[j]? = some v → Value.okWide P W r b0 t v) →
  (∃ xs,Ht B E ts xs ∧ CF (Dt W) xs vs) ∧ ds.length = ts.length
 | [],[],[],_,_,_,_,_ => ⟨⟨[],by simp [Ht],by simp [CF]⟩,rfl⟩
 | t :: ts,v :: vs,d :: ds,ps,hb,h,hS,ho => by
  simp only [List.all_cons,Bool.and_eq_true] at hb
  obtain ⟨p,q,h1,h2,_⟩:=h
  obtain ⟨x,x1,x2⟩:=Rx hE hM hb.1 h1 (hS d (List.mem_cons_self ..)) (ho 0 t v rfl rfl)
  obtain ⟨⟨xs,y1,y2⟩,hl⟩:=Jz hE hM hb.2 h2 (fun x hx => hS x (List.mem_cons_of_mem _ hx)) (fun j t v ht hv => ho (j + 1) t v (by simpa using ht) (by simpa using hv))
  exact ⟨⟨x :: xs,by simp only [Ht];exact ⟨x,xs,rfl,x1,y1⟩,by simp only [CF];exact ⟨v,vs,rfl,x2,y2⟩⟩,by simp [hl]⟩
 | [],[],_ :: _,_,_,h,_,_ => h.elim
 | [],_ :: _,_,_,_,h,_,_ => by cases h
 | _ :: _,[],_,_,_,h,_,_ => by cases h
 | _ :: _,_ :: _,[],_,_,h,_,_ => by cases h
theorem HG {fn : Func} {f : FuncId} {s : ChangeSpec} {tb : Nat} (hE : B8 P E) (hM : To B S) (hl : laidOutB P = true) (hr : (fn.params.toList.all fun t => P.readableRec t && decide (t < P.types.size)) = true) (hp : fn.params.toList.all (W6 E) = true)
  (hres : fn.resultTypes.toList = [tb]) (htb : P.underlying tb = some .bool) (hvars : s.vars = []) (hs : ∀ (H : Type) (ds : List (DataW H)),ds.length = fn.params.toList.length → s.fn H ds = { results:=[.lit (.bool true)],args:=ds })
  (hF : ∀ xs,Ht B E fn.params.toList xs → Go.Gar.Fn P f xs (.b true)) {args : Array Value} {ds gs : List (DataW H)} {before : List MemPlace}
  (hval : ∀ (j : Nat) t v,fn.params[j]? = some t → args[j]? = some v → Value.okWide P W .any base t v) (hS : ∀ d ∈ ds,S d) (hW : DataW.Whole enc P fn.params.toList s.vars false W args.toList ds gs before) (hst : SOK (Dt W):=by intro b k v h;cases h) :
  Calls P f args W fun e W' => ∃ v,e = .returned v ∧ s.post enc P fn false true false false W args v W':=by
 have hW':=hW
 obtain ⟨p,q,hA,hV,rfl,_,_⟩:=hW
 rw [hvars] at hV
 obtain ⟨rfl,rfl⟩:=trodVars_none hV
 obtain ⟨⟨xs,x1,x2⟩,hlen⟩:=Jz hE hM hp hA hS (fun j t v ht hv => hval j t v (by simpa using ht) (by simpa using hv))
 have hc:=(hF xs x1).2 (Dt W) W args (fun b k v h => h) hst x2
 rw [callsIn_wide] at hc
 refine hc.mono ?_
 rintro e W' ⟨v,m',rfl,h1,_,_,_,h5,h6,h7,h8,h9⟩
 simp only [RD] at h1
 subst h1
 have hb : Below W.heap.size W W':=⟨h5,h6,h7,h8,h9⟩
 have hlt : ∀ x ∈ p,x.block < W.heap.size:=fun x hx => hW'.lt x (by simp [hx])
 have hsz : fn.resultTypes.size = 1:=by
  have:=congrArg List.length hres;simpa using this
 refine ⟨_,rfl,ds,[],p ++ [],[],p,[],hW',?_,?_,?_,Pw h5 h7 h9 _,fun h => by cases h⟩
 ·rw [hs H (ds ++ []) (by simpa using hlen),hres]
  simp only [Value.resultList,hsz,if_true]
  exact trodAll_mk1 (shut_bool htb true)
 ·rw [hs H (ds ++ []) (by simpa using hlen)]
  rw [List.append_nil]
  exact Gm hl hb hr hA hlt
 ·rw [hs H (ds ++ []) (by simpa using hlen),hvars]
  rfl
end
end Go.Gar
