/- Part 26 of the texts of this proof, put together by a program and made short.
Conditions: none; what each theorem asks stands in its own hypotheses. -/
import Derived.Test.YtnahkfkljohjaaaGreatDoorH24
set_option linter.unusedSimpArgs false
set_option linter.unusedVariables false
set_option linter.unnecessarySimpa false
set_option maxHeartbeats 40000000
namespace Go.Gar
def aO : List AV → Option (List D)
 | [] => some []
 | .d x :: r => match aO r with
  | some l => some (x :: l)
  | none => none
 | _ :: _ => none
theorem Vt : ∀ {l : List AV} {xs : List D},aO l = some xs → l = xs.map .d
 | [],xs,h => by simp [aO] at h;subst h;rfl
 | .d x :: r,xs,h => by
  simp only [aO] at h
  split at h
  ·rename_i l hl
   cases h
   rw [Vt hl];rfl
  ·cases h
 | .u :: _,_,h | .ptr _ _ _ :: _,_,h | .sl _ _ _ :: _,_,h | .bs _ _ _ _ _ :: _,_,h | .ep _ _ _ _ _ :: _,_,h | .e0 :: _,_,h | .ag _ :: _,_,h | .tup _ :: _,_,h | .fn _ _ _ :: _,_,h | .yl _ :: _,_,h | .dp _ :: _,_,h | .mp _ :: _,_,h => by simp [aO] at h
def setRows (off : Nat) (xs : List D) : Nat → List (List D) → List (List D)
 | _,[] => []
 | 0,r :: l => (r.take off ++ xs ++ r.drop (off + xs.length)) :: l
 | i + 1,r :: l => r :: setRows off xs i l
theorem JW (off : Nat) (xs : List D) : ∀ (i : Nat) (l : List (List D)),(setRows off xs i l).length = l.length
 | _,[] => by cases ‹Nat› <;> rfl
 | 0,_ :: _ => rfl
 | i + 1,r :: l => by simp [setRows,JW off xs i l]
theorem LQ {off sz : Nat} {xs : List D} (hs : off + xs.length ≤ sz) : ∀ {i : Nat} {l : List (List D)},(∀ e ∈ l,e.length = sz) → ∀ e ∈ setRows off xs i l,e.length = sz
 | i,[],_,e,he => by cases i <;> cases he
 | 0,r :: l,h,e,he => by
  have hr:=h r (List.mem_cons_self ..)
  rcases List.mem_cons.1 he with rfl | he
  ·simp;omega
  ·exact h e (List.mem_cons_of_mem _ he)
 | i + 1,r :: l,h,e,he => by
  rcases List.mem_cons.1 he with rfl | he
  ·exact h _ (List.mem_cons_self ..)
  ·exact LQ hs (fun e he => h e (List.mem_cons_of_mem _ he)) e he
theorem IQ {off sz : Nat} {xs : List D} (hs : off + xs.length ≤ sz) : ∀ {i : Nat} {l : List (List D)},(∀ e ∈ l,e.length = sz) → i < l.length →
  (setRows off xs i l).flatten = l.flatten.take (i * sz + off) ++ xs ++ l.flatten.drop (i * sz + off + xs.length)
 | i,[],_,hi => by simp at hi
 | 0,r :: l,h,hi => by
  have hr:=h r (List.mem_cons_self ..)
  simp only [setRows,List.flatten_cons,Nat.zero_mul,Nat.zero_add]
  rw [List.take_append_of_le_length (by omega),List.drop_append_of_le_length (by omega)];simp only [List.append_assoc]
 | i + 1,r :: l,h,hi => by
  have hr:=h r (List.mem_cons_self ..)
  have ih:=IQ hs (i:=i) (fun e he => h e (List.mem_cons_of_mem _ he)) (by simp at hi;omega)
  simp only [setRows,List.flatten_cons]
  have e1 : (i + 1) * sz + off = r.length + (i * sz + off):=by rw [hr,Nat.succ_mul];omega
  rw [ih,e1,List.take_length_add_append,Nat.add_assoc r.length,List.drop_length_add_append];simp only [List.append_assoc]
theorem PM {sz : Nat} : ∀ {l : List (List D)},(∀ e ∈ l,e.length = sz) → l.flatten.length = l.length * sz
 | [],_ => by simp
 | r :: l,h => by
  have:=PM (fun e he => h e (List.mem_cons_of_mem r he))
  rw [List.flatten_cons,List.length_append,this,h r (List.mem_cons_self ..),List.length_cons,Nat.succ_mul];omega
def Xe (E : Nat → Option Ax) (env : List (Nat × AV)) (H : List AC) (op : Op) : Option (Bool × List AC) :=
 match op with
 | .store t a x => match E t,D5 env a,D5 env x with
  | some y,some (.ep id i off n sz),some v => match J5 v with
   | some vl => match aO vl with
    | some xs => match H[id]? with
     | some (.a (.sl sz' rows)) => match setH id (.a (.sl sz' (setRows off xs i rows))) H with
      | some H' => some (Nat.beq n rows.length && Nat.blt i n && Nat.beq y.size xs.length && Nat.ble (off + xs.length) sz && Nat.beq sz sz' && BC xs,H')
      | none => none
     | _ => none
    | none => none
   | none => none
  | _,_,_ => none
 | _ => none
theorem Qi {G : Gh} : ∀ {xs : List D} {vs : List Value},An G (xs.map .d) vs → ∀ (k : Nat) (x : D),xs[k]? = some x → ∃ v,vs[k]? = some v ∧ RD G.m x v
 | [],_,_,k,x,h => by simp at h
 | d :: r,vs,hv,k,x,h => by
  simp only [List.map_cons,An] at hv
  obtain ⟨v,r',rfl,h1,h2⟩:=hv
  cases k with
  | zero => simp at h;subst h;exact ⟨v,rfl,by simpa only [RV] using h1⟩
  | succ k => exact Qi h2 k x (by simpa using h)
theorem Gc : ∀ {xs : List D},BC xs = true → ∀ (k : Nat) (x : D),xs[k]? = some x → x.one = true
 | [],_,k,x,h => by simp at h
 | d :: r,ho,k,x,h => by
  simp only [BC,Bool.and_eq_true] at ho
  cases k with
  | zero => simp at h;subst h;exact ho.1
  | succ k => exact Gc ho.2 k x (by simpa using h)
theorem XI {P : Program} {E : Nat → Option Ax} (hE : Bf P E) {S : St} {o : Oper} {c : Bool} {H' : List AC} (h : Xe E S.env S.H o.op = some (c,H')) (hc : c = true) : Dg P o S .u H':=by
 subst hc
 unfold Xe at h
 split at h
 ·rename_i t a x ho
  split at h
  ·rename_i y id i off n sz xv hy' ha hx
   split at h
   ·rename_i vl hvl
    split at h
    ·rename_i xs hxs
     have:=Vt hxs
     subst this
     split at h
     ·rename_i sz' rows hl
      split at h
      ·rename_i q hq
       simp only [Option.some.injEq,Prod.mk.injEq,Bool.and_eq_true] at h
       obtain ⟨⟨⟨⟨⟨⟨hn,hi⟩,hsz⟩,hfit⟩,hsz'⟩,hone⟩,rfl⟩:=h
       have hn:=Nat.eq_of_beq_eq_true hn
       have hsz:=Nat.eq_of_beq_eq_true hsz
       have hsz':=Nat.eq_of_beq_eq_true hsz'
       have hfit:=Nat.le_of_ble_eq_true hfit
       rw [Nat.blt_eq] at hi
       subst hn;subst hsz'
       obtain ⟨hid,rfl⟩:=Gn hq
       have hy:=hE t y hy'
       intro ro N G act w r
       have hl' : G.H[id]? = some (.a (.sl sz rows)):=by rw [r.heap];exact hl
       have hva:=Aa r.rel.st r.env ha
       have hvx:=Aa r.rel.st r.env hx
       have hvs:=H5 hvl hvx
       have hvn : (act.eval x).cells.toList.length = xs.length:=by have:=An.Ha hvs;simpa using this
       simp only [RV] at hva
       obtain ⟨_,blk,hb,hp⟩:=hva
       rw [hl'] at hb;cases hb
       obtain ⟨_,_,hp⟩:=hp
       obtain ⟨b,M,hρ,hva⟩:=hp rfl
       obtain ⟨_,hrows,hB⟩:=r.rel.blk id _ hl'
       simp only [A4] at hrows
       rcases hB with ⟨h0,hno⟩ | ⟨b',M',vs,T,hρ',hw,hM,hcell⟩
       ·rw [hρ] at hno;cases hno
       rw [hρ] at hρ';cases hρ'
       have hfl:=PM hrows
       have hi2 : i * sz + sz ≤ rows.length * sz:=by rw [← Nat.succ_mul];exact Nat.mul_le_mul_right sz hi
       have hvl2 : rows.flatten.length ≤ vs.size:=by
        rcases Nat.eq_zero_or_pos rows.flatten.length with h0 | h0
        ·omega
        ·obtain ⟨v,hv,_⟩:=hcell (rows.flatten.length - 1) _ (List.getElem?_eq_getElem (by simp only [slc];omega))
         have:=(Array.getElem?_eq_some_iff.1 hv).1;omega
       have hst:=run_storeCells_at P b (i * sz + off) T (act.eval x).cells.toList 0 vs w hw (by rw [hvn];simp;omega) (fun v hv => by
        obtain ⟨k,hk⟩:=List.getElem?_of_mem hv
        have hkl:=(List.getElem?_eq_some_iff.1 hk).1
        obtain ⟨v',hv',hrd⟩:=Qi hvs k _ (List.getElem?_eq_getElem (by omega : k < xs.length))
        rw [hk] at hv';cases hv'
        exact Pj (Gc hone k _ (List.getElem?_eq_getElem (by omega))) hrd)
       simp only [Nat.add_zero] at hst
       obtain ⟨r1,r2⟩:=Np r.rel (cur:=(vs.toList.take (i * sz + off) ++ (act.eval x).cells.toList ++ vs.toList.drop (i * sz + off + (act.eval x).cells.toList.length)).toArray) hl' rfl (q:=.a (.sl sz (setRows off xs i rows))) rfl hρ (by simp [AI,Gh.put,A6,B7,JW]) (by
        refine ⟨rfl,LQ hfit hrows,.inr ⟨b,M,_,T,hρ,setRow_heap w b vs _ T _ hw,by rw [hvn];simp at hvn ⊢;omega,fun j z hz => ?_⟩⟩
        replace hz : (setRows off xs i rows).flatten[j]? = some z:=hz
        rw [IQ hfit hrows hi] at hz
        obtain ⟨v,hv,hrv⟩:=Fp (R:=fun d v => v.oneCell' = true ∧ RD G.m d v) (cs:=rows.flatten) (xs:=xs) (vs:=vs.toList) (us:=(act.eval x).cells.toList) (off:=i * sz + off) (by rw [hfl];omega) (by simpa using hvl2) hvn
         (fun k x hx => by obtain ⟨v,h1,h2⟩:=hcell k x hx;exact ⟨v,by simpa using h1,h2⟩)
         (fun k x hx => by
          obtain ⟨v,h1,h2⟩:=Qi hvs k x hx
          exact ⟨v,h1,Pj (Gc hone k x hx) h2,h2⟩) j z hz
        exact ⟨v,by simpa using hv,hrv⟩)
       have key : (Instr.storeAt t (act.eval a) (act.eval x)).run P w = .ok () (w.setRow b (vs.toList.take (i * sz + off) ++ (act.eval x).cells.toList ++ vs.toList.drop (i * sz + off + (act.eval x).cells.toList.length)).toArray):=by
        rw [hva]
        simp only [Instr.storeAt,Instr.sureAddr,Sem.run_bind,Sem.run_pure,Result.andThen_ok,storeVar,Av hy]
        rw [if_neg (by simp at hvn;omega)]
        exact hst
       refine ⟨.skip,_,_,?_,.inl ⟨rfl,rfl⟩,?_,r1,r2⟩
       ·unfold execOp
        simp only [ho,Sem.run_bind,key,Result.andThen_ok,Sem.run_pure]
       ·show G.H.set id _ = S.H.set id _
        rw [r.heap]
      ·cases h
     ·cases h
    ·cases h
   ·cases h
  ·cases h
 ·cases h
theorem NL {E : Nat → Option Ax} {env : List (Nat × AV)} {H : List AC} {op : Op} {r : Bool × List AC} (h : Xe E env H op = some r) : ∀ c,op ≠ .defer c:=fun c e => by subst e;cases h
section
variable {P : Program} {ro : Option Nat} {E : Nat → Option Ax} {ops : Array Oper} {i : Nat} {rest : List Oper} {Q : Exit → St → Prop} {o : Oper} {en : List (Nat × AV)} {hp : List AC} {nt : Nat} {S0 : St} {A : Prop} {acc : List Rc}
theorem Xsc (hE : Bf P E) {c : Bool} {H' H'' : List AC} {e : List (Nat × AV)} (hg : AH ops en o = some true) (h : Xe E en hp o.op = some (c,H')) (hd : Ac o.dst nt = true) (he : Ay o.dst .u en = some e)
  (k : Wl P ro ops (i + 1) rest ⟨e,H'',nt⟩ Q) (hc : c = true) (hH : H' = H'':=by first | (simp only [nS];rfl) | rfl) : Wl P ro ops i (o :: rest) ⟨en,hp,nt⟩ Q:=by
 subst hH
 rw [Ai he] at k
 exact JR hg (XI (S:=⟨en,hp,nt⟩) hE h hc) (NL h) hd k
end
end Go.Gar
namespace Go.Gar
open Go.ChangeShapes Go.WideShapes Go.ChangeAt Go.RowKit
end Go.Gar
