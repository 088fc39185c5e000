/- Written by a program (pre.py) from the source of the same name. -/
/- Payloads, as the document says: read. -/
import Derived.Test.YtbpemnmpcljbpaaGreatWire3A
import Derived.Test.YtbpemnmpcljbpaaGreatWire2B
import Derived.Test.YtbpemnmpcljbpaaGreatFwE
set_option linter.unusedSimpArgs false
set_option linter.unusedVariables false
set_option linter.unnecessarySimpa false
namespace Go.Proofs.YtbpemnmpcljbpaaGreat
namespace Wi
open Go.Gar
set_option maxRecDepth 4000

/-- So many numbers that stand at the beginning. -/
def numsP : Nat → List UInt8 → Option (List Int × List UInt8)
  | 0, b => some ([], b)
  | k + 1, b => match pNum b with
    | none => none
    | some (n, r) => match numsP k r with
      | none => none
      | some (l, r') => some ((n : Int) :: l, r')
def numsR : Option (List Int × List UInt8) → D
  | some (l, r) => .tup [.is l, .by r, .b true]
  | none => .tup [.is [], .by [], .b false]
def numsA (acc : List Int) (k : Nat) (b : List UInt8) : Option (List Int × List UInt8) := match numsP k b with
  | none => none
  | some (l, r) => some (acc ++ l, r)
theorem numsA_step {acc : List Int} {k : Nat} {b r : List UInt8} {n : Nat} (h : pNum b = some (n, r)) : numsA acc (k + 1) b = numsA (acc ++ [(n : Int)]) k r := by
  unfold numsA
  rw [numsP, h]
  simp only
  cases numsP k r with
  | none => rfl
  | some p => obtain ⟨l, q⟩ := p; simp
theorem numsA_none {acc : List Int} {k : Nat} {b : List UInt8} (h : pNum b = none) : numsA acc (k + 1) b = none := by
  unfold numsA
  rw [numsP, h]
theorem numsA_nil {k : Nat} {b : List UInt8} : numsA [] k b = numsP k b := by
  unfold numsA
  cases numsP k b with
  | none => rfl
  | some p => rfl
set_option maxHeartbeats 4000000 in
theorem numbers7_fn (b : List UInt8) (many : Nat) (hb : b.length < 70368744177664) (hm : many ≤ 100) : Go.Gar.Fn Tryz.prog 32 [.by b, .i .i64 many] (numsR (numsP many b)) := by
  refine Fn_of_W eok Tryz.func32 rfl rfl (Nat.le_of_ble_eq_true rfl) ?_
  have nS := True.intro
  repeat' (first|((with_reducible refine sg ?_);first|with_reducible rfl|((with_reducible refine fitG ?_);first|kernel_rfl|rfl|(simp [fitT,fitF,nS];done))|with_reducible refine andT ?_ ?_|with_reducible exact Nat.beq_refl _|with_reducible exact fitsI_u8 _|((with_reducible refine decide_eq_true ?_);first|omega|(simp only [SZl,nS];omega))|decide|(simp [SZl,slc,allOneD,D.one,allOne,AV.one,nS];done)|(simp [SZl,nS];omega))|((with_reducible refine gWl ?_);first|(refine Wl_isMv rfl ?_;refine Xmv eok rfl rfl rfl rfl ?_)|refine Xq eok rfl rfl rfl rfl ?_ ?_|refine Xn [0,1,4,5,6,7,8,9,10,11,14,24] rfl ?_|refine Xw eok rfl rfl rfl rfl ?_ ?_)|refine W_seq ?_|refine W_region ?_|refine W_skip ?_|refine W_ret ?_|refine W_block ?_|refine W_exit ?_|refine W_cond_t rfl ?_|refine W_cond_f rfl ?_|(refine W_cond rfl (fun hc => ?_) (fun hc => ?_) <;> (try simp only [HCl] at hc) <;> (try (exfalso;omega))))
  refine W_ghost (TSub.e0own 7 (.is []) rfl rfl rfl trivial) (by simp) ?_
  refine W_loopI (α := Nat × List UInt8 × List Int) (fun x => x.1 ≤ many ∧ x.2.1.length ≤ b.length ∧ x.2.2.length = x.1 ∧ numsA x.2.2 (many - x.1) x.2.1 = numsP many b)
    (fun x => ⟨[(0, .d (.by x.2.1)), (1, .d (.i .i64 many)), (4, .e0), (5, .e0), (6, .d (.b false)), (7, .sl 0 x.2.2.length 1), (8, .d (.i .i64 x.1))], [.a (.is x.2.2)], 32⟩) (fun x => many - x.1) (0, b, []) ⟨Nat.zero_le _, Nat.le_refl _, rfl, numsA_nil⟩ ?_ (Nat.le_refl _) ?_
  · exact TSub.cut rfl (by repeat' (first | exact True.intro | refine And.intro (by (first | rfl | ((with_reducible_and_instances refine congrArg (fun z => some (AV.d (D.i _ z))) ?_); omega) | (refine congrArg (fun z => some (AV.d (D.i _ z))) (?_ : (_ : Int) = _); omega) | (refine congrArg some ?_; simp; done))) ?_)) (by repeat' (first | exact True.intro | refine And.intro (Or.inr rfl) ?_ | refine And.intro (Or.inl ⟨rfl, rfl⟩) ?_ | refine And.intro (Or.inr (by simp)) ?_)) (by first | rfl | (simp (decide := true) [heapOk, Blk.ok, AV.oks, AV.ok, hk]; done)) rfl
  rintro ⟨k, r, acc⟩ ⟨h1, h2, h3, h4⟩
  simp only at h1 h2 h3 h4 ⊢
  by_cases hk : k < many
  · have ht := rtake_fn r (by omega)
    obtain ⟨j, hj⟩ : ∃ j, many - k = j + 1 := ⟨many - k - 1, by omega⟩
    rw [hj] at h4
    cases hp : pNum r with
    | none =>
      have hne := pNum_none hp
      rw [numsA_none hp] at h4
      rw [← h4]
      have f := ne_true hne
      unfold takeD3 at ht
      have nS := f
      repeat' (first|((with_reducible refine sg ?_);first|with_reducible rfl|((with_reducible refine fitG ?_);first|kernel_rfl|rfl|(simp [fitT,fitF,nS];done))|with_reducible refine andT ?_ ?_|with_reducible exact Nat.beq_refl _|with_reducible exact fitsI_u8 _|((with_reducible refine decide_eq_true ?_);first|omega|(simp only [SZl,nS];omega))|decide|(simp [SZl,slc,allOneD,D.one,allOne,AV.one,nS];done)|(simp [SZl,nS];omega))|((with_reducible refine gWl ?_);first|(refine Wl_isMv rfl ?_;refine Xmv eok rfl rfl rfl rfl ?_)|refine Xq eok rfl rfl rfl rfl ?_ ?_|refine Xn [0,1,4,5,6,7,8,9,10,11,14,24] rfl ?_|refine XF (ht) rfl rfl rfl rfl ?_|refine Xw eok rfl rfl rfl rfl ?_ ?_)|refine W_seq ?_|refine W_region ?_|refine W_skip ?_|refine W_ret ?_|refine W_block ?_|refine W_exit ?_|refine W_cond_t rfl ?_|refine W_cond_f rfl ?_|(refine W_cond rfl (fun hc => ?_) (fun hc => ?_) <;> (try simp only [HCl] at hc) <;> (try (exfalso;omega))))
      refine ⟨_, _, rfl, rfl, ?_⟩; simp [Frz_tup, Frz_ag, Frzs_cons, Frzs_nil, Frz_d, Frz_e0, Frz_sl, sln, isSl, slOk, numsR]
    | some p =>
      obtain ⟨n, r'⟩ := p
      have hle := pNum_len hp
      rw [pNum_some hp] at ht
      rw [numsA_step hp] at h4
      unfold takeD3 at ht
      have nS := True.intro
      repeat' (first|((with_reducible refine sg ?_);first|with_reducible rfl|((with_reducible refine fitG ?_);first|kernel_rfl|rfl|(simp [fitT,fitF,nS];done))|with_reducible refine andT ?_ ?_|with_reducible exact Nat.beq_refl _|with_reducible exact fitsI_u8 _|((with_reducible refine decide_eq_true ?_);first|omega|(simp only [SZl,nS];omega))|decide|(simp [SZl,slc,allOneD,D.one,allOne,AV.one,nS];done)|(simp [SZl,nS];omega))|((with_reducible refine gWl ?_);first|(refine Wl_isMv rfl ?_;refine Xmv eok rfl rfl rfl rfl ?_)|refine Xq eok rfl rfl rfl rfl ?_ ?_|refine Xn [0,1,4,5,6,7,8,9,10,11,14,24] rfl ?_|refine XF (ht) rfl rfl rfl rfl ?_|refine Xw eok rfl rfl rfl rfl ?_ ?_)|refine W_seq ?_|refine W_region ?_|refine W_skip ?_|refine W_ret ?_|refine W_block ?_|refine W_exit ?_|refine W_cond_t rfl ?_|refine W_cond_f rfl ?_|(refine W_cond rfl (fun hc => ?_) (fun hc => ?_) <;> (try simp only [HCl] at hc) <;> (try (exfalso;omega))))
      refine ⟨(k + 1, r', acc ++ [(n : Int)]), ⟨hk, by simp only; omega, by simp only [List.length_append, List.length_cons, List.length_nil]; omega, by rw [show many - (k + 1) = j by omega]; exact h4⟩, (show many - (k + 1) < many - k by omega), Nat.le_refl _, ?_⟩
      exact TSub.cut rfl (by repeat' (first | exact True.intro | refine And.intro (by (first | rfl | ((with_reducible_and_instances refine congrArg (fun z => some (AV.d (D.i _ z))) ?_); omega) | (refine congrArg (fun z => some (AV.d (D.i _ z))) (?_ : (_ : Int) = _); omega) | (refine congrArg some ?_; simp; done))) ?_)) (by repeat' (first | exact True.intro | refine And.intro (Or.inr rfl) ?_ | refine And.intro (Or.inl ⟨rfl, rfl⟩) ?_ | refine And.intro (Or.inr (by simp)) ?_)) (by first | rfl | (simp (decide := true) [heapOk, Blk.ok, AV.oks, AV.ok, hk]; done)) rfl
  · have e : k = many := by omega
    rw [e, Nat.sub_self] at h4
    have e2 : numsP many b = some (acc, r) := by rw [← h4]; simp [numsA, numsP]
    rw [e2]
    have nS := True.intro
    repeat' (first|((with_reducible refine sg ?_);first|with_reducible rfl|((with_reducible refine fitG ?_);first|kernel_rfl|rfl|(simp [fitT,fitF,nS];done))|with_reducible refine andT ?_ ?_|with_reducible exact Nat.beq_refl _|with_reducible exact fitsI_u8 _|((with_reducible refine decide_eq_true ?_);first|omega|(simp only [SZl,nS];omega))|decide|(simp [SZl,slc,allOneD,D.one,allOne,AV.one,nS];done)|(simp [SZl,nS];omega))|((with_reducible refine gWl ?_);first|(refine Wl_isMv rfl ?_;refine Xmv eok rfl rfl rfl rfl ?_)|refine Xq eok rfl rfl rfl rfl ?_ ?_|refine Xn [0,1,4,5,6,7,8,9,10,11,14,24] rfl ?_|refine Xw eok rfl rfl rfl rfl ?_ ?_)|refine W_seq ?_|refine W_region ?_|refine W_skip ?_|refine W_ret ?_|refine W_block ?_|refine W_exit ?_|refine W_cond_t rfl ?_|refine W_cond_f rfl ?_|(refine W_cond rfl (fun hc => ?_) (fun hc => ?_) <;> (try simp only [HCl] at hc) <;> (try (exfalso;omega))))
    refine ⟨_, _, rfl, rfl, ?_⟩; simp [Frz_tup, Frz_ag, Frzs_cons, Frzs_nil, Frz_d, Frz_e0, Frz_sl, sln, isSl, slOk, numsR]
theorem numsP_len : ∀ {k : Nat} {b r : List UInt8} {l : List Int}, numsP k b = some (l, r) → l.length = k ∧ r.length ≤ b.length
  | 0, b, r, l, h => by simp only [numsP, Option.some.injEq, Prod.mk.injEq] at h; obtain ⟨rfl, rfl⟩ := h; exact ⟨rfl, Nat.le_refl _⟩
  | k + 1, b, r, l, h => by
    rw [numsP] at h
    split at h
    · cases h
    · rename_i n r1 h1
      split at h
      · cases h
      · rename_i l1 r2 h2
        simp only [Option.some.injEq, Prod.mk.injEq] at h
        obtain ⟨rfl, rfl⟩ := h
        have := numsP_len h2
        have := pNum_len h1
        simp; omega

/-! ### The pair, what each kind has more -/
def pairedS (b : List UInt8) : Item × Bool := match numsP 3 (takeTextS b).2.1 with
  | some ([v, n, g], _) => if (takeTextS b).2.2 = 0 then (⟨(takeTextS b).1, v, n, g == 1⟩, true) else (zeroI, false)
  | _ => (zeroI, false)
theorem text_len (b : List UInt8) : (takeTextS b).2.1.length ≤ b.length := by
  rcases takeTextS_cases b with ⟨s, r, h1, h2, h3⟩ | h1
  · rw [h1, h2]; simp; omega
  · rw [h1]; simp
theorem paired_fn (b : List UInt8) (hb : b.length < 70368744177664) : Go.Gar.Fn Tryz.prog 76 [.by b] (.tup [(pairedS b).1.d, .b (pairedS b).2]) := by
  have ht := rTakeText_fn b hb
  have hn := numbers7_fn (takeTextS b).2.1 3 (by have := text_len b; omega) (by decide)
  have hlen := @numsP_len 3 (takeTextS b).2.1
  unfold takeT3 at ht
  unfold pairedS
  generalize (takeTextS b).1 = s at *
  generalize (takeTextS b).2.1 = r at *
  generalize (takeTextS b).2.2 = e at *
  refine Fn_of_W eok Tryz.func76 rfl rfl (Nat.le_of_ble_eq_true rfl) ?_
  by_cases he : e = 0
  · subst he
    cases hp : numsP 3 r with
    | none =>
      rw [hp] at hn
      unfold numsR at hn
      have nS := True.intro
      repeat' (first|((with_reducible refine sg ?_);first|with_reducible rfl|((with_reducible refine fitG ?_);first|kernel_rfl|rfl|(simp [fitT,fitF,nS];done))|with_reducible refine andT ?_ ?_|with_reducible exact Nat.beq_refl _|with_reducible exact fitsI_u8 _|((with_reducible refine decide_eq_true ?_);first|omega|(simp only [SZl,nS];omega))|decide|(simp [SZl,slc,allOneD,D.one,allOne,AV.one,nS];done)|(simp [SZl,nS];omega))|((with_reducible refine gWl ?_);first|(refine Wl_isMv rfl ?_;refine Xmv eok rfl rfl rfl rfl ?_)|refine Xq eok rfl rfl rfl rfl ?_ ?_|refine Xn [0,2,3,4,5,6,7,9,27] rfl ?_|refine XF (ht) rfl rfl rfl rfl ?_|refine XF (hn) rfl rfl rfl rfl ?_|refine Xa eok rfl rfl rfl rfl rfl ?_ ?_|refine Xw eok rfl rfl rfl rfl ?_ ?_|refine Xs rfl rfl rfl ?_|(refine Xsplit rfl rfl (fun hc => ?_) (fun hc => ?_) <;> (fail_if_success (with_reducible first|exact tF hc|exact fT hc)) <;> (try simp only [HCl] at hc) <;> (try (exfalso;omega))))|((with_reducible refine gWd ?_);first|(refine Wd_isMv rfl ?_;refine Ymv eok rfl rfl (fun _ => rfl) rfl rfl ?_)|refine Yp eok rfl rfl (fun _ => rfl) rfl rfl ?_ ?_|refine Yq rfl rfl rfl rfl rfl ?_ ?_|refine Ys rfl rfl rfl rfl ?_|refine YF (ht) rfl rfl rfl rfl rfl ?_|refine YF (hn) rfl rfl rfl rfl rfl ?_|refine Ya eok rfl rfl rfl rfl rfl rfl ?_ ?_|refine Yw eok rfl rfl rfl rfl rfl ?_ ?_|refine Yn [0,2,3,4,5,6,7,9,27] [] mixed eok (by kernel_rfl) True.intro rfl ?_|(refine Ysplit rfl rfl (fun hc => ?_) (fun hc => ?_) <;> (fail_if_success (with_reducible first|exact tF hc|exact fT hc)) <;> (try simp only [HCl] at hc) <;> (try (exfalso;omega))))|refine W_seq ?_|refine W_region ?_|refine W_any T.get ?_|refine W_skip ?_|refine W_ret ?_|refine W_block ?_|refine W_exit ?_|refine W_cond_t rfl ?_|refine W_cond_f rfl ?_|(refine W_cond rfl (fun hc => ?_) (fun hc => ?_) <;> (try simp only [HCl] at hc) <;> (try (exfalso;omega))))
      refine ⟨_, _, rfl, rfl, ?_⟩; simp [Frz_tup, Frz_ag, Frzs_cons, Frzs_nil, Frz_d, Frz_e0, Frz_sl, sln, isSl, slOk, zeroI, Item.d, Item.cells]
    | some p =>
      obtain ⟨l, r2⟩ := p
      obtain ⟨hl, _⟩ := hlen hp
      obtain ⟨v, n, g, rfl⟩ : ∃ v n g, l = [v, n, g] := by
        rcases l with _ | ⟨v, _ | ⟨n, _ | ⟨g, _ | ⟨x, t⟩⟩⟩⟩ <;> first | exact ⟨_, _, _, rfl⟩ | (simp at hl)
      rw [hp] at hn
      unfold numsR at hn
      have nS := True.intro
      repeat' (first|((with_reducible refine sg ?_);first|with_reducible rfl|((with_reducible refine fitG ?_);first|kernel_rfl|rfl|(simp [fitT,fitF,nS];done))|with_reducible refine andT ?_ ?_|with_reducible exact Nat.beq_refl _|with_reducible exact fitsI_u8 _|((with_reducible refine decide_eq_true ?_);first|omega|(simp only [SZl,nS];omega))|decide|(simp [SZl,slc,allOneD,D.one,allOne,AV.one,nS];done)|(simp [SZl,nS];omega))|((with_reducible refine gWl ?_);first|(refine Wl_isMv rfl ?_;refine Xmv eok rfl rfl rfl rfl ?_)|refine Xq eok rfl rfl rfl rfl ?_ ?_|refine Xn [0,2,3,4,5,6,7,9,27] rfl ?_|refine XF (ht) rfl rfl rfl rfl ?_|refine XF (hn) rfl rfl rfl rfl ?_|refine Xa eok rfl rfl rfl rfl rfl ?_ ?_|refine Xw eok rfl rfl rfl rfl ?_ ?_|refine Xs rfl rfl rfl ?_|(refine Xsplit rfl rfl (fun hc => ?_) (fun hc => ?_) <;> (fail_if_success (with_reducible first|exact tF hc|exact fT hc)) <;> (try simp only [HCl] at hc) <;> (try (exfalso;omega))))|((with_reducible refine gWd ?_);first|(refine Wd_isMv rfl ?_;refine Ymv eok rfl rfl (fun _ => rfl) rfl rfl ?_)|refine Yp eok rfl rfl (fun _ => rfl) rfl rfl ?_ ?_|refine Yq rfl rfl rfl rfl rfl ?_ ?_|refine Ys rfl rfl rfl rfl ?_|refine YF (ht) rfl rfl rfl rfl rfl ?_|refine YF (hn) rfl rfl rfl rfl rfl ?_|refine Ya eok rfl rfl rfl rfl rfl rfl ?_ ?_|refine Yw eok rfl rfl rfl rfl rfl ?_ ?_|refine Yn [0,2,3,4,5,6,7,9,27] [] mixed eok (by kernel_rfl) True.intro rfl ?_|(refine Ysplit rfl rfl (fun hc => ?_) (fun hc => ?_) <;> (fail_if_success (with_reducible first|exact tF hc|exact fT hc)) <;> (try simp only [HCl] at hc) <;> (try (exfalso;omega))))|refine W_seq ?_|refine W_region ?_|refine W_any T.get ?_|refine W_skip ?_|refine W_ret ?_|refine W_block ?_|refine W_exit ?_|refine W_cond_t rfl ?_|refine W_cond_f rfl ?_|(refine W_cond rfl (fun hc => ?_) (fun hc => ?_) <;> (try simp only [HCl] at hc) <;> (try (exfalso;omega))))
      refine ⟨_, _, rfl, rfl, ?_⟩; simp [Frz_tup, Frz_ag, Frzs_cons, Frzs_nil, Frz_d, Frz_e0, Frz_sl, sln, isSl, slOk, Item.d, Item.cells]
  · have f := ne_true he
    have e2 : (match numsP 3 r with | some ([v, n, g], _) => if e = 0 then ((⟨s, v, n, g == 1⟩, true) : Item × Bool) else (zeroI, false) | _ => (zeroI, false)) = (zeroI, false) := by
      split
      · rw [if_neg he]
      · rfl
    rw [e2]
    cases hp : numsP 3 r with
    | none =>
      rw [hp] at hn
      unfold numsR at hn
      have nS := f
      repeat' (first|((with_reducible refine sg ?_);first|with_reducible rfl|((with_reducible refine fitG ?_);first|kernel_rfl|rfl|(simp [fitT,fitF,nS];done))|with_reducible refine andT ?_ ?_|with_reducible exact Nat.beq_refl _|with_reducible exact fitsI_u8 _|((with_reducible refine decide_eq_true ?_);first|omega|(simp only [SZl,nS];omega))|decide|(simp [SZl,slc,allOneD,D.one,allOne,AV.one,nS];done)|(simp [SZl,nS];omega))|((with_reducible refine gWl ?_);first|(refine Wl_isMv rfl ?_;refine Xmv eok rfl rfl rfl rfl ?_)|refine Xq eok rfl rfl rfl rfl ?_ ?_|refine Xn [0,2,3,4,5,6,7,9,27] rfl ?_|refine XF (ht) rfl rfl rfl rfl ?_|refine XF (hn) rfl rfl rfl rfl ?_|refine Xa eok rfl rfl rfl rfl rfl ?_ ?_|refine Xw eok rfl rfl rfl rfl ?_ ?_|refine Xs rfl rfl rfl ?_|(refine Xsplit rfl rfl (fun hc => ?_) (fun hc => ?_) <;> (fail_if_success (with_reducible first|exact tF hc|exact fT hc)) <;> (try simp only [HCl] at hc) <;> (try (exfalso;omega))))|((with_reducible refine gWd ?_);first|(refine Wd_isMv rfl ?_;refine Ymv eok rfl rfl (fun _ => rfl) rfl rfl ?_)|refine Yp eok rfl rfl (fun _ => rfl) rfl rfl ?_ ?_|refine Yq rfl rfl rfl rfl rfl ?_ ?_|refine Ys rfl rfl rfl rfl ?_|refine YF (ht) rfl rfl rfl rfl rfl ?_|refine YF (hn) rfl rfl rfl rfl rfl ?_|refine Ya eok rfl rfl rfl rfl rfl rfl ?_ ?_|refine Yw eok rfl rfl rfl rfl rfl ?_ ?_|refine Yn [0,2,3,4,5,6,7,9,27] [] mixed eok (by kernel_rfl) True.intro rfl ?_|(refine Ysplit rfl rfl (fun hc => ?_) (fun hc => ?_) <;> (fail_if_success (with_reducible first|exact tF hc|exact fT hc)) <;> (try simp only [HCl] at hc) <;> (try (exfalso;omega))))|refine W_seq ?_|refine W_region ?_|refine W_any T.get ?_|refine W_skip ?_|refine W_ret ?_|refine W_block ?_|refine W_exit ?_|refine W_cond_t rfl ?_|refine W_cond_f rfl ?_|(refine W_cond rfl (fun hc => ?_) (fun hc => ?_) <;> (try simp only [HCl] at hc) <;> (try (exfalso;omega))))
      refine ⟨_, _, rfl, rfl, ?_⟩; simp [Frz_tup, Frz_ag, Frzs_cons, Frzs_nil, Frz_d, Frz_e0, Frz_sl, sln, isSl, slOk, zeroI, Item.d, Item.cells]
    | some p =>
      obtain ⟨l, r2⟩ := p
      rw [hp] at hn
      unfold numsR at hn
      have nS := f
      repeat' (first|((with_reducible refine sg ?_);first|with_reducible rfl|((with_reducible refine fitG ?_);first|kernel_rfl|rfl|(simp [fitT,fitF,nS];done))|with_reducible refine andT ?_ ?_|with_reducible exact Nat.beq_refl _|with_reducible exact fitsI_u8 _|((with_reducible refine decide_eq_true ?_);first|omega|(simp only [SZl,nS];omega))|decide|(simp [SZl,slc,allOneD,D.one,allOne,AV.one,nS];done)|(simp [SZl,nS];omega))|((with_reducible refine gWl ?_);first|(refine Wl_isMv rfl ?_;refine Xmv eok rfl rfl rfl rfl ?_)|refine Xq eok rfl rfl rfl rfl ?_ ?_|refine Xn [0,2,3,4,5,6,7,9,27] rfl ?_|refine XF (ht) rfl rfl rfl rfl ?_|refine XF (hn) rfl rfl rfl rfl ?_|refine Xa eok rfl rfl rfl rfl rfl ?_ ?_|refine Xw eok rfl rfl rfl rfl ?_ ?_|refine Xs rfl rfl rfl ?_|(refine Xsplit rfl rfl (fun hc => ?_) (fun hc => ?_) <;> (fail_if_success (with_reducible first|exact tF hc|exact fT hc)) <;> (try simp only [HCl] at hc) <;> (try (exfalso;omega))))|((with_reducible refine gWd ?_);first|(refine Wd_isMv rfl ?_;refine Ymv eok rfl rfl (fun _ => rfl) rfl rfl ?_)|refine Yp eok rfl rfl (fun _ => rfl) rfl rfl ?_ ?_|refine Yq rfl rfl rfl rfl rfl ?_ ?_|refine Ys rfl rfl rfl rfl ?_|refine YF (ht) rfl rfl rfl rfl rfl ?_|refine YF (hn) rfl rfl rfl rfl rfl ?_|refine Ya eok rfl rfl rfl rfl rfl rfl ?_ ?_|refine Yw eok rfl rfl rfl rfl rfl ?_ ?_|refine Yn [0,2,3,4,5,6,7,9,27] [] mixed eok (by kernel_rfl) True.intro rfl ?_|(refine Ysplit rfl rfl (fun hc => ?_) (fun hc => ?_) <;> (fail_if_success (with_reducible first|exact tF hc|exact fT hc)) <;> (try simp only [HCl] at hc) <;> (try (exfalso;omega))))|refine W_seq ?_|refine W_region ?_|refine W_any T.get ?_|refine W_skip ?_|refine W_ret ?_|refine W_block ?_|refine W_exit ?_|refine W_cond_t rfl ?_|refine W_cond_f rfl ?_|(refine W_cond rfl (fun hc => ?_) (fun hc => ?_) <;> (try simp only [HCl] at hc) <;> (try (exfalso;omega))))
      refine ⟨_, _, rfl, rfl, ?_⟩; simp [Frz_tup, Frz_ag, Frzs_cons, Frzs_nil, Frz_d, Frz_e0, Frz_sl, sln, isSl, slOk, zeroI, Item.d, Item.cells]
end Wi
end Go.Proofs.YtbpemnmpcljbpaaGreat
