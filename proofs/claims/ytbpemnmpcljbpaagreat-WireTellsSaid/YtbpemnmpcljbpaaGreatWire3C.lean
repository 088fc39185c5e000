/- Written by a program (pre.py) from the source of the same name. -/
/- Payloads, as the document says: what each kind has more. -/
import Derived.Test.YtbpemnmpcljbpaaGreatWire3B
import Derived.Test.YtbpemnmpcljbpaaGreatFwE
set_option linter.unusedSimpArgs false
set_option linter.unusedVariables false
set_option linter.unnecessarySimpa false
namespace Go.Proofs.YtbpemnmpcljbpaaGreat
namespace Wi
open Go.Gar
set_option maxRecDepth 4000

def manyS (k : Int) : Nat := if k = 4 then 2 else if k = 10 then 2 else if k = 7 then 1 else if k = 11 then 1 else if k = 12 then 1 else 0
def moreS (m : Msg) (b : List UInt8) : Msg × Bool := match numsP (manyS m.kind) b with
  | none => (m, false)
  | some (l, r) =>
    if m.kind = 4 then ({ m with key := l.getD 0 0, slow := l.getD 1 0 == 1 }, true) else
    if m.kind = 10 then ({ m with place := l.getD 0 0, done := l.getD 1 0 == 1 }, true) else
    if m.kind = 11 then ({ m with code := l.getD 0 0 }, true) else
    if m.kind = 7 then ({ m with pred := l.getD 0 0 - 1, list := (takeListS r).1 }, (takeListS r).2.2 == 0) else
    if m.kind = 5 then ({ m with item := (pairedS r).1 }, (pairedS r).2) else
    if m.kind = 6 then ({ m with item := ⟨(takeTextS r).1, m.item.value, m.item.version, m.item.gone⟩ }, (takeTextS r).2.2 == 0) else
    if m.kind = 12 then (if l.getD 0 0 = 0 then ({ m with code := 0, item := (pairedS r).1 }, (pairedS r).2) else ({ m with code := l.getD 0 0 }, true)) else (m, true)
theorem nums_get {k : Nat} {b r : List UInt8} {l : List Int} (h : numsP k b = some (l, r)) : ∀ x ∈ l, 0 ≤ x ∧ x ≤ 1099511627776 := by
  induction k generalizing b r l with
  | zero => simp only [numsP, Option.some.injEq, Prod.mk.injEq] at h; obtain ⟨rfl, rfl⟩ := h; intro x hx; cases hx
  | succ k ih =>
    rw [numsP] at h
    split at h
    · cases h
    · rename_i n r1 h1
      split at h
      · cases h
      · rename_i l1 r2 h2
        simp only [Option.some.injEq, Prod.mk.injEq] at h
        obtain ⟨rfl, rfl⟩ := h
        intro x hx
        rcases List.mem_cons.1 hx with rfl | hx
        · have := pNum_le h1; omega
        · exact ih h2 x hx
set_option maxHeartbeats 16000000 in
theorem more7_fn (m : Msg) (b : List UInt8) (hb : b.length < 70368744177664) : Go.Gar.Fn Tryz.prog 33 [m.d, .by b] (.tup [(moreS m b).1.d, .b (moreS m b).2]) := by
  obtain ⟨k, c, s, d, ky, sl, dn, pl, pr, l, ⟨ik, iv, ir, ig⟩, co⟩ := m
  refine Fn_of_W eok Tryz.func33 rfl rfl (Nat.le_of_ble_eq_true rfl) ?_
  unfold Msg.d Msg.cells
  by_cases h4 : k = 4
  · subst h4
    have hn := numbers7_fn b 2 hb (by decide)
    have hgt := @nums_get 2 b
    have hln := @numsP_len 2 b
    cases hp : numsP 2 b with
    | none =>
      have e : moreS ⟨4, c, s, d, ky, sl, dn, pl, pr, l, ⟨ik, iv, ir, ig⟩, co⟩ b = (⟨4, c, s, d, ky, sl, dn, pl, pr, l, ⟨ik, iv, ir, ig⟩, co⟩, false) := by unfold moreS; simp only [manyS, Int.reduceEq, if_true, if_false, hp]
      rw [e]
      rw [hp] at hn
      unfold numsR at hn
      have nS := True.intro
      repeat' (first|((with_reducible refine sg ?_);first|with_reducible rfl|((with_reducible refine fitG ?_);first|kernel_rfl|rfl|(simp [fitT,fitF,nS];done))|with_reducible refine andT ?_ ?_|with_reducible exact Nat.beq_refl _|with_reducible exact fitsI_u8 _|((with_reducible refine decide_eq_true ?_);first|omega|(simp only [SZl,nS];omega))|decide|(simp [SZl,slc,allOneD,D.one,allOne,AV.one,nS];done)|(simp [SZl,nS];omega))|((with_reducible refine gWl ?_);first|(refine Wl_isMv rfl ?_;refine Xmv eok rfl rfl rfl rfl ?_)|refine Xq eok rfl rfl rfl rfl ?_ ?_|refine Xn [0,1,2,4,5,6,7,8,9,10,12,13,14,15,17,18,19,21,22,25,37,40,41,52,63,69,87,98,112,120] rfl ?_|refine XF (hn) rfl rfl rfl rfl ?_|refine Xa eok rfl rfl rfl rfl rfl ?_ ?_|refine Xw eok rfl rfl rfl rfl ?_ ?_)|((with_reducible refine gWd ?_);first|(refine Wd_isMv rfl ?_;refine Ymv eok rfl rfl (fun _ => rfl) rfl rfl ?_)|refine Yp eok rfl rfl (fun _ => rfl) rfl rfl ?_ ?_|refine Yq rfl rfl rfl rfl rfl ?_ ?_|refine Ys rfl rfl rfl rfl ?_|refine YF (hn) rfl rfl rfl rfl rfl ?_|refine Ya eok rfl rfl rfl rfl rfl rfl ?_ ?_|refine Yw eok rfl rfl rfl rfl rfl ?_ ?_|refine Yn [0,1,2,4,5,6,7,8,9,10,12,13,14,15,17,18,19,21,22,25,37,40,41,52,63,69,87,98,112,120] [] mixed eok (by kernel_rfl) True.intro rfl ?_)|refine W_seq ?_|refine W_region ?_|refine W_any T.get ?_|refine W_skip ?_|refine W_ret ?_|refine W_block ?_|refine W_exit ?_|refine W_cond_t rfl ?_|refine W_cond_f rfl ?_|(refine W_cond rfl (fun hc => ?_) (fun hc => ?_) <;> (try simp only [HCl] at hc) <;> (try (exfalso;omega))))
      refine ⟨_, _, rfl, rfl, ?_⟩; simp [Frz_tup, Frz_ag, Frzs_cons, Frzs_nil, Frz_d, Frz_e0, Frz_sl, sln, isSl, slOk]
    | some p =>
      obtain ⟨q, r⟩ := p
      have hg := hgt hp
      obtain ⟨hl1, hl2⟩ := hln hp
      obtain ⟨x, y, rfl⟩ : ∃ x y, q = [x, y] := by
        rcases q with _ | ⟨x, _ | ⟨y, _ | ⟨z, t⟩⟩⟩ <;> first | exact ⟨_, _, rfl⟩ | (simp at hl1)
      have hx := hg x (by simp)
      have hy := hg y (by simp)
      rw [hp] at hn
      unfold numsR at hn
      have e : moreS ⟨4, c, s, d, ky, sl, dn, pl, pr, l, ⟨ik, iv, ir, ig⟩, co⟩ b = (⟨4, c, s, d, x, y == 1, dn, pl, pr, l, ⟨ik, iv, ir, ig⟩, co⟩, true) := by unfold moreS; simp only [manyS, Int.reduceEq, if_true, if_false, hp] <;> rfl
      rw [e]
      have nS := True.intro
      repeat' (first|((with_reducible refine sg ?_);first|with_reducible rfl|((with_reducible refine fitG ?_);first|kernel_rfl|rfl|(simp [fitT,fitF,nS];done))|with_reducible refine andT ?_ ?_|with_reducible exact Nat.beq_refl _|with_reducible exact fitsI_u8 _|((with_reducible refine decide_eq_true ?_);first|omega|(simp only [SZl,nS];omega))|decide|(simp [SZl,slc,allOneD,D.one,allOne,AV.one,nS];done)|(simp [SZl,nS];omega))|((with_reducible refine gWl ?_);first|(refine Wl_isMv rfl ?_;refine Xmv eok rfl rfl rfl rfl ?_)|refine Xq eok rfl rfl rfl rfl ?_ ?_|refine Xn [0,1,2,4,5,6,7,8,9,10,12,13,14,15,17,18,19,21,22,25,37,40,41,52,63,69,87,98,112,120] rfl ?_|refine XF (hn) rfl rfl rfl rfl ?_|refine Xa eok rfl rfl rfl rfl rfl ?_ ?_|refine Xw eok rfl rfl rfl rfl ?_ ?_)|((with_reducible refine gWd ?_);first|(refine Wd_isMv rfl ?_;refine Ymv eok rfl rfl (fun _ => rfl) rfl rfl ?_)|refine Yp eok rfl rfl (fun _ => rfl) rfl rfl ?_ ?_|refine Yq rfl rfl rfl rfl rfl ?_ ?_|refine Ys rfl rfl rfl rfl ?_|refine YF (hn) rfl rfl rfl rfl rfl ?_|refine Ya eok rfl rfl rfl rfl rfl rfl ?_ ?_|refine Yw eok rfl rfl rfl rfl rfl ?_ ?_|refine Yn [0,1,2,4,5,6,7,8,9,10,12,13,14,15,17,18,19,21,22,25,37,40,41,52,63,69,87,98,112,120] [] mixed eok (by kernel_rfl) True.intro rfl ?_)|refine W_seq ?_|refine W_region ?_|refine W_any T.get ?_|refine W_skip ?_|refine W_ret ?_|refine W_block ?_|refine W_exit ?_|refine W_cond_t rfl ?_|refine W_cond_f rfl ?_|(refine W_cond rfl (fun hc => ?_) (fun hc => ?_) <;> (try simp only [HCl] at hc) <;> (try (exfalso;omega))))
      refine ⟨_, _, rfl, rfl, ?_⟩; simp [Frz_tup, Frz_ag, Frzs_cons, Frzs_nil, Frz_d, Frz_e0, Frz_sl, sln, isSl, slOk]
  by_cases h10 : k = 10
  · subst h10
    have hn := numbers7_fn b 2 hb (by decide)
    have hgt := @nums_get 2 b
    have hln := @numsP_len 2 b
    cases hp : numsP 2 b with
    | none =>
      have e : moreS ⟨10, c, s, d, ky, sl, dn, pl, pr, l, ⟨ik, iv, ir, ig⟩, co⟩ b = (⟨10, c, s, d, ky, sl, dn, pl, pr, l, ⟨ik, iv, ir, ig⟩, co⟩, false) := by unfold moreS; simp only [manyS, Int.reduceEq, if_true, if_false, hp]
      rw [e]
      rw [hp] at hn
      unfold numsR at hn
      have nS := True.intro
      repeat' (first|((with_reducible refine sg ?_);first|with_reducible rfl|((with_reducible refine fitG ?_);first|kernel_rfl|rfl|(simp [fitT,fitF,nS];done))|with_reducible refine andT ?_ ?_|with_reducible exact Nat.beq_refl _|with_reducible exact fitsI_u8 _|((with_reducible refine decide_eq_true ?_);first|omega|(simp only [SZl,nS];omega))|decide|(simp [SZl,slc,allOneD,D.one,allOne,AV.one,nS];done)|(simp [SZl,nS];omega))|((with_reducible refine gWl ?_);first|(refine Wl_isMv rfl ?_;refine Xmv eok rfl rfl rfl rfl ?_)|refine Xq eok rfl rfl rfl rfl ?_ ?_|refine Xn [0,1,2,4,5,6,7,8,9,10,12,13,14,15,17,18,19,21,22,25,37,40,41,52,63,69,87,98,112,120] rfl ?_|refine XF (hn) rfl rfl rfl rfl ?_|refine Xa eok rfl rfl rfl rfl rfl ?_ ?_|refine Xw eok rfl rfl rfl rfl ?_ ?_)|((with_reducible refine gWd ?_);first|(refine Wd_isMv rfl ?_;refine Ymv eok rfl rfl (fun _ => rfl) rfl rfl ?_)|refine Yp eok rfl rfl (fun _ => rfl) rfl rfl ?_ ?_|refine Yq rfl rfl rfl rfl rfl ?_ ?_|refine Ys rfl rfl rfl rfl ?_|refine YF (hn) rfl rfl rfl rfl rfl ?_|refine Ya eok rfl rfl rfl rfl rfl rfl ?_ ?_|refine Yw eok rfl rfl rfl rfl rfl ?_ ?_|refine Yn [0,1,2,4,5,6,7,8,9,10,12,13,14,15,17,18,19,21,22,25,37,40,41,52,63,69,87,98,112,120] [] mixed eok (by kernel_rfl) True.intro rfl ?_)|refine W_seq ?_|refine W_region ?_|refine W_any T.get ?_|refine W_skip ?_|refine W_ret ?_|refine W_block ?_|refine W_exit ?_|refine W_cond_t rfl ?_|refine W_cond_f rfl ?_|(refine W_cond rfl (fun hc => ?_) (fun hc => ?_) <;> (try simp only [HCl] at hc) <;> (try (exfalso;omega))))
      refine ⟨_, _, rfl, rfl, ?_⟩; simp [Frz_tup, Frz_ag, Frzs_cons, Frzs_nil, Frz_d, Frz_e0, Frz_sl, sln, isSl, slOk]
    | some p =>
      obtain ⟨q, r⟩ := p
      have hg := hgt hp
      obtain ⟨hl1, hl2⟩ := hln hp
      obtain ⟨x, y, rfl⟩ : ∃ x y, q = [x, y] := by
        rcases q with _ | ⟨x, _ | ⟨y, _ | ⟨z, t⟩⟩⟩ <;> first | exact ⟨_, _, rfl⟩ | (simp at hl1)
      have hx := hg x (by simp)
      have hy := hg y (by simp)
      rw [hp] at hn
      unfold numsR at hn
      have e : moreS ⟨10, c, s, d, ky, sl, dn, pl, pr, l, ⟨ik, iv, ir, ig⟩, co⟩ b = (⟨10, c, s, d, ky, sl, y == 1, x, pr, l, ⟨ik, iv, ir, ig⟩, co⟩, true) := by unfold moreS; simp only [manyS, Int.reduceEq, if_true, if_false, hp] <;> rfl
      rw [e]
      have nS := True.intro
      repeat' (first|((with_reducible refine sg ?_);first|with_reducible rfl|((with_reducible refine fitG ?_);first|kernel_rfl|rfl|(simp [fitT,fitF,nS];done))|with_reducible refine andT ?_ ?_|with_reducible exact Nat.beq_refl _|with_reducible exact fitsI_u8 _|((with_reducible refine decide_eq_true ?_);first|omega|(simp only [SZl,nS];omega))|decide|(simp [SZl,slc,allOneD,D.one,allOne,AV.one,nS];done)|(simp [SZl,nS];omega))|((with_reducible refine gWl ?_);first|(refine Wl_isMv rfl ?_;refine Xmv eok rfl rfl rfl rfl ?_)|refine Xq eok rfl rfl rfl rfl ?_ ?_|refine Xn [0,1,2,4,5,6,7,8,9,10,12,13,14,15,17,18,19,21,22,25,37,40,41,52,63,69,87,98,112,120] rfl ?_|refine XF (hn) rfl rfl rfl rfl ?_|refine Xa eok rfl rfl rfl rfl rfl ?_ ?_|refine Xw eok rfl rfl rfl rfl ?_ ?_)|((with_reducible refine gWd ?_);first|(refine Wd_isMv rfl ?_;refine Ymv eok rfl rfl (fun _ => rfl) rfl rfl ?_)|refine Yp eok rfl rfl (fun _ => rfl) rfl rfl ?_ ?_|refine Yq rfl rfl rfl rfl rfl ?_ ?_|refine Ys rfl rfl rfl rfl ?_|refine YF (hn) rfl rfl rfl rfl rfl ?_|refine Ya eok rfl rfl rfl rfl rfl rfl ?_ ?_|refine Yw eok rfl rfl rfl rfl rfl ?_ ?_|refine Yn [0,1,2,4,5,6,7,8,9,10,12,13,14,15,17,18,19,21,22,25,37,40,41,52,63,69,87,98,112,120] [] mixed eok (by kernel_rfl) True.intro rfl ?_)|refine W_seq ?_|refine W_region ?_|refine W_any T.get ?_|refine W_skip ?_|refine W_ret ?_|refine W_block ?_|refine W_exit ?_|refine W_cond_t rfl ?_|refine W_cond_f rfl ?_|(refine W_cond rfl (fun hc => ?_) (fun hc => ?_) <;> (try simp only [HCl] at hc) <;> (try (exfalso;omega))))
      refine ⟨_, _, rfl, rfl, ?_⟩; simp [Frz_tup, Frz_ag, Frzs_cons, Frzs_nil, Frz_d, Frz_e0, Frz_sl, sln, isSl, slOk]
  by_cases h11 : k = 11
  · subst h11
    have hn := numbers7_fn b 1 hb (by decide)
    have hgt := @nums_get 1 b
    have hln := @numsP_len 1 b
    cases hp : numsP 1 b with
    | none =>
      have e : moreS ⟨11, c, s, d, ky, sl, dn, pl, pr, l, ⟨ik, iv, ir, ig⟩, co⟩ b = (⟨11, c, s, d, ky, sl, dn, pl, pr, l, ⟨ik, iv, ir, ig⟩, co⟩, false) := by unfold moreS; simp only [manyS, Int.reduceEq, if_true, if_false, hp]
      rw [e]
      rw [hp] at hn
      unfold numsR at hn
      have nS := True.intro
      repeat' (first|((with_reducible refine sg ?_);first|with_reducible rfl|((with_reducible refine fitG ?_);first|kernel_rfl|rfl|(simp [fitT,fitF,nS];done))|with_reducible refine andT ?_ ?_|with_reducible exact Nat.beq_refl _|with_reducible exact fitsI_u8 _|((with_reducible refine decide_eq_true ?_);first|omega|(simp only [SZl,nS];omega))|decide|(simp [SZl,slc,allOneD,D.one,allOne,AV.one,nS];done)|(simp [SZl,nS];omega))|((with_reducible refine gWl ?_);first|(refine Wl_isMv rfl ?_;refine Xmv eok rfl rfl rfl rfl ?_)|refine Xq eok rfl rfl rfl rfl ?_ ?_|refine Xn [0,1,2,4,5,6,7,8,9,10,12,13,14,15,17,18,19,21,22,25,37,40,41,52,63,69,87,98,112,120] rfl ?_|refine XF (hn) rfl rfl rfl rfl ?_|refine Xa eok rfl rfl rfl rfl rfl ?_ ?_|refine Xw eok rfl rfl rfl rfl ?_ ?_)|((with_reducible refine gWd ?_);first|(refine Wd_isMv rfl ?_;refine Ymv eok rfl rfl (fun _ => rfl) rfl rfl ?_)|refine Yp eok rfl rfl (fun _ => rfl) rfl rfl ?_ ?_|refine Yq rfl rfl rfl rfl rfl ?_ ?_|refine Ys rfl rfl rfl rfl ?_|refine YF (hn) rfl rfl rfl rfl rfl ?_|refine Ya eok rfl rfl rfl rfl rfl rfl ?_ ?_|refine Yw eok rfl rfl rfl rfl rfl ?_ ?_|refine Yn [0,1,2,4,5,6,7,8,9,10,12,13,14,15,17,18,19,21,22,25,37,40,41,52,63,69,87,98,112,120] [] mixed eok (by kernel_rfl) True.intro rfl ?_)|refine W_seq ?_|refine W_region ?_|refine W_any T.get ?_|refine W_skip ?_|refine W_ret ?_|refine W_block ?_|refine W_exit ?_|refine W_cond_t rfl ?_|refine W_cond_f rfl ?_|(refine W_cond rfl (fun hc => ?_) (fun hc => ?_) <;> (try simp only [HCl] at hc) <;> (try (exfalso;omega))))
      refine ⟨_, _, rfl, rfl, ?_⟩; simp [Frz_tup, Frz_ag, Frzs_cons, Frzs_nil, Frz_d, Frz_e0, Frz_sl, sln, isSl, slOk]
    | some p =>
      obtain ⟨q, r⟩ := p
      have hg := hgt hp
      obtain ⟨hl1, hl2⟩ := hln hp
      obtain ⟨x, rfl⟩ : ∃ x, q = [x] := by
        rcases q with _ | ⟨x, _ | ⟨z, t⟩⟩ <;> first | exact ⟨_, rfl⟩ | (simp at hl1)
      have hx := hg x (by simp)
      rw [hp] at hn
      unfold numsR at hn
      have e : moreS ⟨11, c, s, d, ky, sl, dn, pl, pr, l, ⟨ik, iv, ir, ig⟩, co⟩ b = (⟨11, c, s, d, ky, sl, dn, pl, pr, l, ⟨ik, iv, ir, ig⟩, x⟩, true) := by unfold moreS; simp only [manyS, Int.reduceEq, if_true, if_false, hp] <;> rfl
      rw [e]
      have nS := True.intro
      repeat' (first|((with_reducible refine sg ?_);first|with_reducible rfl|((with_reducible refine fitG ?_);first|kernel_rfl|rfl|(simp [fitT,fitF,nS];done))|with_reducible refine andT ?_ ?_|with_reducible exact Nat.beq_refl _|with_reducible exact fitsI_u8 _|((with_reducible refine decide_eq_true ?_);first|omega|(simp only [SZl,nS];omega))|decide|(simp [SZl,slc,allOneD,D.one,allOne,AV.one,nS];done)|(simp [SZl,nS];omega))|((with_reducible refine gWl ?_);first|(refine Wl_isMv rfl ?_;refine Xmv eok rfl rfl rfl rfl ?_)|refine Xq eok rfl rfl rfl rfl ?_ ?_|refine Xn [0,1,2,4,5,6,7,8,9,10,12,13,14,15,17,18,19,21,22,25,37,40,41,52,63,69,87,98,112,120] rfl ?_|refine XF (hn) rfl rfl rfl rfl ?_|refine Xa eok rfl rfl rfl rfl rfl ?_ ?_|refine Xw eok rfl rfl rfl rfl ?_ ?_)|((with_reducible refine gWd ?_);first|(refine Wd_isMv rfl ?_;refine Ymv eok rfl rfl (fun _ => rfl) rfl rfl ?_)|refine Yp eok rfl rfl (fun _ => rfl) rfl rfl ?_ ?_|refine Yq rfl rfl rfl rfl rfl ?_ ?_|refine Ys rfl rfl rfl rfl ?_|refine YF (hn) rfl rfl rfl rfl rfl ?_|refine Ya eok rfl rfl rfl rfl rfl rfl ?_ ?_|refine Yw eok rfl rfl rfl rfl rfl ?_ ?_|refine Yn [0,1,2,4,5,6,7,8,9,10,12,13,14,15,17,18,19,21,22,25,37,40,41,52,63,69,87,98,112,120] [] mixed eok (by kernel_rfl) True.intro rfl ?_)|refine W_seq ?_|refine W_region ?_|refine W_any T.get ?_|refine W_skip ?_|refine W_ret ?_|refine W_block ?_|refine W_exit ?_|refine W_cond_t rfl ?_|refine W_cond_f rfl ?_|(refine W_cond rfl (fun hc => ?_) (fun hc => ?_) <;> (try simp only [HCl] at hc) <;> (try (exfalso;omega))))
      refine ⟨_, _, rfl, rfl, ?_⟩; simp [Frz_tup, Frz_ag, Frzs_cons, Frzs_nil, Frz_d, Frz_e0, Frz_sl, sln, isSl, slOk]
  by_cases h7 : k = 7
  · subst h7
    have hn := numbers7_fn b 1 hb (by decide)
    have hgt := @nums_get 1 b
    have hln := @numsP_len 1 b
    cases hp : numsP 1 b with
    | none =>
      have e : moreS ⟨7, c, s, d, ky, sl, dn, pl, pr, l, ⟨ik, iv, ir, ig⟩, co⟩ b = (⟨7, c, s, d, ky, sl, dn, pl, pr, l, ⟨ik, iv, ir, ig⟩, co⟩, false) := by unfold moreS; simp only [manyS, Int.reduceEq, if_true, if_false, hp]
      rw [e]
      rw [hp] at hn
      unfold numsR at hn
      have nS := True.intro
      repeat' (first|((with_reducible refine sg ?_);first|with_reducible rfl|((with_reducible refine fitG ?_);first|kernel_rfl|rfl|(simp [fitT,fitF,nS];done))|with_reducible refine andT ?_ ?_|with_reducible exact Nat.beq_refl _|with_reducible exact fitsI_u8 _|((with_reducible refine decide_eq_true ?_);first|omega|(simp only [SZl,nS];omega))|decide|(simp [SZl,slc,allOneD,D.one,allOne,AV.one,nS];done)|(simp [SZl,nS];omega))|((with_reducible refine gWl ?_);first|(refine Wl_isMv rfl ?_;refine Xmv eok rfl rfl rfl rfl ?_)|refine Xq eok rfl rfl rfl rfl ?_ ?_|refine Xn [0,1,2,4,5,6,7,8,9,10,12,13,14,15,17,18,19,21,22,25,37,40,41,52,63,69,87,98,112,120] rfl ?_|refine XF (hn) rfl rfl rfl rfl ?_|refine Xa eok rfl rfl rfl rfl rfl ?_ ?_|refine Xw eok rfl rfl rfl rfl ?_ ?_)|((with_reducible refine gWd ?_);first|(refine Wd_isMv rfl ?_;refine Ymv eok rfl rfl (fun _ => rfl) rfl rfl ?_)|refine Yp eok rfl rfl (fun _ => rfl) rfl rfl ?_ ?_|refine Yq rfl rfl rfl rfl rfl ?_ ?_|refine Ys rfl rfl rfl rfl ?_|refine YF (hn) rfl rfl rfl rfl rfl ?_|refine Ya eok rfl rfl rfl rfl rfl rfl ?_ ?_|refine Yw eok rfl rfl rfl rfl rfl ?_ ?_|refine Yn [0,1,2,4,5,6,7,8,9,10,12,13,14,15,17,18,19,21,22,25,37,40,41,52,63,69,87,98,112,120] [] mixed eok (by kernel_rfl) True.intro rfl ?_)|refine W_seq ?_|refine W_region ?_|refine W_any T.get ?_|refine W_skip ?_|refine W_ret ?_|refine W_block ?_|refine W_exit ?_|refine W_cond_t rfl ?_|refine W_cond_f rfl ?_|(refine W_cond rfl (fun hc => ?_) (fun hc => ?_) <;> (try simp only [HCl] at hc) <;> (try (exfalso;omega))))
      refine ⟨_, _, rfl, rfl, ?_⟩; simp [Frz_tup, Frz_ag, Frzs_cons, Frzs_nil, Frz_d, Frz_e0, Frz_sl, sln, isSl, slOk]
    | some p =>
      obtain ⟨q, r⟩ := p
      have hg := hgt hp
      obtain ⟨hl1, hl2⟩ := hln hp
      obtain ⟨x, rfl⟩ : ∃ x, q = [x] := by
        rcases q with _ | ⟨x, _ | ⟨z, t⟩⟩ <;> first | exact ⟨_, rfl⟩ | (simp at hl1)
      have hx := hg x (by simp)
      rw [hp] at hn
      unfold numsR at hn
      have ht := rTakeList_fn r (by omega)
      unfold takeL3 at ht
      have e : moreS ⟨7, c, s, d, ky, sl, dn, pl, pr, l, ⟨ik, iv, ir, ig⟩, co⟩ b = (⟨7, c, s, d, ky, sl, dn, pl, (x - 1), (takeListS r).1, ⟨ik, iv, ir, ig⟩, co⟩, (takeListS r).2.2 == 0) := by unfold moreS; simp only [manyS, Int.reduceEq, if_true, if_false, hp] <;> rfl
      rw [e]
      have nS := True.intro
      repeat' (first|((with_reducible refine sg ?_);first|with_reducible rfl|((with_reducible refine fitG ?_);first|kernel_rfl|rfl|(simp [fitT,fitF,nS];done))|with_reducible refine andT ?_ ?_|with_reducible exact Nat.beq_refl _|with_reducible exact fitsI_u8 _|((with_reducible refine decide_eq_true ?_);first|omega|(simp only [SZl,nS];omega))|decide|(simp [SZl,slc,allOneD,D.one,allOne,AV.one,nS];done)|(simp [SZl,nS];omega))|((with_reducible refine gWl ?_);first|(refine Wl_isMv rfl ?_;refine Xmv eok rfl rfl rfl rfl ?_)|refine Xq eok rfl rfl rfl rfl ?_ ?_|refine Xn [0,1,2,4,5,6,7,8,9,10,12,13,14,15,17,18,19,21,22,25,37,40,41,52,63,69,87,98,112,120] rfl ?_|refine XF (hn) rfl rfl rfl rfl ?_|refine XF (ht) rfl rfl rfl rfl ?_|refine Xa eok rfl rfl rfl rfl rfl ?_ ?_|refine Xw eok rfl rfl rfl rfl ?_ ?_)|((with_reducible refine gWd ?_);first|(refine Wd_isMv rfl ?_;refine Ymv eok rfl rfl (fun _ => rfl) rfl rfl ?_)|refine Yp eok rfl rfl (fun _ => rfl) rfl rfl ?_ ?_|refine Yq rfl rfl rfl rfl rfl ?_ ?_|refine Ys rfl rfl rfl rfl ?_|refine YF (hn) rfl rfl rfl rfl rfl ?_|refine YF (ht) rfl rfl rfl rfl rfl ?_|refine Ya eok rfl rfl rfl rfl rfl rfl ?_ ?_|refine Yw eok rfl rfl rfl rfl rfl ?_ ?_|refine Yn [0,1,2,4,5,6,7,8,9,10,12,13,14,15,17,18,19,21,22,25,37,40,41,52,63,69,87,98,112,120] [] mixed eok (by kernel_rfl) True.intro rfl ?_)|refine W_seq ?_|refine W_region ?_|refine W_any T.get ?_|refine W_skip ?_|refine W_ret ?_|refine W_block ?_|refine W_exit ?_|refine W_cond_t rfl ?_|refine W_cond_f rfl ?_|(refine W_cond rfl (fun hc => ?_) (fun hc => ?_) <;> (try simp only [HCl] at hc) <;> (try (exfalso;omega))))
      refine ⟨_, _, rfl, rfl, ?_⟩; simp [Frz_tup, Frz_ag, Frzs_cons, Frzs_nil, Frz_d, Frz_e0, Frz_sl, sln, isSl, slOk]
  by_cases h5 : k = 5
  · subst h5
    have hn := numbers7_fn b 0 hb (by decide)
    have hgt := @nums_get 0 b
    have hln := @numsP_len 0 b
    cases hp : numsP 0 b with
    | none =>
      have e : moreS ⟨5, c, s, d, ky, sl, dn, pl, pr, l, ⟨ik, iv, ir, ig⟩, co⟩ b = (⟨5, c, s, d, ky, sl, dn, pl, pr, l, ⟨ik, iv, ir, ig⟩, co⟩, false) := by unfold moreS; simp only [manyS, Int.reduceEq, if_true, if_false, hp]
      rw [e]
      rw [hp] at hn
      unfold numsR at hn
      have nS := True.intro
      repeat' (first|((with_reducible refine sg ?_);first|with_reducible rfl|((with_reducible refine fitG ?_);first|kernel_rfl|rfl|(simp [fitT,fitF,nS];done))|with_reducible refine andT ?_ ?_|with_reducible exact Nat.beq_refl _|with_reducible exact fitsI_u8 _|((with_reducible refine decide_eq_true ?_);first|omega|(simp only [SZl,nS];omega))|decide|(simp [SZl,slc,allOneD,D.one,allOne,AV.one,nS];done)|(simp [SZl,nS];omega))|((with_reducible refine gWl ?_);first|(refine Wl_isMv rfl ?_;refine Xmv eok rfl rfl rfl rfl ?_)|refine Xq eok rfl rfl rfl rfl ?_ ?_|refine Xn [0,1,2,4,5,6,7,8,9,10,12,13,14,15,17,18,19,21,22,25,37,40,41,52,63,69,87,98,112,120] rfl ?_|refine XF (hn) rfl rfl rfl rfl ?_|refine Xa eok rfl rfl rfl rfl rfl ?_ ?_|refine Xw eok rfl rfl rfl rfl ?_ ?_)|((with_reducible refine gWd ?_);first|(refine Wd_isMv rfl ?_;refine Ymv eok rfl rfl (fun _ => rfl) rfl rfl ?_)|refine Yp eok rfl rfl (fun _ => rfl) rfl rfl ?_ ?_|refine Yq rfl rfl rfl rfl rfl ?_ ?_|refine Ys rfl rfl rfl rfl ?_|refine YF (hn) rfl rfl rfl rfl rfl ?_|refine Ya eok rfl rfl rfl rfl rfl rfl ?_ ?_|refine Yw eok rfl rfl rfl rfl rfl ?_ ?_|refine Yn [0,1,2,4,5,6,7,8,9,10,12,13,14,15,17,18,19,21,22,25,37,40,41,52,63,69,87,98,112,120] [] mixed eok (by kernel_rfl) True.intro rfl ?_)|refine W_seq ?_|refine W_region ?_|refine W_any T.get ?_|refine W_skip ?_|refine W_ret ?_|refine W_block ?_|refine W_exit ?_|refine W_cond_t rfl ?_|refine W_cond_f rfl ?_|(refine W_cond rfl (fun hc => ?_) (fun hc => ?_) <;> (try simp only [HCl] at hc) <;> (try (exfalso;omega))))
      refine ⟨_, _, rfl, rfl, ?_⟩; simp [Frz_tup, Frz_ag, Frzs_cons, Frzs_nil, Frz_d, Frz_e0, Frz_sl, sln, isSl, slOk]
    | some p =>
      obtain ⟨q, r⟩ := p
      have hg := hgt hp
      obtain ⟨hl1, hl2⟩ := hln hp
      obtain rfl : q = [] := List.length_eq_zero_iff.1 hl1
      rw [hp] at hn
      unfold numsR at hn
      have ht := paired_fn r (by omega)
      have hD : ∀ z : Item, z.d = .agg [.s z.key, .i .i64 z.value, .i .i64 z.version, .b z.gone] := fun _ => rfl
      rw [hD] at ht
      have e : moreS ⟨5, c, s, d, ky, sl, dn, pl, pr, l, ⟨ik, iv, ir, ig⟩, co⟩ b = (⟨5, c, s, d, ky, sl, dn, pl, pr, l, (pairedS r).1, co⟩, (pairedS r).2) := by unfold moreS; simp only [manyS, Int.reduceEq, if_true, if_false, hp] <;> rfl
      rw [e]
      have nS := True.intro
      repeat' (first|((with_reducible refine sg ?_);first|with_reducible rfl|((with_reducible refine fitG ?_);first|kernel_rfl|rfl|(simp [fitT,fitF,nS];done))|with_reducible refine andT ?_ ?_|with_reducible exact Nat.beq_refl _|with_reducible exact fitsI_u8 _|((with_reducible refine decide_eq_true ?_);first|omega|(simp only [SZl,nS];omega))|decide|(simp [SZl,slc,allOneD,D.one,allOne,AV.one,nS];done)|(simp [SZl,nS];omega))|((with_reducible refine gWl ?_);first|(refine Wl_isMv rfl ?_;refine Xmv eok rfl rfl rfl rfl ?_)|refine Xq eok rfl rfl rfl rfl ?_ ?_|refine Xn [0,1,2,4,5,6,7,8,9,10,12,13,14,15,17,18,19,21,22,25,37,40,41,52,63,69,87,98,112,120] rfl ?_|refine XF (hn) rfl rfl rfl rfl ?_|refine XF (ht) rfl rfl rfl rfl ?_|refine Xa eok rfl rfl rfl rfl rfl ?_ ?_|refine Xw eok rfl rfl rfl rfl ?_ ?_)|((with_reducible refine gWd ?_);first|(refine Wd_isMv rfl ?_;refine Ymv eok rfl rfl (fun _ => rfl) rfl rfl ?_)|refine Yp eok rfl rfl (fun _ => rfl) rfl rfl ?_ ?_|refine Yq rfl rfl rfl rfl rfl ?_ ?_|refine Ys rfl rfl rfl rfl ?_|refine YF (hn) rfl rfl rfl rfl rfl ?_|refine YF (ht) rfl rfl rfl rfl rfl ?_|refine Ya eok rfl rfl rfl rfl rfl rfl ?_ ?_|refine Yw eok rfl rfl rfl rfl rfl ?_ ?_|refine Yn [0,1,2,4,5,6,7,8,9,10,12,13,14,15,17,18,19,21,22,25,37,40,41,52,63,69,87,98,112,120] [] mixed eok (by kernel_rfl) True.intro rfl ?_)|refine W_seq ?_|refine W_region ?_|refine W_any T.get ?_|refine W_skip ?_|refine W_ret ?_|refine W_block ?_|refine W_exit ?_|refine W_cond_t rfl ?_|refine W_cond_f rfl ?_|(refine W_cond rfl (fun hc => ?_) (fun hc => ?_) <;> (try simp only [HCl] at hc) <;> (try (exfalso;omega))))
      refine ⟨_, _, rfl, rfl, ?_⟩; simp [Frz_tup, Frz_ag, Frzs_cons, Frzs_nil, Frz_d, Frz_e0, Frz_sl, sln, isSl, slOk]
  by_cases h6 : k = 6
  · subst h6
    have hn := numbers7_fn b 0 hb (by decide)
    have hgt := @nums_get 0 b
    have hln := @numsP_len 0 b
    cases hp : numsP 0 b with
    | none =>
      have e : moreS ⟨6, c, s, d, ky, sl, dn, pl, pr, l, ⟨ik, iv, ir, ig⟩, co⟩ b = (⟨6, c, s, d, ky, sl, dn, pl, pr, l, ⟨ik, iv, ir, ig⟩, co⟩, false) := by unfold moreS; simp only [manyS, Int.reduceEq, if_true, if_false, hp]
      rw [e]
      rw [hp] at hn
      unfold numsR at hn
      have nS := True.intro
      repeat' (first|((with_reducible refine sg ?_);first|with_reducible rfl|((with_reducible refine fitG ?_);first|kernel_rfl|rfl|(simp [fitT,fitF,nS];done))|with_reducible refine andT ?_ ?_|with_reducible exact Nat.beq_refl _|with_reducible exact fitsI_u8 _|((with_reducible refine decide_eq_true ?_);first|omega|(simp only [SZl,nS];omega))|decide|(simp [SZl,slc,allOneD,D.one,allOne,AV.one,nS];done)|(simp [SZl,nS];omega))|((with_reducible refine gWl ?_);first|(refine Wl_isMv rfl ?_;refine Xmv eok rfl rfl rfl rfl ?_)|refine Xq eok rfl rfl rfl rfl ?_ ?_|refine Xn [0,1,2,4,5,6,7,8,9,10,12,13,14,15,17,18,19,21,22,25,37,40,41,52,63,69,87,98,112,120] rfl ?_|refine XF (hn) rfl rfl rfl rfl ?_|refine Xa eok rfl rfl rfl rfl rfl ?_ ?_|refine Xw eok rfl rfl rfl rfl ?_ ?_)|((with_reducible refine gWd ?_);first|(refine Wd_isMv rfl ?_;refine Ymv eok rfl rfl (fun _ => rfl) rfl rfl ?_)|refine Yp eok rfl rfl (fun _ => rfl) rfl rfl ?_ ?_|refine Yq rfl rfl rfl rfl rfl ?_ ?_|refine Ys rfl rfl rfl rfl ?_|refine YF (hn) rfl rfl rfl rfl rfl ?_|refine Ya eok rfl rfl rfl rfl rfl rfl ?_ ?_|refine Yw eok rfl rfl rfl rfl rfl ?_ ?_|refine Yn [0,1,2,4,5,6,7,8,9,10,12,13,14,15,17,18,19,21,22,25,37,40,41,52,63,69,87,98,112,120] [] mixed eok (by kernel_rfl) True.intro rfl ?_)|refine W_seq ?_|refine W_region ?_|refine W_any T.get ?_|refine W_skip ?_|refine W_ret ?_|refine W_block ?_|refine W_exit ?_|refine W_cond_t rfl ?_|refine W_cond_f rfl ?_|(refine W_cond rfl (fun hc => ?_) (fun hc => ?_) <;> (try simp only [HCl] at hc) <;> (try (exfalso;omega))))
      refine ⟨_, _, rfl, rfl, ?_⟩; simp [Frz_tup, Frz_ag, Frzs_cons, Frzs_nil, Frz_d, Frz_e0, Frz_sl, sln, isSl, slOk]
    | some p =>
      obtain ⟨q, r⟩ := p
      have hg := hgt hp
      obtain ⟨hl1, hl2⟩ := hln hp
      obtain rfl : q = [] := List.length_eq_zero_iff.1 hl1
      rw [hp] at hn
      unfold numsR at hn
      have ht := rTakeText_fn r (by omega)
      unfold takeT3 at ht
      have e : moreS ⟨6, c, s, d, ky, sl, dn, pl, pr, l, ⟨ik, iv, ir, ig⟩, co⟩ b = (⟨6, c, s, d, ky, sl, dn, pl, pr, l, ⟨(takeTextS r).1, iv, ir, ig⟩, co⟩, (takeTextS r).2.2 == 0) := by unfold moreS; simp only [manyS, Int.reduceEq, if_true, if_false, hp] <;> rfl
      rw [e]
      have nS := True.intro
      repeat' (first|((with_reducible refine sg ?_);first|with_reducible rfl|((with_reducible refine fitG ?_);first|kernel_rfl|rfl|(simp [fitT,fitF,nS];done))|with_reducible refine andT ?_ ?_|with_reducible exact Nat.beq_refl _|with_reducible exact fitsI_u8 _|((with_reducible refine decide_eq_true ?_);first|omega|(simp only [SZl,nS];omega))|decide|(simp [SZl,slc,allOneD,D.one,allOne,AV.one,nS];done)|(simp [SZl,nS];omega))|((with_reducible refine gWl ?_);first|(refine Wl_isMv rfl ?_;refine Xmv eok rfl rfl rfl rfl ?_)|refine Xq eok rfl rfl rfl rfl ?_ ?_|refine Xn [0,1,2,4,5,6,7,8,9,10,12,13,14,15,17,18,19,21,22,25,37,40,41,52,63,69,87,98,112,120] rfl ?_|refine XF (hn) rfl rfl rfl rfl ?_|refine XF (ht) rfl rfl rfl rfl ?_|refine Xa eok rfl rfl rfl rfl rfl ?_ ?_|refine Xw eok rfl rfl rfl rfl ?_ ?_)|((with_reducible refine gWd ?_);first|(refine Wd_isMv rfl ?_;refine Ymv eok rfl rfl (fun _ => rfl) rfl rfl ?_)|refine Yp eok rfl rfl (fun _ => rfl) rfl rfl ?_ ?_|refine Yq rfl rfl rfl rfl rfl ?_ ?_|refine Ys rfl rfl rfl rfl ?_|refine YF (hn) rfl rfl rfl rfl rfl ?_|refine YF (ht) rfl rfl rfl rfl rfl ?_|refine Ya eok rfl rfl rfl rfl rfl rfl ?_ ?_|refine Yw eok rfl rfl rfl rfl rfl ?_ ?_|refine Yn [0,1,2,4,5,6,7,8,9,10,12,13,14,15,17,18,19,21,22,25,37,40,41,52,63,69,87,98,112,120] [] mixed eok (by kernel_rfl) True.intro rfl ?_)|refine W_seq ?_|refine W_region ?_|refine W_any T.get ?_|refine W_skip ?_|refine W_ret ?_|refine W_block ?_|refine W_exit ?_|refine W_cond_t rfl ?_|refine W_cond_f rfl ?_|(refine W_cond rfl (fun hc => ?_) (fun hc => ?_) <;> (try simp only [HCl] at hc) <;> (try (exfalso;omega))))
      refine ⟨_, _, rfl, rfl, ?_⟩; simp [Frz_tup, Frz_ag, Frzs_cons, Frzs_nil, Frz_d, Frz_e0, Frz_sl, sln, isSl, slOk]
  by_cases h12 : k = 12
  · subst h12
    have hn := numbers7_fn b 1 hb (by decide)
    have hgt := @nums_get 1 b
    have hln := @numsP_len 1 b
    cases hp : numsP 1 b with
    | none =>
      have e : moreS ⟨12, c, s, d, ky, sl, dn, pl, pr, l, ⟨ik, iv, ir, ig⟩, co⟩ b = (⟨12, c, s, d, ky, sl, dn, pl, pr, l, ⟨ik, iv, ir, ig⟩, co⟩, false) := by unfold moreS; simp only [manyS, Int.reduceEq, if_true, if_false, hp]
      rw [e]
      rw [hp] at hn
      unfold numsR at hn
      have nS := True.intro
      repeat' (first|((with_reducible refine sg ?_);first|with_reducible rfl|((with_reducible refine fitG ?_);first|kernel_rfl|rfl|(simp [fitT,fitF,nS];done))|with_reducible refine andT ?_ ?_|with_reducible exact Nat.beq_refl _|with_reducible exact fitsI_u8 _|((with_reducible refine decide_eq_true ?_);first|omega|(simp only [SZl,nS];omega))|decide|(simp [SZl,slc,allOneD,D.one,allOne,AV.one,nS];done)|(simp [SZl,nS];omega))|((with_reducible refine gWl ?_);first|(refine Wl_isMv rfl ?_;refine Xmv eok rfl rfl rfl rfl ?_)|refine Xq eok rfl rfl rfl rfl ?_ ?_|refine Xn [0,1,2,4,5,6,7,8,9,10,12,13,14,15,17,18,19,21,22,25,37,40,41,52,63,69,87,98,112,120] rfl ?_|refine XF (hn) rfl rfl rfl rfl ?_|refine Xa eok rfl rfl rfl rfl rfl ?_ ?_|refine Xw eok rfl rfl rfl rfl ?_ ?_)|((with_reducible refine gWd ?_);first|(refine Wd_isMv rfl ?_;refine Ymv eok rfl rfl (fun _ => rfl) rfl rfl ?_)|refine Yp eok rfl rfl (fun _ => rfl) rfl rfl ?_ ?_|refine Yq rfl rfl rfl rfl rfl ?_ ?_|refine Ys rfl rfl rfl rfl ?_|refine YF (hn) rfl rfl rfl rfl rfl ?_|refine Ya eok rfl rfl rfl rfl rfl rfl ?_ ?_|refine Yw eok rfl rfl rfl rfl rfl ?_ ?_|refine Yn [0,1,2,4,5,6,7,8,9,10,12,13,14,15,17,18,19,21,22,25,37,40,41,52,63,69,87,98,112,120] [] mixed eok (by kernel_rfl) True.intro rfl ?_)|refine W_seq ?_|refine W_region ?_|refine W_any T.get ?_|refine W_skip ?_|refine W_ret ?_|refine W_block ?_|refine W_exit ?_|refine W_cond_t rfl ?_|refine W_cond_f rfl ?_|(refine W_cond rfl (fun hc => ?_) (fun hc => ?_) <;> (try simp only [HCl] at hc) <;> (try (exfalso;omega))))
      refine ⟨_, _, rfl, rfl, ?_⟩; simp [Frz_tup, Frz_ag, Frzs_cons, Frzs_nil, Frz_d, Frz_e0, Frz_sl, sln, isSl, slOk]
    | some p =>
      obtain ⟨q, r⟩ := p
      have hg := hgt hp
      obtain ⟨hl1, hl2⟩ := hln hp
      obtain ⟨x, rfl⟩ : ∃ x, q = [x] := by
        rcases q with _ | ⟨x, _ | ⟨z, t⟩⟩ <;> first | exact ⟨_, rfl⟩ | (simp at hl1)
      have hx := hg x (by simp)
      rw [hp] at hn
      unfold numsR at hn
      by_cases h0 : x = 0
      · subst h0
        have ht := paired_fn r (by omega)
        have hD : ∀ z : Item, z.d = .agg [.s z.key, .i .i64 z.value, .i .i64 z.version, .b z.gone] := fun _ => rfl
        rw [hD] at ht
        have e : moreS ⟨12, c, s, d, ky, sl, dn, pl, pr, l, ⟨ik, iv, ir, ig⟩, co⟩ b = (⟨12, c, s, d, ky, sl, dn, pl, pr, l, (pairedS r).1, 0⟩, (pairedS r).2) := by unfold moreS; simp only [manyS, Int.reduceEq, if_true, if_false, hp] <;> rfl
        rw [e]
        have nS := True.intro
        repeat' (first|((with_reducible refine sg ?_);first|with_reducible rfl|((with_reducible refine fitG ?_);first|kernel_rfl|rfl|(simp [fitT,fitF,nS];done))|with_reducible refine andT ?_ ?_|with_reducible exact Nat.beq_refl _|with_reducible exact fitsI_u8 _|((with_reducible refine decide_eq_true ?_);first|omega|(simp only [SZl,nS];omega))|decide|(simp [SZl,slc,allOneD,D.one,allOne,AV.one,nS];done)|(simp [SZl,nS];omega))|((with_reducible refine gWl ?_);first|(refine Wl_isMv rfl ?_;refine Xmv eok rfl rfl rfl rfl ?_)|refine Xq eok rfl rfl rfl rfl ?_ ?_|refine Xn [0,1,2,4,5,6,7,8,9,10,12,13,14,15,17,18,19,21,22,25,37,40,41,52,63,69,87,98,112,120] rfl ?_|refine XF (hn) rfl rfl rfl rfl ?_|refine XF (ht) rfl rfl rfl rfl ?_|refine Xa eok rfl rfl rfl rfl rfl ?_ ?_|refine Xw eok rfl rfl rfl rfl ?_ ?_)|((with_reducible refine gWd ?_);first|(refine Wd_isMv rfl ?_;refine Ymv eok rfl rfl (fun _ => rfl) rfl rfl ?_)|refine Yp eok rfl rfl (fun _ => rfl) rfl rfl ?_ ?_|refine Yq rfl rfl rfl rfl rfl ?_ ?_|refine Ys rfl rfl rfl rfl ?_|refine YF (hn) rfl rfl rfl rfl rfl ?_|refine YF (ht) rfl rfl rfl rfl rfl ?_|refine Ya eok rfl rfl rfl rfl rfl rfl ?_ ?_|refine Yw eok rfl rfl rfl rfl rfl ?_ ?_|refine Yn [0,1,2,4,5,6,7,8,9,10,12,13,14,15,17,18,19,21,22,25,37,40,41,52,63,69,87,98,112,120] [] mixed eok (by kernel_rfl) True.intro rfl ?_)|refine W_seq ?_|refine W_region ?_|refine W_any T.get ?_|refine W_skip ?_|refine W_ret ?_|refine W_block ?_|refine W_exit ?_|refine W_cond_t rfl ?_|refine W_cond_f rfl ?_|(refine W_cond rfl (fun hc => ?_) (fun hc => ?_) <;> (try simp only [HCl] at hc) <;> (try (exfalso;omega))))
        refine ⟨_, _, rfl, rfl, ?_⟩; simp [Frz_tup, Frz_ag, Frzs_cons, Frzs_nil, Frz_d, Frz_e0, Frz_sl, sln, isSl, slOk]
      · have f := eq_false' h0
        have e : moreS ⟨12, c, s, d, ky, sl, dn, pl, pr, l, ⟨ik, iv, ir, ig⟩, co⟩ b = (⟨12, c, s, d, ky, sl, dn, pl, pr, l, ⟨ik, iv, ir, ig⟩, x⟩, true) := by unfold moreS; simp only [manyS, Int.reduceEq, if_true, if_false, hp, List.getD_cons_zero, h0]
        rw [e]
        have nS := f
        repeat' (first|((with_reducible refine sg ?_);first|with_reducible rfl|((with_reducible refine fitG ?_);first|kernel_rfl|rfl|(simp [fitT,fitF,nS];done))|with_reducible refine andT ?_ ?_|with_reducible exact Nat.beq_refl _|with_reducible exact fitsI_u8 _|((with_reducible refine decide_eq_true ?_);first|omega|(simp only [SZl,nS];omega))|decide|(simp [SZl,slc,allOneD,D.one,allOne,AV.one,nS];done)|(simp [SZl,nS];omega))|((with_reducible refine gWl ?_);first|(refine Wl_isMv rfl ?_;refine Xmv eok rfl rfl rfl rfl ?_)|refine Xq eok rfl rfl rfl rfl ?_ ?_|refine Xn [0,1,2,4,5,6,7,8,9,10,12,13,14,15,17,18,19,21,22,25,37,40,41,52,63,69,87,98,112,120] rfl ?_|refine XF (hn) rfl rfl rfl rfl ?_|refine Xa eok rfl rfl rfl rfl rfl ?_ ?_|refine Xw eok rfl rfl rfl rfl ?_ ?_)|((with_reducible refine gWd ?_);first|(refine Wd_isMv rfl ?_;refine Ymv eok rfl rfl (fun _ => rfl) rfl rfl ?_)|refine Yp eok rfl rfl (fun _ => rfl) rfl rfl ?_ ?_|refine Yq rfl rfl rfl rfl rfl ?_ ?_|refine Ys rfl rfl rfl rfl ?_|refine YF (hn) rfl rfl rfl rfl rfl ?_|refine Ya eok rfl rfl rfl rfl rfl rfl ?_ ?_|refine Yw eok rfl rfl rfl rfl rfl ?_ ?_|refine Yn [0,1,2,4,5,6,7,8,9,10,12,13,14,15,17,18,19,21,22,25,37,40,41,52,63,69,87,98,112,120] [] mixed eok (by kernel_rfl) True.intro rfl ?_)|refine W_seq ?_|refine W_region ?_|refine W_any T.get ?_|refine W_skip ?_|refine W_ret ?_|refine W_block ?_|refine W_exit ?_|refine W_cond_t rfl ?_|refine W_cond_f rfl ?_|(refine W_cond rfl (fun hc => ?_) (fun hc => ?_) <;> (try simp only [HCl] at hc) <;> (try (exfalso;omega))))
        refine ⟨_, _, rfl, rfl, ?_⟩; simp [Frz_tup, Frz_ag, Frzs_cons, Frzs_nil, Frz_d, Frz_e0, Frz_sl, sln, isSl, slOk]
  have hn := numbers7_fn b 0 hb (by decide)
  have e : moreS ⟨k, c, s, d, ky, sl, dn, pl, pr, l, ⟨ik, iv, ir, ig⟩, co⟩ b = (⟨k, c, s, d, ky, sl, dn, pl, pr, l, ⟨ik, iv, ir, ig⟩, co⟩, true) := by
    unfold moreS; simp only [manyS, h4, h10, h11, h7, h5, h6, h12, if_false, numsP]
  rw [e]
  have hp : numsP 0 b = some ([], b) := rfl
  rw [hp] at hn
  unfold numsR at hn
  have f4 := eq_false' h4
  have f5 := eq_false' h5
  have f6 := eq_false' h6
  have f7 := eq_false' h7
  have f10 := eq_false' h10
  have f11 := eq_false' h11
  have f12 := eq_false' h12
  have nS := And.intro f4 (And.intro f5 (And.intro f6 (And.intro f7 (And.intro f10 (And.intro f11 f12)))))
  repeat' (first|((with_reducible refine sg ?_);first|with_reducible rfl|((with_reducible refine fitG ?_);first|kernel_rfl|rfl|(simp [fitT,fitF,nS];done))|with_reducible refine andT ?_ ?_|with_reducible exact Nat.beq_refl _|with_reducible exact fitsI_u8 _|((with_reducible refine decide_eq_true ?_);first|omega|(simp only [SZl,nS];omega))|decide|(simp [SZl,slc,allOneD,D.one,allOne,AV.one,nS];done)|(simp [SZl,nS];omega))|((with_reducible refine gWl ?_);first|(refine Wl_isMv rfl ?_;refine Xmv eok rfl rfl rfl rfl ?_)|refine Xq eok rfl rfl rfl rfl ?_ ?_|refine Xn [0,1,2,4,5,6,7,8,9,10,12,13,14,15,17,18,19,21,22,25,37,40,41,52,63,69,87,98,112,120] rfl ?_|refine XF (hn) rfl rfl rfl rfl ?_|refine Xa eok rfl rfl rfl rfl rfl ?_ ?_|refine Xw eok rfl rfl rfl rfl ?_ ?_)|((with_reducible refine gWd ?_);first|(refine Wd_isMv rfl ?_;refine Ymv eok rfl rfl (fun _ => rfl) rfl rfl ?_)|refine Yp eok rfl rfl (fun _ => rfl) rfl rfl ?_ ?_|refine Yq rfl rfl rfl rfl rfl ?_ ?_|refine Ys rfl rfl rfl rfl ?_|refine YF (hn) rfl rfl rfl rfl rfl ?_|refine Ya eok rfl rfl rfl rfl rfl rfl ?_ ?_|refine Yw eok rfl rfl rfl rfl rfl ?_ ?_|refine Yn [0,1,2,4,5,6,7,8,9,10,12,13,14,15,17,18,19,21,22,25,37,40,41,52,63,69,87,98,112,120] [] mixed eok (by kernel_rfl) True.intro rfl ?_)|refine W_seq ?_|refine W_region ?_|refine W_any T.get ?_|refine W_skip ?_|refine W_ret ?_|refine W_block ?_|refine W_exit ?_|refine W_cond_t rfl ?_|refine W_cond_f rfl ?_|(refine W_cond rfl (fun hc => ?_) (fun hc => ?_) <;> (try simp only [HCl] at hc) <;> (try (exfalso;omega))))
  refine ⟨_, _, rfl, rfl, ?_⟩; simp [Frz_tup, Frz_ag, Frzs_cons, Frzs_nil, Frz_d, Frz_e0, Frz_sl, sln, isSl, slOk]
end Wi
end Go.Proofs.YtbpemnmpcljbpaaGreat
