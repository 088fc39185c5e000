/- Written by a program (pre.py) from the source of the same name. -/
/- Numbers: put, text, take. -/
import Derived.Test.YtbpemnmpcljbpaaGreatNum2
set_option linter.unusedSimpArgs false
set_option linter.unusedVariables false
set_option linter.unnecessarySimpa false
namespace Go.Proofs.YtbpemnmpcljbpaaGreat
open Go.Gar
set_option maxRecDepth 4000

theorem behind0_fn (n : Nat) (hn : n ≤ 1099511627776) : FnD Tryz.prog 105 [.e0, .d (.i .i64 n)] [] (.sl 0 (numB n).length 1) [.a (.by (numB n))] :=
  FnT.e0 (.by []) rfl rfl trivial (behind_fn [] n hn (by decide))
theorem numB_len (n : Nat) (h : n ≤ 1099511627776) : (numB n).length ≤ 7 := by
  have := size_le n (by omega)
  simp [numB, digs]; omega

/-- Put: the bytes, the error. -/
def putS (n : Int) : List UInt8 × Int := if fits n then (numB n.toNat, 0) else ([], 2)
theorem put_fn (n : Int) : Go.Gar.Fn Tryz.prog 89 [.i .i64 n] (.tup [.by (putS n).1, .i .i64 (putS n).2]) := by
  by_cases hf : fits n = true
  · obtain ⟨m, rfl⟩ : ∃ m : Nat, n = m := ⟨n.toNat, by simp [fits] at hf; omega⟩
    have hm : m ≤ 1099511627776 := by simp [fits] at hf; omega
    refine Fn_of_W eok Tryz.func89 rfl rfl (Nat.le_of_ble_eq_true rfl) ?_
    have nS := hf
    repeat' (first|((with_reducible refine sg ?_);first|with_reducible rfl|((with_reducible refine fitG ?_);first|kernel_rfl|rfl|(simp [fitT,fitF,nS];done))|with_reducible refine andT ?_ ?_|with_reducible exact Nat.beq_refl _|with_reducible exact fitsI_u8 _|((with_reducible refine decide_eq_true ?_);first|omega|(simp only [SZl,nS];omega))|decide|(simp [SZl,slc,allOneD,D.one,allOne,AV.one,nS];done)|(simp [SZl,nS];omega))|((with_reducible refine gWl ?_);first|(refine Wl_isMv rfl ?_;refine Xmv eok rfl rfl rfl rfl ?_)|refine Xq eok rfl rfl rfl rfl ?_ ?_|refine Xn [0,2,3,6] rfl ?_|refine XF (fits_fn m) rfl rfl rfl rfl ?_|refine XD [] (behind0_fn m hm) rfl rfl rfl trivial rfl rfl rfl rfl ?_)|refine W_seq ?_|refine W_region ?_|refine W_skip ?_|refine W_ret ?_|refine W_block ?_|refine W_exit ?_|refine W_scope 3 ?_|refine W_goto ?_|refine W_label ?_|refine W_cond_t rfl ?_|refine W_cond_f rfl ?_|(refine W_cond rfl (fun hc => ?_) (fun hc => ?_) <;> (try simp only [HCl] at hc) <;> (try (exfalso;omega))))
    refine ⟨_, _, rfl, rfl, ?_⟩; simp [Frz_tup, Frz_ag, Frzs_cons, Frzs_nil, Frz_d, Frz_e0, Frz_sl, sln, isSl, slOk, putS, hf]
  · have hf' : fits n = false := by simpa using hf
    refine Fn_of_W eok Tryz.func89 rfl rfl (Nat.le_of_ble_eq_true rfl) ?_
    have nS := hf'
    repeat' (first|((with_reducible refine sg ?_);first|with_reducible rfl|((with_reducible refine fitG ?_);first|kernel_rfl|rfl|(simp [fitT,fitF,nS];done))|with_reducible refine andT ?_ ?_|with_reducible exact Nat.beq_refl _|with_reducible exact fitsI_u8 _|((with_reducible refine decide_eq_true ?_);first|omega|(simp only [SZl,nS];omega))|decide|(simp [SZl,slc,allOneD,D.one,allOne,AV.one,nS];done)|(simp [SZl,nS];omega))|((with_reducible refine gWl ?_);first|(refine Wl_isMv rfl ?_;refine Xmv eok rfl rfl rfl rfl ?_)|refine Xq eok rfl rfl rfl rfl ?_ ?_|refine Xn [0,2,3,6] rfl ?_|refine XF (fits_fn n) rfl rfl rfl rfl ?_)|refine W_seq ?_|refine W_region ?_|refine W_skip ?_|refine W_ret ?_|refine W_block ?_|refine W_exit ?_|refine W_scope 3 ?_|refine W_goto ?_|refine W_label ?_|refine W_cond_t rfl ?_|refine W_cond_f rfl ?_|(refine W_cond rfl (fun hc => ?_) (fun hc => ?_) <;> (try simp only [HCl] at hc) <;> (try (exfalso;omega))))
    refine ⟨_, _, rfl, rfl, ?_⟩; simp [Frz_tup, Frz_ag, Frzs_cons, Frzs_nil, Frz_d, Frz_e0, Frz_sl, sln, isSl, slOk, putS, hf']

/-- Text. -/
def textS (s : List UInt8) : List UInt8 × Int := if s.length > 255 then ([], 2) else (UInt8.ofNat s.length :: s, 0)
theorem text_fn (s : List UInt8) : Go.Gar.Fn Tryz.prog 91 [.s s] (.tup [.by (textS s).1, .i .i64 (textS s).2]) := by
  refine Fn_of_W eok Tryz.func91 rfl rfl (Nat.le_of_ble_eq_true rfl) ?_
  by_cases h : s.length > 255
  · have h1 : decide ((s.length : Int) > 255) = true := by simp; omega
    have nS := h1
    repeat' (first|((with_reducible refine sg ?_);first|with_reducible rfl|((with_reducible refine fitG ?_);first|kernel_rfl|rfl|(simp [fitT,fitF,nS];done))|with_reducible refine andT ?_ ?_|with_reducible exact Nat.beq_refl _|with_reducible exact fitsI_u8 _|((with_reducible refine decide_eq_true ?_);first|omega|(simp only [SZl,nS];omega))|decide|(simp [SZl,slc,allOneD,D.one,allOne,AV.one,nS];done)|(simp [SZl,nS];omega))|((with_reducible refine gWl ?_);first|(refine Wl_isMv rfl ?_;refine Xmv eok rfl rfl rfl rfl ?_)|refine Xq eok rfl rfl rfl rfl ?_ ?_|refine Xn [0,2,3,6] rfl ?_|refine Xw eok rfl rfl rfl rfl ?_ ?_)|refine W_seq ?_|refine W_region ?_|refine W_skip ?_|refine W_ret ?_|refine W_block ?_|refine W_exit ?_|refine W_scope 3 ?_|refine W_goto ?_|refine W_label ?_|refine W_cond_t rfl ?_|refine W_cond_f rfl ?_|(refine W_cond rfl (fun hc => ?_) (fun hc => ?_) <;> (try simp only [HCl] at hc) <;> (try (exfalso;omega))))
    refine ⟨_, _, rfl, rfl, ?_⟩; simp [Frz_tup, Frz_ag, Frzs_cons, Frzs_nil, Frz_d, Frz_e0, Frz_sl, sln, isSl, slOk, textS, h]
  · have h1 : decide ((s.length : Int) > 255) = false := by simp; omega
    have h2 : (s.length : Int) % 256 = s.length := by omega
    have nS := And.intro h1 h2
    repeat' (first|((with_reducible refine sg ?_);first|with_reducible rfl|((with_reducible refine fitG ?_);first|kernel_rfl|rfl|(simp [fitT,fitF,nS];done))|with_reducible refine andT ?_ ?_|with_reducible exact Nat.beq_refl _|with_reducible exact fitsI_u8 _|((with_reducible refine decide_eq_true ?_);first|omega|(simp only [SZl,nS];omega))|decide|(simp [SZl,slc,allOneD,D.one,allOne,AV.one,nS];done)|(simp [SZl,nS];omega))|((with_reducible refine gWl ?_);first|(refine Wl_isMv rfl ?_;refine Xmv eok rfl rfl rfl rfl ?_)|refine XaoL [10] eok rfl rfl rfl rfl rfl rfl ?_ ?_|refine Xq eok rfl rfl rfl rfl ?_ ?_|refine Xn [0,2,3,6] rfl ?_|refine Xw eok rfl rfl rfl rfl ?_ ?_)|refine W_seq ?_|refine W_region ?_|refine W_skip ?_|refine W_ret ?_|refine W_block ?_|refine W_exit ?_|refine W_scope 3 ?_|refine W_goto ?_|refine W_label ?_|refine W_cond_t rfl ?_|refine W_cond_f rfl ?_|(refine W_cond rfl (fun hc => ?_) (fun hc => ?_) <;> (try simp only [HCl] at hc) <;> (try (exfalso;omega))))
    refine ⟨_, _, rfl, rfl, ?_⟩; simp [Frz_tup, Frz_ag, Frzs_cons, Frzs_nil, Frz_d, Frz_e0, Frz_sl, sln, isSl, slOk, textS, h]
theorem rtext_fn (s : List UInt8) : Go.Gar.Fn Tryz.prog 27 [.s s] (.tup [.by (textS s).1, .i .i64 (textS s).2]) := by
  refine Fn_of_W eok Tryz.func27 rfl rfl (Nat.le_of_ble_eq_true rfl) ?_
  by_cases h : s.length > 255
  · have h1 : decide ((s.length : Int) > 255) = true := by simp; omega
    have nS := h1
    repeat' (first|((with_reducible refine sg ?_);first|with_reducible rfl|((with_reducible refine fitG ?_);first|kernel_rfl|rfl|(simp [fitT,fitF,nS];done))|with_reducible refine andT ?_ ?_|with_reducible exact Nat.beq_refl _|with_reducible exact fitsI_u8 _|((with_reducible refine decide_eq_true ?_);first|omega|(simp only [SZl,nS];omega))|decide|(simp [SZl,slc,allOneD,D.one,allOne,AV.one,nS];done)|(simp [SZl,nS];omega))|((with_reducible refine gWl ?_);first|(refine Wl_isMv rfl ?_;refine Xmv eok rfl rfl rfl rfl ?_)|refine Xq eok rfl rfl rfl rfl ?_ ?_|refine Xn [0,2,3,6] rfl ?_|refine Xw eok rfl rfl rfl rfl ?_ ?_)|refine W_seq ?_|refine W_region ?_|refine W_skip ?_|refine W_ret ?_|refine W_block ?_|refine W_exit ?_|refine W_cond_t rfl ?_|refine W_cond_f rfl ?_|(refine W_cond rfl (fun hc => ?_) (fun hc => ?_) <;> (try simp only [HCl] at hc) <;> (try (exfalso;omega))))
    refine ⟨_, _, rfl, rfl, ?_⟩; simp [Frz_tup, Frz_ag, Frzs_cons, Frzs_nil, Frz_d, Frz_e0, Frz_sl, sln, isSl, slOk, textS, h]
  · have h1 : decide ((s.length : Int) > 255) = false := by simp; omega
    have h2 : (s.length : Int) % 256 = s.length := by omega
    have nS := And.intro h1 h2
    repeat' (first|((with_reducible refine sg ?_);first|with_reducible rfl|((with_reducible refine fitG ?_);first|kernel_rfl|rfl|(simp [fitT,fitF,nS];done))|with_reducible refine andT ?_ ?_|with_reducible exact Nat.beq_refl _|with_reducible exact fitsI_u8 _|((with_reducible refine decide_eq_true ?_);first|omega|(simp only [SZl,nS];omega))|decide|(simp [SZl,slc,allOneD,D.one,allOne,AV.one,nS];done)|(simp [SZl,nS];omega))|((with_reducible refine gWl ?_);first|(refine Wl_isMv rfl ?_;refine Xmv eok rfl rfl rfl rfl ?_)|refine XaoL [10] eok rfl rfl rfl rfl rfl rfl ?_ ?_|refine Xq eok rfl rfl rfl rfl ?_ ?_|refine Xn [0,2,3,6] rfl ?_|refine Xw eok rfl rfl rfl rfl ?_ ?_)|refine W_seq ?_|refine W_region ?_|refine W_skip ?_|refine W_ret ?_|refine W_block ?_|refine W_exit ?_|refine W_cond_t rfl ?_|refine W_cond_f rfl ?_|(refine W_cond rfl (fun hc => ?_) (fun hc => ?_) <;> (try simp only [HCl] at hc) <;> (try (exfalso;omega))))
    refine ⟨_, _, rfl, rfl, ?_⟩; simp [Frz_tup, Frz_ag, Frzs_cons, Frzs_nil, Frz_d, Frz_e0, Frz_sl, sln, isSl, slOk, textS, h]

theorem own_fn (l : List UInt8) (h : l.length ≤ 140737488355328) : Go.Gar.Fn Tryz.prog 107 [.by l] (.by l) := by
  refine Fn_of_W eok Tryz.func107 rfl rfl (Nat.le_of_ble_eq_true rfl) ?_
  have nS := True.intro
  repeat' (first|((with_reducible refine sg ?_);first|with_reducible rfl|((with_reducible refine fitG ?_);first|kernel_rfl|rfl|(simp [fitT,fitF,nS];done))|with_reducible refine andT ?_ ?_|with_reducible exact Nat.beq_refl _|with_reducible exact fitsI_u8 _|((with_reducible refine decide_eq_true ?_);first|omega|(simp only [SZl,nS];omega))|decide|(simp [SZl,slc,allOneD,D.one,allOne,AV.one,nS];done)|(simp [SZl,nS];omega))|((with_reducible refine gWl ?_);first|(refine Wl_isMv rfl ?_;refine Xmv eok rfl rfl rfl rfl ?_)|refine Xq eok rfl rfl rfl rfl ?_ ?_|refine Xn [0,2] rfl ?_|refine Xw eok rfl rfl rfl rfl ?_ ?_)|refine W_seq ?_|refine W_region ?_|refine W_skip ?_|refine W_ret ?_|refine W_block ?_|refine W_exit ?_|refine W_cond_t rfl ?_|refine W_cond_f rfl ?_|(refine W_cond rfl (fun hc => ?_) (fun hc => ?_) <;> (try simp only [HCl] at hc) <;> (try (exfalso;omega))))
  refine ⟨_, _, rfl, rfl, ?_⟩
  simp [Frz]

def valB (l : List UInt8) : Nat := l.foldl (fun a d => a * 256 + d.toNat) 0
theorem valB_step (l : List UInt8) (k : Nat) (h : k < l.length) : valB (l.take (k + 1)) = valB (l.take k) * 256 + (l.getD k 0).toNat := by
  unfold valB
  rw [List.take_succ_eq_append_getElem h, List.getD_eq_getElem?_getD, List.getElem?_eq_getElem h, List.foldl_append]
  rfl
theorem valB_lt (l : List UInt8) : valB l < 256 ^ l.length := by
  have key : ∀ (l : List UInt8) (a k : Nat), a < 256 ^ k → l.foldl (fun a d => a * 256 + d.toNat) a < 256 ^ (k + l.length) := by
    intro l
    induction l with
    | nil => intro a k h; simpa using h
    | cons d r ih =>
      intro a k h
      have hd := d.toNat_lt
      have : a * 256 + d.toNat < 256 ^ (k + 1) := by rw [Nat.pow_succ]; omega
      have := ih _ (k + 1) this
      simp only [List.foldl_cons, List.length_cons]
      rwa [show k + (r.length + 1) = k + 1 + r.length by omega]
  have := key l 0 0 (by simp)
  rwa [Nat.zero_add] at this
/-- Take: the number, what stands behind, the error. -/
def takeS : List UInt8 → Nat × List UInt8 × Int
  | [] => (0, [], 11)
  | m :: r => if m.toNat > 6 then (0, [], 12) else if r.length < m.toNat then (0, [], 11) else
    if (m.toNat > 0 ∧ r.getD 0 0 = 0) ∨ valB (r.take m.toNat) > 1099511627776 then (0, [], 12) else (valB (r.take m.toNat), r.drop m.toNat, 0)
def takeD3 (x : Nat × List UInt8 × Int) : D := .tup [.i .i64 x.1, .by x.2.1, .i .i64 x.2.2]

theorem shl8 (a : Nat) (h : a < 36028797018963968) : IntKind.wrap .i64 ((a : Int) * 2 ^ min 8 64) = ((a * 256 : Nat) : Int) := by
  simp [IntKind.wrap, IntKind.bits, IntKind.signed]; omega
theorem or8 (a : Nat) (h : a < 36028797018963968) (d : UInt8) : bitsI .or .i64 ((a * 256 : Nat) : Int) (d.toNat : Int) = ((a * 256 + d.toNat : Nat) : Int) := by
  have hd := d.toNat_lt
  have e : (BitVec.ofInt 64 ((a * 256 : Nat) : Int) ||| BitVec.ofInt 64 (d.toNat : Int)).toNat = a * 256 + d.toNat := by
    rw [BitVec.ofInt_natCast, BitVec.ofInt_natCast, BitVec.toNat_or, BitVec.toNat_ofNat, BitVec.toNat_ofNat, Nat.mod_eq_of_lt (by omega), Nat.mod_eq_of_lt (by omega)]
    rw [show a * 256 = 2 ^ 8 * a by omega, Nat.two_pow_add_eq_or_of_lt hd]
  have e2 : bitsI .or .i64 ((a * 256 : Nat) : Int) (d.toNat : Int) = IntKind.wrap .i64 (BitVec.ofInt 64 ((a * 256 : Nat) : Int) ||| BitVec.ofInt 64 (d.toNat : Int)).toNat := rfl
  rw [e2, e]
  simp [IntKind.wrap, IntKind.bits, IntKind.signed]; omega

set_option maxHeartbeats 4000000 in
theorem take_fn (b : List UInt8) (hb : b.length < 70368744177664) : Go.Gar.Fn Tryz.prog 106 [.by b] (takeD3 (takeS b)) := by
  refine Fn_of_W eok Tryz.func106 rfl rfl (Nat.le_of_ble_eq_true rfl) ?_
  rcases b with _ | ⟨m, r⟩
  · have nS := True.intro
    repeat' (first|((with_reducible refine sg ?_);first|with_reducible rfl|((with_reducible refine fitG ?_);first|kernel_rfl|rfl|(simp [fitT,fitF,nS];done))|with_reducible refine andT ?_ ?_|with_reducible exact Nat.beq_refl _|with_reducible exact fitsI_u8 _|((with_reducible refine decide_eq_true ?_);first|omega|(simp only [SZl,nS];omega))|decide|(simp [SZl,slc,allOneD,D.one,allOne,AV.one,nS];done)|(simp [SZl,nS];omega))|((with_reducible refine gWl ?_);first|(refine Wl_isMv rfl ?_;refine Xmv eok rfl rfl rfl rfl ?_)|refine Xq eok rfl rfl rfl rfl ?_ ?_|refine Xn [0,2,3,4,5,7,10,16,21,25,26,27,28,48] rfl ?_|refine Xs rfl rfl rfl ?_|(refine Xsplit rfl rfl (fun hc => ?_) (fun hc => ?_) <;> (fail_if_success (with_reducible first|exact tF hc|exact fT hc)) <;> (try simp only [HCl] at hc) <;> (try (exfalso;omega))))|((with_reducible refine gWd ?_);first|(refine Wd_isMv rfl ?_;refine Ymv eok rfl rfl (fun _ => rfl) rfl rfl ?_)|refine Yp eok rfl rfl (fun _ => rfl) rfl rfl ?_ ?_|refine Yq rfl rfl rfl rfl rfl ?_ ?_|refine Ys rfl rfl rfl rfl ?_|refine Ya eok rfl rfl rfl rfl rfl rfl ?_ ?_|refine Yw eok rfl rfl rfl rfl rfl ?_ ?_|refine Yn [0,2,3,4,5,7,10,16,21,25,26,27,28,48] [] mixed eok (by kernel_rfl) True.intro rfl ?_|(refine Ysplit rfl rfl (fun hc => ?_) (fun hc => ?_) <;> (fail_if_success (with_reducible first|exact tF hc|exact fT hc)) <;> (try simp only [HCl] at hc) <;> (try (exfalso;omega))))|refine W_seq ?_|refine W_region ?_|refine W_any T.get ?_|refine W_skip ?_|refine W_ret ?_|refine W_block ?_|refine W_exit ?_|refine W_scope 3 ?_|refine W_goto ?_|refine W_label ?_|refine W_cond_t rfl ?_|refine W_cond_f rfl ?_|(refine W_cond rfl (fun hc => ?_) (fun hc => ?_) <;> (try simp only [HCl] at hc) <;> (try (exfalso;omega))))
    refine ⟨_, _, rfl, rfl, ?_⟩; simp [Frz_tup, Frz_ag, Frzs_cons, Frzs_nil, Frz_d, Frz_e0, Frz_sl, sln, isSl, slOk, takeS, takeD3]
  have hm := m.toNat_lt
  simp only [List.length_cons] at hb
  by_cases h6 : m.toNat > 6
  · have nS := True.intro
    repeat' (first|((with_reducible refine sg ?_);first|with_reducible rfl|((with_reducible refine fitG ?_);first|kernel_rfl|rfl|(simp [fitT,fitF,nS];done))|with_reducible refine andT ?_ ?_|with_reducible exact Nat.beq_refl _|with_reducible exact fitsI_u8 _|((with_reducible refine decide_eq_true ?_);first|omega|(simp only [SZl,nS];omega))|decide|(simp [SZl,slc,allOneD,D.one,allOne,AV.one,nS];done)|(simp [SZl,nS];omega))|((with_reducible refine gWl ?_);first|(refine Wl_isMv rfl ?_;refine Xmv eok rfl rfl rfl rfl ?_)|refine Xq eok rfl rfl rfl rfl ?_ ?_|refine Xn [0,2,3,4,5,7,10,16,21,25,26,27,28,48] rfl ?_|refine Xs rfl rfl rfl ?_|(refine Xsplit rfl rfl (fun hc => ?_) (fun hc => ?_) <;> (fail_if_success (with_reducible first|exact tF hc|exact fT hc)) <;> (try simp only [HCl] at hc) <;> (try (exfalso;omega))))|((with_reducible refine gWd ?_);first|(refine Wd_isMv rfl ?_;refine Ymv eok rfl rfl (fun _ => rfl) rfl rfl ?_)|refine Yp eok rfl rfl (fun _ => rfl) rfl rfl ?_ ?_|refine Yq rfl rfl rfl rfl rfl ?_ ?_|refine Ys rfl rfl rfl rfl ?_|refine Ya eok rfl rfl rfl rfl rfl rfl ?_ ?_|refine Yw eok rfl rfl rfl rfl rfl ?_ ?_|refine Yn [0,2,3,4,5,7,10,16,21,25,26,27,28,48] [] mixed eok (by kernel_rfl) True.intro rfl ?_|(refine Ysplit rfl rfl (fun hc => ?_) (fun hc => ?_) <;> (fail_if_success (with_reducible first|exact tF hc|exact fT hc)) <;> (try simp only [HCl] at hc) <;> (try (exfalso;omega))))|refine W_seq ?_|refine W_region ?_|refine W_any T.get ?_|refine W_skip ?_|refine W_ret ?_|refine W_block ?_|refine W_exit ?_|refine W_scope 3 ?_|refine W_goto ?_|refine W_label ?_|refine W_cond_t rfl ?_|refine W_cond_f rfl ?_|(refine W_cond rfl (fun hc => ?_) (fun hc => ?_) <;> (try simp only [HCl] at hc) <;> (try (exfalso;omega))))
    refine ⟨_, _, rfl, rfl, ?_⟩; simp [Frz_tup, Frz_ag, Frzs_cons, Frzs_nil, Frz_d, Frz_e0, Frz_sl, sln, isSl, slOk, takeS, takeD3, h6]
  by_cases hr : r.length < m.toNat
  · have nS := True.intro
    repeat' (first|((with_reducible refine sg ?_);first|with_reducible rfl|((with_reducible refine fitG ?_);first|kernel_rfl|rfl|(simp [fitT,fitF,nS];done))|with_reducible refine andT ?_ ?_|with_reducible exact Nat.beq_refl _|with_reducible exact fitsI_u8 _|((with_reducible refine decide_eq_true ?_);first|omega|(simp only [SZl,nS];omega))|decide|(simp [SZl,slc,allOneD,D.one,allOne,AV.one,nS];done)|(simp [SZl,nS];omega))|((with_reducible refine gWl ?_);first|(refine Wl_isMv rfl ?_;refine Xmv eok rfl rfl rfl rfl ?_)|refine Xq eok rfl rfl rfl rfl ?_ ?_|refine Xn [0,2,3,4,5,7,10,16,21,25,26,27,28,48] rfl ?_|refine Xs rfl rfl rfl ?_|(refine Xsplit rfl rfl (fun hc => ?_) (fun hc => ?_) <;> (fail_if_success (with_reducible first|exact tF hc|exact fT hc)) <;> (try simp only [HCl] at hc) <;> (try (exfalso;omega))))|((with_reducible refine gWd ?_);first|(refine Wd_isMv rfl ?_;refine Ymv eok rfl rfl (fun _ => rfl) rfl rfl ?_)|refine Yp eok rfl rfl (fun _ => rfl) rfl rfl ?_ ?_|refine Yq rfl rfl rfl rfl rfl ?_ ?_|refine Ys rfl rfl rfl rfl ?_|refine Ya eok rfl rfl rfl rfl rfl rfl ?_ ?_|refine Yw eok rfl rfl rfl rfl rfl ?_ ?_|refine Yn [0,2,3,4,5,7,10,16,21,25,26,27,28,48] [] mixed eok (by kernel_rfl) True.intro rfl ?_|(refine Ysplit rfl rfl (fun hc => ?_) (fun hc => ?_) <;> (fail_if_success (with_reducible first|exact tF hc|exact fT hc)) <;> (try simp only [HCl] at hc) <;> (try (exfalso;omega))))|refine W_seq ?_|refine W_region ?_|refine W_any T.get ?_|refine W_skip ?_|refine W_ret ?_|refine W_block ?_|refine W_exit ?_|refine W_scope 3 ?_|refine W_goto ?_|refine W_label ?_|refine W_cond_t rfl ?_|refine W_cond_f rfl ?_|(refine W_cond rfl (fun hc => ?_) (fun hc => ?_) <;> (try simp only [HCl] at hc) <;> (try (exfalso;omega))))
    refine ⟨_, _, rfl, rfl, ?_⟩; simp [Frz_tup, Frz_ag, Frzs_cons, Frzs_nil, Frz_d, Frz_e0, Frz_sl, sln, isSl, slOk, takeS, takeD3, h6, hr]
  have h3 : List.drop 1 (List.take (1 + (m.toNat : Int)).toNat (m :: r)) = r.take m.toNat := by
    rw [show (1 + (m.toNat : Int)).toNat = m.toNat + 1 by omega]; simp
  have h4 : (r.take m.toNat).length = m.toNat := by simp; omega
  have nS := And.intro h3 h4
  repeat' (first|((with_reducible refine sg ?_);first|with_reducible rfl|((with_reducible refine fitG ?_);first|kernel_rfl|rfl|(simp [fitT,fitF,nS];done))|with_reducible refine andT ?_ ?_|with_reducible exact Nat.beq_refl _|with_reducible exact fitsI_u8 _|((with_reducible refine decide_eq_true ?_);first|omega|(simp only [SZl,nS];omega))|decide|(simp [SZl,slc,allOneD,D.one,allOne,AV.one,nS];done)|(simp [SZl,nS];omega))|((with_reducible refine gWl ?_);first|(refine Wl_isMv rfl ?_;refine Xmv eok rfl rfl rfl rfl ?_)|refine Xq eok rfl rfl rfl rfl ?_ ?_|refine Xn [0,2,3,4,5,7,10,16,21,25,26,27,28,48] rfl ?_|refine Xs rfl rfl rfl ?_|(refine Xsplit rfl rfl (fun hc => ?_) (fun hc => ?_) <;> (fail_if_success (with_reducible first|exact tF hc|exact fT hc)) <;> (try simp only [HCl] at hc) <;> (try (exfalso;omega))))|((with_reducible refine gWd ?_);first|(refine Wd_isMv rfl ?_;refine Ymv eok rfl rfl (fun _ => rfl) rfl rfl ?_)|refine Yp eok rfl rfl (fun _ => rfl) rfl rfl ?_ ?_|refine Yq rfl rfl rfl rfl rfl ?_ ?_|refine Ys rfl rfl rfl rfl ?_|refine Ya eok rfl rfl rfl rfl rfl rfl ?_ ?_|refine Yw eok rfl rfl rfl rfl rfl ?_ ?_|refine Yn [0,2,3,4,5,7,10,16,21,25,26,27,28,48] [] mixed eok (by kernel_rfl) True.intro rfl ?_|(refine Ysplit rfl rfl (fun hc => ?_) (fun hc => ?_) <;> (fail_if_success (with_reducible first|exact tF hc|exact fT hc)) <;> (try simp only [HCl] at hc) <;> (try (exfalso;omega))))|refine W_seq ?_|refine W_region ?_|refine W_any T.get ?_|refine W_skip ?_|refine W_ret ?_|refine W_block ?_|refine W_exit ?_|refine W_scope 3 ?_|refine W_goto ?_|refine W_label ?_|refine W_cond_t rfl ?_|refine W_cond_f rfl ?_|(refine W_cond rfl (fun hc => ?_) (fun hc => ?_) <;> (try simp only [HCl] at hc) <;> (try (exfalso;omega))))
  have hlt : ∀ k, k ≤ m.toNat → valB (r.take k) < 281474976710656 := by
    intro k hk
    have := valB_lt (r.take k)
    have h6' : (r.take k).length ≤ 6 := by simp; omega
    have : 256 ^ (r.take k).length ≤ 256 ^ 6 := Nat.pow_le_pow_right (by decide) h6'
    omega
  refine W_loopI (fun k => k ≤ m.toNat) (fun k : Nat => ⟨[(0, .d (.by (m :: r))), (2, .d (.i .i64 (valB (r.take k) : Nat))), (3, .e0), (4, .d (.i .i64 0)), (5, .d (.i .i64 m.toNat)), (25, .d (.by (r.take m.toNat))), (26, .d (.i .i64 m.toNat)), (27, .d (.i .i64 k))], [], 54⟩) (fun k => m.toNat - k) 0 (Nat.zero_le _) ?_ (Nat.le_refl _) ?_
  · exact TSub.cut rfl (by repeat' (first | exact True.intro | refine And.intro (by (first | rfl | ((with_reducible_and_instances refine congrArg (fun z => some (AV.d (D.i _ z))) ?_); omega) | (refine congrArg (fun z => some (AV.d (D.i _ z))) (?_ : (_ : Int) = _); omega) | (refine congrArg some ?_; simp; done))) ?_)) (by repeat' (first | exact True.intro | refine And.intro (Or.inr rfl) ?_ | refine And.intro (Or.inl ⟨rfl, rfl⟩) ?_ | refine And.intro (Or.inr (by simp)) ?_)) (by first | rfl | (simp (decide := true) [heapOk, Blk.ok, AV.oks, AV.ok, hk]; done)) rfl
  intro k hk
  by_cases hkm : k < m.toNat
  · have e1 := shl8 (valB (r.take k)) (by have := hlt k hk; omega)
    have e2 := or8 (valB (r.take k)) (by have := hlt k hk; omega) ((r.take m.toNat).getD k 0)
    have e3 : valB (r.take k) * 256 + ((r.take m.toNat).getD k 0).toNat = valB (r.take (k + 1)) := by
      have := valB_step (r.take m.toNat) k (by omega)
      rw [List.take_take, List.take_take, Nat.min_eq_left (by omega), Nat.min_eq_left (by omega)] at this
      exact this.symm
    have nS := And.intro e1 (And.intro e2 e3)
    repeat' (first|((with_reducible refine sg ?_);first|with_reducible rfl|((with_reducible refine fitG ?_);first|kernel_rfl|rfl|(simp [fitT,fitF,nS];done))|with_reducible refine andT ?_ ?_|with_reducible exact Nat.beq_refl _|with_reducible exact fitsI_u8 _|((with_reducible refine decide_eq_true ?_);first|omega|(simp only [SZl,nS];omega))|decide|(simp [SZl,slc,allOneD,D.one,allOne,AV.one,nS];done)|(simp [SZl,nS];omega))|((with_reducible refine gWl ?_);first|(refine Wl_isMv rfl ?_;refine Xmv eok rfl rfl rfl rfl ?_)|refine Xq eok rfl rfl rfl rfl ?_ ?_|refine Xn [0,2,3,4,5,7,10,16,21,25,26,27,28,48] rfl ?_|refine Xs rfl rfl rfl ?_|(refine Xsplit rfl rfl (fun hc => ?_) (fun hc => ?_) <;> (fail_if_success (with_reducible first|exact tF hc|exact fT hc)) <;> (try simp only [HCl] at hc) <;> (try (exfalso;omega))))|((with_reducible refine gWd ?_);first|(refine Wd_isMv rfl ?_;refine Ymv eok rfl rfl (fun _ => rfl) rfl rfl ?_)|refine Yp eok rfl rfl (fun _ => rfl) rfl rfl ?_ ?_|refine Yq rfl rfl rfl rfl rfl ?_ ?_|refine Ys rfl rfl rfl rfl ?_|refine Ya eok rfl rfl rfl rfl rfl rfl ?_ ?_|refine Yw eok rfl rfl rfl rfl rfl ?_ ?_|refine Yn [0,2,3,4,5,7,10,16,21,25,26,27,28,48] [] mixed eok (by kernel_rfl) True.intro rfl ?_|(refine Ysplit rfl rfl (fun hc => ?_) (fun hc => ?_) <;> (fail_if_success (with_reducible first|exact tF hc|exact fT hc)) <;> (try simp only [HCl] at hc) <;> (try (exfalso;omega))))|refine W_seq ?_|refine W_region ?_|refine W_any T.get ?_|refine W_skip ?_|refine W_ret ?_|refine W_block ?_|refine W_exit ?_|refine W_scope 3 ?_|refine W_goto ?_|refine W_label ?_|refine W_cond_t rfl ?_|refine W_cond_f rfl ?_|(refine W_cond rfl (fun hc => ?_) (fun hc => ?_) <;> (try simp only [HCl] at hc) <;> (try (exfalso;omega))))
    refine ⟨k + 1, hkm, by omega, Nat.le_refl _, ?_⟩
    exact TSub.cut rfl (by repeat' (first | exact True.intro | refine And.intro (by (first | rfl | ((with_reducible_and_instances refine congrArg (fun z => some (AV.d (D.i _ z))) ?_); omega) | (refine congrArg (fun z => some (AV.d (D.i _ z))) (?_ : (_ : Int) = _); omega) | (refine congrArg some ?_; simp; done))) ?_)) (by repeat' (first | exact True.intro | refine And.intro (Or.inr rfl) ?_ | refine And.intro (Or.inl ⟨rfl, rfl⟩) ?_ | refine And.intro (Or.inr (by simp)) ?_)) (by first | rfl | (simp (decide := true) [heapOk, Blk.ok, AV.oks, AV.ok, hk]; done)) rfl
  · have hkm' : k = m.toNat := by omega
    subst hkm'
    by_cases hP : (m.toNat > 0 ∧ r.getD 0 0 = 0) ∨ valB (r.take m.toNat) > 1099511627776
    · have hT : takeS (m :: r) = (0, [], 12) := by simp only [takeS, if_neg h6, if_neg hr, if_pos hP]
      rw [hT]
      have nS := True.intro
      repeat' (first|((with_reducible refine sg ?_);first|with_reducible rfl|((with_reducible refine fitG ?_);first|kernel_rfl|rfl|(simp [fitT,fitF,nS];done))|with_reducible refine andT ?_ ?_|with_reducible exact Nat.beq_refl _|with_reducible exact fitsI_u8 _|((with_reducible refine decide_eq_true ?_);first|omega|(simp only [SZl,nS];omega))|decide|(simp [SZl,slc,allOneD,D.one,allOne,AV.one,nS];done)|(simp [SZl,nS];omega))|((with_reducible refine gWl ?_);first|(refine Wl_isMv rfl ?_;refine Xmv eok rfl rfl rfl rfl ?_)|refine Xq eok rfl rfl rfl rfl ?_ ?_|refine Xn [0,2,3,4,5,7,10,16,21,25,26,27,28,48] rfl ?_|refine Xs rfl rfl rfl ?_|(refine Xsplit rfl rfl (fun hc => ?_) (fun hc => ?_) <;> (fail_if_success (with_reducible first|exact tF hc|exact fT hc)) <;> (try simp only [HCl] at hc) <;> (try (exfalso;omega))))|((with_reducible refine gWd ?_);first|(refine Wd_isMv rfl ?_;refine Ymv eok rfl rfl (fun _ => rfl) rfl rfl ?_)|refine Yp eok rfl rfl (fun _ => rfl) rfl rfl ?_ ?_|refine Yq rfl rfl rfl rfl rfl ?_ ?_|refine Ys rfl rfl rfl rfl ?_|refine Ya eok rfl rfl rfl rfl rfl rfl ?_ ?_|refine Yw eok rfl rfl rfl rfl rfl ?_ ?_|refine Yn [0,2,3,4,5,7,10,16,21,25,26,27,28,48] [] mixed eok (by kernel_rfl) True.intro rfl ?_|(refine Ysplit rfl rfl (fun hc => ?_) (fun hc => ?_) <;> (fail_if_success (with_reducible first|exact tF hc|exact fT hc)) <;> (try simp only [HCl] at hc) <;> (try (exfalso;omega))))|refine W_seq ?_|refine W_region ?_|refine W_any T.get ?_|refine W_skip ?_|refine W_ret ?_|refine W_block ?_|refine W_exit ?_|refine W_scope 3 ?_|refine W_goto ?_|refine W_label ?_|refine W_cond_t rfl ?_|refine W_cond_f rfl ?_|(refine W_cond rfl (fun hc => ?_) (fun hc => ?_) <;> (try simp only [HCl] at hc) <;> (try (exfalso;omega))))
      all_goals first
        | (refine ⟨_, _, rfl, rfl, ?_⟩; simp [Frz_tup, Frz_ag, Frzs_cons, Frzs_nil, Frz_d, Frz_e0, Frz_sl, sln, isSl, slOk, takeD3]; done)
        | (exfalso; rcases hP with ⟨h, h'⟩ | h <;> first | omega | (have h' := congrArg UInt8.toNat h'; simp only [UInt8.toNat_zero] at h'; omega))
    · have hT : takeS (m :: r) = (valB (r.take m.toNat), r.drop m.toNat, 0) := by simp only [takeS, if_neg h6, if_neg hr, if_neg hP]
      rw [hT]
      have e5 : (1 + (m.toNat : Int)).toNat = m.toNat + 1 := by omega
      have nS := e5
      repeat' (first|((with_reducible refine sg ?_);first|with_reducible rfl|((with_reducible refine fitG ?_);first|kernel_rfl|rfl|(simp [fitT,fitF,nS];done))|with_reducible refine andT ?_ ?_|with_reducible exact Nat.beq_refl _|with_reducible exact fitsI_u8 _|((with_reducible refine decide_eq_true ?_);first|omega|(simp only [SZl,nS];omega))|decide|(simp [SZl,slc,allOneD,D.one,allOne,AV.one,nS];done)|(simp [SZl,nS];omega))|((with_reducible refine gWl ?_);first|(refine Wl_isMv rfl ?_;refine Xmv eok rfl rfl rfl rfl ?_)|refine Xq eok rfl rfl rfl rfl ?_ ?_|refine Xn [0,2,3,4,5,7,10,16,21,25,26,27,28,48] rfl ?_|refine Xs rfl rfl rfl ?_|(refine Xsplit rfl rfl (fun hc => ?_) (fun hc => ?_) <;> (fail_if_success (with_reducible first|exact tF hc|exact fT hc)) <;> (try simp only [HCl] at hc) <;> (try (exfalso;omega))))|((with_reducible refine gWd ?_);first|(refine Wd_isMv rfl ?_;refine Ymv eok rfl rfl (fun _ => rfl) rfl rfl ?_)|refine Yp eok rfl rfl (fun _ => rfl) rfl rfl ?_ ?_|refine Yq rfl rfl rfl rfl rfl ?_ ?_|refine Ys rfl rfl rfl rfl ?_|refine Ya eok rfl rfl rfl rfl rfl rfl ?_ ?_|refine Yw eok rfl rfl rfl rfl rfl ?_ ?_|refine Yn [0,2,3,4,5,7,10,16,21,25,26,27,28,48] [] mixed eok (by kernel_rfl) True.intro rfl ?_|(refine Ysplit rfl rfl (fun hc => ?_) (fun hc => ?_) <;> (fail_if_success (with_reducible first|exact tF hc|exact fT hc)) <;> (try simp only [HCl] at hc) <;> (try (exfalso;omega))))|refine W_seq ?_|refine W_region ?_|refine W_any T.get ?_|refine W_skip ?_|refine W_ret ?_|refine W_block ?_|refine W_exit ?_|refine W_scope 3 ?_|refine W_goto ?_|refine W_label ?_|refine W_cond_t rfl ?_|refine W_cond_f rfl ?_|(refine W_cond rfl (fun hc => ?_) (fun hc => ?_) <;> (try simp only [HCl] at hc) <;> (try (exfalso;omega))))
      all_goals first
        | (refine ⟨_, _, rfl, rfl, ?_⟩; simp [Frz_tup, Frz_ag, Frzs_cons, Frzs_nil, Frz_d, Frz_e0, Frz_sl, sln, isSl, slOk, takeD3]; done)
        | (exfalso; exact hP (.inl ⟨by omega, u8z (by omega)⟩))
        | (exfalso; exact hP (.inr (by omega)))
end Go.Proofs.YtbpemnmpcljbpaaGreat
