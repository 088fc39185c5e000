/- Written by a program (pre.py) from the source of the same name. -/
/- Bags: the law of counts. -/
import Derived.Test.YtgnddlldcglpfaaBagD
set_option linter.unusedSimpArgs false
set_option linter.unusedVariables false
set_option linter.unnecessarySimpa false
namespace Go.Proofs.Ytgnddlldcglpfaa
open Go.Gar
set_option maxRecDepth 4000

structure Deed where
  what : Int
  at_ : Int
  i : Int
  by_ : Int
  g : Gram
def Deed.cells (d : Deed) : List D := [.i .i64 d.what, .i .i64 d.at_, .i .i64 d.i, .i .u8 d.by_, .i .i64 d.g.to, .by d.g.by_, .b d.g.harmed]
abbrev deedsD (l : List Deed) : D := .sl 7 (l.map Deed.cells)

/-- What is on its way, was taken, is lost, after so many deeds. -/
structure Inv (b : Bag) (s t : Int) (k : Nat) : Prop where
  sum : s = b.grams.length + t + b.lost
  len : b.grams.length ≤ k
  t0 : 0 ≤ t
  t1 : t ≤ k
  l0 : 0 ≤ b.lost
  l1 : b.lost ≤ k
  sm : ∀ g ∈ b.grams, g.by_.length ≤ 120
theorem Inv.small {b : Bag} {s t : Int} {k : Nat} (h : Inv b s t k) : small b.grams := fun g hg => by have := h.sm g hg; omega
theorem Inv.mono {b : Bag} {s t : Int} {k : Nat} (h : Inv b s t k) : Inv b s t (k + 1) :=
  ⟨h.sum, by have := h.len; omega, h.t0, by have := h.t1; omega, h.l0, by have := h.l1; omega, h.sm⟩
theorem Inv.step {b : Bag} {s t : Int} {k : Nat} (h : Inv b s t k) (hk : k ≤ 60) (g : Gram) : Inv (step b g) (s + 1) t (k + 1) := by
  obtain ⟨h1, h2, h3, h4, h5, h6, h7⟩ := h
  unfold Proofs.Ytgnddlldcglpfaa.step
  split
  · rename_i hc
    refine ⟨by simp; omega, by simp; omega, h3, by omega, h5, by show b.lost ≤ _; omega, ?_⟩
    intro x hx
    rcases List.mem_append.1 hx with hx | hx
    · exact h7 x hx
    · simp at hx; subst hx; exact hc.2
  · have hw : IntKind.wrap .i64 (b.lost + 1) = b.lost + 1 := by rw [IntKind.wrap_i64]; omega
    rw [hw]
    refine ⟨?_, ?_, h3, by omega, ?_, ?_, h7⟩
    · show _ = (b.grams.length : Int) + t + (b.lost + 1); omega
    · show b.grams.length ≤ _; omega
    · show (0 : Int) ≤ b.lost + 1; omega
    · show b.lost + 1 ≤ _; omega
theorem Inv.take {b : Bag} {s t : Int} {k : Nat} (h : Inv b s t k) {a : Nat} (ha : a < b.grams.length) : Inv ⟨b.grams.eraseIdx a, b.lost⟩ s (t + 1) (k + 1) := by
  obtain ⟨h1, h2, h3, h4, h5, h6, h7⟩ := h
  have hE : (b.grams.eraseIdx a).length = b.grams.length - 1 := List.length_eraseIdx_of_lt ha
  refine ⟨?_, ?_, by omega, by omega, h5, by show b.lost ≤ _; omega, fun g hg => h7 g (List.mem_of_mem_eraseIdx hg)⟩
  · show s = ((b.grams.eraseIdx a).length : Int) + (t + 1) + b.lost; omega
  · show (b.grams.eraseIdx a).length ≤ _; omega
theorem Inv.drop {b : Bag} {s t : Int} {k : Nat} (h : Inv b s t k) (hk : k ≤ 60) {a : Nat} (ha : a < b.grams.length) : Inv ⟨b.grams.eraseIdx a, IntKind.wrap .i64 (b.lost + 1)⟩ s t (k + 1) := by
  obtain ⟨h1, h2, h3, h4, h5, h6, h7⟩ := h
  have hE : (b.grams.eraseIdx a).length = b.grams.length - 1 := List.length_eraseIdx_of_lt ha
  have hw : IntKind.wrap .i64 (b.lost + 1) = b.lost + 1 := by rw [IntKind.wrap_i64]; omega
  rw [hw]
  refine ⟨?_, ?_, by omega, by omega, ?_, ?_, fun g hg => h7 g (List.mem_of_mem_eraseIdx hg)⟩
  · show s = ((b.grams.eraseIdx a).length : Int) + t + (b.lost + 1); omega
  · show (b.grams.eraseIdx a).length ≤ _; omega
  · show (0 : Int) ≤ b.lost + 1; omega
  · show b.lost + 1 ≤ _; omega
theorem Inv.harm {b : Bag} {s t : Int} {k : Nat} (h : Inv b s t k) {a i : Nat} {m : Int} {x : Gram} (hx : b.grams[a]? = some x) : Inv ⟨b.grams.set a (harmG x i m), b.lost⟩ s t (k + 1) := by
  obtain ⟨h1, h2, h3, h4, h5, h6, h7⟩ := h
  refine ⟨?_, ?_, by omega, by omega, h5, by show b.lost ≤ _; omega, ?_⟩
  · show s = ((b.grams.set a (harmG x i m)).length : Int) + t + b.lost
    rw [List.length_set]; exact h1
  · show (b.grams.set a (harmG x i m)).length ≤ _
    rw [List.length_set]; omega
  · intro g hg
    rcases List.mem_or_eq_of_mem_set hg with hg | hg
    · exact h7 g hg
    · subst hg
      show (harmB x.by_ i m).length ≤ 120
      rw [harmB_len]; exact h7 x (List.mem_of_getElem? hx)
end Go.Proofs.Ytgnddlldcglpfaa
