/- Written by a program (pre.py) from the source of the same name. -/
/- Messages: the program's way is the document's. -/
import Derived.Test.YtbpemnmpcljbpaaGreatWireN
import Derived.Test.YtbpemnmpcljbpaaGreatFwE
set_option linter.unusedSimpArgs false
set_option linter.unusedVariables false
set_option linter.unnecessarySimpa false
namespace Go.Proofs.YtbpemnmpcljbpaaGreat
namespace Wi
open Go.Gar
set_option maxRecDepth 4000

theorem okList_eq (s : Int) (l : List Int) : okList l s = ((decide ((l.length : Int) ≤ 3) && apartB s l) && l.all plB) := by
  have h1 : okRow s l = (l.all plB && l.all (fun p => decide (p ≠ s))) := by
    unfold okRow
    induction l with
    | nil => rfl
    | cons x r ih => simp only [List.all_cons, ih]; cases plB x <;> cases decide (x ≠ s) <;> simp
  have h2 : decide ((l.length : Int) ≤ 3) = decide (l.length ≤ 3) := by congr 1; simp; omega
  unfold okList apartB
  rw [h1, h2]
  cases l.all plB <;> cases l.all (fun p => decide (p ≠ s)) <;> cases decide l.Nodup <;> cases decide (l.length ≤ 3) <;> rfl
theorem okR_eq (m : Msg) : (decide (1 ≤ m.kind) && decide (m.kind < 13) && m.holds && m.okPlaces && (decide (m.src ≠ m.dst) && (decide (m.call > m.asker * 1048576) && decide (m.call ≤ (m.asker + 1) * 1048576)) && decide (m.beside = zeroM))) = m.right := by
  have hc : (decide (m.call > m.asker * 1048576) && decide (m.call ≤ (m.asker + 1) * 1048576)) = (decide (m.asker * 1048576 + 1 ≤ m.call) && decide (m.call < m.asker * 1048576 + 1 + 1048576)) := by
    have e1 : (m.call > m.asker * 1048576) = (m.asker * 1048576 + 1 ≤ m.call) := propext (by omega)
    have e2 : (m.call ≤ (m.asker + 1) * 1048576) = (m.call < m.asker * 1048576 + 1 + 1048576) := propext (by omega)
    simp only [e1, e2]
  have key : (m.holds && m.okPlaces && decide (m.beside = zeroM)) = (plB m.src && plB m.dst && (decide (m.bare = m.empty) && m.has)) := by
    obtain ⟨k, c, s, d, ky, sl, dn, pl, pr, l, ⟨ik, iv, ir, ig⟩, co⟩ := m
    clear hc
    simp only [Msg.holds, Msg.okPlaces, Msg.has, Msg.bare, Msg.beside, Msg.empty, zeroM, zeroI]
    cases plB s with
    | false => simp
    | true =>
    cases plB d with
    | false => simp
    | true =>
    simp only [Bool.true_and]
    by_cases h4 : k = 4
    · subst h4; simp; grind
    by_cases h5 : k = 5
    · subst h5; simp; grind
    by_cases h6 : k = 6
    · subst h6; simp; grind [itOK, isVal]
    by_cases h7 : k = 7
    · subst h7; simp [okList_eq]; grind
    by_cases h10 : k = 10
    · subst h10; simp; grind
    by_cases h11 : k = 11
    · subst h11; simp; grind
    by_cases h12 : k = 12
    · subst h12; simp; grind
    simp [*]
  rw [hc]
  unfold Msg.right Msg.headOK
  revert key
  cases m.holds <;> cases m.okPlaces <;> cases decide (m.beside = zeroM) <;> cases plB m.src <;> cases plB m.dst <;> cases (decide (m.bare = m.empty) && m.has) <;> simp [Bool.and_assoc]
theorem Right_fn (m : Msg) (hl : m.list.length < 9223372036854775807) : Go.Gar.Fn Tryz.prog 20 [m.d] (.b m.right) := by
  rw [← okR_eq]; exact Right_fn0 m hl
end Wi
end Go.Proofs.YtbpemnmpcljbpaaGreat
