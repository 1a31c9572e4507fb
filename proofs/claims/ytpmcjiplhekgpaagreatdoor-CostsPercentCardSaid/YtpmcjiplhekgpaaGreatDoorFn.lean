/-
  what the functions of the statement give.
-/
import Derived.Test.YtpmcjiplhekgpaaGreatDoorGen
import Derived.Test.YtpmcjiplhekgpaaGreatDoorIsoP7
set_option linter.unusedSimpArgs false
set_option linter.unusedVariables false

section
namespace Go.Iso
end Go.Iso
namespace Go.Iso.Gen
open Go.Iso
set_option maxHeartbeats 4000000
set_option maxRecDepth 10000

theorem costsPercent_run {n p : Int} (hn : -9223372036854775808 ≤ n ∧ n ≤ 9223372036854775807) (hp : -9223372036854775808 ≤ p ∧ p ≤ 9223372036854775807) {H : Heap} (ht : Tabs tabs H) : W E0 H.n (.call 4 [.int .i64 n, .int .i64 p]) H (fun o _ => o = .val (.bool true)) := by
  rw [c4]
  have bad : (n < 0 ∨ n > 1000000000 ∨ p < 0 ∨ p > 1000) → ∀ b1 b2 b3 b4 : Bool, decide (n < 0) = b1 → decide (n > 1000000000) = b2 → decide (p < 0) = b3 → decide (p > 1000) = b4 → (b1 || b2 || b3 || b4) = true →
      W E0 H.n (.code F4b none ⟨[.int .i64 n, .int .i64 p] ++ undefs (F4.ntmps - [IV.int .i64 n, IV.int .i64 p].length), []⟩) H (retC H.n F4.results fun o _ => o = .val (.bool true)) := by
    intro _ b1 b2 b3 b4 e1 e2 e3 e4 e5
    cases b1 <;> cases b2 <;> cases b3 <;> cases b4
    all_goals
      first
        | (simp at e5; done)
        | (simp (disch := omega) only [BAS, ↓BPR, reduceIte, reduceCtorEq, seval, -List.reduceReplicate, fpOf, freeNext, opW, binI, ev1, Heap.write, setAll, unI, eqKs, eqK, fillI, B4, B12, c12, e1, e2, e3, e4]
           refine c13 ht ?_
           simp (disch := omega) only [BAS, ↓BPR, reduceIte, reduceCtorEq, seval, -List.reduceReplicate, fpOf, freeNext, opW, binI, ev1, Heap.write, setAll, unI, eqKs, eqK, fillI, B4])
  by_cases h : n < 0 ∨ n > 1000000000 ∨ p < 0 ∨ p > 1000
  · refine bad h _ _ _ _ rfl rfl rfl rfl ?_
    simp only [Bool.or_eq_true, decide_eq_true_eq]
    omega
  · have h1 : ¬ n < 0 := by omega
    have h2 : ¬ n > 1000000000 := by omega
    have h3 : ¬ p < 0 := by omega
    have h4 : ¬ p > 1000 := by omega
    have m1 : 0 ≤ n * p := Int.mul_nonneg (by omega) (by omega)
    have m2 : n * p ≤ 1000000000 * 1000 := Int.mul_le_mul (by omega) (by omega) (by omega) (by omega)
    obtain ⟨m, hm⟩ : ∃ m, m = n * p := ⟨_, rfl⟩
    rw [← hm] at m1 m2
    obtain ⟨q, hq⟩ : ∃ q, q = (m + 99).tdiv 100 := ⟨_, rfl⟩
    have q1 : q = (m + 99) / 100 := by rw [hq, Int.tdiv_eq_ediv_of_nonneg (by omega)]
    have q2 : 100 * q ≥ m := by omega
    have q3 : 100 * q < m + 100 := by omega
    simp (disch := omega) only [BAS, ↓BPR, reduceIte, reduceCtorEq, seval, -List.reduceReplicate, fpOf, freeNext, opW, binI, ev1, Heap.write, setAll, unI, eqKs, eqK, fillI, B4, B12, c12, h1, h2, h3, h4, ← hm, ← hq, q2, q3]
    refine c13 ht ?_
    simp (disch := omega) only [BAS, ↓BPR, reduceIte, reduceCtorEq, seval, -List.reduceReplicate, fpOf, freeNext, opW, binI, ev1, Heap.write, setAll, unI, eqKs, eqK, fillI, B4]
end Go.Iso.Gen
end
