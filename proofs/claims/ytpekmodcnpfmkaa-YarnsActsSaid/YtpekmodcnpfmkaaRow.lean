/-
  arguments of this seat's rows.
-/
import Derived.Test.YtpekmodcnpfmkaaEnv
import Derived.Test.YtpekmodcnpfmkaaFn
import Derived.Test.YtpekmodcnpfmkaaRows
import Derived.ProofKit
set_option linter.unusedSimpArgs false
set_option linter.unusedVariables false

section
namespace Go.Iso.GenA
open Go.Iso Go.Proofs
set_option maxRecDepth 100000

theorem rd_bytes {H : Heap} (hro : Ro H) {c : List IV} {d : PD} (h : Rd H (.slice (.int .u8)) c d) : ∃ v l, c = [v] ∧ BL H v l ∧ ∀ x, x ∈ l → 0 ≤ x ∧ x ≤ 255 := by
  cases h with
  | nil => exact ⟨.nilSlice, [], rfl, .nil, fun x hx => by cases hx⟩
  | slice e b cap l css h1 h2 hb he =>
    have key : ∀ (n : Nat) (css : List (List IV)) (l : List PD), Rds H (List.replicate n (.int .u8)) css l → ∃ xs : List Int, xs.length = l.length ∧ css.flatten = xs.map (IV.int .u8) ∧ ∀ x, x ∈ xs → 0 ≤ x ∧ x ≤ 255 := by
      intro n
      induction n with
      | zero => intro css l h; cases h; exact ⟨[], rfl, rfl, fun x hx => by cases hx⟩
      | succ n ih =>
        intro css l h
        cases h with
        | cons h hs =>
          obtain ⟨xs, a1, a2, a3⟩ := ih _ _ hs
          cases h with
          | int k n hr =>
            refine ⟨n :: xs, by simp [a1], by simp [a2], fun x hx => ?_⟩
            rcases List.mem_cons.1 hx with rfl | hx
            · have e1 : IntKind.u8.min = 0 := rfl
              have e2 : IntKind.u8.max = 255 := rfl
              rw [e1, e2] at hr; exact hr
            · exact a3 x hx
    obtain ⟨xs, a1, a2, a3⟩ := key _ _ _ he
    refine ⟨_, xs, by rw [← a1], .sl b 0 cap true xs fun hx => ?_, a3⟩
    have hpos : 0 < l.length := by rw [← a1]; exact List.length_pos_iff.2 hx
    refine ⟨(hro b _ (hb hpos)).1, true, 0, 0, _, hb hpos, ?_⟩
    rw [a2, List.drop_zero, List.take_of_length_le (by simp)]

def passT : Ty := .struct [.struct [.int .u8, .int .i64], .bool, .int .u8]

theorem rd_pass {H : Heap} {c : List IV} {d : PD} (h : Rd H passT c d) : ∃ p : Ps, c = p.cells := by
  cases h with
  | struct ts css l he =>
    cases he with
    | cons h1 he =>
      cases he with
      | cons h2 he =>
        cases he with
        | cons h3 he =>
          cases he
          cases h1 with
          | struct ts css l he =>
            cases he with
            | cons g1 he =>
              cases he with
              | cons g2 he =>
                cases he
                cases g1; cases g2; cases h2; cases h3
                exact ⟨⟨_, _, _, _⟩, rfl⟩

theorem rd_passes {H : Heap} (hro : Ro H) {c : List IV} {d : PD} (h : Rd H (.slice passT) c d) : ∃ v l, c = [v] ∧ PL H v l := by
  cases h with
  | nil => exact ⟨.nilSlice, [], rfl, .nil⟩
  | slice e b cap l css h1 h2 hb he =>
    have key : ∀ (n : Nat) (css : List (List IV)) (l : List PD), Rds H (List.replicate n passT) css l → ∃ xs : List Ps, xs.length = l.length ∧ css.flatten = flat xs := by
      intro n
      induction n with
      | zero => intro css l h; cases h; exact ⟨[], rfl, rfl⟩
      | succ n ih =>
        intro css l h
        cases h with
        | cons h hs =>
          obtain ⟨xs, a1, a2⟩ := ih _ _ hs
          obtain ⟨p, rfl⟩ := rd_pass h
          exact ⟨p :: xs, by simp [a1], by rw [List.flatten_cons, a2, flat_cons]⟩
    obtain ⟨xs, a1, a2⟩ := key _ _ _ he
    refine ⟨_, xs, by rw [← a1], .sl b 0 cap true xs (by omega) fun hx => ?_⟩
    have hpos : 0 < l.length := by rw [← a1]; exact List.length_pos_iff.2 hx
    refine ⟨(hro b _ (hb hpos)).1, true, 0, 0, _, hb hpos, ?_⟩
    rw [a2, List.drop_zero, ← flat_length, List.take_length]

theorem own_knob : ownKnob Try.prog.godebug = none := by kernel_rfl

end Go.Iso.GenA
end
