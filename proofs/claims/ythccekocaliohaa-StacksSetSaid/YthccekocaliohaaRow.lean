/-
  arguments of this seat's rows.
-/
import Derived.Test.YthccekocaliohaaEnv
import Derived.Test.YthccekocaliohaaFnB
import Derived.Test.YthccekocaliohaaRows
import Derived.ProofKit
set_option linter.unusedSimpArgs false
set_option linter.unusedVariables false

section
namespace Go.Iso
/-- A slice argument of plain elements. -/
theorem rd_sl {α : Type} [Cell α] {H : Heap} (hro : Ro H) {τ : Ty} {P : α → Prop} (hel : ∀ c d, Rd H τ c d → ∃ a : α, c = Cell.cs a ∧ P a) {c : List IV} {d : PD} (h : Rd H (.slice τ) c d) : ∃ (v : SV) (l : List α), c = [v.iv] ∧ Sl H v l ∧ ∀ a ∈ l, P a := by
  cases h with
  | nil => exact ⟨.nil, [], rfl, rfl, fun a h => by cases h⟩
  | slice e b cap l css h1 h2 hb he =>
    have key : ∀ (n : Nat) (css : List (List IV)) (l : List PD), Rds H (List.replicate n τ) css l → ∃ xs : List α, xs.length = l.length ∧ css.flatten = flat xs ∧ ∀ a ∈ xs, P a := by
      intro n
      induction n with
      | zero => intro css l h; cases h; exact ⟨[], rfl, rfl, fun a h => by cases h⟩
      | succ n ih =>
        intro css l h
        cases h with
        | cons h hs =>
          obtain ⟨xs, a1, a2, a3⟩ := ih _ _ hs
          obtain ⟨p, rfl, hp⟩ := hel _ _ h
          refine ⟨p :: xs, by simp [a1], by rw [List.flatten_cons, a2, flat_cons], fun a ha => ?_⟩
          rcases List.mem_cons.1 ha with rfl | ha
          · exact hp
          · exact a3 a ha
    obtain ⟨xs, a1, a2, a3⟩ := key _ _ _ he
    refine ⟨.sl b 0 xs.length cap true, xs, by rw [a1]; rfl, ⟨rfl, by omega, fun hx => ?_⟩, a3⟩
    have hpos : 0 < l.length := by rw [← a1]; exact List.length_pos_iff.2 hx
    have hg := hb hpos
    rw [a2] at hg
    refine ⟨(hro b _ hg).1, ?_⟩
    rw [read_get hg, Nat.zero_add, if_pos (by rw [flat_length]; omega), List.drop_zero, ← flat_length, List.take_length]
end Go.Iso
namespace Go.Iso.Gen
open Go.Iso Go.Proofs
set_option maxRecDepth 100000

def putT : Ty := .struct [.int .u8, .int .u8]
def idT : Ty := .struct [.int .u8, .int .i64]
theorem rd_put {H : Heap} {c : List IV} {d : PD} (h : Rd H putT c d) : ∃ p : Pt, c = Cell.cs p ∧ (p.a ≤ 255 ∧ p.m ≤ 255) := by
  cases h with
  | struct ts css l he =>
    cases he with
    | cons h1 he =>
      cases he with
      | cons h2 he =>
        cases he
        cases h1 with
        | int k x hx =>
          cases h2 with
          | int k y hy =>
            have e1 : IntKind.u8.min = 0 := rfl
            have e2 : IntKind.u8.max = 255 := rfl
            rw [e1, e2] at hx hy
            refine ⟨⟨x.toNat, y.toNat⟩, ?_, by show x.toNat ≤ 255; omega, by show y.toNat ≤ 255; omega⟩
            show [IV.int .u8 x, IV.int .u8 y] = [IV.int .u8 (x.toNat : Int), IV.int .u8 (y.toNat : Int)]
            rw [Int.toNat_of_nonneg hx.1, Int.toNat_of_nonneg hy.1]
theorem rd_B {H : Heap} (hro : Ro H) {c : List IV} {d : PD} (h : Rd H (.slice putT) c d) : ∃ (v : SV) (l : List Pt), c = [v.iv] ∧ Sl H v l ∧ ∀ p ∈ l, p.a ≤ 255 ∧ p.m ≤ 255 := rd_sl hro (fun _ _ h => rd_put h) h
theorem rd_id {H : Heap} {c : List IV} {d : PD} (h : Rd H idT c d) : ∃ a : Id, c = Cell.cs a ∧ (0 ≤ a.y ∧ a.y ≤ 255 ∧ -9223372036854775808 ≤ a.n ∧ a.n ≤ 9223372036854775807) := by
  cases h with
  | struct ts css l he =>
    cases he with
    | cons h1 he =>
      cases he with
      | cons h2 he =>
        cases he
        cases h1 with
        | int k x hx =>
          cases h2 with
          | int k y hy =>
            have e1 : IntKind.u8.min = 0 := rfl
            have e2 : IntKind.u8.max = 255 := rfl
            have e3 : IntKind.i64.min = -9223372036854775808 := rfl
            have e4 : IntKind.i64.max = 9223372036854775807 := rfl
            rw [e1, e2] at hx
            rw [e3, e4] at hy
            exact ⟨⟨x, y⟩, rfl, hx.1, hx.2, hy.1, hy.2⟩
theorem own_knob : ownKnob Try.prog.godebug = none := by kernel_rfl
end Go.Iso.Gen
end
