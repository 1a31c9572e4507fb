/-
  arguments and the listed variable of the rows of this seat.
-/
import Derived.Test.YthccekocaliohaaDoorEnv
import Derived.Test.YthccekocaliohaaDoorOrd
import Derived.Test.YthccekocaliohaaDoorRows
import Derived.ProofKit
import Derived.LaidMore
import Derived.OpenShut
import Derived.Stop.Joined
set_option linter.unusedSimpArgs false
set_option linter.unusedVariables false

section
namespace Go.Iso
/-- A slice argument of plain elements. -/
theorem rd_sl {α : Type} [Cell α] {H : Heap} (hro : Ro H) {τ : Ty} {P : α → Prop} (hel : ∀ c d, Rd H τ c d → ∃ a : α, c = Cell.cs a ∧ P a) {c : List IV} {d : PD} (h : Rd H (.slice τ) c d) : ∃ (v : SV) (l : List α), c = [v.iv] ∧ Sl H v l ∧ ∀ a ∈ l, P a := by
  cases h with
  | nil => exact ⟨.nil, [], rfl, rfl, fun a h => by cases h⟩
  | slice e b cap l css h1 h2 hb he =>
    have key : ∀ (n : Nat) (css : List (List IV)) (l : List PD), Rds H (List.replicate n τ) css l → ∃ xs : List α, xs.length = l.length ∧ css.flatten = flat xs ∧ ∀ a ∈ xs, P a := by
      intro n
      induction n with
      | zero => intro css l h; cases h; exact ⟨[], rfl, rfl, fun a h => by cases h⟩
      | succ n ih =>
        intro css l h
        cases h with
        | cons h hs =>
          obtain ⟨xs, a1, a2, a3⟩ := ih _ _ hs
          obtain ⟨p, rfl, hp⟩ := hel _ _ h
          refine ⟨p :: xs, by simp [a1], by rw [List.flatten_cons, a2, flat_cons], fun a ha => ?_⟩
          rcases List.mem_cons.1 ha with rfl | ha
          · exact hp
          · exact a3 a ha
    obtain ⟨xs, a1, a2, a3⟩ := key _ _ _ he
    refine ⟨.sl b 0 xs.length cap true, xs, by rw [a1]; rfl, ⟨rfl, by omega, fun hx => ?_⟩, a3⟩
    have hpos : 0 < l.length := by rw [← a1]; exact List.length_pos_iff.2 hx
    have hg := hb hpos
    rw [a2] at hg
    refine ⟨(hro b _ hg).1, ?_⟩
    rw [read_get hg, Nat.zero_add, if_pos (by rw [flat_length]; omega), List.drop_zero, ← flat_length, List.take_length]
end Go.Iso
namespace Go.Iso.Gen
open Go.Iso Go.Proofs
set_option maxRecDepth 100000

def putT : Ty := .struct [.int .u8, .int .u8]
def idT : Ty := .struct [.int .u8, .int .i64]
theorem rd_put {H : Heap} {c : List IV} {d : PD} (h : Rd H putT c d) : ∃ p : Pt, c = Cell.cs p ∧ (p.a ≤ 255 ∧ p.m ≤ 255) := by
  cases h with
  | struct ts css l he =>
    cases he with
    | cons h1 he =>
      cases he with
      | cons h2 he =>
        cases he
        cases h1 with
        | int k x hx =>
          cases h2 with
          | int k y hy =>
            have e1 : IntKind.u8.min = 0 := rfl
            have e2 : IntKind.u8.max = 255 := rfl
            rw [e1, e2] at hx hy
            refine ⟨⟨x.toNat, y.toNat⟩, ?_, by show x.toNat ≤ 255; omega, by show y.toNat ≤ 255; omega⟩
            show [IV.int .u8 x, IV.int .u8 y] = [IV.int .u8 (x.toNat : Int), IV.int .u8 (y.toNat : Int)]
            rw [Int.toNat_of_nonneg hx.1, Int.toNat_of_nonneg hy.1]
theorem rd_B {H : Heap} (hro : Ro H) {c : List IV} {d : PD} (h : Rd H (.slice putT) c d) : ∃ (v : SV) (l : List Pt), c = [v.iv] ∧ Sl H v l ∧ ∀ p ∈ l, p.a ≤ 255 ∧ p.m ≤ 255 := rd_sl hro (fun _ _ h => rd_put h) h
theorem rd_two {H : Heap} {c : List IV} {d : PD} (h : Rd H (.arr 2 (.int .i64)) c d) : ∃ a b : Int, c = [.int .i64 a, .int .i64 b] := by
  cases h with
  | arr n e css l he =>
    cases he with
    | cons h1 he =>
      cases he with
      | cons h2 he =>
        cases he
        cases h1 with
        | int k x hx =>
          cases h2 with
          | int k y hy => exact ⟨x, y, rfl⟩
theorem own_knob : ownKnob Tryd.prog.godebug = none := by kernel_rfl
theorem gSteps : Tryd.prog.globalNamed "gansey/orders.steps" = some 0 := by kernel_rfl
theorem tSteps : (Tryd.prog.globals[0]?).map (·.type) = some 49 := by kernel_rfl
theorem uSteps : Tryd.prog.underlying 49 = some (.array 2 3) := by kernel_rfl
theorem uInt : Tryd.prog.underlying 3 = some (.int .i64) := by kernel_rfl
theorem co3 : Tryd.prog.cellsOf 3 = 1 := by kernel_rfl
theorem co49 : Tryd.prog.cellsOf 49 = 2 := by kernel_rfl
abbrev laidL : List (String × DataW Unit) := [("gansey/orders.steps", YthccekocaliohaaDoor.Rows.laid_gansey_orders_steps)]
theorem tab_laid {W : World} (h : laidMetH Tryd.prog laidL W) : TabW tabs W := by
  rw [MakeChecks.laidMetH_plain _ _ _ (by kernel_rfl)] at h
  obtain ⟨ps, ⟨g0, t0, cs0, f0, p0, q0, hg0, ht0, hv0, hd0, _, _⟩, _, _⟩ := h
  obtain rfl := Option.some.inj (gSteps.symm.trans hg0)
  obtain rfl := Option.some.inj (tSteps.symm.trans ht0)
  obtain ⟨xs, m, rfl, hx1, hlen, hn2, hel⟩ := DataW.trod_array uSteps hd0
  rw [co49] at hlen
  rw [co3] at hel
  have h0 := hel 0 (by decide)
  have h1 := hel 1 (by decide)
  obtain ⟨l⟩ := cs0
  simp only [Prod.mk.injEq, YthccekocaliohaaDoor.Rows.laid_gansey_orders_steps, DataW.agg.injEq] at hx1
  match xs, hn2, hx1, h0, h1 with
  | [x0, x1], _, hx1, h0, h1 =>
    simp only [List.map_cons, List.map_nil, List.cons.injEq, and_true] at hx1
    match l, hlen with
    | [a, b], _ =>
      simp only [Nat.zero_mul, List.drop_zero, List.take_succ_cons, List.take_zero, Nat.one_mul, List.drop_succ_cons, List.getElem?_cons_zero, List.getElem?_cons_succ] at h0 h1
      obtain ⟨k0, e1, e2, _⟩ := DataW.trod_int uInt h0
      obtain ⟨k1, e3, e4, _⟩ := DataW.trod_int uInt h1
      rw [e2, e4] at hx1
      injection e1 with e1
      injection e3 with e3
      have q0 : k0 = -1 := by have := hx1.1.1; simp at this; exact this.symm
      have q1 : k1 = 1 := by have := hx1.1.2; simp at this; exact this.symm
      subst e1 e3 q0 q1
      intro i hi
      have hi0 : i = 0 := by simp [tabs] at hi; exact hi
      subst hi0
      simp only [World.var?, gSteps, Option.bind_some] at hv0
      split at hv0
      · rename_i c t fr hb
        cases hv0
        exact ⟨_, _, _, hb, Nat.le_refl 2, ⟨_, _, rfl, rfl, _, _, rfl, rfl, rfl⟩⟩
      · cases hv0
theorem door_met (os : Os) (args : Array Value) : laidMetH Tryd.prog laidL ((World.doorLaid Tryd.prog 400 os).forCall (fun _ _ => 0) ⟨#[], args, []⟩).memory :=
  laidMetH_of_parts3 (fuel := 8) (laidMet_of_run' 8 (by kernel_rfl) (by kernel_rfl)) (by kernel_rfl) (by kernel_rfl)
end Go.Iso.Gen
end
