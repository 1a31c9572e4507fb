/-
  operations, their keys, their order.
-/
import Derived.Test.YtnmkopfgfndhaaaGreatDoorGen
set_option linter.unusedSimpArgs false
set_option linter.unusedVariables false

section
namespace Go.Iso
theorem Tabs.keep' {ts : List (List Int)} {H H' : Heap} (h : Tabs ts H) (k : Keep H.n H H') : Tabs ts H' := h.keep k.1 fun i hi => k.2 i (by have := h.1; omega) (by have := h.1; omega)
end Go.Iso
namespace Go.Iso.Gen
open Go.Iso
set_option maxHeartbeats 4000000
set_option maxRecDepth 10000

theorem pureV {Q : Out → Heap → Prop} {H : Heap} {lo : Nat} {f : FuncId} {args : List IV} (v : IV) (hlo : lo ≤ H.n) (h : ∀ H', Keep H.n H H' → Q (.val v) H') (k : ∀ R : Out → Heap → Prop, (∀ H', R (.val v) H') → W E0 H.n (.call f args) H R) : W E0 lo (.call f args) H Q :=
  W.pure plain hlo (k _ fun H' hk => h H' hk)
/-- An operation. -/
structure Opn where
  k : Int
  d : Int
  b : Int
  a : Int
  y : Int
  r : Int
  deriving Inhabited, DecidableEq
instance : Cell Opn where
  z := 6
  cs o := [.int .u8 o.k, .int .u8 o.d, .int .u8 o.b, .int .i64 o.a, .int .u8 o.y, .int .i64 o.r]
  len _ := rfl
  one _ := rfl
  pos := by omega
theorem cs_Opn (o : Opn) : Cell.cs o = [.int .u8 o.k, .int .u8 o.d, .int .u8 o.b, .int .i64 o.a, .int .u8 o.y, .int .i64 o.r] := rfl
def opA (w y n r : Nat) (d : Int) : Opn :=
  if w % 16 = 0 then ⟨1, d, 0, 0, (1 + y % 3 : Nat), 0⟩
  else if w % 16 = 1 then ⟨2, 0, 0, 0, (1 + y % 3 : Nat), 0⟩
  else if w % 16 = 2 then ⟨3, 0, 0, 0, 0, ((r % 5 : Nat) : Int) - 2⟩
  else if w % 16 < 10 then ⟨4, d, (n % 2 : Nat), (1 + n / 2 % 6 : Nat), (1 + y % 3 : Nat), 0⟩
  else if w % 16 < 12 then ⟨5, d, (n % 2 : Nat), (1 + n / 2 % 6 : Nat), (1 + y % 3 : Nat), 0⟩
  else if w % 16 = 12 then ⟨6, d, (n % 2 : Nat), (1 + n / 2 % 6 : Nat), (1 + y % 3 : Nat), 0⟩
  else if w % 16 < 15 then ⟨7, 0, (n % 2 : Nat), (1 + n / 2 % 6 : Nat), 0, 0⟩
  else ⟨8, 0, (n % 2 : Nat), (1 + n / 2 % 6 : Nat), 0, 0⟩
theorem tmodV (a b : Nat) : (a : Int).tmod (b : Int) = ((a % b : Nat) : Int) := by
  rw [Int.tmod_eq_emod_of_nonneg (by omega)]; rfl
theorem tdivV (a b : Nat) : (a : Int).tdiv (b : Int) = ((a / b : Nat) : Int) := by
  rw [Int.tdiv_eq_ediv_of_nonneg (by omega)]; rfl
theorem m16 (a : Nat) : (a : Int).tmod 16 = ((a % 16 : Nat) : Int) := tmodV a 16
theorem m2 (a : Nat) : (a : Int).tmod 2 = ((a % 2 : Nat) : Int) := tmodV a 2
theorem m3 (a : Nat) : (a : Int).tmod 3 = ((a % 3 : Nat) : Int) := tmodV a 3
theorem m5 (a : Nat) : (a : Int).tmod 5 = ((a % 5 : Nat) : Int) := tmodV a 5
theorem m6 (a : Nat) : (a : Int).tmod 6 = ((a % 6 : Nat) : Int) := tmodV a 6
theorem d2 (a : Nat) : (a : Int).tdiv 2 = ((a / 2 : Nat) : Int) := tdivV a 2

theorem op_sp {w y n r : Nat} {d : Int} (hw : w ≤ 255) (hy : y ≤ 255) (hn : n ≤ 255) (hr : r ≤ 255) (hd : d = 0 ∨ d = 1) {H : Heap} {lo : Nat} {Q : Out → Heap → Prop} (hlo : lo ≤ H.n)
    (h : ∀ H', Keep H.n H H' → Q (.val (.agg (Cell.cs (opA w y n r d)))) H') : W E0 lo (.call 8 [.agg [.int .u8 w, .int .u8 y, .int .u8 n, .int .u8 r], .int .u8 d]) H Q := by
  refine pureV _ hlo h fun R hR => ?_
  rw [c8]
  obtain ⟨m, hm⟩ : ∃ m, m = w % 16 := ⟨_, rfl⟩
  have e3 : ((1 + y % 3 : Nat) : Int) = 1 + ((y % 3 : Nat) : Int) := by omega
  have e6 : ((1 + n / 2 % 6 : Nat) : Int) = 1 + ((n / 2 % 6 : Nat) : Int) := by omega
  unfold opA at hR
  rw [← hm, e3, e6] at hR
  rcases (by omega : m = 0 ∨ m = 1 ∨ m = 2 ∨ m = 3 ∨ m = 4 ∨ m = 5 ∨ m = 6 ∨ m = 7 ∨ m = 8 ∨ m = 9 ∨ m = 10 ∨ m = 11 ∨ m = 12 ∨ m = 13 ∨ m = 14 ∨ m = 15) with rfl | rfl | rfl | rfl | rfl | rfl | rfl | rfl | rfl | rfl | rfl | rfl | rfl | rfl | rfl | rfl
  all_goals
    simp (disch := omega) only [BAS, ↓BPR, reduceIte, reduceCtorEq, seval, -List.reduceReplicate, fpOf, freeNext, opW, binI, ev1, Heap.write, setAll, unI, eqKs, eqK, fillI, B8, m16, ← hm, m2, m3, m5, m6, d2]
    exact hR _
end Go.Iso.Gen
end

section
namespace Go.Iso.Gen
open Go.Iso
set_option maxHeartbeats 4000000
set_option maxRecDepth 10000

def cmpI (a b : Int) : Int := if a < b then -1 else if a > b then 1 else 0
theorem cmpI_eq {a b : Int} (h : a = b) : cmpI a b = 0 := by unfold cmpI; rw [if_neg (by omega), if_neg (by omega)]
theorem cmpI_ne {a b : Int} (h : a ≠ b) : (cmpI a b != 0) = true := by
  unfold cmpI
  split
  · rfl
  · rw [if_pos (by omega)]; rfl
theorem cmpK_sp (a b : Int) {H : Heap} {lo : Nat} {Q : Out → Heap → Prop} (hlo : lo ≤ H.n) (h : ∀ H', Keep H.n H H' → Q (.val (.int .i64 (cmpI a b))) H') : W E0 lo (.call 14 [.int .u8 a, .int .u8 b]) H Q := by
  refine pureV _ hlo h fun R hR => ?_
  rw [c14]
  unfold cmpI at hR
  by_cases c1 : a < b
  · rw [if_pos c1] at hR
    simp (disch := omega) only [BAS, ↓BPR, reduceIte, reduceCtorEq, seval, -List.reduceReplicate, fpOf, freeNext, opW, binI, ev1, Heap.write, setAll, unI, eqKs, eqK, fillI, B14, c1]
    exact hR _
  · rw [if_neg c1] at hR
    by_cases c2 : a > b
    · rw [if_pos c2] at hR
      simp (disch := omega) only [BAS, ↓BPR, reduceIte, reduceCtorEq, seval, -List.reduceReplicate, fpOf, freeNext, opW, binI, ev1, Heap.write, setAll, unI, eqKs, eqK, fillI, B14, c1, c2]
      exact hR _
    · rw [if_neg c2] at hR
      simp (disch := omega) only [BAS, ↓BPR, reduceIte, reduceCtorEq, seval, -List.reduceReplicate, fpOf, freeNext, opW, binI, ev1, Heap.write, setAll, unI, eqKs, eqK, fillI, B14, c1, c2]
      exact hR _
theorem cmpY_sp (a b : Int) {H : Heap} {lo : Nat} {Q : Out → Heap → Prop} (hlo : lo ≤ H.n) (h : ∀ H', Keep H.n H H' → Q (.val (.int .i64 (cmpI a b))) H') : W E0 lo (.call 15 [.int .u8 a, .int .u8 b]) H Q := by
  refine pureV _ hlo h fun R hR => ?_
  rw [c15]
  unfold cmpI at hR
  by_cases c1 : a < b
  · rw [if_pos c1] at hR
    simp (disch := omega) only [BAS, ↓BPR, reduceIte, reduceCtorEq, seval, -List.reduceReplicate, fpOf, freeNext, opW, binI, ev1, Heap.write, setAll, unI, eqKs, eqK, fillI, B15, c1]
    exact hR _
  · rw [if_neg c1] at hR
    by_cases c2 : a > b
    · rw [if_pos c2] at hR
      simp (disch := omega) only [BAS, ↓BPR, reduceIte, reduceCtorEq, seval, -List.reduceReplicate, fpOf, freeNext, opW, binI, ev1, Heap.write, setAll, unI, eqKs, eqK, fillI, B15, c1, c2]
      exact hR _
    · rw [if_neg c2] at hR
      simp (disch := omega) only [BAS, ↓BPR, reduceIte, reduceCtorEq, seval, -List.reduceReplicate, fpOf, freeNext, opW, binI, ev1, Heap.write, setAll, unI, eqKs, eqK, fillI, B15, c1, c2]
      exact hR _
theorem cmpB_sp (a b : Int) {H : Heap} {lo : Nat} {Q : Out → Heap → Prop} (hlo : lo ≤ H.n) (h : ∀ H', Keep H.n H H' → Q (.val (.int .i64 (cmpI a b))) H') : W E0 lo (.call 16 [.int .u8 a, .int .u8 b]) H Q := by
  refine pureV _ hlo h fun R hR => ?_
  rw [c16]
  unfold cmpI at hR
  by_cases c1 : a < b
  · rw [if_pos c1] at hR
    simp (disch := omega) only [BAS, ↓BPR, reduceIte, reduceCtorEq, seval, -List.reduceReplicate, fpOf, freeNext, opW, binI, ev1, Heap.write, setAll, unI, eqKs, eqK, fillI, B16, c1]
    exact hR _
  · rw [if_neg c1] at hR
    by_cases c2 : a > b
    · rw [if_pos c2] at hR
      simp (disch := omega) only [BAS, ↓BPR, reduceIte, reduceCtorEq, seval, -List.reduceReplicate, fpOf, freeNext, opW, binI, ev1, Heap.write, setAll, unI, eqKs, eqK, fillI, B16, c1, c2]
      exact hR _
    · rw [if_neg c2] at hR
      simp (disch := omega) only [BAS, ↓BPR, reduceIte, reduceCtorEq, seval, -List.reduceReplicate, fpOf, freeNext, opW, binI, ev1, Heap.write, setAll, unI, eqKs, eqK, fillI, B16, c1, c2]
      exact hR _
theorem cmpA_sp (a b : Int) {H : Heap} {lo : Nat} {Q : Out → Heap → Prop} (hlo : lo ≤ H.n) (h : ∀ H', Keep H.n H H' → Q (.val (.int .i64 (cmpI a b))) H') : W E0 lo (.call 17 [.int .i64 a, .int .i64 b]) H Q := by
  refine pureV _ hlo h fun R hR => ?_
  rw [c17]
  unfold cmpI at hR
  by_cases c1 : a < b
  · rw [if_pos c1] at hR
    simp (disch := omega) only [BAS, ↓BPR, reduceIte, reduceCtorEq, seval, -List.reduceReplicate, fpOf, freeNext, opW, binI, ev1, Heap.write, setAll, unI, eqKs, eqK, fillI, B17, c1]
    exact hR _
  · rw [if_neg c1] at hR
    by_cases c2 : a > b
    · rw [if_pos c2] at hR
      simp (disch := omega) only [BAS, ↓BPR, reduceIte, reduceCtorEq, seval, -List.reduceReplicate, fpOf, freeNext, opW, binI, ev1, Heap.write, setAll, unI, eqKs, eqK, fillI, B17, c1, c2]
      exact hR _
    · rw [if_neg c2] at hR
      simp (disch := omega) only [BAS, ↓BPR, reduceIte, reduceCtorEq, seval, -List.reduceReplicate, fpOf, freeNext, opW, binI, ev1, Heap.write, setAll, unI, eqKs, eqK, fillI, B17, c1, c2]
      exact hR _
theorem cmpD_sp (a b : Int) {H : Heap} {lo : Nat} {Q : Out → Heap → Prop} (hlo : lo ≤ H.n) (h : ∀ H', Keep H.n H H' → Q (.val (.int .i64 (cmpI a b))) H') : W E0 lo (.call 18 [.int .u8 a, .int .u8 b]) H Q := by
  refine pureV _ hlo h fun R hR => ?_
  rw [c18]
  unfold cmpI at hR
  by_cases c1 : a < b
  · rw [if_pos c1] at hR
    simp (disch := omega) only [BAS, ↓BPR, reduceIte, reduceCtorEq, seval, -List.reduceReplicate, fpOf, freeNext, opW, binI, ev1, Heap.write, setAll, unI, eqKs, eqK, fillI, B18, c1]
    exact hR _
  · rw [if_neg c1] at hR
    by_cases c2 : a > b
    · rw [if_pos c2] at hR
      simp (disch := omega) only [BAS, ↓BPR, reduceIte, reduceCtorEq, seval, -List.reduceReplicate, fpOf, freeNext, opW, binI, ev1, Heap.write, setAll, unI, eqKs, eqK, fillI, B18, c1, c2]
      exact hR _
    · rw [if_neg c2] at hR
      simp (disch := omega) only [BAS, ↓BPR, reduceIte, reduceCtorEq, seval, -List.reduceReplicate, fpOf, freeNext, opW, binI, ev1, Heap.write, setAll, unI, eqKs, eqK, fillI, B18, c1, c2]
      exact hR _

def keyO (o : Opn) : Int := ((((o.k * 8 + o.y) * 2 + o.b) * 64 + o.a) * 2 + o.d) * 16 + o.r + 8
def okO (o : Opn) : Prop := (0 ≤ o.k ∧ o.k ≤ 8) ∧ (0 ≤ o.y ∧ o.y ≤ 3) ∧ (0 ≤ o.b ∧ o.b ≤ 1) ∧ (0 ≤ o.a ∧ o.a ≤ 6) ∧ (0 ≤ o.d ∧ o.d ≤ 1) ∧ (-2 ≤ o.r ∧ o.r ≤ 2)
theorem opA_ok (w y n r : Nat) {d : Int} (hd : d = 0 ∨ d = 1) : okO (opA w y n r d) := by
  unfold opA okO
  repeat' split
  all_goals (simp only; omega)
theorem key_sp {o : Opn} (ho : okO o) {H : Heap} {lo : Nat} {Q : Out → Heap → Prop} (hlo : lo ≤ H.n) (h : ∀ H', Keep H.n H H' → Q (.val (.int .i64 (keyO o))) H') : W E0 lo (.call 9 [.agg [.int .u8 o.k, .int .u8 o.d, .int .u8 o.b, .int .i64 o.a, .int .u8 o.y, .int .i64 o.r]]) H Q := by
  refine pureV _ hlo h fun R hR => ?_
  rw [c9]
  obtain ⟨h1, h2, h3, h4, h5, h6⟩ := ho
  unfold keyO at hR
  simp (disch := omega) only [BAS, ↓BPR, reduceIte, reduceCtorEq, seval, -List.reduceReplicate, fpOf, freeNext, opW, binI, ev1, Heap.write, setAll, unI, eqKs, eqK, fillI, B9]
  exact hR _
def cmpO (a b : Opn) : Int := if a.k ≠ b.k then cmpI a.k b.k else if a.y ≠ b.y then cmpI a.y b.y else if a.b ≠ b.b then cmpI a.b b.b else if a.a ≠ b.a then cmpI a.a b.a else if a.d ≠ b.d then cmpI a.d b.d else cmpI a.r b.r
theorem Compare_sp (a b : Opn) {H : Heap} {lo : Nat} {Q : Out → Heap → Prop} (hlo : lo ≤ H.n) (h : ∀ H', Keep H.n H H' → Q (.val (.int .i64 (cmpO a b))) H') : W E0 lo (.call 10 [.agg [.int .u8 a.k, .int .u8 a.d, .int .u8 a.b, .int .i64 a.a, .int .u8 a.y, .int .i64 a.r], .agg [.int .u8 b.k, .int .u8 b.d, .int .u8 b.b, .int .i64 b.a, .int .u8 b.y, .int .i64 b.r]]) H Q := by
  refine W.pure plain hlo ?_
  rw [c10]
  unfold cmpO at h
  simp (disch := omega) only [BAS, ↓BPR, reduceIte, reduceCtorEq, seval, -List.reduceReplicate, fpOf, freeNext, opW, binI, ev1, Heap.write, setAll, unI, eqKs, eqK, fillI, B10]
  generalize hH_H1 : Heap.new _ _ = H1
  have hnH1 : H1.n = H.n + 2 := by rw [← hH_H1]; rfl
  have g0 := congrArg (fun h0 => Heap.get h0 (H.n)) hH_H1.symm
  simp (disch := omega) only [BAS, ↓BPR, reduceIte, reduceCtorEq, seval, -List.reduceReplicate, fpOf, freeNext, opW, binI, ev1, Heap.write, setAll, unI, eqKs, eqK, fillI] at g0
  have g1 := congrArg (fun h0 => Heap.get h0 (H.n + 1)) hH_H1.symm
  simp (disch := omega) only [BAS, ↓BPR, reduceIte, reduceCtorEq, seval, -List.reduceReplicate, fpOf, freeNext, opW, binI, ev1, Heap.write, setAll, unI, eqKs, eqK, fillI] at g1
  have kH1 : Keep H.n H H1 := ⟨by omega, fun x hx _ => by
    have gx := congrArg (fun h0 => Heap.get h0 x) hH_H1.symm
    simp (disch := omega) only [BAS, ↓BPR, reduceIte, reduceCtorEq, seval, -List.reduceReplicate, fpOf, freeNext, opW, binI, ev1, Heap.write, setAll, unI, eqKs, eqK, fillI] at gx
    exact gx⟩
  clear hH_H1
  refine cmpK_sp a.k b.k (by omega) fun H2 k2 => ?_
  have hn2 := k2.1
  replace g0 := (k2.2 _ (by omega) (by omega)).trans g0
  replace g1 := (k2.2 _ (by omega) (by omega)).trans g1
  replace kH1 : Keep H.n H H2 := kH1.trans (k2.lower (by omega))
  clear k2
  by_cases e0 : a.k = b.k
  case neg =>
    have n1 := cmpI_ne e0
    rw [if_pos e0] at h
    simp (disch := omega) only [BAS, ↓BPR, reduceIte, reduceCtorEq, seval, -List.reduceReplicate, fpOf, freeNext, opW, binI, ev1, Heap.write, setAll, unI, eqKs, eqK, fillI, B10, n1]
    exact fun hk => h _ hk
  rw [if_neg (by simp [e0])] at h
  rw [cmpI_eq e0]
  have r00 := read_get g0
  have r10 := read_get g1
  simp (disch := omega) only [BAS, ↓BPR, reduceIte, reduceCtorEq, seval, -List.reduceReplicate, fpOf, freeNext, opW, binI, ev1, Heap.write, setAll, unI, eqKs, eqK, fillI, B10, r00, r10]
  refine cmpY_sp a.y b.y (by omega) fun H3 k3 => ?_
  have hn3 := k3.1
  replace g0 := (k3.2 _ (by omega) (by omega)).trans g0
  replace g1 := (k3.2 _ (by omega) (by omega)).trans g1
  replace kH1 : Keep H.n H H3 := kH1.trans (k3.lower (by omega))
  clear k3
  by_cases e1 : a.y = b.y
  case neg =>
    have n1 := cmpI_ne e1
    rw [if_pos e1] at h
    simp (disch := omega) only [BAS, ↓BPR, reduceIte, reduceCtorEq, seval, -List.reduceReplicate, fpOf, freeNext, opW, binI, ev1, Heap.write, setAll, unI, eqKs, eqK, fillI, B10, n1]
    exact fun hk => h _ hk
  rw [if_neg (by simp [e1])] at h
  rw [cmpI_eq e1]
  have r01 := read_get g0
  have r11 := read_get g1
  simp (disch := omega) only [BAS, ↓BPR, reduceIte, reduceCtorEq, seval, -List.reduceReplicate, fpOf, freeNext, opW, binI, ev1, Heap.write, setAll, unI, eqKs, eqK, fillI, B10, r01, r11]
  refine cmpB_sp a.b b.b (by omega) fun H4 k4 => ?_
  have hn4 := k4.1
  replace g0 := (k4.2 _ (by omega) (by omega)).trans g0
  replace g1 := (k4.2 _ (by omega) (by omega)).trans g1
  replace kH1 : Keep H.n H H4 := kH1.trans (k4.lower (by omega))
  clear k4
  by_cases e2 : a.b = b.b
  case neg =>
    have n1 := cmpI_ne e2
    rw [if_pos e2] at h
    simp (disch := omega) only [BAS, ↓BPR, reduceIte, reduceCtorEq, seval, -List.reduceReplicate, fpOf, freeNext, opW, binI, ev1, Heap.write, setAll, unI, eqKs, eqK, fillI, B10, n1]
    exact fun hk => h _ hk
  rw [if_neg (by simp [e2])] at h
  rw [cmpI_eq e2]
  have r02 := read_get g0
  have r12 := read_get g1
  simp (disch := omega) only [BAS, ↓BPR, reduceIte, reduceCtorEq, seval, -List.reduceReplicate, fpOf, freeNext, opW, binI, ev1, Heap.write, setAll, unI, eqKs, eqK, fillI, B10, r02, r12]
  refine cmpA_sp a.a b.a (by omega) fun H5 k5 => ?_
  have hn5 := k5.1
  replace g0 := (k5.2 _ (by omega) (by omega)).trans g0
  replace g1 := (k5.2 _ (by omega) (by omega)).trans g1
  replace kH1 : Keep H.n H H5 := kH1.trans (k5.lower (by omega))
  clear k5
  by_cases e3 : a.a = b.a
  case neg =>
    have n1 := cmpI_ne e3
    rw [if_pos e3] at h
    simp (disch := omega) only [BAS, ↓BPR, reduceIte, reduceCtorEq, seval, -List.reduceReplicate, fpOf, freeNext, opW, binI, ev1, Heap.write, setAll, unI, eqKs, eqK, fillI, B10, n1]
    exact fun hk => h _ hk
  rw [if_neg (by simp [e3])] at h
  rw [cmpI_eq e3]
  have r03 := read_get g0
  have r13 := read_get g1
  simp (disch := omega) only [BAS, ↓BPR, reduceIte, reduceCtorEq, seval, -List.reduceReplicate, fpOf, freeNext, opW, binI, ev1, Heap.write, setAll, unI, eqKs, eqK, fillI, B10, r03, r13]
  refine cmpD_sp a.d b.d (by omega) fun H6 k6 => ?_
  have hn6 := k6.1
  replace g0 := (k6.2 _ (by omega) (by omega)).trans g0
  replace g1 := (k6.2 _ (by omega) (by omega)).trans g1
  replace kH1 : Keep H.n H H6 := kH1.trans (k6.lower (by omega))
  clear k6
  by_cases e4 : a.d = b.d
  case neg =>
    have n1 := cmpI_ne e4
    rw [if_pos e4] at h
    simp (disch := omega) only [BAS, ↓BPR, reduceIte, reduceCtorEq, seval, -List.reduceReplicate, fpOf, freeNext, opW, binI, ev1, Heap.write, setAll, unI, eqKs, eqK, fillI, B10, n1]
    exact fun hk => h _ hk
  rw [if_neg (by simp [e4])] at h
  rw [cmpI_eq e4]
  have r04 := read_get g0
  have r14 := read_get g1
  simp (disch := omega) only [BAS, ↓BPR, reduceIte, reduceCtorEq, seval, -List.reduceReplicate, fpOf, freeNext, opW, binI, ev1, Heap.write, setAll, unI, eqKs, eqK, fillI, B10, r04, r14]
  refine cmpA_sp a.r b.r (by omega) fun H9 k9 => ?_
  simp (disch := omega) only [BAS, ↓BPR, reduceIte, reduceCtorEq, seval, -List.reduceReplicate, fpOf, freeNext, opW, binI, ev1, Heap.write, setAll, unI, eqKs, eqK, fillI, B10]
  exact fun hk => h _ hk
end Go.Iso.Gen
end

section
namespace Go.Iso.Gen
open Go.Iso
set_option maxHeartbeats 4000000
set_option maxRecDepth 10000

theorem cmp_key {a b : Opn} (ha : okO a) (hb : okO b) : cmpO a b = cmpI (keyO a) (keyO b) := by
  obtain ⟨k, d, be, at_, y, r⟩ := a
  obtain ⟨k', d', be', at', y', r'⟩ := b
  obtain ⟨h1, h2, h3, h4, h5, h6⟩ := ha
  obtain ⟨g1, g2, g3, g4, g5, g6⟩ := hb
  simp only at h1 h2 h3 h4 h5 h6 g1 g2 g3 g4 g5 g6
  unfold cmpO keyO
  simp only
  unfold cmpI
  repeat' split
  all_goals omega
theorem cmpO_self (a : Opn) : cmpO a a = 0 := by unfold cmpO; simp [cmpI]

theorem tracesCompare_run {w y n r w' y' n' r' p q : Nat} (h1 : w ≤ 255 ∧ y ≤ 255 ∧ n ≤ 255 ∧ r ≤ 255) (h2 : w' ≤ 255 ∧ y' ≤ 255 ∧ n' ≤ 255 ∧ r' ≤ 255) (h3 : p ≤ 255 ∧ q ≤ 255) {H : Heap} (ht : Tabs tabs H) : W E0 H.n (.call 4 [.agg [.int .u8 w, .int .u8 y, .int .u8 n, .int .u8 r], .agg [.int .u8 w', .int .u8 y', .int .u8 n', .int .u8 r'], .agg [.int .u8 p, .int .u8 q]]) H (fun o _ => o = .val (.bool true)) := by
  rw [c4]
  obtain ⟨d1, hd1⟩ : ∃ d1 : Int, d1 = ((p % 2 : Nat) : Int) := ⟨_, rfl⟩
  obtain ⟨d2', hd2⟩ : ∃ d2' : Int, d2' = ((q % 2 : Nat) : Int) := ⟨_, rfl⟩
  simp (disch := omega) only [BAS, ↓BPR, reduceIte, reduceCtorEq, seval, -List.reduceReplicate, fpOf, freeNext, opW, binI, ev1, Heap.write, setAll, unI, eqKs, eqK, fillI, B4, m2, ← hd1, ← hd2]
  generalize hH_H1 : Heap.new _ _ = H1
  have hnH1 : H1.n = H.n + 3 := by rw [← hH_H1]; rfl
  have gx := congrArg (fun h0 => Heap.get h0 (H.n)) hH_H1.symm
  simp (disch := omega) only [BAS, ↓BPR, reduceIte, reduceCtorEq, seval, -List.reduceReplicate, fpOf, freeNext, opW, binI, ev1, Heap.write, setAll, unI, eqKs, eqK, fillI] at gx
  have gy := congrArg (fun h0 => Heap.get h0 (H.n + 1)) hH_H1.symm
  simp (disch := omega) only [BAS, ↓BPR, reduceIte, reduceCtorEq, seval, -List.reduceReplicate, fpOf, freeNext, opW, binI, ev1, Heap.write, setAll, unI, eqKs, eqK, fillI] at gy
  have gd := congrArg (fun h0 => Heap.get h0 (H.n + 2)) hH_H1.symm
  simp (disch := omega) only [BAS, ↓BPR, reduceIte, reduceCtorEq, seval, -List.reduceReplicate, fpOf, freeNext, opW, binI, ev1, Heap.write, setAll, unI, eqKs, eqK, fillI] at gd
  have kH1 : Keep H.n H H1 := ⟨by omega, fun x hx _ => by
    have gx := congrArg (fun h0 => Heap.get h0 x) hH_H1.symm
    simp (disch := omega) only [BAS, ↓BPR, reduceIte, reduceCtorEq, seval, -List.reduceReplicate, fpOf, freeNext, opW, binI, ev1, Heap.write, setAll, unI, eqKs, eqK, fillI] at gx
    exact gx⟩
  clear hH_H1
  have hq1 : d1 = 0 ∨ d1 = 1 := by omega
  have hq2 : d2' = 0 ∨ d2' = 1 := by omega
  refine op_sp h1.1 h1.2.1 h1.2.2.1 h1.2.2.2 hq1 (by omega) fun H2 k2 => ?_
  have hn2 := k2.1
  replace gy := (k2.2 _ (by omega) (by omega)).trans gy
  replace gd := (k2.2 _ (by omega) (by omega)).trans gd
  replace kH1 : Keep H.n H H2 := kH1.trans (k2.lower (by omega))
  clear k2
  have ry := read_get gy
  have rd := read_get gd
  have ha := opA_ok w y n r hq1
  generalize opA w y n r d1 = a at ha
  simp (disch := omega) only [BAS, ↓BPR, reduceIte, reduceCtorEq, seval, -List.reduceReplicate, fpOf, freeNext, opW, binI, ev1, Heap.write, setAll, unI, eqKs, eqK, fillI, B4, ry, rd, m2, ← hd2, cs_Opn]
  refine op_sp h2.1 h2.2.1 h2.2.2.1 h2.2.2.2 hq2 (by omega) fun H3 k3 => ?_
  have hn3 := k3.1
  replace kH1 : Keep H.n H H3 := kH1.trans (k3.lower (by omega))
  clear k3
  have hb := opA_ok w' y' n' r' hq2
  generalize opA w' y' n' r' d2' = b at hb
  simp (disch := omega) only [BAS, ↓BPR, reduceIte, reduceCtorEq, seval, -List.reduceReplicate, fpOf, freeNext, opW, binI, ev1, Heap.write, setAll, unI, eqKs, eqK, fillI, B4, cs_Opn]
  generalize hH_H4 : Heap.put _ _ _ = H4
  have hnH4 : H4.n = H3.n + 2 := by rw [← hH_H4]; rfl
  have ga := congrArg (fun h0 => Heap.get h0 (H3.n)) hH_H4.symm
  simp (disch := omega) only [BAS, ↓BPR, reduceIte, reduceCtorEq, seval, -List.reduceReplicate, fpOf, freeNext, opW, binI, ev1, Heap.write, setAll, unI, eqKs, eqK, fillI] at ga
  have gb := congrArg (fun h0 => Heap.get h0 (H3.n + 1)) hH_H4.symm
  simp (disch := omega) only [BAS, ↓BPR, reduceIte, reduceCtorEq, seval, -List.reduceReplicate, fpOf, freeNext, opW, binI, ev1, Heap.write, setAll, unI, eqKs, eqK, fillI] at gb
  have kH4 : Keep H3.n H3 H4 := ⟨by omega, fun x hx _ => by
    have gx := congrArg (fun h0 => Heap.get h0 x) hH_H4.symm
    simp (disch := omega) only [BAS, ↓BPR, reduceIte, reduceCtorEq, seval, -List.reduceReplicate, fpOf, freeNext, opW, binI, ev1, Heap.write, setAll, unI, eqKs, eqK, fillI] at gx
    exact gx⟩
  clear hH_H4
  have hk4 : Keep H.n H H4 := kH1.trans (kH4.lower (by omega))
  clear kH4 kH1
  have cab := cmp_key ha hb
  have cba := cmp_key hb ha
  rcases Int.lt_trichotomy (keyO a) (keyO b) with hc | hc | hc
  · have c1 : cmpO a b = -1 := by rw [cab]; unfold cmpI; rw [if_pos (by omega)]
    have c2 : cmpO b a = 1 := by rw [cba]; unfold cmpI; rw [if_neg (by omega), if_pos (by omega)]
    have c3 := cmpO_self a
    refine key_sp ha (by omega) fun H5 k5 => ?_
    have hn5 := k5.1
    replace ga := (k5.2 _ (by omega) (by omega)).trans ga
    replace gb := (k5.2 _ (by omega) (by omega)).trans gb
    replace hk4 : Keep H.n H H5 := hk4.trans (k5.lower (by omega))
    clear k5
    have ra5 := read_get ga
    have rb5 := read_get gb
    simp (disch := omega) only [BAS, ↓BPR, reduceIte, reduceCtorEq, seval, -List.reduceReplicate, fpOf, freeNext, opW, binI, ev1, Heap.write, setAll, unI, eqKs, eqK, fillI, B4, ra5, rb5, hc, show ¬ keyO a > keyO b by omega]
    refine key_sp hb (by omega) fun H6 k6 => ?_
    have hn6 := k6.1
    replace ga := (k6.2 _ (by omega) (by omega)).trans ga
    replace gb := (k6.2 _ (by omega) (by omega)).trans gb
    replace hk4 : Keep H.n H H6 := hk4.trans (k6.lower (by omega))
    clear k6
    have ra6 := read_get ga
    have rb6 := read_get gb
    simp (disch := omega) only [BAS, ↓BPR, reduceIte, reduceCtorEq, seval, -List.reduceReplicate, fpOf, freeNext, opW, binI, ev1, Heap.write, setAll, unI, eqKs, eqK, fillI, B4, ra6, rb6, hc, show ¬ keyO a > keyO b by omega]
    refine key_sp ha (by omega) fun H7 k7 => ?_
    have hn7 := k7.1
    replace ga := (k7.2 _ (by omega) (by omega)).trans ga
    replace gb := (k7.2 _ (by omega) (by omega)).trans gb
    replace hk4 : Keep H.n H H7 := hk4.trans (k7.lower (by omega))
    clear k7
    have ra7 := read_get ga
    have rb7 := read_get gb
    simp (disch := omega) only [BAS, ↓BPR, reduceIte, reduceCtorEq, seval, -List.reduceReplicate, fpOf, freeNext, opW, binI, ev1, Heap.write, setAll, unI, eqKs, eqK, fillI, B4, ra7, rb7, hc, show ¬ keyO a > keyO b by omega]
    refine key_sp hb (by omega) fun H8 k8 => ?_
    have hn8 := k8.1
    replace ga := (k8.2 _ (by omega) (by omega)).trans ga
    replace gb := (k8.2 _ (by omega) (by omega)).trans gb
    replace hk4 : Keep H.n H H8 := hk4.trans (k8.lower (by omega))
    clear k8
    have ra8 := read_get ga
    have rb8 := read_get gb
    simp (disch := omega) only [BAS, ↓BPR, reduceIte, reduceCtorEq, seval, -List.reduceReplicate, fpOf, freeNext, opW, binI, ev1, Heap.write, setAll, unI, eqKs, eqK, fillI, B4, ra8, rb8, hc, show ¬ keyO a > keyO b by omega]
    refine Compare_sp a b (by omega) fun H9 k9 => ?_
    have hn9 := k9.1
    replace ga := (k9.2 _ (by omega) (by omega)).trans ga
    replace gb := (k9.2 _ (by omega) (by omega)).trans gb
    replace hk4 : Keep H.n H H9 := hk4.trans (k9.lower (by omega))
    clear k9
    have ra9 := read_get ga
    have rb9 := read_get gb
    rw [c1]
    simp (disch := omega) only [BAS, ↓BPR, reduceIte, reduceCtorEq, seval, -List.reduceReplicate, fpOf, freeNext, opW, binI, ev1, Heap.write, setAll, unI, eqKs, eqK, fillI, B4, ra9, rb9]
    refine Compare_sp b a (by omega) fun H10 k10 => ?_
    have hn10 := k10.1
    replace ga := (k10.2 _ (by omega) (by omega)).trans ga
    replace gb := (k10.2 _ (by omega) (by omega)).trans gb
    replace hk4 : Keep H.n H H10 := hk4.trans (k10.lower (by omega))
    clear k10
    have ra10 := read_get ga
    have rb10 := read_get gb
    rw [c2]
    simp (disch := omega) only [BAS, ↓BPR, reduceIte, reduceCtorEq, seval, -List.reduceReplicate, fpOf, freeNext, opW, binI, ev1, Heap.write, setAll, unI, eqKs, eqK, fillI, B4, ra10, rb10]
    refine Compare_sp a a (by omega) fun H11 k11 => ?_
    have hn11 := k11.1
    replace ga := (k11.2 _ (by omega) (by omega)).trans ga
    replace gb := (k11.2 _ (by omega) (by omega)).trans gb
    replace hk4 : Keep H.n H H11 := hk4.trans (k11.lower (by omega))
    clear k11
    have ra11 := read_get ga
    have rb11 := read_get gb
    rw [c3]
    simp (disch := omega) only [BAS, ↓BPR, reduceIte, reduceCtorEq, seval, -List.reduceReplicate, fpOf, freeNext, opW, binI, ev1, Heap.write, setAll, unI, eqKs, eqK, fillI, B4, ra11, rb11]
    refine c7 (Tabs.keep' ht hk4) ?_
    simp (disch := omega) only [BAS, ↓BPR, reduceIte, reduceCtorEq, seval, -List.reduceReplicate, fpOf, freeNext, opW, binI, ev1, Heap.write, setAll, unI, eqKs, eqK, fillI, B4]
  · have c1 : cmpO a b = 0 := by rw [cab]; unfold cmpI; rw [if_neg (by omega), if_neg (by omega)]
    have c2 : cmpO b a = 0 := by rw [cba]; unfold cmpI; rw [if_neg (by omega), if_neg (by omega)]
    have c3 := cmpO_self a
    refine key_sp ha (by omega) fun H5 k5 => ?_
    have hn5 := k5.1
    replace ga := (k5.2 _ (by omega) (by omega)).trans ga
    replace gb := (k5.2 _ (by omega) (by omega)).trans gb
    replace hk4 : Keep H.n H H5 := hk4.trans (k5.lower (by omega))
    clear k5
    have ra5 := read_get ga
    have rb5 := read_get gb
    simp (disch := omega) only [BAS, ↓BPR, reduceIte, reduceCtorEq, seval, -List.reduceReplicate, fpOf, freeNext, opW, binI, ev1, Heap.write, setAll, unI, eqKs, eqK, fillI, B4, ra5, rb5, show ¬ keyO a < keyO b by omega, show ¬ keyO a > keyO b by omega]
    refine key_sp hb (by omega) fun H6 k6 => ?_
    have hn6 := k6.1
    replace ga := (k6.2 _ (by omega) (by omega)).trans ga
    replace gb := (k6.2 _ (by omega) (by omega)).trans gb
    replace hk4 : Keep H.n H H6 := hk4.trans (k6.lower (by omega))
    clear k6
    have ra6 := read_get ga
    have rb6 := read_get gb
    simp (disch := omega) only [BAS, ↓BPR, reduceIte, reduceCtorEq, seval, -List.reduceReplicate, fpOf, freeNext, opW, binI, ev1, Heap.write, setAll, unI, eqKs, eqK, fillI, B4, ra6, rb6, show ¬ keyO a < keyO b by omega, show ¬ keyO a > keyO b by omega]
    refine key_sp ha (by omega) fun H7 k7 => ?_
    have hn7 := k7.1
    replace ga := (k7.2 _ (by omega) (by omega)).trans ga
    replace gb := (k7.2 _ (by omega) (by omega)).trans gb
    replace hk4 : Keep H.n H H7 := hk4.trans (k7.lower (by omega))
    clear k7
    have ra7 := read_get ga
    have rb7 := read_get gb
    simp (disch := omega) only [BAS, ↓BPR, reduceIte, reduceCtorEq, seval, -List.reduceReplicate, fpOf, freeNext, opW, binI, ev1, Heap.write, setAll, unI, eqKs, eqK, fillI, B4, ra7, rb7, show ¬ keyO a < keyO b by omega, show ¬ keyO a > keyO b by omega]
    refine key_sp hb (by omega) fun H8 k8 => ?_
    have hn8 := k8.1
    replace ga := (k8.2 _ (by omega) (by omega)).trans ga
    replace gb := (k8.2 _ (by omega) (by omega)).trans gb
    replace hk4 : Keep H.n H H8 := hk4.trans (k8.lower (by omega))
    clear k8
    have ra8 := read_get ga
    have rb8 := read_get gb
    simp (disch := omega) only [BAS, ↓BPR, reduceIte, reduceCtorEq, seval, -List.reduceReplicate, fpOf, freeNext, opW, binI, ev1, Heap.write, setAll, unI, eqKs, eqK, fillI, B4, ra8, rb8, show ¬ keyO a < keyO b by omega, show ¬ keyO a > keyO b by omega]
    refine Compare_sp a b (by omega) fun H9 k9 => ?_
    have hn9 := k9.1
    replace ga := (k9.2 _ (by omega) (by omega)).trans ga
    replace gb := (k9.2 _ (by omega) (by omega)).trans gb
    replace hk4 : Keep H.n H H9 := hk4.trans (k9.lower (by omega))
    clear k9
    have ra9 := read_get ga
    have rb9 := read_get gb
    rw [c1]
    simp (disch := omega) only [BAS, ↓BPR, reduceIte, reduceCtorEq, seval, -List.reduceReplicate, fpOf, freeNext, opW, binI, ev1, Heap.write, setAll, unI, eqKs, eqK, fillI, B4, ra9, rb9]
    refine Compare_sp b a (by omega) fun H10 k10 => ?_
    have hn10 := k10.1
    replace ga := (k10.2 _ (by omega) (by omega)).trans ga
    replace gb := (k10.2 _ (by omega) (by omega)).trans gb
    replace hk4 : Keep H.n H H10 := hk4.trans (k10.lower (by omega))
    clear k10
    have ra10 := read_get ga
    have rb10 := read_get gb
    rw [c2]
    simp (disch := omega) only [BAS, ↓BPR, reduceIte, reduceCtorEq, seval, -List.reduceReplicate, fpOf, freeNext, opW, binI, ev1, Heap.write, setAll, unI, eqKs, eqK, fillI, B4, ra10, rb10]
    refine Compare_sp a a (by omega) fun H11 k11 => ?_
    have hn11 := k11.1
    replace ga := (k11.2 _ (by omega) (by omega)).trans ga
    replace gb := (k11.2 _ (by omega) (by omega)).trans gb
    replace hk4 : Keep H.n H H11 := hk4.trans (k11.lower (by omega))
    clear k11
    have ra11 := read_get ga
    have rb11 := read_get gb
    rw [c3]
    simp (disch := omega) only [BAS, ↓BPR, reduceIte, reduceCtorEq, seval, -List.reduceReplicate, fpOf, freeNext, opW, binI, ev1, Heap.write, setAll, unI, eqKs, eqK, fillI, B4, ra11, rb11]
    refine c7 (Tabs.keep' ht hk4) ?_
    simp (disch := omega) only [BAS, ↓BPR, reduceIte, reduceCtorEq, seval, -List.reduceReplicate, fpOf, freeNext, opW, binI, ev1, Heap.write, setAll, unI, eqKs, eqK, fillI, B4]
  · have c1 : cmpO a b = 1 := by rw [cab]; unfold cmpI; rw [if_neg (by omega), if_pos (by omega)]
    have c2 : cmpO b a = -1 := by rw [cba]; unfold cmpI; rw [if_pos (by omega)]
    have c3 := cmpO_self a
    refine key_sp ha (by omega) fun H5 k5 => ?_
    have hn5 := k5.1
    replace ga := (k5.2 _ (by omega) (by omega)).trans ga
    replace gb := (k5.2 _ (by omega) (by omega)).trans gb
    replace hk4 : Keep H.n H H5 := hk4.trans (k5.lower (by omega))
    clear k5
    have ra5 := read_get ga
    have rb5 := read_get gb
    simp (disch := omega) only [BAS, ↓BPR, reduceIte, reduceCtorEq, seval, -List.reduceReplicate, fpOf, freeNext, opW, binI, ev1, Heap.write, setAll, unI, eqKs, eqK, fillI, B4, ra5, rb5, show ¬ keyO a < keyO b by omega, show keyO a > keyO b by omega]
    refine key_sp hb (by omega) fun H6 k6 => ?_
    have hn6 := k6.1
    replace ga := (k6.2 _ (by omega) (by omega)).trans ga
    replace gb := (k6.2 _ (by omega) (by omega)).trans gb
    replace hk4 : Keep H.n H H6 := hk4.trans (k6.lower (by omega))
    clear k6
    have ra6 := read_get ga
    have rb6 := read_get gb
    simp (disch := omega) only [BAS, ↓BPR, reduceIte, reduceCtorEq, seval, -List.reduceReplicate, fpOf, freeNext, opW, binI, ev1, Heap.write, setAll, unI, eqKs, eqK, fillI, B4, ra6, rb6, show ¬ keyO a < keyO b by omega, show keyO a > keyO b by omega]
    refine key_sp ha (by omega) fun H7 k7 => ?_
    have hn7 := k7.1
    replace ga := (k7.2 _ (by omega) (by omega)).trans ga
    replace gb := (k7.2 _ (by omega) (by omega)).trans gb
    replace hk4 : Keep H.n H H7 := hk4.trans (k7.lower (by omega))
    clear k7
    have ra7 := read_get ga
    have rb7 := read_get gb
    simp (disch := omega) only [BAS, ↓BPR, reduceIte, reduceCtorEq, seval, -List.reduceReplicate, fpOf, freeNext, opW, binI, ev1, Heap.write, setAll, unI, eqKs, eqK, fillI, B4, ra7, rb7, show ¬ keyO a < keyO b by omega, show keyO a > keyO b by omega]
    refine key_sp hb (by omega) fun H8 k8 => ?_
    have hn8 := k8.1
    replace ga := (k8.2 _ (by omega) (by omega)).trans ga
    replace gb := (k8.2 _ (by omega) (by omega)).trans gb
    replace hk4 : Keep H.n H H8 := hk4.trans (k8.lower (by omega))
    clear k8
    have ra8 := read_get ga
    have rb8 := read_get gb
    simp (disch := omega) only [BAS, ↓BPR, reduceIte, reduceCtorEq, seval, -List.reduceReplicate, fpOf, freeNext, opW, binI, ev1, Heap.write, setAll, unI, eqKs, eqK, fillI, B4, ra8, rb8, show ¬ keyO a < keyO b by omega, show keyO a > keyO b by omega]
    refine Compare_sp a b (by omega) fun H9 k9 => ?_
    have hn9 := k9.1
    replace ga := (k9.2 _ (by omega) (by omega)).trans ga
    replace gb := (k9.2 _ (by omega) (by omega)).trans gb
    replace hk4 : Keep H.n H H9 := hk4.trans (k9.lower (by omega))
    clear k9
    have ra9 := read_get ga
    have rb9 := read_get gb
    rw [c1]
    simp (disch := omega) only [BAS, ↓BPR, reduceIte, reduceCtorEq, seval, -List.reduceReplicate, fpOf, freeNext, opW, binI, ev1, Heap.write, setAll, unI, eqKs, eqK, fillI, B4, ra9, rb9]
    refine Compare_sp b a (by omega) fun H10 k10 => ?_
    have hn10 := k10.1
    replace ga := (k10.2 _ (by omega) (by omega)).trans ga
    replace gb := (k10.2 _ (by omega) (by omega)).trans gb
    replace hk4 : Keep H.n H H10 := hk4.trans (k10.lower (by omega))
    clear k10
    have ra10 := read_get ga
    have rb10 := read_get gb
    rw [c2]
    simp (disch := omega) only [BAS, ↓BPR, reduceIte, reduceCtorEq, seval, -List.reduceReplicate, fpOf, freeNext, opW, binI, ev1, Heap.write, setAll, unI, eqKs, eqK, fillI, B4, ra10, rb10]
    refine Compare_sp a a (by omega) fun H11 k11 => ?_
    have hn11 := k11.1
    replace ga := (k11.2 _ (by omega) (by omega)).trans ga
    replace gb := (k11.2 _ (by omega) (by omega)).trans gb
    replace hk4 : Keep H.n H H11 := hk4.trans (k11.lower (by omega))
    clear k11
    have ra11 := read_get ga
    have rb11 := read_get gb
    rw [c3]
    simp (disch := omega) only [BAS, ↓BPR, reduceIte, reduceCtorEq, seval, -List.reduceReplicate, fpOf, freeNext, opW, binI, ev1, Heap.write, setAll, unI, eqKs, eqK, fillI, B4, ra11, rb11]
    refine c7 (Tabs.keep' ht hk4) ?_
    simp (disch := omega) only [BAS, ↓BPR, reduceIte, reduceCtorEq, seval, -List.reduceReplicate, fpOf, freeNext, opW, binI, ev1, Heap.write, setAll, unI, eqKs, eqK, fillI, B4]
end Go.Iso.Gen
end
