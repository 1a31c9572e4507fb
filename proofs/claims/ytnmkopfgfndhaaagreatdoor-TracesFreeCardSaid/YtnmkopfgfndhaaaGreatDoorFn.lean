/-
  what the functions of the statement give.
-/
import Derived.Test.YtnmkopfgfndhaaaGreatDoorGen
set_option linter.unusedSimpArgs false
set_option linter.unusedVariables false

section
namespace Go.Iso
theorem Tabs.keep' {ts : List (List Int)} {H H' : Heap} (h : Tabs ts H) (k : Keep H.n H H') : Tabs ts H' := h.keep k.1 fun i hi => k.2 i (by have := h.1; omega) (by have := h.1; omega)
end Go.Iso
namespace Go.Iso.Gen
open Go.Iso
set_option maxHeartbeats 4000000
set_option maxRecDepth 10000

/-- An operation. -/
structure Opn where
  k : Int
  d : Int
  b : Int
  a : Int
  y : Int
  r : Int
  deriving Inhabited, DecidableEq
instance : Cell Opn where
  z := 6
  cs o := [.int .u8 o.k, .int .u8 o.d, .int .u8 o.b, .int .i64 o.a, .int .u8 o.y, .int .i64 o.r]
  len _ := rfl
  one _ := rfl
  pos := by omega
def opA (w y n r : Nat) (d : Int) : Opn :=
  if w % 16 = 0 then ⟨1, d, 0, 0, (1 + y % 3 : Nat), 0⟩
  else if w % 16 = 1 then ⟨2, 0, 0, 0, (1 + y % 3 : Nat), 0⟩
  else if w % 16 = 2 then ⟨3, 0, 0, 0, 0, ((r % 5 : Nat) : Int) - 2⟩
  else if w % 16 < 10 then ⟨4, d, (n % 2 : Nat), (1 + n / 2 % 6 : Nat), (1 + y % 3 : Nat), 0⟩
  else if w % 16 < 12 then ⟨5, d, (n % 2 : Nat), (1 + n / 2 % 6 : Nat), (1 + y % 3 : Nat), 0⟩
  else if w % 16 = 12 then ⟨6, d, (n % 2 : Nat), (1 + n / 2 % 6 : Nat), (1 + y % 3 : Nat), 0⟩
  else if w % 16 < 15 then ⟨7, 0, (n % 2 : Nat), (1 + n / 2 % 6 : Nat), 0, 0⟩
  else ⟨8, 0, (n % 2 : Nat), (1 + n / 2 % 6 : Nat), 0, 0⟩
theorem tmodV (a b : Nat) : (a : Int).tmod (b : Int) = ((a % b : Nat) : Int) := by
  rw [Int.tmod_eq_emod_of_nonneg (by omega)]; rfl
theorem tdivV (a b : Nat) : (a : Int).tdiv (b : Int) = ((a / b : Nat) : Int) := by
  rw [Int.tdiv_eq_ediv_of_nonneg (by omega)]; rfl
theorem m2 (a : Nat) : (a : Int).tmod 2 = ((a % 2 : Nat) : Int) := tmodV a 2
theorem m3 (a : Nat) : (a : Int).tmod 3 = ((a % 3 : Nat) : Int) := tmodV a 3
theorem m5 (a : Nat) : (a : Int).tmod 5 = ((a % 5 : Nat) : Int) := tmodV a 5
theorem d2 (a : Nat) : (a : Int).tdiv 2 = ((a / 2 : Nat) : Int) := tdivV a 2

end Go.Iso.Gen
end

section
namespace Go.Iso.Gen
open Go.Iso
set_option maxHeartbeats 4000000
set_option maxRecDepth 10000

/-- A number in a cell of its own. -/
structure N64 where
  v : Int
  deriving Inhabited
instance : Cell N64 where
  z := 1
  cs n := [.int .i64 n.v]
  len _ := rfl
  one _ := rfl
  pos := by omega
theorem cs_N64 (n : N64) : Cell.cs n = [.int .i64 n.v] := rfl
theorem z_N64 : Cell.z N64 = 1 := rfl
structure N8 where
  v : Nat
  deriving Inhabited
instance : Cell N8 where
  z := 1
  cs n := [.int .u8 (n.v : Int)]
  len _ := rfl
  one _ := rfl
  pos := by omega
theorem cs_N8 (n : N8) : Cell.cs n = [.int .u8 (n.v : Int)] := rfl
theorem z_N8 : Cell.z N8 = 1 := rfl

/-- A foot. -/
structure Ft where
  y : Int
  rk : Bool
  st : Bool
  fr : Int
  to : Int
  w : List N64
  deriving Inhabited
def ftL (f : Ft) (v : SV) : List IV := [.int .u8 f.y, .bool f.rk, .bool f.st, .int .i64 f.fr, .int .i64 f.to, v.iv]
def hitB (b : Ft) (p : N64) : Bool := decide (b.fr ≤ p.v) && decide (p.v ≤ b.to)
def touB (a b : Ft) : Bool := a.w.any (hitB b)

theorem expl25 (tm : List IV) (h : tm.length = 25) : tm = [tm.getD 0 IV.undef, tm.getD 1 IV.undef, tm.getD 2 IV.undef, tm.getD 3 IV.undef, tm.getD 4 IV.undef, tm.getD 5 IV.undef, tm.getD 6 IV.undef, tm.getD 7 IV.undef, tm.getD 8 IV.undef, tm.getD 9 IV.undef, tm.getD 10 IV.undef, tm.getD 11 IV.undef, tm.getD 12 IV.undef, tm.getD 13 IV.undef, tm.getD 14 IV.undef, tm.getD 15 IV.undef, tm.getD 16 IV.undef, tm.getD 17 IV.undef, tm.getD 18 IV.undef, tm.getD 19 IV.undef, tm.getD 20 IV.undef, tm.getD 21 IV.undef, tm.getD 22 IV.undef, tm.getD 23 IV.undef, tm.getD 24 IV.undef] := (expl tm 25 h).trans rfl
theorem touches_sp (a b : Ft) {v u : SV} {H : Heap} {lo : Nat} {Q : Out → Heap → Prop} (hv : Sl H v a.w) (hl : a.w.length ≤ 1000000) (hlo : lo ≤ H.n)
    (h : ∀ H', Keep H.n H H' → Q (.val (.bool (touB a b))) H') : W E0 lo (.call 11 [.agg (ftL a v), .agg (ftL b u)]) H Q := by
  refine W.pure plain hlo ?_
  rw [c11]
  simp (disch := omega) only [BAS, ↓BPR, reduceIte, reduceCtorEq, seval, -List.reduceReplicate, fpOf, freeNext, opW, binI, ev1, Heap.write, setAll, unI, eqKs, eqK, fillI, B11, ftL, ↓hv.ln]
  generalize hH_H1 : Heap.new _ _ = H1
  have hnH1 : H1.n = H.n + 2 := by rw [← hH_H1]; rfl
  have g0 := congrArg (fun h0 => Heap.get h0 (H.n)) hH_H1.symm
  simp (disch := omega) only [BAS, ↓BPR, reduceIte, reduceCtorEq, seval, -List.reduceReplicate, fpOf, freeNext, opW, binI, ev1, Heap.write, setAll, unI, eqKs, eqK, fillI] at g0
  have g1 := congrArg (fun h0 => Heap.get h0 (H.n + 1)) hH_H1.symm
  simp (disch := omega) only [BAS, ↓BPR, reduceIte, reduceCtorEq, seval, -List.reduceReplicate, fpOf, freeNext, opW, binI, ev1, Heap.write, setAll, unI, eqKs, eqK, fillI] at g1
  have kH1 : Keep H.n H H1 := ⟨by omega, fun x hx _ => by
    have gx := congrArg (fun h0 => Heap.get h0 x) hH_H1.symm
    simp (disch := omega) only [BAS, ↓BPR, reduceIte, reduceCtorEq, seval, -List.reduceReplicate, fpOf, freeNext, opW, binI, ev1, Heap.write, setAll, unI, eqKs, eqK, fillI] at gx
    exact gx⟩
  clear hH_H1
  have hv1 := hv.keep kH1
  refine W_inv (fun k fm H' => ∃ i : Nat, i + k = a.w.length ∧ H' = H1 ∧ (a.w.take i).any (hitB b) = false ∧ fm.marks = [] ∧ fm.tm.length = 25 ∧ fm.tm.getD 3 IV.undef = .ptr (H.n + 1) 0 ∧ fm.tm.getD 8 IV.undef = v.iv ∧ fm.tm.getD 9 IV.undef = .int .i64 a.w.length ∧ fm.tm.getD 10 IV.undef = .int .i64 i) ?_ a.w.length ⟨0, by omega, rfl, rfl, rfl, rfl, rfl, rfl, rfl, rfl⟩
  rintro k ⟨tm, mk⟩ H' ⟨i, hik, rfl, ha, rfl, htm, t3, t8, t9, t10⟩ L hN hJ
  rw [expl25 tm htm, t3, t8, t9, t10]
  have rb := read_get g1
  by_cases hi : i < a.w.length
  · have r1 := hv1.read z_N64 i hi
    have hta : (a.w.take (i + 1)).any (hitB b) = hitB b a.w[i] := by
      rw [List.take_succ_eq_append_getElem hi, List.any_append, ha]; simp
    by_cases c1 : b.fr ≤ a.w[i].v
    · by_cases c2 : a.w[i].v ≤ b.to
      · have ht : touB a b = true := by
          unfold touB
          rw [List.any_eq_true]
          exact ⟨a.w[i], List.getElem_mem hi, by unfold hitB; simp [c1, c2]⟩
        rw [ht] at h
        simp (disch := omega) only [BAS, ↓BPR, reduceIte, reduceCtorEq, seval, -List.reduceReplicate, fpOf, freeNext, opW, binI, ev1, Heap.write, setAll, unI, eqKs, eqK, fillI, B11, F11l7, ↓hv1.idx, r1, cs_N64, rb, c1, c2, hJ]
        exact fun hk => h _ hk
      · simp (disch := omega) only [BAS, ↓BPR, reduceIte, reduceCtorEq, seval, -List.reduceReplicate, fpOf, freeNext, opW, binI, ev1, Heap.write, setAll, unI, eqKs, eqK, fillI, B11, F11l7, ↓hv1.idx, r1, cs_N64, rb, c1, c2]
        exact hN (k - 1) _ _ (by omega) ⟨i + 1, by omega, rfl, by rw [hta]; unfold hitB; simp [c2], rfl, rfl, rfl, rfl, rfl, rfl⟩
    · simp (disch := omega) only [BAS, ↓BPR, reduceIte, reduceCtorEq, seval, -List.reduceReplicate, fpOf, freeNext, opW, binI, ev1, Heap.write, setAll, unI, eqKs, eqK, fillI, B11, F11l7, ↓hv1.idx, r1, cs_N64, rb, c1]
      exact hN (k - 1) _ _ (by omega) ⟨i + 1, by omega, rfl, by rw [hta]; unfold hitB; simp [c1], rfl, rfl, rfl, rfl, rfl, rfl⟩
  · rw [List.take_of_length_le (by omega)] at ha
    have ht : touB a b = false := ha
    rw [ht] at h
    simp (disch := omega) only [BAS, ↓BPR, reduceIte, reduceCtorEq, seval, -List.reduceReplicate, fpOf, freeNext, opW, binI, ev1, Heap.write, setAll, unI, eqKs, eqK, fillI, B11, F11l7, hJ]
    exact fun hk => h _ hk

def stopB (a b : Ft) : Bool := (a.rk && !b.st) || (b.rk && !a.st)
def sameB (a b : Ft) : Bool := decide (a.y = b.y ∧ a.y ≠ 0) || (a.rk && b.rk)
def freeB (a b : Ft) : Bool := !sameB a b && !stopB a b && !touB a b && !touB b a
theorem free_sp (a b : Ft) {v u : SV} {H : Heap} {lo : Nat} {Q : Out → Heap → Prop} (hv : Sl H v a.w) (hu : Sl H u b.w) (hl : a.w.length ≤ 1000000) (hl' : b.w.length ≤ 1000000) (hlo : lo ≤ H.n)
    (h : ∀ H', Keep H.n H H' → Q (.val (.bool (freeB a b))) H') : W E0 lo (.call 6 [.agg (ftL a v), .agg (ftL b u)]) H Q := by
  refine W.pure plain hlo ?_
  rw [c6]
  have fin : ∀ H1 : Heap, Keep H.n H H1 → H1.n = H.n + 2 → H1.get H.n = some (.cells false 27 6 (ftL a v)) → H1.get (H.n + 1) = some (.cells false 27 6 (ftL b u)) → ∀ tm : List IV, tm.length = 49 → tm.getD 2 IV.undef = .ptr H.n 0 → tm.getD 3 IV.undef = .ptr (H.n + 1) 0 → sameB a b = false → stopB a b = false →
      W E0 H.n (.code F6o5 none ⟨tm, []⟩) H1 (thenC E0 H.n none .ret (retC H.n F6.results fun o H' => Keep H.n H H' → Q o H')) := by
    intro H1 k1 hn1 g0 g1 tm htm t2 t3 s1 s2
    have ef : freeB a b = (!touB a b && !touB b a) := by unfold freeB; rw [s1, s2]; simp
    rw [ef] at h
    have r0 := read_get g0
    have r1 := read_get g1
    rw [(expl tm 49 htm).trans rfl]
    simp only [t2, t3, List.range, List.range.loop, List.map]
    unfold ftL at r0 r1
    simp (disch := omega) only [BAS, ↓BPR, reduceIte, reduceCtorEq, seval, -List.reduceReplicate, fpOf, freeNext, opW, binI, ev1, Heap.write, setAll, unI, eqKs, eqK, fillI, B6, r0, r1]
    refine touches_sp a b (hv.keep k1) hl (by omega) fun H2 k2 => ?_
    have hn2 := k2.1
    replace g0 := (k2.2 _ (by omega) (by omega)).trans g0
    replace g1 := (k2.2 _ (by omega) (by omega)).trans g1
    have k12 : Keep H.n H H2 := k1.trans (k2.lower (by omega))
    have r02 := read_get g0
    have r12 := read_get g1
    unfold ftL at r02 r12
    cases e1 : touB a b with
    | true =>
      rw [e1] at h
      simp (disch := omega) only [BAS, ↓BPR, reduceIte, reduceCtorEq, seval, -List.reduceReplicate, fpOf, freeNext, opW, binI, ev1, Heap.write, setAll, unI, eqKs, eqK, fillI, B6]
      exact fun hk => h _ hk
    | false =>
      rw [e1] at h
      simp (disch := omega) only [BAS, ↓BPR, reduceIte, reduceCtorEq, seval, -List.reduceReplicate, fpOf, freeNext, opW, binI, ev1, Heap.write, setAll, unI, eqKs, eqK, fillI, B6, r02, r12]
      refine touches_sp b a (hu.keep k12) hl' (by omega) fun H3 k3 => ?_
      have hn3 := k3.1
      cases e2 : touB b a with
      | true =>
        rw [e2] at h
        simp (disch := omega) only [BAS, ↓BPR, reduceIte, reduceCtorEq, seval, -List.reduceReplicate, fpOf, freeNext, opW, binI, ev1, Heap.write, setAll, unI, eqKs, eqK, fillI, B6]
        exact fun hk => h _ hk
      | false =>
        rw [e2] at h
        simp (disch := omega) only [BAS, ↓BPR, reduceIte, reduceCtorEq, seval, -List.reduceReplicate, fpOf, freeNext, opW, binI, ev1, Heap.write, setAll, unI, eqKs, eqK, fillI, B6]
        exact fun hk => h _ hk
  by_cases hy : a.y = b.y ∧ a.y ≠ 0
  · have ef : freeB a b = false := by unfold freeB sameB; rw [decide_eq_true hy]; simp
    rw [ef] at h
    have y1 : (a.y == b.y) = true := by simp [hy.1]
    have y2 : (a.y != 0) = true := by simp [hy.2]
    simp (disch := omega) only [BAS, ↓BPR, reduceIte, reduceCtorEq, seval, -List.reduceReplicate, fpOf, freeNext, opW, binI, ev1, Heap.write, setAll, unI, eqKs, eqK, fillI, wF6o0, F6p0, wF6o1, F6p1, wF6o2, F6p2, wF6o3, F6p3, wF6o4, F6p4, F6p5, F6b, F6, ftL, y1, y2]
    exact fun hk => h _ hk
  have main : ∀ y1 : Bool, (a.y == b.y) = y1 → (y1 = true → (a.y != 0) = false) → W E0 H.n (.code F6b none ⟨[.agg (ftL a v), .agg (ftL b u)] ++ undefs (F6.ntmps - [IV.agg (ftL a v), IV.agg (ftL b u)].length), []⟩) H (retC H.n F6.results fun o H' => Keep H.n H H' → Q o H') := by
    intro y1 e1 e2
    have es : sameB a b = (a.rk && b.rk) := by unfold sameB; simp [hy]
    cases ra : a.rk <;> cases rb : b.rk <;> cases sa : a.st <;> cases sb : b.st <;> cases y1
    all_goals
      simp only [forall_const, Bool.false_eq_true, false_imp_iff, reduceCtorEq] at e2
      have fin' := fin
      have ef : freeB a b = (!sameB a b && !stopB a b && !touB a b && !touB b a) := rfl
      rw [es, ra, rb] at ef fin'
      have e3 : stopB a b = ((a.rk && !b.st) || (b.rk && !a.st)) := rfl
      rw [ra, rb, sa, sb] at e3
      rw [e3] at ef fin'
      simp only [Bool.not_true, Bool.not_false, Bool.and_true, Bool.and_false, Bool.true_and, Bool.false_and, Bool.or_true, Bool.or_false, Bool.true_or, Bool.false_or] at ef fin'
      simp (disch := omega) only [BAS, ↓BPR, reduceIte, reduceCtorEq, seval, -List.reduceReplicate, fpOf, freeNext, opW, binI, ev1, Heap.write, setAll, unI, eqKs, eqK, fillI, wF6o0, F6p0, wF6o1, F6p1, wF6o2, F6p2, wF6o3, F6p3, wF6o4, F6p4, F6p5, F6b, F6, ftL, e1, e2, ra, rb, sa, sb]
      first
        | (rw [ef] at h; exact fun hk => h _ hk)
        | skip
    all_goals
      generalize hH_H1 : Heap.new _ _ = H1
      have hnH1 : H1.n = H.n + 2 := by rw [← hH_H1]; rfl
      have g0 := congrArg (fun h0 => Heap.get h0 (H.n)) hH_H1.symm
      simp (disch := omega) only [BAS, ↓BPR, reduceIte, reduceCtorEq, seval, -List.reduceReplicate, fpOf, freeNext, opW, binI, ev1, Heap.write, setAll, unI, eqKs, eqK, fillI] at g0
      have g1 := congrArg (fun h0 => Heap.get h0 (H.n + 1)) hH_H1.symm
      simp (disch := omega) only [BAS, ↓BPR, reduceIte, reduceCtorEq, seval, -List.reduceReplicate, fpOf, freeNext, opW, binI, ev1, Heap.write, setAll, unI, eqKs, eqK, fillI] at g1
      have kH1 : Keep H.n H H1 := ⟨by omega, fun x hx _ => by
        have gx := congrArg (fun h0 => Heap.get h0 x) hH_H1.symm
        simp (disch := omega) only [BAS, ↓BPR, reduceIte, reduceCtorEq, seval, -List.reduceReplicate, fpOf, freeNext, opW, binI, ev1, Heap.write, setAll, unI, eqKs, eqK, fillI] at gx
        exact gx⟩
      clear hH_H1
      exact fin' H1 kH1 hnH1 (by rw [g0]; simp only [ftL, ra, sa]) (by rw [g1]; simp only [ftL, rb, sb]) _ rfl rfl rfl trivial trivial
  cases y1 : a.y == b.y with
  | true =>
    refine main true y1 fun _ => ?_
    have : a.y = b.y := by simpa using y1
    have : a.y = 0 := Classical.byContradiction fun h0 => hy ⟨this, h0⟩
    simp [this]
  | false => exact main false y1 fun h => by cases h
end Go.Iso.Gen
end

section
namespace Go.Iso.Gen
open Go.Iso
set_option maxHeartbeats 4000000
set_option maxRecDepth 10000

theorem m4 (a : Nat) : (a : Int).tmod 4 = ((a % 4 : Nat) : Int) := tmodV a 4
theorem m9 (a : Nat) : (a : Int).tmod 9 = ((a % 9 : Nat) : Int) := tmodV a 9
theorem m40 (a : Nat) : (a : Int).tmod 40 = ((a % 40 : Nat) : Int) := tmodV a 40
theorem m50 (a : Nat) : (a : Int).tmod 50 = ((a % 50 : Nat) : Int) := tmodV a 50
def wrF (n : N8) : N64 := ⟨((n.v % 50 : Nat) : Int)⟩
def fOf (y k f l : Nat) (w : List N8) : Ft := ⟨((y % 4 : Nat) : Int), ((k % 5 : Nat) : Int) == 1, ((k % 5 : Nat) : Int) == 2, ((f % 40 : Nat) : Int), ((f % 40 : Nat) : Int) + ((l % 9 : Nat) : Int) - 1, (w.take 4).map wrF⟩

theorem expl55 (tm : List IV) (h : tm.length = 55) : tm = [tm.getD 0 IV.undef, tm.getD 1 IV.undef, tm.getD 2 IV.undef, tm.getD 3 IV.undef, tm.getD 4 IV.undef, tm.getD 5 IV.undef, tm.getD 6 IV.undef, tm.getD 7 IV.undef, tm.getD 8 IV.undef, tm.getD 9 IV.undef, tm.getD 10 IV.undef, tm.getD 11 IV.undef, tm.getD 12 IV.undef, tm.getD 13 IV.undef, tm.getD 14 IV.undef, tm.getD 15 IV.undef, tm.getD 16 IV.undef, tm.getD 17 IV.undef, tm.getD 18 IV.undef, tm.getD 19 IV.undef, tm.getD 20 IV.undef, tm.getD 21 IV.undef, tm.getD 22 IV.undef, tm.getD 23 IV.undef, tm.getD 24 IV.undef, tm.getD 25 IV.undef, tm.getD 26 IV.undef, tm.getD 27 IV.undef, tm.getD 28 IV.undef, tm.getD 29 IV.undef, tm.getD 30 IV.undef, tm.getD 31 IV.undef, tm.getD 32 IV.undef, tm.getD 33 IV.undef, tm.getD 34 IV.undef, tm.getD 35 IV.undef, tm.getD 36 IV.undef, tm.getD 37 IV.undef, tm.getD 38 IV.undef, tm.getD 39 IV.undef, tm.getD 40 IV.undef, tm.getD 41 IV.undef, tm.getD 42 IV.undef, tm.getD 43 IV.undef, tm.getD 44 IV.undef, tm.getD 45 IV.undef, tm.getD 46 IV.undef, tm.getD 47 IV.undef, tm.getD 48 IV.undef, tm.getD 49 IV.undef, tm.getD 50 IV.undef, tm.getD 51 IV.undef, tm.getD 52 IV.undef, tm.getD 53 IV.undef, tm.getD 54 IV.undef] := (expl tm 55 h).trans rfl
theorem of_sp {y k f l : Nat} {w : List N8} {v : SV} (hy : y ≤ 255) (hk : k ≤ 255) (hf : f ≤ 255) (hl : l ≤ 255) (hw : ∀ n ∈ w, n.v ≤ 255) {H : Heap} {lo : Nat} {Q : Out → Heap → Prop} (hv : Sl H v w) (hlo : lo ≤ H.n)
    (h : ∀ H' v', Keep H.n H H' → Gr H.n H' 3 v' (fOf y k f l w).w → Q (.val (.agg (ftL (fOf y k f l w) v'))) H') : W E0 lo (.call 5 [.agg [.int .u8 y, .int .u8 k, .int .u8 f, .int .u8 l, v.iv]]) H Q := by
  refine W.pure plain hlo ?_
  rw [c5]
  obtain ⟨F, hF⟩ : ∃ F, F = fOf y k f l w := ⟨_, rfl⟩
  have f1 : F.y = ((y % 4 : Nat) : Int) := by rw [hF]; rfl
  have f2 : F.rk = (((k % 5 : Nat) : Int) == 1) := by rw [hF]; rfl
  have f3 : F.st = (((k % 5 : Nat) : Int) == 2) := by rw [hF]; rfl
  have f4 : F.fr = ((f % 40 : Nat) : Int) := by rw [hF]; rfl
  have f5 : F.to = F.fr + ((l % 9 : Nat) : Int) - 1 := by rw [hF]; rfl
  have f6 : F.w = (w.take 4).map wrF := by rw [hF]; rfl
  rw [← hF] at h
  clear hF
  simp (disch := omega) only [BAS, ↓BPR, reduceIte, reduceCtorEq, seval, -List.reduceReplicate, fpOf, freeNext, opW, binI, ev1, Heap.write, setAll, unI, eqKs, eqK, fillI, B5, m4, m5, m9, m40, ← f1, ← f2, ← f3, ← f4, ← f5]
  generalize hH_H1 : Heap.put _ _ _ = H1
  have hnH1 : H1.n = H.n + 3 := by rw [← hH_H1]; rfl
  have g0 := congrArg (fun h0 => Heap.get h0 (H.n)) hH_H1.symm
  simp (disch := omega) only [BAS, ↓BPR, reduceIte, reduceCtorEq, seval, -List.reduceReplicate, fpOf, freeNext, opW, binI, ev1, Heap.write, setAll, unI, eqKs, eqK, fillI] at g0
  have g1 := congrArg (fun h0 => Heap.get h0 (H.n + 1)) hH_H1.symm
  simp (disch := omega) only [BAS, ↓BPR, reduceIte, reduceCtorEq, seval, -List.reduceReplicate, fpOf, freeNext, opW, binI, ev1, Heap.write, setAll, unI, eqKs, eqK, fillI] at g1
  have g2 := congrArg (fun h0 => Heap.get h0 (H.n + 2)) hH_H1.symm
  simp (disch := omega) only [BAS, ↓BPR, reduceIte, reduceCtorEq, seval, -List.reduceReplicate, fpOf, freeNext, opW, binI, ev1, Heap.write, setAll, unI, eqKs, eqK, fillI] at g2
  have kH1 : Keep H.n H H1 := ⟨by omega, fun x hx _ => by
    have gx := congrArg (fun h0 => Heap.get h0 x) hH_H1.symm
    simp (disch := omega) only [BAS, ↓BPR, reduceIte, reduceCtorEq, seval, -List.reduceReplicate, fpOf, freeNext, opW, binI, ev1, Heap.write, setAll, unI, eqKs, eqK, fillI] at gx
    exact gx⟩
  clear hH_H1
  refine W_inv (fun q fm H' => ∃ (i : Nat) (v' : SV), i + q = (w.take 4).length ∧ Keep H.n H H' ∧ H.n + 3 ≤ H'.n ∧ H'.get H.n = H1.get H.n ∧ H'.get (H.n + 1) = H1.get (H.n + 1) ∧ H'.get (H.n + 2) = some (.cells false 27 6 (ftL F v')) ∧ Gr (H.n + 3) H' 3 v' ((w.take i).map wrF) ∧ fm.marks = [] ∧ fm.tm.length = 55 ∧ fm.tm.getD 1 IV.undef = .ptr H.n 0 ∧ fm.tm.getD 2 IV.undef = .ptr (H.n + 1) 0 ∧ fm.tm.getD 3 IV.undef = .ptr (H.n + 2) 0 ∧ fm.tm.getD 4 IV.undef = .int .i64 i) ?_ (w.take 4).length ⟨0, .nil, by omega, kH1, by omega, rfl, rfl, g2, Gr.nil, rfl, rfl, rfl, rfl, rfl, rfl⟩
  rw [g0, g1]
  clear g2 kH1
  rintro q ⟨tm, mk⟩ H' ⟨i, v', hiq, kk, hn, g0', g1', g2, hG, rfl, htm, t1, t2, t3, t4⟩ L hN hJ
  rw [expl55 tm htm, t1, t2, t3, t4]
  rw [List.length_take] at hiq
  have r0 := read_get g0'
  have r2 := read_get g2
  unfold ftL at r2 g2
  have hv' := hv.keep kk
  by_cases hi : i < w.length
  · by_cases h4 : i < 4
    · have rw1 := hv'.read z_N8 i hi
      have hwi := hw _ (List.getElem_mem hi)
      obtain ⟨H5, w5, e5, k5, o5⟩ := hG.pushNew (wrF w[i]) z_N64 8 H.n (by omega) hn (by rw [List.length_map, List.length_take]; omega)
      have e2 : (w.take (i + 1)).map wrF = (w.take i).map wrF ++ [wrF w[i]] := by rw [List.take_succ_eq_append_getElem hi, List.map_append]; rfl
      have hn5 := k5.1
      have g0'' := k5.2 H.n (by omega) (.inl (by omega))
      have g1'' := k5.2 (H.n + 1) (by omega) (.inl (by omega))
      have g2'' := (k5.2 (H.n + 2) (by omega) (.inl (by omega))).trans g2
      rw [show Cell.cs (wrF w[i]) = [.int .i64 ((w[i].v % 50 : Nat) : Int)] from rfl] at e5
      simp (disch := omega) only [BAS, ↓BPR, reduceIte, reduceCtorEq, seval, -List.reduceReplicate, fpOf, freeNext, opW, binI, ev1, Heap.write, setAll, unI, eqKs, eqK, fillI, B5, F5l6, r0, r2, g2, ↓hv'.ln, ↓hv'.idx, rw1, cs_N8, m50, ↓e5, g2'']
      refine hN (q - 1) _ _ (by rw [List.length_take] at *; omega) ⟨i + 1, w5, by rw [List.length_take]; omega, (kk.trans ((k5.low hn).lower (by omega))).trans (.put _ _ (by omega)), by rw [Heap.n_put]; omega, ?_, ?_, ?_, ?_, rfl, rfl, rfl, rfl, rfl, rfl⟩
      · rw [Heap.get_put, if_neg (by omega), g0'', g0']
      · rw [Heap.get_put, if_neg (by omega), g1'', g1']
      · rw [Heap.get_put, if_pos rfl]; rfl
      · rw [e2]; exact o5.put (by omega)
    · simp (disch := omega) only [BAS, ↓BPR, reduceIte, reduceCtorEq, seval, -List.reduceReplicate, fpOf, freeNext, opW, binI, ev1, Heap.write, setAll, unI, eqKs, eqK, fillI, B5, F5l6, r0, ↓hv'.ln, hJ, r2, g1', g2]
      have e3 : (w.take i).map wrF = F.w := by rw [f6]; congr 2; omega
      refine fun hk => ?_
      rw [e3] at hG
      refine h _ v' hk ((hG.put (x := H.n + 1) (by omega)).lower (by omega))
  · simp (disch := omega) only [BAS, ↓BPR, reduceIte, reduceCtorEq, seval, -List.reduceReplicate, fpOf, freeNext, opW, binI, ev1, Heap.write, setAll, unI, eqKs, eqK, fillI, B5, F5l6, r0, ↓hv'.ln, hJ, r2, g1', g2]
    have e3 : (w.take i).map wrF = F.w := by rw [f6, List.take_of_length_le (by omega), List.take_of_length_le (by omega)]
    refine fun hk => ?_
    rw [e3] at hG
    refine h _ v' hk ((hG.put (x := H.n + 1) (by omega)).lower (by omega))
end Go.Iso.Gen
end

section
namespace Go.Iso.Gen
open Go.Iso
set_option maxHeartbeats 4000000
set_option maxRecDepth 10000

theorem any_succ (b : Ft) (l : List N64) (i : Nat) (h : i < l.length) : (l.take (i + 1)).any (hitB b) = ((l.take i).any (hitB b) || hitB b l[i]) := by
  rw [List.take_succ_eq_append_getElem h, List.any_append]; simp
theorem expl121 (tm : List IV) (h : tm.length = 121) : tm = [tm.getD 0 IV.undef, tm.getD 1 IV.undef, tm.getD 2 IV.undef, tm.getD 3 IV.undef, tm.getD 4 IV.undef, tm.getD 5 IV.undef, tm.getD 6 IV.undef, tm.getD 7 IV.undef, tm.getD 8 IV.undef, tm.getD 9 IV.undef, tm.getD 10 IV.undef, tm.getD 11 IV.undef, tm.getD 12 IV.undef, tm.getD 13 IV.undef, tm.getD 14 IV.undef, tm.getD 15 IV.undef, tm.getD 16 IV.undef, tm.getD 17 IV.undef, tm.getD 18 IV.undef, tm.getD 19 IV.undef, tm.getD 20 IV.undef, tm.getD 21 IV.undef, tm.getD 22 IV.undef, tm.getD 23 IV.undef, tm.getD 24 IV.undef, tm.getD 25 IV.undef, tm.getD 26 IV.undef, tm.getD 27 IV.undef, tm.getD 28 IV.undef, tm.getD 29 IV.undef, tm.getD 30 IV.undef, tm.getD 31 IV.undef, tm.getD 32 IV.undef, tm.getD 33 IV.undef, tm.getD 34 IV.undef, tm.getD 35 IV.undef, tm.getD 36 IV.undef, tm.getD 37 IV.undef, tm.getD 38 IV.undef, tm.getD 39 IV.undef, tm.getD 40 IV.undef, tm.getD 41 IV.undef, tm.getD 42 IV.undef, tm.getD 43 IV.undef, tm.getD 44 IV.undef, tm.getD 45 IV.undef, tm.getD 46 IV.undef, tm.getD 47 IV.undef, tm.getD 48 IV.undef, tm.getD 49 IV.undef, tm.getD 50 IV.undef, tm.getD 51 IV.undef, tm.getD 52 IV.undef, tm.getD 53 IV.undef, tm.getD 54 IV.undef, tm.getD 55 IV.undef, tm.getD 56 IV.undef, tm.getD 57 IV.undef, tm.getD 58 IV.undef, tm.getD 59 IV.undef, tm.getD 60 IV.undef, tm.getD 61 IV.undef, tm.getD 62 IV.undef, tm.getD 63 IV.undef, tm.getD 64 IV.undef, tm.getD 65 IV.undef, tm.getD 66 IV.undef, tm.getD 67 IV.undef, tm.getD 68 IV.undef, tm.getD 69 IV.undef, tm.getD 70 IV.undef, tm.getD 71 IV.undef, tm.getD 72 IV.undef, tm.getD 73 IV.undef, tm.getD 74 IV.undef, tm.getD 75 IV.undef, tm.getD 76 IV.undef, tm.getD 77 IV.undef, tm.getD 78 IV.undef, tm.getD 79 IV.undef, tm.getD 80 IV.undef, tm.getD 81 IV.undef, tm.getD 82 IV.undef, tm.getD 83 IV.undef, tm.getD 84 IV.undef, tm.getD 85 IV.undef, tm.getD 86 IV.undef, tm.getD 87 IV.undef, tm.getD 88 IV.undef, tm.getD 89 IV.undef, tm.getD 90 IV.undef, tm.getD 91 IV.undef, tm.getD 92 IV.undef, tm.getD 93 IV.undef, tm.getD 94 IV.undef, tm.getD 95 IV.undef, tm.getD 96 IV.undef, tm.getD 97 IV.undef, tm.getD 98 IV.undef, tm.getD 99 IV.undef, tm.getD 100 IV.undef, tm.getD 101 IV.undef, tm.getD 102 IV.undef, tm.getD 103 IV.undef, tm.getD 104 IV.undef, tm.getD 105 IV.undef, tm.getD 106 IV.undef, tm.getD 107 IV.undef, tm.getD 108 IV.undef, tm.getD 109 IV.undef, tm.getD 110 IV.undef, tm.getD 111 IV.undef, tm.getD 112 IV.undef, tm.getD 113 IV.undef, tm.getD 114 IV.undef, tm.getD 115 IV.undef, tm.getD 116 IV.undef, tm.getD 117 IV.undef, tm.getD 118 IV.undef, tm.getD 119 IV.undef, tm.getD 120 IV.undef] := (expl tm 121 h).trans rfl
theorem tf_loop1 {a b : Ft} {v u : SV} {x y : Nat} {want : Bool} {H : Heap} {lo : Nat} {Q : Out → Heap → Prop} {tm : List IV} (hv : Sl H v a.w) (hl : a.w.length ≤ 1000) (ga : H.get x = some (.cells false 27 6 (ftL a v))) (gb : H.get y = some (.cells false 27 6 (ftL b u)))
    (htm : tm.length = 121) (t5 : tm.getD 5 IV.undef = .ptr x 0) (t6 : tm.getD 6 IV.undef = .ptr y 0) (t7 : tm.getD 7 IV.undef = .bool want) (t8 : tm.getD 8 IV.undef = .int .i64 0)
    (hQ : ∀ tm' : List IV, tm'.length = 121 → tm'.getD 5 IV.undef = .ptr x 0 → tm'.getD 6 IV.undef = .ptr y 0 → tm'.getD 7 IV.undef = .bool (want && !touB a b) → Q (.ex (.jmp (.exit 0)) ⟨tm', []⟩) H) :
    W E0 lo (.code (.loop F3l9) none ⟨tm, []⟩) H Q := by
  have ra := read_get ga
  have rb := read_get gb
  unfold ftL at ra rb
  refine W_inv (fun q fm H' => ∃ i : Nat, i + q = a.w.length ∧ H' = H ∧ fm.marks = [] ∧ fm.tm.length = 121 ∧ fm.tm.getD 5 IV.undef = .ptr x 0 ∧ fm.tm.getD 6 IV.undef = .ptr y 0 ∧ fm.tm.getD 7 IV.undef = .bool (want && !(a.w.take i).any (hitB b)) ∧ fm.tm.getD 8 IV.undef = .int .i64 i) ?_ a.w.length ⟨0, by omega, rfl, rfl, htm, t5, t6, by rw [t7]; simp, t8⟩
  clear htm t5 t6 t7 t8
  rintro q ⟨tm, mk⟩ H' ⟨i, hiq, rfl, rfl, htm, t5, t6, t7, t8⟩ L hN hJ
  rw [expl121 tm htm, t5, t6, t7, t8]
  by_cases hi : i < a.w.length
  · have r1 := hv.read z_N64 i hi
    have e1 := any_succ b a.w i hi
    cases hw : (want && !(a.w.take i).any (hitB b)) with
    | false =>
      simp (disch := omega) only [BAS, ↓BPR, reduceIte, reduceCtorEq, seval, -List.reduceReplicate, fpOf, freeNext, opW, binI, ev1, Heap.write, setAll, unI, eqKs, eqK, fillI, B3, F3l9, F3l14, ra, rb, ↓hv.ln]
      refine hN (q - 1) _ _ (by omega) ⟨i + 1, by omega, rfl, rfl, rfl, rfl, rfl, ?_, rfl⟩
      rw [e1, Bool.not_or, ← Bool.and_assoc, hw]; rfl
    | true =>
      have e2 : (want && !(a.w.take (i + 1)).any (hitB b)) = !hitB b a.w[i] := by rw [e1, Bool.not_or, ← Bool.and_assoc, hw, Bool.true_and]
      by_cases c1 : a.w[i].v < b.fr
      · simp (disch := omega) only [BAS, ↓BPR, reduceIte, reduceCtorEq, seval, -List.reduceReplicate, fpOf, freeNext, opW, binI, ev1, Heap.write, setAll, unI, eqKs, eqK, fillI, B3, F3l9, F3l14, ra, rb, ↓hv.ln, ↓hv.idx, r1, cs_N64, c1]
        refine hN (q - 1) _ _ (by omega) ⟨i + 1, by omega, rfl, rfl, rfl, rfl, rfl, ?_, rfl⟩
        rw [e2]; unfold hitB; rw [decide_eq_false (show ¬ b.fr ≤ a.w[i].v by omega)]; rfl
      · by_cases c2 : a.w[i].v > b.to
        · simp (disch := omega) only [BAS, ↓BPR, reduceIte, reduceCtorEq, seval, -List.reduceReplicate, fpOf, freeNext, opW, binI, ev1, Heap.write, setAll, unI, eqKs, eqK, fillI, B3, F3l9, F3l14, ra, rb, ↓hv.ln, ↓hv.idx, r1, cs_N64, c1, c2]
          refine hN (q - 1) _ _ (by omega) ⟨i + 1, by omega, rfl, rfl, rfl, rfl, rfl, ?_, rfl⟩
          rw [e2]; unfold hitB; rw [decide_eq_false (show ¬ a.w[i].v ≤ b.to by omega), Bool.and_false]; rfl
        · simp (disch := omega) only [BAS, ↓BPR, reduceIte, reduceCtorEq, seval, -List.reduceReplicate, fpOf, freeNext, opW, binI, ev1, Heap.write, setAll, unI, eqKs, eqK, fillI, B3, F3l9, F3l14, ra, rb, ↓hv.ln, ↓hv.idx, r1, cs_N64, c1, c2]
          refine hN (q - 1) _ _ (by omega) ⟨i + 1, by omega, rfl, rfl, rfl, rfl, rfl, ?_, rfl⟩
          rw [e2]; unfold hitB; rw [decide_eq_true (show b.fr ≤ a.w[i].v by omega), decide_eq_true (show a.w[i].v ≤ b.to by omega)]; rfl
  · have e9 : a.w.take i = a.w := List.take_of_length_le (by omega)
    simp (disch := omega) only [BAS, ↓BPR, reduceIte, reduceCtorEq, seval, -List.reduceReplicate, fpOf, freeNext, opW, binI, ev1, Heap.write, setAll, unI, eqKs, eqK, fillI, B3, F3l9, F3l14, ra, ↓hv.ln, hJ]
    refine hQ _ rfl rfl rfl ?_
    show IV.bool (want && !(a.w.take i).any (hitB b)) = _
    rw [e9]; rfl
theorem tf_loop2 {a b : Ft} {v u : SV} {x y : Nat} {want : Bool} {H : Heap} {lo : Nat} {Q : Out → Heap → Prop} {tm : List IV} (hu : Sl H u b.w) (hl : b.w.length ≤ 1000) (ga : H.get x = some (.cells false 27 6 (ftL a v))) (gb : H.get y = some (.cells false 27 6 (ftL b u)))
    (htm : tm.length = 121) (t5 : tm.getD 5 IV.undef = .ptr x 0) (t6 : tm.getD 6 IV.undef = .ptr y 0) (t7 : tm.getD 7 IV.undef = .bool want) (t9 : tm.getD 9 IV.undef = .int .i64 0)
    (hQ : ∀ tm' : List IV, tm'.length = 121 → tm'.getD 5 IV.undef = .ptr x 0 → tm'.getD 6 IV.undef = .ptr y 0 → tm'.getD 7 IV.undef = .bool (want && !touB b a) → Q (.ex (.jmp (.exit 2)) ⟨tm', []⟩) H) :
    W E0 lo (.code (.loop F3l14) none ⟨tm, []⟩) H Q := by
  have ra := read_get ga
  have rb := read_get gb
  unfold ftL at ra rb
  refine W_inv (fun q fm H' => ∃ i : Nat, i + q = b.w.length ∧ H' = H ∧ fm.marks = [] ∧ fm.tm.length = 121 ∧ fm.tm.getD 5 IV.undef = .ptr x 0 ∧ fm.tm.getD 6 IV.undef = .ptr y 0 ∧ fm.tm.getD 7 IV.undef = .bool (want && !(b.w.take i).any (hitB a)) ∧ fm.tm.getD 9 IV.undef = .int .i64 i) ?_ b.w.length ⟨0, by omega, rfl, rfl, htm, t5, t6, by rw [t7]; simp, t9⟩
  clear htm t5 t6 t7 t9
  rintro q ⟨tm, mk⟩ H' ⟨i, hiq, rfl, rfl, htm, t5, t6, t7, t9⟩ L hN hJ
  rw [expl121 tm htm, t5, t6, t7, t9]
  by_cases hi : i < b.w.length
  · have r1 := hu.read z_N64 i hi
    have e1 := any_succ a b.w i hi
    cases hw : (want && !(b.w.take i).any (hitB a)) with
    | false =>
      simp (disch := omega) only [BAS, ↓BPR, reduceIte, reduceCtorEq, seval, -List.reduceReplicate, fpOf, freeNext, opW, binI, ev1, Heap.write, setAll, unI, eqKs, eqK, fillI, B3, F3l9, F3l14, ra, rb, ↓hu.ln]
      refine hN (q - 1) _ _ (by omega) ⟨i + 1, by omega, rfl, rfl, rfl, rfl, rfl, ?_, rfl⟩
      rw [e1, Bool.not_or, ← Bool.and_assoc, hw]; rfl
    | true =>
      have e2 : (want && !(b.w.take (i + 1)).any (hitB a)) = !hitB a b.w[i] := by rw [e1, Bool.not_or, ← Bool.and_assoc, hw, Bool.true_and]
      by_cases c1 : b.w[i].v < a.fr
      · simp (disch := omega) only [BAS, ↓BPR, reduceIte, reduceCtorEq, seval, -List.reduceReplicate, fpOf, freeNext, opW, binI, ev1, Heap.write, setAll, unI, eqKs, eqK, fillI, B3, F3l9, F3l14, ra, rb, ↓hu.ln, ↓hu.idx, r1, cs_N64, c1]
        refine hN (q - 1) _ _ (by omega) ⟨i + 1, by omega, rfl, rfl, rfl, rfl, rfl, ?_, rfl⟩
        rw [e2]; unfold hitB; rw [decide_eq_false (show ¬ a.fr ≤ b.w[i].v by omega)]; rfl
      · by_cases c2 : b.w[i].v > a.to
        · simp (disch := omega) only [BAS, ↓BPR, reduceIte, reduceCtorEq, seval, -List.reduceReplicate, fpOf, freeNext, opW, binI, ev1, Heap.write, setAll, unI, eqKs, eqK, fillI, B3, F3l9, F3l14, ra, rb, ↓hu.ln, ↓hu.idx, r1, cs_N64, c1, c2]
          refine hN (q - 1) _ _ (by omega) ⟨i + 1, by omega, rfl, rfl, rfl, rfl, rfl, ?_, rfl⟩
          rw [e2]; unfold hitB; rw [decide_eq_false (show ¬ b.w[i].v ≤ a.to by omega), Bool.and_false]; rfl
        · simp (disch := omega) only [BAS, ↓BPR, reduceIte, reduceCtorEq, seval, -List.reduceReplicate, fpOf, freeNext, opW, binI, ev1, Heap.write, setAll, unI, eqKs, eqK, fillI, B3, F3l9, F3l14, ra, rb, ↓hu.ln, ↓hu.idx, r1, cs_N64, c1, c2]
          refine hN (q - 1) _ _ (by omega) ⟨i + 1, by omega, rfl, rfl, rfl, rfl, rfl, ?_, rfl⟩
          rw [e2]; unfold hitB; rw [decide_eq_true (show a.fr ≤ b.w[i].v by omega), decide_eq_true (show b.w[i].v ≤ a.to by omega)]; rfl
  · have e9 : b.w.take i = b.w := List.take_of_length_le (by omega)
    simp (disch := omega) only [BAS, ↓BPR, reduceIte, reduceCtorEq, seval, -List.reduceReplicate, fpOf, freeNext, opW, binI, ev1, Heap.write, setAll, unI, eqKs, eqK, fillI, B3, F3l9, F3l14, rb, ↓hu.ln, hJ]
    refine hQ _ rfl rfl rfl ?_
    show IV.bool (want && !(b.w.take i).any (hitB a)) = _
    rw [e9]; rfl
end Go.Iso.Gen
end

section
namespace Go.Iso.Gen
open Go.Iso
set_option maxHeartbeats 4000000
set_option maxRecDepth 10000

theorem freeB_comm (a b : Ft) : freeB b a = freeB a b := by
  have e1 : sameB b a = sameB a b := by
    unfold sameB
    rw [Bool.and_comm b.rk a.rk]
    congr 1
    by_cases h : a.y = b.y
    · rw [h]
    · rw [decide_eq_false (fun e => h e.1.symm), decide_eq_false (fun e => h e.1)]
  have e2 : stopB b a = stopB a b := by unfold stopB; rw [Bool.or_comm]
  unfold freeB
  rw [e1, e2, Bool.and_assoc, Bool.and_comm (!touB b a), ← Bool.and_assoc]

theorem tf_end {a b : Ft} {v u : SV} {x y : Nat} {want : Bool} {H0 H : Heap} (ht : Tabs tabs H0) (hk : Keep H0.n H0 H) (hv : Sl H v a.w) (hu : Sl H u b.w) (hl : a.w.length ≤ 1000) (hl' : b.w.length ≤ 1000) (ga : H.get x = some (.cells false 27 6 (ftL a v))) (gb : H.get y = some (.cells false 27 6 (ftL b u)))
    (hx : x < H.n) (hy : y < H.n) (hw : want = freeB a b) {tm : List IV} (htm : tm.length = 121) (t5 : tm.getD 5 IV.undef = .ptr x 0) (t6 : tm.getD 6 IV.undef = .ptr y 0) (t7 : tm.getD 7 IV.undef = .bool want) :
    W E0 H0.n (.code (.seq F3o15 .ret) none ⟨tm, []⟩) H (retC H0.n F3.results fun o _ => o = .val (.bool true)) := by
  have ra := read_get ga
  have rb := read_get gb
  unfold ftL at ra rb
  have hn := hk.1
  rw [expl121 tm htm, t5, t6, t7]
  simp (disch := omega) only [BAS, ↓BPR, reduceIte, reduceCtorEq, seval, -List.reduceReplicate, fpOf, freeNext, opW, binI, ev1, Heap.write, setAll, unI, eqKs, eqK, fillI, B3, ra, rb]
  refine free_sp a b hv hu (by omega) (by omega) (by omega) fun H1 k1 => ?_
  have hn1 := k1.1
  replace ga := (k1.2 _ (by omega) (by omega)).trans ga
  replace gb := (k1.2 _ (by omega) (by omega)).trans gb
  have ra1 := read_get ga
  have rb1 := read_get gb
  unfold ftL at ra1 rb1
  rw [← hw]
  have hv1 := hv.keep k1
  have hu1 := hu.keep k1
  have ew : (want == want) = true := by simp
  simp (disch := omega) only [BAS, ↓BPR, reduceIte, reduceCtorEq, seval, -List.reduceReplicate, fpOf, freeNext, opW, binI, ev1, Heap.write, setAll, unI, eqKs, eqK, fillI, B3, ra1, rb1, ew]
  refine free_sp b a hu1 hv1 (by omega) (by omega) (by omega) fun H2 k2 => ?_
  rw [freeB_comm a b, ← hw]
  simp (disch := omega) only [BAS, ↓BPR, reduceIte, reduceCtorEq, seval, -List.reduceReplicate, fpOf, freeNext, opW, binI, ev1, Heap.write, setAll, unI, eqKs, eqK, fillI, B3, ew]
  refine c7 (Tabs.keep' ht (hk.trans ((k1.lower (by omega)).trans (k2.lower (by omega))))) ?_
  simp (disch := omega) only [BAS, ↓BPR, reduceIte, reduceCtorEq, seval, -List.reduceReplicate, fpOf, freeNext, opW, binI, ev1, Heap.write, setAll, unI, eqKs, eqK, fillI, B3]

theorem tf_mid {a b : Ft} {v u : SV} {x y : Nat} {want : Bool} {H0 H : Heap} (ht : Tabs tabs H0) (hk : Keep H0.n H0 H) (hv : Sl H v a.w) (hu : Sl H u b.w) (hl : a.w.length ≤ 1000) (hl' : b.w.length ≤ 1000) (ga : H.get x = some (.cells false 27 6 (ftL a v))) (gb : H.get y = some (.cells false 27 6 (ftL b u)))
    (hx : x < H.n) (hy : y < H.n) (hw : want = (!sameB a b && !stopB a b)) {tm : List IV} (htm : tm.length = 121) (t5 : tm.getD 5 IV.undef = .ptr x 0) (t6 : tm.getD 6 IV.undef = .ptr y 0) (t7 : tm.getD 7 IV.undef = .bool want) :
    W E0 H0.n (.code (.seq (.seq F3o5 (.block 0 (.loop F3l9))) (.seq (.seq F3o10 (.block 2 (.loop F3l14))) (.seq F3o15 .ret))) none ⟨tm, []⟩) H (retC H0.n F3.results fun o _ => o = .val (.bool true)) := by
  rw [expl121 tm htm, t5, t6, t7]
  simp (disch := omega) only [BAS, ↓BPR, reduceIte, reduceCtorEq, seval, -List.reduceReplicate, fpOf, freeNext, opW, binI, ev1, Heap.write, setAll, unI, eqKs, eqK, fillI, B3]
  refine tf_loop1 hv hl ga gb rfl rfl rfl rfl rfl fun tm1 htm1 s5 s6 s7 => ?_
  rw [expl121 tm1 htm1, s5, s6, s7]
  simp (disch := omega) only [BAS, ↓BPR, reduceIte, reduceCtorEq, seval, -List.reduceReplicate, fpOf, freeNext, opW, binI, ev1, Heap.write, setAll, unI, eqKs, eqK, fillI, wF3o0, F3p0, wF3o1, F3p1, wF3o2, F3p2, wF3o3, F3p3, wF3o4, F3p4, wF3o5, F3p5, wF3o6, F3p6, wF3o7, F3p7, wF3o8, F3p8, wF3o10, F3p10, wF3o11, F3p11, wF3o12, F3p12, wF3o13, F3p13, F3p15, F3b, F3]
  refine tf_loop2 hu hl' ga gb rfl rfl rfl rfl rfl fun tm2 htm2 s5 s6 s7 => ?_
  simp only [blkC_e, thenC_n]
  exact tf_end ht hk hv hu hl hl' ga gb hx hy (by rw [hw]; rfl) htm2 s5 s6 s7

theorem tracesFree_run {y k f l y' k' f' l' : Nat} {w w' : List N8} {v v' : SV} (h1 : y ≤ 255 ∧ k ≤ 255 ∧ f ≤ 255 ∧ l ≤ 255) (h2 : y' ≤ 255 ∧ k' ≤ 255 ∧ f' ≤ 255 ∧ l' ≤ 255) (h3 : ∀ n ∈ w, n.v ≤ 255) (h4 : ∀ n ∈ w', n.v ≤ 255) {H : Heap} (ht : Tabs tabs H) (hv : Sl H v w) (hv' : Sl H v' w') : W E0 H.n (.call 3 [.agg [.int .u8 y, .int .u8 k, .int .u8 f, .int .u8 l, v.iv], .agg [.int .u8 y', .int .u8 k', .int .u8 f', .int .u8 l', v'.iv]]) H (fun o _ => o = .val (.bool true)) := by
  rw [c3]
  simp (disch := omega) only [BAS, ↓BPR, reduceIte, reduceCtorEq, seval, -List.reduceReplicate, fpOf, freeNext, opW, binI, ev1, Heap.write, setAll, unI, eqKs, eqK, fillI, B3]
  generalize hH_H1 : Heap.new _ _ = H1
  have hnH1 : H1.n = H.n + 2 := by rw [← hH_H1]; rfl
  have g0 := congrArg (fun h0 => Heap.get h0 (H.n)) hH_H1.symm
  simp (disch := omega) only [BAS, ↓BPR, reduceIte, reduceCtorEq, seval, -List.reduceReplicate, fpOf, freeNext, opW, binI, ev1, Heap.write, setAll, unI, eqKs, eqK, fillI] at g0
  have g1 := congrArg (fun h0 => Heap.get h0 (H.n + 1)) hH_H1.symm
  simp (disch := omega) only [BAS, ↓BPR, reduceIte, reduceCtorEq, seval, -List.reduceReplicate, fpOf, freeNext, opW, binI, ev1, Heap.write, setAll, unI, eqKs, eqK, fillI] at g1
  have kH1 : Keep H.n H H1 := ⟨by omega, fun x hx _ => by
    have gx := congrArg (fun h0 => Heap.get h0 x) hH_H1.symm
    simp (disch := omega) only [BAS, ↓BPR, reduceIte, reduceCtorEq, seval, -List.reduceReplicate, fpOf, freeNext, opW, binI, ev1, Heap.write, setAll, unI, eqKs, eqK, fillI] at gx
    exact gx⟩
  clear hH_H1
  refine of_sp h1.1 h1.2.1 h1.2.2.1 h1.2.2.2 h3 (hv.keep kH1) (by omega) fun H2 u k2 gu => ?_
  have hn2 := k2.1
  replace g1 := (k2.2 _ (by omega) (by omega)).trans g1
  replace kH1 : Keep H.n H H2 := kH1.trans (k2.lower (by omega))
  have r1 := read_get g1
  have la : (fOf y k f l w).w.length ≤ 4 := by show ((w.take 4).map wrF).length ≤ 4; rw [List.length_map, List.length_take]; omega
  have ya : 0 ≤ (fOf y k f l w).y := by show (0 : Int) ≤ ((y % 4 : Nat) : Int); omega
  generalize fOf y k f l w = a at gu la ya
  simp (disch := omega) only [BAS, ↓BPR, reduceIte, reduceCtorEq, seval, -List.reduceReplicate, fpOf, freeNext, opW, binI, ev1, Heap.write, setAll, unI, eqKs, eqK, fillI, wF3o0, F3p0, wF3o1, F3p1, wF3o2, F3p2, F3p3, wF3o4, F3p4, F3p5, wF3o6, F3p6, wF3o7, F3p7, wF3o8, F3p8, F3p10, wF3o11, F3p11, wF3o12, F3p12, wF3o13, F3p13, F3p15, F3b, F3, r1, ftL]
  refine of_sp h2.1 h2.2.1 h2.2.2.1 h2.2.2.2 h4 (hv'.keep kH1) (by omega) fun H3 u' k3 gu' => ?_
  have hn3 := k3.1
  have lb : (fOf y' k' f' l' w').w.length ≤ 4 := by show ((w'.take 4).map wrF).length ≤ 4; rw [List.length_map, List.length_take]; omega
  generalize fOf y' k' f' l' w' = b at gu' lb
  have su := gu.sl.keep k3
  have su' := gu'.sl
  replace kH1 : Keep H.n H H3 := kH1.trans (k3.lower (by omega))
  simp (disch := omega) only [BAS, ↓BPR, reduceIte, reduceCtorEq, seval, -List.reduceReplicate, fpOf, freeNext, opW, binI, ev1, Heap.write, setAll, unI, eqKs, eqK, fillI, wF3o0, F3p0, wF3o1, F3p1, wF3o2, F3p2, F3p3, wF3o4, F3p4, F3p5, wF3o6, F3p6, wF3o7, F3p7, wF3o8, F3p8, F3p10, wF3o11, F3p11, wF3o12, F3p12, wF3o13, F3p13, F3p15, F3b, F3, ftL]
  generalize hH_H4 : Heap.put _ _ _ = H4
  have hnH4 : H4.n = H3.n + 2 := by rw [← hH_H4]; rfl
  have ga := congrArg (fun h0 => Heap.get h0 (H3.n)) hH_H4.symm
  simp (disch := omega) only [BAS, ↓BPR, reduceIte, reduceCtorEq, seval, -List.reduceReplicate, fpOf, freeNext, opW, binI, ev1, Heap.write, setAll, unI, eqKs, eqK, fillI] at ga
  have gb := congrArg (fun h0 => Heap.get h0 (H3.n + 1)) hH_H4.symm
  simp (disch := omega) only [BAS, ↓BPR, reduceIte, reduceCtorEq, seval, -List.reduceReplicate, fpOf, freeNext, opW, binI, ev1, Heap.write, setAll, unI, eqKs, eqK, fillI] at gb
  have kH4 : Keep H3.n H3 H4 := ⟨by omega, fun x hx _ => by
    have gx := congrArg (fun h0 => Heap.get h0 x) hH_H4.symm
    simp (disch := omega) only [BAS, ↓BPR, reduceIte, reduceCtorEq, seval, -List.reduceReplicate, fpOf, freeNext, opW, binI, ev1, Heap.write, setAll, unI, eqKs, eqK, fillI] at gx
    exact gx⟩
  clear hH_H4
  have hk4 : Keep H.n H H4 := kH1.trans (kH4.lower (by omega))
  have su4 := su.keep kH4
  have su4' := su'.keep kH4
  have ra := read_get ga
  have rb := read_get gb
  have fin : ∀ (want : Bool) (tm : List IV), want = (!sameB a b && !stopB a b) → tm.length = 121 → tm.getD 5 IV.undef = .ptr H3.n 0 → tm.getD 6 IV.undef = .ptr (H3.n + 1) 0 → tm.getD 7 IV.undef = .bool want → W E0 H.n (.code (.seq (.seq F3o5 (.block 0 (.loop F3l9))) (.seq (.seq F3o10 (.block 2 (.loop F3l14))) (.seq F3o15 .ret))) none ⟨tm, []⟩) H4 (retC H.n F3.results fun o _ => o = .val (.bool true)) :=
    fun want tm hw htm t5 t6 t7 => tf_mid ht hk4 su4 su4' (by omega) (by omega) ga gb (by omega) (by omega) hw htm t5 t6 t7
  cases y1 : a.y == b.y <;> cases y2 : decide (a.y > 0) <;> cases ra' : a.rk <;> cases rb' : b.rk <;> cases sa : a.st <;> cases sb : b.st
  all_goals
    have es : ∃ z : Bool, sameB a b = z ∧ z = (((a.y == b.y) && decide (a.y > 0)) || (a.rk && b.rk)) := by
      refine ⟨_, rfl, ?_⟩
      unfold sameB
      congr 1
      by_cases q1 : a.y = b.y
      · by_cases q2 : a.y > 0
        · rw [decide_eq_true (show a.y = b.y ∧ a.y ≠ 0 by omega), decide_eq_true q2]; simp [q1]
        · rw [decide_eq_false (show ¬ (a.y = b.y ∧ a.y ≠ 0) by omega), decide_eq_false q2]; simp
      · rw [decide_eq_false (show ¬ (a.y = b.y ∧ a.y ≠ 0) by omega)]; simp [q1]
    obtain ⟨z, e1, e2⟩ := es
    have e3 : stopB a b = ((a.rk && !b.st) || (b.rk && !a.st)) := rfl
    rw [y1, y2, ra', rb'] at e2
    rw [ra', rb', sa, sb] at e3
    simp only [Bool.not_true, Bool.not_false, Bool.and_true, Bool.and_false, Bool.true_and, Bool.false_and, Bool.or_true, Bool.or_false, Bool.true_or, Bool.false_or, Bool.and_self, Bool.or_self] at e2 e3
    subst e2
    simp (disch := omega) only [BAS, ↓BPR, reduceIte, reduceCtorEq, seval, -List.reduceReplicate, fpOf, freeNext, opW, binI, ev1, Heap.write, setAll, unI, eqKs, eqK, fillI, wF3o0, F3p0, wF3o1, F3p1, wF3o2, F3p2, wF3o3, F3p3, wF3o4, F3p4, F3p5, wF3o6, F3p6, wF3o7, F3p7, wF3o8, F3p8, F3p10, wF3o11, F3p11, wF3o12, F3p12, wF3o13, F3p13, F3p15, F3b, F3, ra, rb, y1, y2, ra', rb', sa, sb]
    rw [← W_seq, ← W_seq]
    first
      | exact fin true _ (by rw [e1, e3]; rfl) rfl rfl rfl rfl
      | exact fin false _ (by rw [e1, e3]; rfl) rfl rfl rfl rfl
end Go.Iso.Gen
end
