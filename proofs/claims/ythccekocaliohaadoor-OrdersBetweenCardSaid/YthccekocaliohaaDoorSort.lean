/-
  the stable sort of the library.
-/
import Derived.Test.YthccekocaliohaaDoorFnB
set_option linter.unusedSimpArgs false
set_option linter.unusedVariables false

section
namespace Go.Iso
/-- All blocks but one stay. -/
def KeepX (mb : Nat) (H H' : Heap) : Prop := H.n ≤ H'.n ∧ ∀ x, x < H.n → x ≠ mb → H'.get x = H.get x
theorem KeepX.refl (mb : Nat) (H : Heap) : KeepX mb H H := ⟨Nat.le_refl _, fun _ _ _ => rfl⟩
theorem KeepX.trans {mb : Nat} {a b c : Heap} (h : KeepX mb a b) (k : KeepX mb b c) : KeepX mb a c := ⟨Nat.le_trans h.1 k.1, fun x h1 h2 => (k.2 x (Nat.lt_of_lt_of_le h1 h.1) h2).trans (h.2 x h1 h2)⟩
theorem KeepX.of {mb : Nat} {H H' : Heap} (k : Keep H.n H H') : KeepX mb H H' := ⟨k.1, fun x h _ => k.2 x h h⟩
theorem KeepX.put {mb : Nat} {H : Heap} (o : IObj) : KeepX mb H (H.put mb o) := ⟨Nat.le_refl _, fun x _ h => by rw [Heap.get_put, if_neg (Ne.symm h)]⟩
end Go.Iso
namespace Go.Iso.Gen
open Go.Iso
set_option maxHeartbeats 1000000
set_option maxRecDepth 10000

/-- A loop that is held, with its place in the list from which the order is made. -/
structure Hd where
  id : Id
  bed : Int
  at_ : Int
  spot : Int
  k : Nat
  deriving Inhabited
instance : Cell Hd where
  z := 5
  cs h := [.int .u8 h.id.y, .int .i64 h.id.n, .int .u8 h.bed, .int .i64 h.at_, .int .i64 h.spot]
  len _ := rfl
  one _ := rfl
  pos := by omega
theorem cs_Hd (h : Hd) : Cell.cs h = [.int .u8 h.id.y, .int .i64 h.id.n, .int .u8 h.bed, .int .i64 h.at_, .int .i64 h.spot] := rfl
theorem z_Hd : Cell.z Hd = 5 := rfl
def ltH (x y : Hd) : Prop := x.spot < y.spot ∨ (x.spot = y.spot ∧ x.k < y.k)
theorem ltH_irr (a : Hd) : ¬ ltH a a := by unfold ltH; omega
theorem ltH_tr (a b c : Hd) (h : ltH a b) (k : ltH b c) : ltH a c := by unfold ltH at *; omega
def ordH (x y : Hd) : Prop := x.k < y.k

def cmpI (a b : Int) : Int := if a < b then -1 else if a > b then 1 else 0
theorem cmp_sp (a b : Int) {H : Heap} {lo : Nat} {Q : Out → Heap → Prop} (h : Q (.val (.int .i64 (cmpI a b))) H) : W E0 lo (.call 28 [.int .i64 a, .int .i64 b]) H Q := by
  rw [c28]
  unfold cmpI at h
  by_cases h1 : a < b
  · rw [if_pos h1] at h
    simp (disch := omega) only [BAS, ↓BPR, reduceIte, reduceCtorEq, seval, -List.reduceReplicate, fpOf, freeNext, opW, binI, ev1, Heap.write, setAll, unI, eqKs, eqK, fillI, B28, B50, c50]
    exact h
  · rw [if_neg h1] at h
    by_cases h2 : a > b
    · rw [if_pos h2] at h
      simp (disch := omega) only [BAS, ↓BPR, reduceIte, reduceCtorEq, seval, -List.reduceReplicate, fpOf, freeNext, opW, binI, ev1, Heap.write, setAll, unI, eqKs, eqK, fillI, B28, B50, c50]
      exact h
    · rw [if_neg h2] at h
      simp (disch := omega) only [BAS, ↓BPR, reduceIte, reduceCtorEq, seval, -List.reduceReplicate, fpOf, freeNext, opW, binI, ev1, Heap.write, setAll, unI, eqKs, eqK, fillI, B28, B50, c50]
      exact h

theorem less_sp (x y : Hd) {H : Heap} {lo : Nat} {Q : Out → Heap → Prop} (hlo : lo ≤ H.n) (h : ∀ H', Keep H.n H H' → Q (.val (.int .i64 (cmpI x.spot y.spot))) H') : W E0 lo (.call 27 [.agg (Cell.cs x), .agg (Cell.cs y)]) H Q := by
  refine pureQ _ hlo h fun R hR => ?_
  rw [c27]
  simp (disch := omega) only [BAS, ↓BPR, reduceIte, reduceCtorEq, seval, -List.reduceReplicate, fpOf, freeNext, opW, binI, ev1, Heap.write, setAll, unI, eqKs, eqK, fillI, B27, cs_Hd]
  refine cmp_sp _ _ ?_
  simp (disch := omega) only [BAS, ↓BPR, reduceIte, reduceCtorEq, seval, -List.reduceReplicate, fpOf, freeNext, opW, binI, ev1, Heap.write, setAll, unI, eqKs, eqK, fillI, B27]
  exact hR _
end Go.Iso.Gen
end

section
-- fast
namespace Go.Iso
theorem Own.store {α : Type} [Cell α] {H : Heap} {b e cap : Nat} {l : List α} (h : Own H b e cap l) {z : Nat} (hz : Cell.z α = z) (i : Nat) (hi : i < l.length) (a : α) (lo : Nat) (hlo : lo ≤ b) : ∃ ob, ev1 (.store z) [.ptr b (i * z), .agg (Cell.cs a)] lo H = some (IV.undef, H.put b ob) ∧ Own (H.put b ob) b e cap (l.set i a) := by
  obtain ⟨cs, w, s⟩ := h.set hz i hi a lo hlo
  refine ⟨_, ?_, s⟩
  simp only [ev1, IV.cells, w, Option.map_some]
  rw [if_pos (by rw [Cell.len]; exact hz)]
theorem own_swap {α : Type} [Cell α] [Inhabited α] {H : Heap} {b e cap : Nat} {l : List α} (h : Own H b e cap l) {z : Nat} (hz : Cell.z α = z) {i j : Nat} (hi : i < l.length) (hj : j < l.length) (lo : Nat) (hlo : lo ≤ b) :
    ∃ o1 o2, ev1 (.store z) [.ptr b (i * z), .agg (Cell.cs (nth l j))] lo H = some (IV.undef, H.put b o1) ∧ ev1 (.store z) [.ptr b (j * z), .agg (Cell.cs (nth l i))] lo (H.put b o1) = some (IV.undef, (H.put b o1).put b o2) ∧ Own ((H.put b o1).put b o2) b e cap (swapL l i j) := by
  obtain ⟨o1, w1, s1⟩ := h.store hz i hi (nth l j) lo hlo
  obtain ⟨o2, w2, s2⟩ := s1.store hz j (by simpa using hj) (nth l i) lo hlo
  exact ⟨_, _, w1, w2, s2⟩
theorem Own.nthRead {α : Type} [Cell α] [Inhabited α] {H : Heap} {b e cap : Nat} {l : List α} (h : Own H b e cap l) {z : Nat} (hz : Cell.z α = z) {i : Nat} (hi : i < l.length) : H.read b (i * z) z = some (Cell.cs (nth l i)) := by
  have := (h.sl true).read hz i hi
  rw [nth_in hi]
  simpa [SV.blk, SV.off] using this
end Go.Iso
namespace Go.Iso.Gen
open Go.Iso
set_option maxHeartbeats 1000000
set_option maxRecDepth 10000

theorem expl38 (tm : List IV) (h : tm.length = 38) : tm = [tm.getD 0 IV.undef, tm.getD 1 IV.undef, tm.getD 2 IV.undef, tm.getD 3 IV.undef, tm.getD 4 IV.undef, tm.getD 5 IV.undef, tm.getD 6 IV.undef, tm.getD 7 IV.undef, tm.getD 8 IV.undef, tm.getD 9 IV.undef, tm.getD 10 IV.undef, tm.getD 11 IV.undef, tm.getD 12 IV.undef, tm.getD 13 IV.undef, tm.getD 14 IV.undef, tm.getD 15 IV.undef, tm.getD 16 IV.undef, tm.getD 17 IV.undef, tm.getD 18 IV.undef, tm.getD 19 IV.undef, tm.getD 20 IV.undef, tm.getD 21 IV.undef, tm.getD 22 IV.undef, tm.getD 23 IV.undef, tm.getD 24 IV.undef, tm.getD 25 IV.undef, tm.getD 26 IV.undef, tm.getD 27 IV.undef, tm.getD 28 IV.undef, tm.getD 29 IV.undef, tm.getD 30 IV.undef, tm.getD 31 IV.undef, tm.getD 32 IV.undef, tm.getD 33 IV.undef, tm.getD 34 IV.undef, tm.getD 35 IV.undef, tm.getD 36 IV.undef, tm.getD 37 IV.undef] := (expl tm 38 h).trans rfl
theorem swapRange_sp {blk e cap : Nat} {ex : Bool} {l : List Hd} {g : IV} (a b n : Nat) {H : Heap} {lo : Nat} {Q : Out → Heap → Prop} (hO : Own H blk e cap l) (hlo : lo ≤ blk) (hl : l.length ≤ 1000000) (hab : a + n ≤ b) (hb : b + n ≤ l.length)
    (h : ∀ H' l', KeepX blk H H' → Own H' blk e cap l' → Mix a (b + n) l l' → (∀ x, nth l' x = swapF (nth l) a b n x) → Q (.val (.tuple [])) H') : W E0 lo (.call 59 [(SV.sl blk 0 l.length cap ex).iv, .int .i64 a, .int .i64 b, .int .i64 n, g]) H Q := by
  rw [c59]
  simp (disch := omega) only [BAS, ↓BPR, reduceIte, reduceCtorEq, seval, -List.reduceReplicate, fpOf, freeNext, opW, binI, ev1, Heap.write, setAll, unI, eqKs, eqK, fillI, B59]
  refine W_inv (fun k fr H' => ∃ (i : Nat) (l' : List Hd), i + k = n ∧ KeepX blk H H' ∧ Own H' blk e cap l' ∧ Mix a (b + n) l l' ∧ (∀ x, nth l' x = swapF (nth l) a b i x) ∧ fr.marks = [] ∧ fr.tm.length = 38 ∧ fr.tm.getD 0 IV.undef = (SV.sl blk 0 l.length cap ex).iv ∧ fr.tm.getD 1 IV.undef = .int .i64 a ∧ fr.tm.getD 2 IV.undef = .int .i64 b ∧ fr.tm.getD 3 IV.undef = .int .i64 n ∧ fr.tm.getD 10 IV.undef = .int .i64 i) ?_ n ⟨0, l, by omega, KeepX.refl _ _, hO, Mix.refl _ _ _, fun x => (swapF_zero _ _ _ _).symm, rfl, rfl, rfl, rfl, rfl, rfl, rfl⟩
  rintro k ⟨tm, mk⟩ H' ⟨i, l', hik, hk, hO', hM, hf, rfl, htm, t0, t1, t2, t3, t10⟩ L hN hJ
  rw [expl38 tm htm, t0, t1, t2, t3, t10]
  by_cases hi : i < n
  · have hl' := hM.len
    have hv := hO'.sl ex
    rw [hl'] at hv
    have hv' : Sl H' (SV.sl blk 0 l.length cap ex) l' := hv
    obtain ⟨o1, o2, w1, w2, s2⟩ := own_swap hO' z_Hd (i := a + i) (j := b + i) (by omega) (by omega) lo hlo
    have r1 := hO'.nthRead z_Hd (i := a + i) (by omega)
    have r2 := hO'.nthRead z_Hd (i := b + i) (by omega)
    have ea : ((a : Int) + (i : Int)).toNat = a + i := by omega
    have eb : ((b : Int) + (i : Int)).toNat = b + i := by omega
    have hidx : ∀ (x : Int) (lo : Nat) (H9 : Heap), 0 ≤ x → x < l.length → ev1 (.idxSl 5) [.slice blk 0 l.length cap ex, .int .i64 x] lo H9 = some (.ptr blk (x.toNat * 5), H9) := fun x lo H9 h0 h1 => by
      have := hv'.idx 5 x lo H9 h0 (by omega)
      simpa [SV.blk, SV.off, SV.iv] using this
    simp (disch := omega) only [BAS, ↓BPR, reduceIte, reduceCtorEq, seval, -List.reduceReplicate, fpOf, freeNext, opW, binI, ev1, Heap.write, setAll, unI, eqKs, eqK, fillI, B59, F59l4, ↓hidx, ea, eb, r1, r2, ↓w1, ↓w2]
    have hM' : Mix a (b + n) l' (swapL l' (a + i) (b + i)) := Mix.swap (by omega) (by omega) (by omega)
    refine hN (k - 1) _ _ (by omega) ⟨i + 1, swapL l' (a + i) (b + i), by omega, (hk.trans (KeepX.put _)).trans (KeepX.put _), s2, hM.trans hM', fun x => ?_, rfl, rfl, rfl, rfl, rfl, rfl, rfl⟩
    refine swapF_succ (g := nth (swapL l' (a + i) (b + i))) (by omega) (fun y => ?_) x
    rw [nth_swap (by omega) (by omega), hf, hf, hf]
  · simp (disch := omega) only [BAS, ↓BPR, reduceIte, reduceCtorEq, seval, -List.reduceReplicate, fpOf, freeNext, opW, binI, ev1, Heap.write, setAll, unI, eqKs, eqK, fillI, B59, F59l4, hJ]
    have : i = n := by omega
    subst this
    exact h H' l' hk hO' hM hf
end Go.Iso.Gen
end

section
-- fast
namespace Go.Iso.Gen
open Go.Iso
set_option maxHeartbeats 1000000
set_option maxRecDepth 10000

theorem expl58 (tm : List IV) (h : tm.length = 58) : tm = [tm.getD 0 IV.undef, tm.getD 1 IV.undef, tm.getD 2 IV.undef, tm.getD 3 IV.undef, tm.getD 4 IV.undef, tm.getD 5 IV.undef, tm.getD 6 IV.undef, tm.getD 7 IV.undef, tm.getD 8 IV.undef, tm.getD 9 IV.undef, tm.getD 10 IV.undef, tm.getD 11 IV.undef, tm.getD 12 IV.undef, tm.getD 13 IV.undef, tm.getD 14 IV.undef, tm.getD 15 IV.undef, tm.getD 16 IV.undef, tm.getD 17 IV.undef, tm.getD 18 IV.undef, tm.getD 19 IV.undef, tm.getD 20 IV.undef, tm.getD 21 IV.undef, tm.getD 22 IV.undef, tm.getD 23 IV.undef, tm.getD 24 IV.undef, tm.getD 25 IV.undef, tm.getD 26 IV.undef, tm.getD 27 IV.undef, tm.getD 28 IV.undef, tm.getD 29 IV.undef, tm.getD 30 IV.undef, tm.getD 31 IV.undef, tm.getD 32 IV.undef, tm.getD 33 IV.undef, tm.getD 34 IV.undef, tm.getD 35 IV.undef, tm.getD 36 IV.undef, tm.getD 37 IV.undef, tm.getD 38 IV.undef, tm.getD 39 IV.undef, tm.getD 40 IV.undef, tm.getD 41 IV.undef, tm.getD 42 IV.undef, tm.getD 43 IV.undef, tm.getD 44 IV.undef, tm.getD 45 IV.undef, tm.getD 46 IV.undef, tm.getD 47 IV.undef, tm.getD 48 IV.undef, tm.getD 49 IV.undef, tm.getD 50 IV.undef, tm.getD 51 IV.undef, tm.getD 52 IV.undef, tm.getD 53 IV.undef, tm.getD 54 IV.undef, tm.getD 55 IV.undef, tm.getD 56 IV.undef, tm.getD 57 IV.undef] := (expl tm 58 h).trans rfl
theorem rotate_sp {blk e cap : Nat} {ex : Bool} {l : List Hd} {g : IV} (a m b : Nat) {H : Heap} {lo : Nat} {Q : Out → Heap → Prop} (hO : Own H blk e cap l) (hlo : lo ≤ blk) (hl : l.length ≤ 1000000) (ham : a < m) (hmb : m < b) (hb : b ≤ l.length)
    (h : ∀ H' l', KeepX blk H H' → Own H' blk e cap l' → Mix a b l l' → (∀ x, nth l' x = rotF (nth l) a m b x) → Q (.val (.tuple [])) H') : W E0 lo (.call 58 [(SV.sl blk 0 l.length cap ex).iv, .int .i64 a, .int .i64 m, .int .i64 b, g]) H Q := by
  rw [c58]
  simp (disch := omega) only [BAS, ↓BPR, reduceIte, reduceCtorEq, seval, -List.reduceReplicate, fpOf, freeNext, opW, binI, ev1, Heap.write, setAll, unI, eqKs, eqK, fillI, B58]
  have e1 : (m : Int) - (a : Int) = ((m - a : Nat) : Int) := by omega
  have e2 : (b : Int) - (m : Int) = ((b - m : Nat) : Int) := by omega
  refine W_inv (fun k fr H' => ∃ (i j : Nat) (l' : List Hd), i + j = k ∧ 0 < i ∧ 0 < j ∧ i ≤ m - a ∧ j ≤ b - m ∧ KeepX blk H H' ∧ Own H' blk e cap l' ∧ Mix a b l l' ∧ (∀ x, rotF (nth l') (m - i) m (m + j) x = rotF (nth l) a m b x) ∧ fr.marks = [] ∧ fr.tm.length = 58 ∧ fr.tm.getD 0 IV.undef = (SV.sl blk 0 l.length cap ex).iv ∧ fr.tm.getD 2 IV.undef = .int .i64 m ∧ fr.tm.getD 4 IV.undef = g ∧ fr.tm.getD 10 IV.undef = .int .i64 i ∧ fr.tm.getD 11 IV.undef = .int .i64 j) ?_ ((m - a) + (b - m)) ⟨m - a, b - m, l, rfl, by omega, by omega, by omega, by omega, KeepX.refl _ _, hO, Mix.refl _ _ _, fun x => by rw [show m - (m - a) = a from by omega, show m + (b - m) = b from by omega], rfl, rfl, rfl, rfl, rfl, congrArg _ e1, congrArg _ e2⟩
  clear e1 e2
  rintro k ⟨tm, mk⟩ H' ⟨i, j, l', hik, hi0, hj0, hi, hj, hk, hO', hM, hf, rfl, htm, t0, t2, t4, t10, t11⟩ L hN hJ
  rw [expl58 tm htm, t0, t2, t4, t10, t11]
  have hl' := hM.len
  have e1 : (m : Int) - (i : Int) = ((m - i : Nat) : Int) := by omega
  rcases Nat.lt_trichotomy i j with hij | hij | hij
  · have e2 : (m : Int) + (j : Int) = ((m + j : Nat) : Int) := by omega
    have e3 : ((m + j : Nat) : Int) - (i : Int) = ((m + j - i : Nat) : Int) := by omega
    have e4 : (j : Int) - (i : Int) = ((j - i : Nat) : Int) := by omega
    simp (disch := omega) only [BAS, ↓BPR, reduceIte, reduceCtorEq, seval, -List.reduceReplicate, fpOf, freeNext, opW, binI, ev1, Heap.write, setAll, unI, eqKs, eqK, fillI, B58, F58l8, e1, e2, e3]
    rw [← hl']
    refine swapRange_sp (m - i) (m + j - i) i hO' hlo (by omega) (by omega) (by omega) fun H2 l2 k2 o2 m2 f2 => ?_
    simp (disch := omega) only [BAS, ↓BPR, reduceIte, reduceCtorEq, seval, -List.reduceReplicate, fpOf, freeNext, opW, binI, ev1, Heap.write, setAll, unI, eqKs, eqK, fillI, B58, F58l8, e4]
    refine hN _ _ _ (by omega) ⟨i, j - i, l2, rfl, by omega, by omega, by omega, by omega, hk.trans k2, o2, hM.trans (m2.wide (by omega) (by omega)), fun x => ?_, rfl, rfl, by rw [hl']; rfl, rfl, rfl, rfl, rfl⟩
    rw [rot_right (by omega) hi0 hij f2, hf]
  · subst hij
    simp (disch := omega) only [BAS, ↓BPR, reduceIte, reduceCtorEq, seval, -List.reduceReplicate, fpOf, freeNext, opW, binI, ev1, Heap.write, setAll, unI, eqKs, eqK, fillI, B58, F58l8, hJ, e1]
    rw [← hl']
    refine swapRange_sp (m - i) m i hO' hlo (by omega) (by omega) (by omega) fun H2 l2 k2 o2 m2 f2 => ?_
    simp (disch := omega) only [BAS, ↓BPR, reduceIte, reduceCtorEq, seval, -List.reduceReplicate, fpOf, freeNext, opW, binI, ev1, Heap.write, setAll, unI, eqKs, eqK, fillI, B58, F58l8]
    exact h H2 l2 (hk.trans k2) o2 (hM.trans (m2.wide (by omega) (by omega))) fun x => by rw [rot_same (by omega) f2, hf]
  · have e4 : (i : Int) - (j : Int) = ((i - j : Nat) : Int) := by omega
    simp (disch := omega) only [BAS, ↓BPR, reduceIte, reduceCtorEq, seval, -List.reduceReplicate, fpOf, freeNext, opW, binI, ev1, Heap.write, setAll, unI, eqKs, eqK, fillI, B58, F58l8, e1]
    rw [← hl']
    refine swapRange_sp (m - i) m j hO' hlo (by omega) (by omega) (by omega) fun H2 l2 k2 o2 m2 f2 => ?_
    simp (disch := omega) only [BAS, ↓BPR, reduceIte, reduceCtorEq, seval, -List.reduceReplicate, fpOf, freeNext, opW, binI, ev1, Heap.write, setAll, unI, eqKs, eqK, fillI, B58, F58l8, e4]
    refine hN _ _ _ (by omega) ⟨i - j, j, l2, rfl, by omega, by omega, by omega, by omega, hk.trans k2, o2, hM.trans (m2.wide (by omega) (by omega)), fun x => ?_, rfl, rfl, by rw [hl']; rfl, rfl, rfl, rfl, rfl⟩
    rw [rot_left (by omega) hj0 hij f2, hf]
end Go.Iso.Gen
end

section
-- fast
namespace Go.Iso.Gen
open Go.Iso
set_option maxHeartbeats 2000000
set_option maxRecDepth 10000

theorem cmpI_lt {a b : Int} (h : a < b) : (cmpI a b < 0) = True := by unfold cmpI; rw [if_pos h]; simp
theorem cmpI_ge {a b : Int} (h : b ≤ a) : (cmpI a b < 0) = False := by unfold cmpI; rw [if_neg (by omega)]; split <;> simp
theorem idxV {α : Type} [Cell α] {H : Heap} {blk e cap : Nat} {l : List α} (h : Own H blk e cap l) (ex : Bool) (z : Nat) : ∀ (x : Int) (lo : Nat) (H9 : Heap), 0 ≤ x → x < l.length → ev1 (.idxSl z) [.slice blk 0 l.length cap ex, .int .i64 x] lo H9 = some (.ptr blk (x.toNat * z), H9) := fun x lo H9 h0 h1 => by
  have := (h.sl ex).idx z x lo H9 h0 h1
  simpa [SV.blk, SV.off, SV.iv] using this

/-- Where the element at j is put into what is sorted. -/
structure Ins (a i j : Nat) (y : Hd) (l : List Hd) : Prop where
  at_ : nth l j = y
  srt : ∀ p q, a ≤ p → p < q → q ≤ i → p ≠ j → q ≠ j → ltH (nth l p) (nth l q)
  gt : ∀ q, j < q → q ≤ i → ltH y (nth l q)
  ord : ∀ p, a ≤ p → p ≤ i → p ≠ j → ordH (nth l p) y
theorem Ins.move {a i j : Nat} {y : Hd} {l : List Hd} (h : Ins a i j y l) (hj : a < j) (hi : j ≤ i) (hl : i < l.length) (hlt : ltH y (nth l (j - 1))) : Ins a i (j - 1) y (swapL l j (j - 1)) := by
  have hs : ∀ x, nth (swapL l j (j - 1)) x = if x = j - 1 then nth l j else if x = j then nth l (j - 1) else nth l x := nth_swap (by omega) (by omega)
  refine ⟨?_, fun p q h1 h2 h3 h4 h5 => ?_, fun q h1 h2 => ?_, fun p h1 h2 h3 => ?_⟩
  · rw [hs, if_pos rfl]; exact h.at_
  · rw [hs, hs, if_neg h4, if_neg h5]
    by_cases c1 : p = j
    · subst c1
      rw [if_pos rfl, if_neg (by omega)]
      exact h.srt _ _ (by omega) (by omega) h3 (by omega) (by omega)
    · rw [if_neg c1]
      by_cases c2 : q = j
      · subst c2
        rw [if_pos rfl]
        exact h.srt _ _ h1 (by omega) (by omega) c1 (by omega)
      · rw [if_neg c2]; exact h.srt _ _ h1 h2 h3 c1 c2
  · rw [hs, if_neg (by omega)]
    by_cases c : q = j
    · rw [if_pos c]; exact hlt
    · rw [if_neg c]; exact h.gt q (by omega) h2
  · rw [hs, if_neg h3]
    by_cases c : p = j
    · rw [if_pos c]; exact h.ord _ (by omega) (by omega) (by omega)
    · rw [if_neg c]; exact h.ord p h1 h2 c
theorem Ins.done {a i j : Nat} {y : Hd} {l : List Hd} (h : Ins a i j y l) (hj : a ≤ j) (hi : j ≤ i) (hlt : j = a ∨ ltH (nth l (j - 1)) y) : Srt ltH l a (i + 1) := by
  intro p q h1 h2 h3
  by_cases c1 : p = j
  · subst c1
    rw [h.at_]; exact h.gt q h2 (by omega)
  · by_cases c2 : q = j
    · subst c2
      rw [h.at_]
      rcases hlt with e | hlt
      · omega
      · by_cases c3 : p = q - 1
        · subst c3; exact hlt
        · exact ltH_tr _ _ _ (h.srt _ _ h1 (by omega) (by omega) c1 (by omega)) hlt
    · exact h.srt _ _ h1 h2 (by omega) c1 c2

theorem expl53 (tm : List IV) (h : tm.length = 53) : tm = [tm.getD 0 IV.undef, tm.getD 1 IV.undef, tm.getD 2 IV.undef, tm.getD 3 IV.undef, tm.getD 4 IV.undef, tm.getD 5 IV.undef, tm.getD 6 IV.undef, tm.getD 7 IV.undef, tm.getD 8 IV.undef, tm.getD 9 IV.undef, tm.getD 10 IV.undef, tm.getD 11 IV.undef, tm.getD 12 IV.undef, tm.getD 13 IV.undef, tm.getD 14 IV.undef, tm.getD 15 IV.undef, tm.getD 16 IV.undef, tm.getD 17 IV.undef, tm.getD 18 IV.undef, tm.getD 19 IV.undef, tm.getD 20 IV.undef, tm.getD 21 IV.undef, tm.getD 22 IV.undef, tm.getD 23 IV.undef, tm.getD 24 IV.undef, tm.getD 25 IV.undef, tm.getD 26 IV.undef, tm.getD 27 IV.undef, tm.getD 28 IV.undef, tm.getD 29 IV.undef, tm.getD 30 IV.undef, tm.getD 31 IV.undef, tm.getD 32 IV.undef, tm.getD 33 IV.undef, tm.getD 34 IV.undef, tm.getD 35 IV.undef, tm.getD 36 IV.undef, tm.getD 37 IV.undef, tm.getD 38 IV.undef, tm.getD 39 IV.undef, tm.getD 40 IV.undef, tm.getD 41 IV.undef, tm.getD 42 IV.undef, tm.getD 43 IV.undef, tm.getD 44 IV.undef, tm.getD 45 IV.undef, tm.getD 46 IV.undef, tm.getD 47 IV.undef, tm.getD 48 IV.undef, tm.getD 49 IV.undef, tm.getD 50 IV.undef, tm.getD 51 IV.undef, tm.getD 52 IV.undef] := (expl tm 53 h).trans rfl
theorem ins_inner {blk e cap : Nat} {ex : Bool} {l : List Hd} {a i : Nat} {y2 y8 : IV} {y : Hd} {H : Heap} {lo : Nat} {Q : Out → Heap → Prop} {tm : List IV} (hO : Own H blk e cap l) (hlo : lo ≤ blk) (hl : l.length ≤ 1000000) (hai : a ≤ i) (hi : i < l.length) (hI : Ins a i i y l)
    (htm : tm.length = 53) (t0 : tm.getD 0 IV.undef = (SV.sl blk 0 l.length cap ex).iv) (t1 : tm.getD 1 IV.undef = .int .i64 a) (t2 : tm.getD 2 IV.undef = y2) (t3 : tm.getD 3 IV.undef = .fn 27 [] []) (t8 : tm.getD 8 IV.undef = y8) (t9 : tm.getD 9 IV.undef = .int .i64 i)
    (hQ : ∀ H' l' tm', KeepX blk H H' → Own H' blk e cap l' → Mix a (i + 1) l l' → Srt ltH l' a (i + 1) → tm'.length = 53 → tm'.getD 0 IV.undef = (SV.sl blk 0 l.length cap ex).iv → tm'.getD 1 IV.undef = .int .i64 a → tm'.getD 2 IV.undef = y2 → tm'.getD 3 IV.undef = .fn 27 [] [] → tm'.getD 8 IV.undef = y8 → Q (.ex (.jmp (.exit 2)) ⟨tm', []⟩) H') :
    W E0 lo (.code (.loop F55l6) none ⟨tm, []⟩) H Q := by
  refine W_inv (fun k fr H' => ∃ (l' : List Hd), a ≤ k ∧ k ≤ i ∧ KeepX blk H H' ∧ Own H' blk e cap l' ∧ Mix a (i + 1) l l' ∧ Ins a i k y l' ∧ fr.marks = [] ∧ fr.tm.length = 53 ∧ fr.tm.getD 0 IV.undef = (SV.sl blk 0 l.length cap ex).iv ∧ fr.tm.getD 1 IV.undef = .int .i64 a ∧ fr.tm.getD 2 IV.undef = y2 ∧ fr.tm.getD 3 IV.undef = .fn 27 [] [] ∧ fr.tm.getD 8 IV.undef = y8 ∧ fr.tm.getD 9 IV.undef = .int .i64 k) ?_ i ⟨l, hai, Nat.le_refl _, KeepX.refl _ _, hO, Mix.refl _ _ _, hI, rfl, htm, t0, t1, t2, t3, t8, t9⟩
  clear htm t0 t1 t2 t3 t8 t9 hO hI
  rintro k ⟨tm, mk⟩ H' ⟨l', hak, hki, hk, hO', hM, hI, rfl, htm, t0, t1, t2, t3, t8, t9⟩ L hN hJ
  have hl' := hM.len
  rw [expl53 tm htm, t0, t1, t2, t3, t8, t9, ← hl']
  have hbl := hO'.2.1
  by_cases hja : a < k
  · have hidx := idxV hO' ex 5
    have e1 : ((k : Int) - 1).toNat = k - 1 := by omega
    have r1 := hO'.nthRead z_Hd (i := k) (by omega)
    have r2 := hO'.nthRead z_Hd (i := k - 1) (by omega)
    simp (disch := omega) only [BAS, ↓BPR, reduceIte, reduceCtorEq, seval, -List.reduceReplicate, fpOf, freeNext, opW, binI, ev1, Heap.write, setAll, unI, eqKs, eqK, fillI, B55, F55l6, F55l8, ↓hidx, e1, r1, r2]
    refine less_sp _ _ (by omega) fun H2 k2 => ?_
    have hO2 := hO'.keep k2
    have kk2 := hk.trans (KeepX.of k2)
    have hord := hI.ord (k - 1) (by omega) (by omega) (by omega)
    rw [← hI.at_] at hord
    by_cases hc : (nth l' k).spot < (nth l' (k - 1)).spot
    · obtain ⟨o1, o2, w1, w2, s2⟩ := own_swap hO2 z_Hd (i := k) (j := k - 1) (by omega) (by omega) lo hlo
      have q1 := hO2.nthRead z_Hd (i := k) (by omega)
      have q2 := hO2.nthRead z_Hd (i := k - 1) (by omega)
      have hc' := cmpI_lt hc
      simp (disch := omega) only [BAS, ↓BPR, reduceIte, reduceCtorEq, seval, -List.reduceReplicate, fpOf, freeNext, opW, binI, ev1, Heap.write, setAll, unI, eqKs, eqK, fillI, B55, F55l6, F55l8, hc', ↓hidx, e1, q1, q2, ↓w1, ↓w2]
      refine hN (k - 1) _ _ (by omega) ⟨swapL l' k (k - 1), by omega, by omega, (kk2.trans (KeepX.put _)).trans (KeepX.put _), s2, hM.trans (Mix.swap (by omega) (by omega) (by omega)), hI.move hja hki (by omega) (by rw [← hI.at_]; exact .inl hc), rfl, rfl, by rw [hl']; rfl, rfl, rfl, rfl, rfl, ?_⟩
      show IV.int _ _ = _
      congr 1; omega
    · have hc' := cmpI_ge (a := (nth l' k).spot) (b := (nth l' (k - 1)).spot) (by omega)
      simp (disch := omega) only [BAS, ↓BPR, reduceIte, reduceCtorEq, seval, -List.reduceReplicate, fpOf, freeNext, opW, binI, ev1, Heap.write, setAll, unI, eqKs, eqK, fillI, B55, F55l6, F55l8, hc', hJ]
      refine hQ H2 l' _ kk2 hO2 hM (hI.done hak hki (.inr ?_)) rfl (by rw [hl']; rfl) rfl rfl rfl rfl
      rw [← hI.at_]
      unfold ordH at hord
      unfold ltH
      omega
  · have : k = a := by omega
    subst this
    simp (disch := omega) only [BAS, ↓BPR, reduceIte, reduceCtorEq, seval, -List.reduceReplicate, fpOf, freeNext, opW, binI, ev1, Heap.write, setAll, unI, eqKs, eqK, fillI, B55, F55l6, F55l8, hJ]
    exact hQ H' l' _ hk hO' hM (hI.done hak hki (.inl rfl)) rfl (by rw [hl']; rfl) rfl rfl rfl rfl

theorem insertion_sp {blk e cap : Nat} {ex : Bool} {l : List Hd} (a b : Nat) {H : Heap} {lo : Nat} {Q : Out → Heap → Prop} (hO : Own H blk e cap l) (hlo : lo ≤ blk) (hl : l.length ≤ 1000000) (hab : a ≤ b) (hb : b ≤ l.length) (hord : Srt ordH l a b)
    (h : ∀ H' l', KeepX blk H H' → Own H' blk e cap l' → Mix a b l l' → Srt ltH l' a b → Q (.val (.tuple [])) H') : W E0 lo (.call 55 [(SV.sl blk 0 l.length cap ex).iv, .int .i64 a, .int .i64 b, .fn 27 [] []]) H Q := by
  rw [c55]
  simp (disch := omega) only [BAS, ↓BPR, reduceIte, reduceCtorEq, seval, -List.reduceReplicate, fpOf, freeNext, opW, binI, ev1, Heap.write, setAll, unI, eqKs, eqK, fillI, B55]
  refine W_inv (fun k fr H' => ∃ (i : Nat) (l' : List Hd), a + 1 ≤ i ∧ i ≤ max b (a + 1) ∧ i + k = max b (a + 1) ∧ KeepX blk H H' ∧ Own H' blk e cap l' ∧ Mix a b l l' ∧ (∀ x, i ≤ x → nth l' x = nth l x) ∧ (∀ x, a ≤ x → x < i → ∃ y, a ≤ y ∧ y < i ∧ nth l' x = nth l y) ∧ Srt ltH l' a i ∧ fr.marks = [] ∧ fr.tm.length = 53 ∧ fr.tm.getD 0 IV.undef = (SV.sl blk 0 l.length cap ex).iv ∧ fr.tm.getD 1 IV.undef = .int .i64 a ∧ fr.tm.getD 2 IV.undef = .int .i64 b ∧ fr.tm.getD 3 IV.undef = .fn 27 [] [] ∧ fr.tm.getD 8 IV.undef = .int .i64 i) ?_ (max b (a + 1) - (a + 1)) ⟨a + 1, l, by omega, by omega, by omega, KeepX.refl _ _, hO, Mix.refl _ _ _, fun _ _ => rfl, fun x h1 h2 => ⟨x, h1, h2, rfl⟩, fun i j h1 h2 h3 => by omega, rfl, rfl, rfl, rfl, rfl, rfl, rfl⟩
  rintro k ⟨tm, mk⟩ H' ⟨i, l', hai, him, hik, hk, hO', hM, hout, himg, hS, rfl, htm, t0, t1, t2, t3, t8⟩ L hN hJ
  rw [expl53 tm htm, t0, t1, t2, t3, t8]
  have hl' := hM.len
  by_cases hib : i < b
  · simp (disch := omega) only [BAS, ↓BPR, reduceIte, reduceCtorEq, seval, -List.reduceReplicate, fpOf, freeNext, opW, binI, ev1, Heap.write, setAll, unI, eqKs, eqK, fillI, wF55o0, F55p0, wF55o1, F55p1, wF55o2, F55p2, wF55o3, F55p3, wF55o4, F55p4, wF55o5, F55p5, wF55o7, F55p7, F55l8, F55b, F55]
    have hI : Ins a i i (nth l' i) l' := by
      refine ⟨rfl, fun p q h1 h2 h3 h4 h5 => hS p q h1 h2 (by omega), fun q h1 h2 => by omega, fun p h1 h2 h3 => ?_⟩
      obtain ⟨y, y1, y2, y3⟩ := himg p h1 (by omega)
      rw [y3, hout i (Nat.le_refl _)]
      exact hord y i y1 (by omega) hib
    refine ins_inner (ex := ex) hO' hlo (by omega) (by omega) (by omega) hI rfl (by rw [hl']; rfl) rfl rfl rfl rfl rfl fun H2 l2 tm2 k2 o2 m2 s2 htm2 u0 u1 u2 u3 u8 => ?_
    rw [expl53 tm2 htm2, u0, u1, u2, u3, u8]
    simp (disch := omega) only [BAS, ↓BPR, reduceIte, reduceCtorEq, seval, -List.reduceReplicate, fpOf, freeNext, opW, binI, ev1, Heap.write, setAll, unI, eqKs, eqK, fillI, wF55o0, F55p0, wF55o1, F55p1, wF55o2, F55p2, wF55o3, F55p3, wF55o4, F55p4, wF55o5, F55p5, wF55o7, F55p7, F55l8, F55b, F55]
    refine hN (k - 1) _ _ (by omega) ⟨i + 1, l2, by omega, by omega, by omega, hk.trans k2, o2, hM.trans (m2.wide (Nat.le_refl _) (by omega)), fun x hx => (m2.out x (by omega)).trans (hout x (by omega)), fun x h1 h2 => ?_, s2, rfl, rfl, by rw [← hl']; rfl, rfl, rfl, rfl, rfl⟩
    obtain ⟨y, y1, y2, y3⟩ := m2.img x h1 h2
    by_cases hy : y < i
    · obtain ⟨z, z1, z2, z3⟩ := himg y y1 hy
      exact ⟨z, z1, by omega, y3.trans z3⟩
    · exact ⟨y, y1, y2, y3.trans (hout y (by omega))⟩
  · simp (disch := omega) only [BAS, ↓BPR, reduceIte, reduceCtorEq, seval, -List.reduceReplicate, fpOf, freeNext, opW, binI, ev1, Heap.write, setAll, unI, eqKs, eqK, fillI, wF55o0, F55p0, wF55o1, F55p1, wF55o2, F55p2, wF55o3, F55p3, wF55o4, F55p4, wF55o5, F55p5, wF55o7, F55p7, F55l8, F55b, F55, hJ]
    exact h H' l' hk hO' hM (hS.part (Nat.le_refl _) (by omega))
end Go.Iso.Gen
end

section
-- fast
namespace Go.Iso
theorem wU64 {a : Int} (h : 0 ≤ a ∧ a ≤ 9223372036854775807) : IntKind.u64.wrap a = a := by
  unfold IntKind.wrap
  simp only [IntKind.signed, IntKind.bits]
  simp
  omega
theorem ev_half (x : Int) (h : 0 ≤ x) (lo : Nat) (H : Heap) : ev1 (.bin .shr) [.int .u64 x, .int .u64 1] lo H = some (.int .u64 (x / 2), H) := by
  simp only [ev1, binI]
  rw [if_neg (by omega)]
  simp only [Option.map_some]
  congr 3
  show x.fdiv (2 ^ (Min.min (1 : Int).toNat 64)) = x / 2
  rw [show Min.min (1 : Int).toNat 64 = 1 from rfl, Int.pow_one, Int.fdiv_eq_ediv_of_nonneg _ (by omega)]
end Go.Iso
namespace Go.Iso.Gen
open Go.Iso
set_option maxHeartbeats 2000000
set_option maxRecDepth 10000

theorem expl220 (tm : List IV) (h : tm.length = 220) : tm = [tm.getD 0 IV.undef, tm.getD 1 IV.undef, tm.getD 2 IV.undef, tm.getD 3 IV.undef, tm.getD 4 IV.undef, tm.getD 5 IV.undef, tm.getD 6 IV.undef, tm.getD 7 IV.undef, tm.getD 8 IV.undef, tm.getD 9 IV.undef, tm.getD 10 IV.undef, tm.getD 11 IV.undef, tm.getD 12 IV.undef, tm.getD 13 IV.undef, tm.getD 14 IV.undef, tm.getD 15 IV.undef, tm.getD 16 IV.undef, tm.getD 17 IV.undef, tm.getD 18 IV.undef, tm.getD 19 IV.undef, tm.getD 20 IV.undef, tm.getD 21 IV.undef, tm.getD 22 IV.undef, tm.getD 23 IV.undef, tm.getD 24 IV.undef, tm.getD 25 IV.undef, tm.getD 26 IV.undef, tm.getD 27 IV.undef, tm.getD 28 IV.undef, tm.getD 29 IV.undef, tm.getD 30 IV.undef, tm.getD 31 IV.undef, tm.getD 32 IV.undef, tm.getD 33 IV.undef, tm.getD 34 IV.undef, tm.getD 35 IV.undef, tm.getD 36 IV.undef, tm.getD 37 IV.undef, tm.getD 38 IV.undef, tm.getD 39 IV.undef, tm.getD 40 IV.undef, tm.getD 41 IV.undef, tm.getD 42 IV.undef, tm.getD 43 IV.undef, tm.getD 44 IV.undef, tm.getD 45 IV.undef, tm.getD 46 IV.undef, tm.getD 47 IV.undef, tm.getD 48 IV.undef, tm.getD 49 IV.undef, tm.getD 50 IV.undef, tm.getD 51 IV.undef, tm.getD 52 IV.undef, tm.getD 53 IV.undef, tm.getD 54 IV.undef, tm.getD 55 IV.undef, tm.getD 56 IV.undef, tm.getD 57 IV.undef, tm.getD 58 IV.undef, tm.getD 59 IV.undef, tm.getD 60 IV.undef, tm.getD 61 IV.undef, tm.getD 62 IV.undef, tm.getD 63 IV.undef, tm.getD 64 IV.undef, tm.getD 65 IV.undef, tm.getD 66 IV.undef, tm.getD 67 IV.undef, tm.getD 68 IV.undef, tm.getD 69 IV.undef, tm.getD 70 IV.undef, tm.getD 71 IV.undef, tm.getD 72 IV.undef, tm.getD 73 IV.undef, tm.getD 74 IV.undef, tm.getD 75 IV.undef, tm.getD 76 IV.undef, tm.getD 77 IV.undef, tm.getD 78 IV.undef, tm.getD 79 IV.undef, tm.getD 80 IV.undef, tm.getD 81 IV.undef, tm.getD 82 IV.undef, tm.getD 83 IV.undef, tm.getD 84 IV.undef, tm.getD 85 IV.undef, tm.getD 86 IV.undef, tm.getD 87 IV.undef, tm.getD 88 IV.undef, tm.getD 89 IV.undef, tm.getD 90 IV.undef, tm.getD 91 IV.undef, tm.getD 92 IV.undef, tm.getD 93 IV.undef, tm.getD 94 IV.undef, tm.getD 95 IV.undef, tm.getD 96 IV.undef, tm.getD 97 IV.undef, tm.getD 98 IV.undef, tm.getD 99 IV.undef, tm.getD 100 IV.undef, tm.getD 101 IV.undef, tm.getD 102 IV.undef, tm.getD 103 IV.undef, tm.getD 104 IV.undef, tm.getD 105 IV.undef, tm.getD 106 IV.undef, tm.getD 107 IV.undef, tm.getD 108 IV.undef, tm.getD 109 IV.undef, tm.getD 110 IV.undef, tm.getD 111 IV.undef, tm.getD 112 IV.undef, tm.getD 113 IV.undef, tm.getD 114 IV.undef, tm.getD 115 IV.undef, tm.getD 116 IV.undef, tm.getD 117 IV.undef, tm.getD 118 IV.undef, tm.getD 119 IV.undef, tm.getD 120 IV.undef, tm.getD 121 IV.undef, tm.getD 122 IV.undef, tm.getD 123 IV.undef, tm.getD 124 IV.undef, tm.getD 125 IV.undef, tm.getD 126 IV.undef, tm.getD 127 IV.undef, tm.getD 128 IV.undef, tm.getD 129 IV.undef, tm.getD 130 IV.undef, tm.getD 131 IV.undef, tm.getD 132 IV.undef, tm.getD 133 IV.undef, tm.getD 134 IV.undef, tm.getD 135 IV.undef, tm.getD 136 IV.undef, tm.getD 137 IV.undef, tm.getD 138 IV.undef, tm.getD 139 IV.undef, tm.getD 140 IV.undef, tm.getD 141 IV.undef, tm.getD 142 IV.undef, tm.getD 143 IV.undef, tm.getD 144 IV.undef, tm.getD 145 IV.undef, tm.getD 146 IV.undef, tm.getD 147 IV.undef, tm.getD 148 IV.undef, tm.getD 149 IV.undef, tm.getD 150 IV.undef, tm.getD 151 IV.undef, tm.getD 152 IV.undef, tm.getD 153 IV.undef, tm.getD 154 IV.undef, tm.getD 155 IV.undef, tm.getD 156 IV.undef, tm.getD 157 IV.undef, tm.getD 158 IV.undef, tm.getD 159 IV.undef, tm.getD 160 IV.undef, tm.getD 161 IV.undef, tm.getD 162 IV.undef, tm.getD 163 IV.undef, tm.getD 164 IV.undef, tm.getD 165 IV.undef, tm.getD 166 IV.undef, tm.getD 167 IV.undef, tm.getD 168 IV.undef, tm.getD 169 IV.undef, tm.getD 170 IV.undef, tm.getD 171 IV.undef, tm.getD 172 IV.undef, tm.getD 173 IV.undef, tm.getD 174 IV.undef, tm.getD 175 IV.undef, tm.getD 176 IV.undef, tm.getD 177 IV.undef, tm.getD 178 IV.undef, tm.getD 179 IV.undef, tm.getD 180 IV.undef, tm.getD 181 IV.undef, tm.getD 182 IV.undef, tm.getD 183 IV.undef, tm.getD 184 IV.undef, tm.getD 185 IV.undef, tm.getD 186 IV.undef, tm.getD 187 IV.undef, tm.getD 188 IV.undef, tm.getD 189 IV.undef, tm.getD 190 IV.undef, tm.getD 191 IV.undef, tm.getD 192 IV.undef, tm.getD 193 IV.undef, tm.getD 194 IV.undef, tm.getD 195 IV.undef, tm.getD 196 IV.undef, tm.getD 197 IV.undef, tm.getD 198 IV.undef, tm.getD 199 IV.undef, tm.getD 200 IV.undef, tm.getD 201 IV.undef, tm.getD 202 IV.undef, tm.getD 203 IV.undef, tm.getD 204 IV.undef, tm.getD 205 IV.undef, tm.getD 206 IV.undef, tm.getD 207 IV.undef, tm.getD 208 IV.undef, tm.getD 209 IV.undef, tm.getD 210 IV.undef, tm.getD 211 IV.undef, tm.getD 212 IV.undef, tm.getD 213 IV.undef, tm.getD 214 IV.undef, tm.getD 215 IV.undef, tm.getD 216 IV.undef, tm.getD 217 IV.undef, tm.getD 218 IV.undef, tm.getD 219 IV.undef] := (expl tm 220 h).trans rfl
theorem search_a {blk e cap : Nat} {ex : Bool} {l : List Hd} {a m b : Nat} {H : Heap} {lo : Nat} {Q : Out → Heap → Prop} {tm : List IV} (hO : Own H blk e cap l) (hl : l.length ≤ 1000000) (ham : a < m) (hmb : m < b) (hb : b ≤ l.length) (hlh : lo ≤ H.n)
    (hS : Srt ltH l m b) (hord : ∀ j, m ≤ j → j < b → ordH (nth l a) (nth l j))
    (htm : tm.length = 220) (t0 : tm.getD 0 IV.undef = (SV.sl blk 0 l.length cap ex).iv) (t1 : tm.getD 1 IV.undef = .int .i64 a) (t4 : tm.getD 4 IV.undef = .fn 27 [] []) (ti : tm.getD 10 IV.undef = .int .i64 (m : Nat)) (tj : tm.getD 11 IV.undef = .int .i64 (b : Nat))
    (hQ : ∀ H' tm' i, Keep H.n H H' → m ≤ i → i ≤ b → (∀ q, m ≤ q → q < i → ltH (nth l q) (nth l a)) → (∀ q, i ≤ q → q < b → ltH (nth l a) (nth l q)) → tm'.length = 220 → tm'.getD 0 IV.undef = (SV.sl blk 0 l.length cap ex).iv → tm'.getD 1 IV.undef = .int .i64 a → tm'.getD 4 IV.undef = .fn 27 [] [] → tm'.getD 10 IV.undef = .int .i64 (i : Nat) → Q (.ex (.jmp (.exit 0)) ⟨tm', []⟩) H') :
    W E0 lo (.code (.loop F56l8) none ⟨tm, []⟩) H Q := by
  refine W_inv (fun k fr H' => ∃ i j, i + k = j ∧ m ≤ i ∧ j ≤ b ∧ Keep H.n H H' ∧ (∀ q, m ≤ q → q < i → ltH (nth l q) (nth l a)) ∧ (∀ q, j ≤ q → q < b → ltH (nth l a) (nth l q)) ∧ fr.marks = [] ∧ fr.tm.length = 220 ∧ fr.tm.getD 0 IV.undef = (SV.sl blk 0 l.length cap ex).iv ∧ fr.tm.getD 1 IV.undef = .int .i64 a ∧ fr.tm.getD 4 IV.undef = .fn 27 [] [] ∧ fr.tm.getD 10 IV.undef = .int .i64 (i : Nat) ∧ fr.tm.getD 11 IV.undef = .int .i64 (j : Nat)) ?_ (b - m) ⟨m, b, by omega, Nat.le_refl _, Nat.le_refl _, Keep.refl _ _, fun q h1 h2 => by omega, fun q h1 h2 => by omega, rfl, htm, t0, t1, t4, ti, tj⟩
  clear htm t0 t1 t4 ti tj
  rintro k ⟨tm, mk⟩ H' ⟨i, j, hij, hmi, hjb, hk, hL, hR, rfl, htm, t0, t1, t4, ti, tj⟩ L hN hJ
  rw [expl220 tm htm, t0, t1, t4, ti, tj]
  have hn := hk.1
  by_cases hlt : i < j
  · have hO' := hO.keep hk
    have hidx := idxV hO' ex 5
    have eh : ((i : Int) + (j : Int)) / 2 = (((i + j) / 2 : Nat) : Int) := by omega
    have r1 := hO'.nthRead z_Hd (i := (i + j) / 2) (by omega)
    have r2 := hO'.nthRead z_Hd (i := a) (by omega)
    simp (disch := omega) only [BAS, ↓BPR, reduceIte, reduceCtorEq, seval, -List.reduceReplicate, fpOf, freeNext, opW, binI, ev1, Heap.write, setAll, unI, eqKs, eqK, fillI, B56, F56l8, F56l13, F56l22, F56l27, F56l42, ↓hidx, wU64, ↓ev_half, eh, r1, r2, Int.toNat_natCast]
    refine less_sp _ _ (by omega) fun H2 k2 => ?_
    have kk2 : Keep H.n H H2 := hk.trans (k2.lower hn)
    by_cases hc : (nth l ((i + j) / 2)).spot < (nth l (a)).spot
    · have hc' := cmpI_lt hc
      have hlt' : ltH (nth l ((i + j) / 2)) (nth l (a)) := .inl hc
      simp (disch := omega) only [BAS, ↓BPR, reduceIte, reduceCtorEq, seval, -List.reduceReplicate, fpOf, freeNext, opW, binI, ev1, Heap.write, setAll, unI, eqKs, eqK, fillI, B56, F56l8, F56l13, F56l22, F56l27, F56l42, hc']
      refine hN (j - ((i + j) / 2 + 1)) _ _ (by omega) ⟨(i + j) / 2 + 1, j, by omega, by omega, hjb, kk2, fun q h1 h2 => by
        by_cases c : q < (i + j) / 2
        · exact ltH_tr _ _ _ (hS q _ (by omega) c (by omega)) hlt'
        · rw [show q = (i + j) / 2 from by omega]; exact hlt', hR, rfl, rfl, rfl, rfl, rfl, ?_, rfl⟩
      show IV.int _ _ = _
      congr 1
    · have hc' := cmpI_ge (a := (nth l ((i + j) / 2)).spot) (b := (nth l (a)).spot) (by omega)
      have hlt' : ltH (nth l (a)) (nth l ((i + j) / 2)) := by
        have ho := hord ((i + j) / 2) (by omega) (by omega)
        unfold ordH at ho
        unfold ltH
        omega
      simp (disch := omega) only [BAS, ↓BPR, reduceIte, reduceCtorEq, seval, -List.reduceReplicate, fpOf, freeNext, opW, binI, ev1, Heap.write, setAll, unI, eqKs, eqK, fillI, B56, F56l8, F56l13, F56l22, F56l27, F56l42, hc']
      exact hN ((i + j) / 2 - i) _ _ (by omega) ⟨i, (i + j) / 2, by omega, hmi, by omega, kk2, hL, fun q h1 h2 => by
        by_cases c : (i + j) / 2 < q
        · exact ltH_tr _ _ _ hlt' (hS _ q (by omega) c (by omega))
        · rw [show q = (i + j) / 2 from by omega]; exact hlt', rfl, rfl, rfl, rfl, rfl, rfl, rfl⟩
  · have : i = j := by omega
    subst this
    simp (disch := omega) only [BAS, ↓BPR, reduceIte, reduceCtorEq, seval, -List.reduceReplicate, fpOf, freeNext, opW, binI, ev1, Heap.write, setAll, unI, eqKs, eqK, fillI, B56, F56l8, F56l13, F56l22, F56l27, F56l42, hJ]
    exact hQ H' _ i hk hmi hjb hL hR rfl rfl rfl rfl rfl

theorem search_b {blk e cap : Nat} {ex : Bool} {l : List Hd} {a m b : Nat} {H : Heap} {lo : Nat} {Q : Out → Heap → Prop} {tm : List IV} (hO : Own H blk e cap l) (hl : l.length ≤ 1000000) (ham : a < m) (hmb : m < b) (hb : b ≤ l.length) (hlh : lo ≤ H.n)
    (hS : Srt ltH l a m) (hord : ∀ j, a ≤ j → j < m → ordH (nth l j) (nth l m))
    (htm : tm.length = 220) (t0 : tm.getD 0 IV.undef = (SV.sl blk 0 l.length cap ex).iv) (t2 : tm.getD 2 IV.undef = .int .i64 m) (t4 : tm.getD 4 IV.undef = .fn 27 [] []) (ti : tm.getD 14 IV.undef = .int .i64 (a : Nat)) (tj : tm.getD 15 IV.undef = .int .i64 (m : Nat))
    (hQ : ∀ H' tm' i, Keep H.n H H' → a ≤ i → i ≤ m → (∀ q, a ≤ q → q < i → ltH (nth l q) (nth l m)) → (∀ q, i ≤ q → q < m → ltH (nth l m) (nth l q)) → tm'.length = 220 → tm'.getD 0 IV.undef = (SV.sl blk 0 l.length cap ex).iv → tm'.getD 2 IV.undef = .int .i64 m → tm'.getD 4 IV.undef = .fn 27 [] [] → tm'.getD 14 IV.undef = .int .i64 (i : Nat) → Q (.ex (.jmp (.exit 4)) ⟨tm', []⟩) H') :
    W E0 lo (.code (.loop F56l22) none ⟨tm, []⟩) H Q := by
  refine W_inv (fun k fr H' => ∃ i j, i + k = j ∧ a ≤ i ∧ j ≤ m ∧ Keep H.n H H' ∧ (∀ q, a ≤ q → q < i → ltH (nth l q) (nth l m)) ∧ (∀ q, j ≤ q → q < m → ltH (nth l m) (nth l q)) ∧ fr.marks = [] ∧ fr.tm.length = 220 ∧ fr.tm.getD 0 IV.undef = (SV.sl blk 0 l.length cap ex).iv ∧ fr.tm.getD 2 IV.undef = .int .i64 m ∧ fr.tm.getD 4 IV.undef = .fn 27 [] [] ∧ fr.tm.getD 14 IV.undef = .int .i64 (i : Nat) ∧ fr.tm.getD 15 IV.undef = .int .i64 (j : Nat)) ?_ (m - a) ⟨a, m, by omega, Nat.le_refl _, Nat.le_refl _, Keep.refl _ _, fun q h1 h2 => by omega, fun q h1 h2 => by omega, rfl, htm, t0, t2, t4, ti, tj⟩
  clear htm t0 t2 t4 ti tj
  rintro k ⟨tm, mk⟩ H' ⟨i, j, hij, hmi, hjb, hk, hL, hR, rfl, htm, t0, t2, t4, ti, tj⟩ L hN hJ
  rw [expl220 tm htm, t0, t2, t4, ti, tj]
  have hn := hk.1
  by_cases hlt : i < j
  · have hO' := hO.keep hk
    have hidx := idxV hO' ex 5
    have eh : ((i : Int) + (j : Int)) / 2 = (((i + j) / 2 : Nat) : Int) := by omega
    have r1 := hO'.nthRead z_Hd (i := m) (by omega)
    have r2 := hO'.nthRead z_Hd (i := (i + j) / 2) (by omega)
    simp (disch := omega) only [BAS, ↓BPR, reduceIte, reduceCtorEq, seval, -List.reduceReplicate, fpOf, freeNext, opW, binI, ev1, Heap.write, setAll, unI, eqKs, eqK, fillI, B56, F56l8, F56l13, F56l22, F56l27, F56l42, ↓hidx, wU64, ↓ev_half, eh, r1, r2, Int.toNat_natCast]
    refine less_sp _ _ (by omega) fun H2 k2 => ?_
    have kk2 : Keep H.n H H2 := hk.trans (k2.lower hn)
    by_cases hc : (nth l (m)).spot < (nth l ((i + j) / 2)).spot
    · have hc' := cmpI_lt hc
      have hlt' : ltH (nth l (m)) (nth l ((i + j) / 2)) := .inl hc
      simp (disch := omega) only [BAS, ↓BPR, reduceIte, reduceCtorEq, seval, -List.reduceReplicate, fpOf, freeNext, opW, binI, ev1, Heap.write, setAll, unI, eqKs, eqK, fillI, B56, F56l8, F56l13, F56l22, F56l27, F56l42, hc']
      exact hN ((i + j) / 2 - i) _ _ (by omega) ⟨i, (i + j) / 2, by omega, hmi, by omega, kk2, hL, fun q h1 h2 => by
        by_cases c : (i + j) / 2 < q
        · exact ltH_tr _ _ _ hlt' (hS _ q (by omega) c (by omega))
        · rw [show q = (i + j) / 2 from by omega]; exact hlt', rfl, rfl, rfl, rfl, rfl, rfl, rfl⟩
    · have hc' := cmpI_ge (a := (nth l (m)).spot) (b := (nth l ((i + j) / 2)).spot) (by omega)
      have hlt' : ltH (nth l ((i + j) / 2)) (nth l (m)) := by
        have ho := hord ((i + j) / 2) (by omega) (by omega)
        unfold ordH at ho
        unfold ltH
        omega
      simp (disch := omega) only [BAS, ↓BPR, reduceIte, reduceCtorEq, seval, -List.reduceReplicate, fpOf, freeNext, opW, binI, ev1, Heap.write, setAll, unI, eqKs, eqK, fillI, B56, F56l8, F56l13, F56l22, F56l27, F56l42, hc']
      refine hN (j - ((i + j) / 2 + 1)) _ _ (by omega) ⟨(i + j) / 2 + 1, j, by omega, by omega, hjb, kk2, fun q h1 h2 => by
        by_cases c : q < (i + j) / 2
        · exact ltH_tr _ _ _ (hS q _ (by omega) c (by omega)) hlt'
        · rw [show q = (i + j) / 2 from by omega]; exact hlt', hR, rfl, rfl, rfl, rfl, rfl, ?_, rfl⟩
      show IV.int _ _ = _
      congr 1
  · have : i = j := by omega
    subst this
    simp (disch := omega) only [BAS, ↓BPR, reduceIte, reduceCtorEq, seval, -List.reduceReplicate, fpOf, freeNext, opW, binI, ev1, Heap.write, setAll, unI, eqKs, eqK, fillI, B56, F56l8, F56l13, F56l22, F56l27, F56l42, hJ]
    exact hQ H' _ i hk hmi hjb hL hR rfl rfl rfl rfl rfl

theorem search_c {blk e cap : Nat} {ex : Bool} {l : List Hd} {a m b mid s0 r0 p : Nat} {H : Heap} {y19 : IV} {lo : Nat} {Q : Out → Heap → Prop} {tm : List IV} (hO : Own H blk e cap l) (hl : l.length ≤ 1000000) (ham : a < m) (hmb : m < b) (hb : b ≤ l.length) (hlh : lo ≤ H.n)
    (hsr : s0 ≤ r0) (hord : ∀ i j, a ≤ i → i < m → m ≤ j → j < b → ordH (nth l i) (nth l j)) (hrng : ∀ c, s0 ≤ c → c < r0 → a ≤ c ∧ c < m ∧ c ≤ p ∧ m ≤ p - c ∧ p - c < b)
    (htm : tm.length = 220) (t0 : tm.getD 0 IV.undef = (SV.sl blk 0 l.length cap ex).iv) (t1 : tm.getD 1 IV.undef = .int .i64 a) (t2 : tm.getD 2 IV.undef = .int .i64 m) (t3 : tm.getD 3 IV.undef = .int .i64 b) (t4 : tm.getD 4 IV.undef = .fn 27 [] []) (t18 : tm.getD 18 IV.undef = .int .i64 mid) (t19 : tm.getD 19 IV.undef = y19) (t22 : tm.getD 22 IV.undef = .int .i64 p) (ti : tm.getD 20 IV.undef = .int .i64 (s0 : Nat)) (tj : tm.getD 21 IV.undef = .int .i64 (r0 : Nat))
    (hQ : ∀ H' tm' i, Keep H.n H H' → s0 ≤ i → i ≤ r0 → (i = s0 ∨ ltH (nth l (i - 1)) (nth l (p - (i - 1)))) → (i = r0 ∨ ltH (nth l (p - i)) (nth l i)) → tm'.length = 220 → tm'.getD 0 IV.undef = (SV.sl blk 0 l.length cap ex).iv → tm'.getD 1 IV.undef = .int .i64 a → tm'.getD 2 IV.undef = .int .i64 m → tm'.getD 3 IV.undef = .int .i64 b → tm'.getD 4 IV.undef = .fn 27 [] [] → tm'.getD 18 IV.undef = .int .i64 mid → tm'.getD 19 IV.undef = y19 → tm'.getD 22 IV.undef = .int .i64 p → tm'.getD 20 IV.undef = .int .i64 (i : Nat) → Q (.ex (.jmp (.exit 8)) ⟨tm', []⟩) H') :
    W E0 lo (.code (.loop F56l42) none ⟨tm, []⟩) H Q := by
  refine W_inv (fun k fr H' => ∃ i j, i + k = j ∧ s0 ≤ i ∧ j ≤ r0 ∧ Keep H.n H H' ∧ (i = s0 ∨ ltH (nth l (i - 1)) (nth l (p - (i - 1)))) ∧ (j = r0 ∨ ltH (nth l (p - j)) (nth l j)) ∧ fr.marks = [] ∧ fr.tm.length = 220 ∧ fr.tm.getD 0 IV.undef = (SV.sl blk 0 l.length cap ex).iv ∧ fr.tm.getD 1 IV.undef = .int .i64 a ∧ fr.tm.getD 2 IV.undef = .int .i64 m ∧ fr.tm.getD 3 IV.undef = .int .i64 b ∧ fr.tm.getD 4 IV.undef = .fn 27 [] [] ∧ fr.tm.getD 18 IV.undef = .int .i64 mid ∧ fr.tm.getD 19 IV.undef = y19 ∧ fr.tm.getD 22 IV.undef = .int .i64 p ∧ fr.tm.getD 20 IV.undef = .int .i64 (i : Nat) ∧ fr.tm.getD 21 IV.undef = .int .i64 (j : Nat)) ?_ (r0 - s0) ⟨s0, r0, by omega, Nat.le_refl _, Nat.le_refl _, Keep.refl _ _, .inl rfl, .inl rfl, rfl, htm, t0, t1, t2, t3, t4, t18, t19, t22, ti, tj⟩
  clear htm t0 t1 t2 t3 t4 t18 t19 t22 ti tj
  rintro k ⟨tm, mk⟩ H' ⟨i, j, hij, hmi, hjb, hk, hL, hR, rfl, htm, t0, t1, t2, t3, t4, t18, t19, t22, ti, tj⟩ L hN hJ
  rw [expl220 tm htm, t0, t1, t2, t3, t4, t18, t19, t22, ti, tj]
  have hn := hk.1
  by_cases hlt : i < j
  · have hO' := hO.keep hk
    have hidx := idxV hO' ex 5
    have eh : ((i : Int) + (j : Int)) / 2 = (((i + j) / 2 : Nat) : Int) := by omega
    have hr := hrng ((i + j) / 2) (by omega) (by omega)
    have ep : (p : Int) - (((i + j) / 2 : Nat) : Int) = ((p - (i + j) / 2 : Nat) : Int) := by omega
    have r1 := hO'.nthRead z_Hd (i := p - (i + j) / 2) (by omega)
    have r2 := hO'.nthRead z_Hd (i := (i + j) / 2) (by omega)
    simp (disch := omega) only [BAS, ↓BPR, reduceIte, reduceCtorEq, seval, -List.reduceReplicate, fpOf, freeNext, opW, binI, ev1, Heap.write, setAll, unI, eqKs, eqK, fillI, B56, F56l8, F56l13, F56l22, F56l27, F56l42, ↓hidx, wU64, ↓ev_half, eh, ep, r1, r2, Int.toNat_natCast]
    refine less_sp _ _ (by omega) fun H2 k2 => ?_
    have kk2 : Keep H.n H H2 := hk.trans (k2.lower hn)
    by_cases hc : (nth l (p - (i + j) / 2)).spot < (nth l ((i + j) / 2)).spot
    · have hc' := cmpI_lt hc
      have hlt' : ltH (nth l (p - (i + j) / 2)) (nth l ((i + j) / 2)) := .inl hc
      simp (disch := omega) only [BAS, ↓BPR, reduceIte, reduceCtorEq, seval, -List.reduceReplicate, fpOf, freeNext, opW, binI, ev1, Heap.write, setAll, unI, eqKs, eqK, fillI, B56, F56l8, F56l13, F56l22, F56l27, F56l42, hc']
      exact hN ((i + j) / 2 - i) _ _ (by omega) ⟨i, (i + j) / 2, by omega, hmi, by omega, kk2, hL, (.inr hlt'), rfl, rfl, rfl, rfl, rfl, rfl, rfl, rfl, rfl, rfl, rfl, rfl⟩
    · have hc' := cmpI_ge (a := (nth l (p - (i + j) / 2)).spot) (b := (nth l ((i + j) / 2)).spot) (by omega)
      have hlt' : ltH (nth l ((i + j) / 2)) (nth l (p - (i + j) / 2)) := by
        have ho := hord _ _ hr.1 hr.2.1 hr.2.2.2.1 hr.2.2.2.2
        unfold ordH at ho
        unfold ltH
        omega
      simp (disch := omega) only [BAS, ↓BPR, reduceIte, reduceCtorEq, seval, -List.reduceReplicate, fpOf, freeNext, opW, binI, ev1, Heap.write, setAll, unI, eqKs, eqK, fillI, B56, F56l8, F56l13, F56l22, F56l27, F56l42, hc']
      refine hN (j - ((i + j) / 2 + 1)) _ _ (by omega) ⟨(i + j) / 2 + 1, j, by omega, by omega, hjb, kk2, (.inr (by simpa using hlt')), hR, rfl, rfl, rfl, rfl, rfl, rfl, rfl, rfl, rfl, rfl, ?_, rfl⟩
      show IV.int _ _ = _
      congr 1
  · have : i = j := by omega
    subst this
    simp (disch := omega) only [BAS, ↓BPR, reduceIte, reduceCtorEq, seval, -List.reduceReplicate, fpOf, freeNext, opW, binI, ev1, Heap.write, setAll, unI, eqKs, eqK, fillI, B56, F56l8, F56l13, F56l22, F56l27, F56l42, hJ]
    exact hQ H' _ i hk hmi hjb hL hR rfl rfl rfl rfl rfl rfl rfl rfl rfl rfl

end Go.Iso.Gen
end

section
-- fast
namespace Go.Iso.Gen
open Go.Iso
set_option maxHeartbeats 2000000
set_option maxRecDepth 10000

theorem shift_a {blk e cap : Nat} {ex : Bool} {l : List Hd} {a b i : Nat} {H : Heap} {lo : Nat} {Q : Out → Heap → Prop} {tm : List IV} (hO : Own H blk e cap l) (hlo : lo ≤ blk) (hl : l.length ≤ 1000000) (hai : a < i) (hib : i ≤ b) (hb : b ≤ l.length)
    (htm : tm.length = 220) (t0 : tm.getD 0 IV.undef = (SV.sl blk 0 l.length cap ex).iv) (t10 : tm.getD 10 IV.undef = .int .i64 i) (t13 : tm.getD 13 IV.undef = .int .i64 a)
    (hQ : ∀ H' l' tm', KeepX blk H H' → Own H' blk e cap l' → Mix a b l l' → (∀ q, nth l' q = if a ≤ q ∧ q < i - 1 then nth l (q + 1) else if q = i - 1 then nth l a else nth l q) → Q (.ex (.jmp (.exit 2)) ⟨tm', []⟩) H') :
    W E0 lo (.code (.loop F56l13) none ⟨tm, []⟩) H Q := by
  refine W_inv (fun k fr H' => ∃ p l', a ≤ p ∧ p + k = i - 1 ∧ KeepX blk H H' ∧ Own H' blk e cap l' ∧ Mix a b l l' ∧ (∀ q, nth l' q = if a ≤ q ∧ q < p then nth l (q + 1) else if q = p then nth l a else nth l q) ∧ fr.marks = [] ∧ fr.tm.length = 220 ∧ fr.tm.getD 0 IV.undef = (SV.sl blk 0 l.length cap ex).iv ∧ fr.tm.getD 10 IV.undef = .int .i64 i ∧ fr.tm.getD 13 IV.undef = .int .i64 p) ?_ (i - 1 - a) ⟨a, l, Nat.le_refl _, by omega, KeepX.refl _ _, hO, Mix.refl _ _ _, fun q => by rw [if_neg (by omega)]; split <;> simp_all, rfl, htm, t0, t10, t13⟩
  clear htm t0 t10 t13
  rintro k ⟨tm, mk⟩ H' ⟨p, l', hap, hpk, hk, hO', hM, hf, rfl, htm, t0, t10, t13⟩ L hN hJ
  have hl' := hM.len
  rw [expl220 tm htm, t0, t10, t13, ← hl']
  by_cases hlt : p < i - 1
  · have hidx := idxV hO' ex 5
    have e1 : (p : Int) + 1 = ((p + 1 : Nat) : Int) := by omega
    obtain ⟨o1, o2, w1, w2, s2⟩ := own_swap hO' z_Hd (i := p) (j := p + 1) (by omega) (by omega) lo hlo
    have r1 := hO'.nthRead z_Hd (i := p) (by omega)
    have r2 := hO'.nthRead z_Hd (i := p + 1) (by omega)
    simp (disch := omega) only [BAS, ↓BPR, reduceIte, reduceCtorEq, seval, -List.reduceReplicate, fpOf, freeNext, opW, binI, ev1, Heap.write, setAll, unI, eqKs, eqK, fillI, B56, F56l8, F56l13, F56l22, F56l27, F56l42, ↓hidx, e1, r1, r2, ↓w1, ↓w2]
    refine hN (k - 1) _ _ (by omega) ⟨p + 1, swapL l' p (p + 1), by omega, by omega, (hk.trans (KeepX.put _)).trans (KeepX.put _), s2, hM.trans (Mix.swap (by omega) (by omega) (by omega)), fun q => ?_, rfl, rfl, by rw [hl']; rfl, rfl, rfl⟩
    rw [nth_swap (by omega) (by omega), hf p, hf (p + 1), hf q]
    by_cases c1 : q = p + 1
    · subst c1
      rw [if_pos rfl, if_neg (by omega), if_pos rfl, if_neg (by omega), if_pos rfl]
    · rw [if_neg c1]
      by_cases c2 : q = p
      · subst c2
        rw [if_pos rfl, if_neg (by omega), if_neg (by omega), if_pos (by omega)]
      · rw [if_neg c2]
        by_cases c3 : a ≤ q ∧ q < p
        · rw [if_pos c3, if_pos (by omega)]
        · rw [if_neg c3, if_neg c2, if_neg (by omega), if_neg c1]
  · have : p = i - 1 := by omega
    subst this
    simp (disch := omega) only [BAS, ↓BPR, reduceIte, reduceCtorEq, seval, -List.reduceReplicate, fpOf, freeNext, opW, binI, ev1, Heap.write, setAll, unI, eqKs, eqK, fillI, B56, F56l8, F56l13, F56l22, F56l27, F56l42, hJ]
    exact hQ H' l' _ hk hO' hM hf

theorem shift_b {blk e cap : Nat} {ex : Bool} {l : List Hd} {a m i : Nat} {H : Heap} {lo : Nat} {Q : Out → Heap → Prop} {tm : List IV} (hO : Own H blk e cap l) (hlo : lo ≤ blk) (hl : l.length ≤ 1000000) (hai : a ≤ i) (him : i ≤ m) (hb : m < l.length)
    (htm : tm.length = 220) (t0 : tm.getD 0 IV.undef = (SV.sl blk 0 l.length cap ex).iv) (t14 : tm.getD 14 IV.undef = .int .i64 i) (t17 : tm.getD 17 IV.undef = .int .i64 m)
    (hQ : ∀ H' l' tm', KeepX blk H H' → Own H' blk e cap l' → Mix a (m + 1) l l' → (∀ q, nth l' q = if i < q ∧ q ≤ m then nth l (q - 1) else if q = i then nth l m else nth l q) → Q (.ex (.jmp (.exit 6)) ⟨tm', []⟩) H') :
    W E0 lo (.code (.loop F56l27) none ⟨tm, []⟩) H Q := by
  refine W_inv (fun k fr H' => ∃ p l', p = i + k ∧ p ≤ m ∧ KeepX blk H H' ∧ Own H' blk e cap l' ∧ Mix a (m + 1) l l' ∧ (∀ q, nth l' q = if p < q ∧ q ≤ m then nth l (q - 1) else if q = p then nth l m else nth l q) ∧ fr.marks = [] ∧ fr.tm.length = 220 ∧ fr.tm.getD 0 IV.undef = (SV.sl blk 0 l.length cap ex).iv ∧ fr.tm.getD 14 IV.undef = .int .i64 i ∧ fr.tm.getD 17 IV.undef = .int .i64 p) ?_ (m - i) ⟨m, l, by omega, Nat.le_refl _, KeepX.refl _ _, hO, Mix.refl _ _ _, fun q => by rw [if_neg (by omega)]; split <;> simp_all, rfl, htm, t0, t14, t17⟩
  clear htm t0 t14 t17
  rintro k ⟨tm, mk⟩ H' ⟨p, l', hpk, hpm, hk, hO', hM, hf, rfl, htm, t0, t14, t17⟩ L hN hJ
  have hl' := hM.len
  rw [expl220 tm htm, t0, t14, t17, ← hl']
  by_cases hlt : i < p
  · have hidx := idxV hO' ex 5
    have e1 : ((p : Int) - 1).toNat = p - 1 := by omega
    obtain ⟨o1, o2, w1, w2, s2⟩ := own_swap hO' z_Hd (i := p) (j := p - 1) (by omega) (by omega) lo hlo
    have r1 := hO'.nthRead z_Hd (i := p) (by omega)
    have r2 := hO'.nthRead z_Hd (i := p - 1) (by omega)
    simp (disch := omega) only [BAS, ↓BPR, reduceIte, reduceCtorEq, seval, -List.reduceReplicate, fpOf, freeNext, opW, binI, ev1, Heap.write, setAll, unI, eqKs, eqK, fillI, B56, F56l8, F56l13, F56l22, F56l27, F56l42, ↓hidx, e1, r1, r2, ↓w1, ↓w2]
    refine hN (k - 1) _ _ (by omega) ⟨p - 1, swapL l' p (p - 1), by omega, by omega, (hk.trans (KeepX.put _)).trans (KeepX.put _), s2, hM.trans (Mix.swap (by omega) (by omega) (by omega)), fun q => ?_, rfl, rfl, by rw [hl']; rfl, rfl, ?_⟩
    · rw [nth_swap (by omega) (by omega), hf p, hf (p - 1), hf q]
      by_cases c1 : q = p - 1
      · subst c1
        rw [if_pos rfl, if_neg (by omega), if_pos rfl, if_neg (by omega), if_pos rfl]
      · rw [if_neg c1]
        by_cases c2 : q = p
        · subst c2
          rw [if_pos rfl, if_neg (by omega), if_neg (by omega), if_pos (by omega)]
        · rw [if_neg c2]
          by_cases c3 : p < q ∧ q ≤ m
          · rw [if_pos c3, if_pos (by omega)]
          · rw [if_neg c3, if_neg c2, if_neg (by omega), if_neg c1]
    · show IV.int _ _ = _
      congr 1; omega
  · have : p = i := by omega
    subst this
    simp (disch := omega) only [BAS, ↓BPR, reduceIte, reduceCtorEq, seval, -List.reduceReplicate, fpOf, freeNext, opW, binI, ev1, Heap.write, setAll, unI, eqKs, eqK, fillI, B56, F56l8, F56l13, F56l22, F56l27, F56l42, hJ]
    exact hQ H' l' _ hk hO' hM hf

/-- What a merge gives. -/
def SymOk (blk e cap : Nat) (ex : Bool) (d : Nat) : Prop := ∀ (l : List Hd) (a m b : Nat) (H : Heap) (lo : Nat) (Q : Out → Heap → Prop), b - a ≤ d → Own H blk e cap l → lo ≤ blk → l.length ≤ 1000000 → a < m → m < b → b ≤ l.length → Srt ltH l a m → Srt ltH l m b → (∀ i j, a ≤ i → i < m → m ≤ j → j < b → ordH (nth l i) (nth l j)) →
  (∀ H' l', KeepX blk H H' → Own H' blk e cap l' → Mix a b l l' → Srt ltH l' a b → Q (.val (.tuple [])) H') → W E0 lo (.call 56 [(SV.sl blk 0 l.length cap ex).iv, .int .i64 a, .int .i64 m, .int .i64 b, .fn 27 [] []]) H Q

theorem sym_rest3 {blk e cap : Nat} {ex : Bool} {d : Nat} (ih : SymOk blk e cap ex d) {l : List Hd} {a mid en b : Nat} {H : Heap} {lo : Nat} {Q : Out → Heap → Prop} {tm : List IV} (hO : Own H blk e cap l) (hlo : lo ≤ blk) (hl : l.length ≤ 1000000) (ham : a < mid) (hme : mid ≤ en) (heb : en ≤ b) (hb : b ≤ l.length) (hd : b - mid ≤ d)
    (s1 : Srt ltH l mid en) (s2 : Srt ltH l en b) (ho : ∀ i j, mid ≤ i → i < en → en ≤ j → j < b → ordH (nth l i) (nth l j))
    (htm : tm.length = 220) (t0 : tm.getD 0 IV.undef = (SV.sl blk 0 l.length cap ex).iv) (t3 : tm.getD 3 IV.undef = .int .i64 b) (t4 : tm.getD 4 IV.undef = .fn 27 [] []) (t18 : tm.getD 18 IV.undef = .int .i64 mid) (t24 : tm.getD 24 IV.undef = .int .i64 en)
    (hQ : ∀ H' l', KeepX blk H H' → Own H' blk e cap l' → Mix mid b l l' → Srt ltH l' mid b → Q (.val (.tuple [])) H') :
    W E0 lo (.code (.seq F56o48 (.cond (.tmp 213) F56o49 .skip)) none ⟨tm, []⟩) H (retC lo [] Q) := by
  rw [expl220 tm htm, t0, t3, t4, t18, t24]
  by_cases c1 : mid < en
  · by_cases c2 : en < b
    · simp (disch := omega) only [BAS, ↓BPR, reduceIte, reduceCtorEq, seval, -List.reduceReplicate, fpOf, freeNext, opW, binI, ev1, Heap.write, setAll, unI, eqKs, eqK, fillI, B56]
      refine ih l mid en b H lo _ hd hO hlo hl c1 c2 hb s1 s2 ho fun H' l' k o m s => ?_
      simp (disch := omega) only [BAS, ↓BPR, reduceIte, reduceCtorEq, seval, -List.reduceReplicate, fpOf, freeNext, opW, binI, ev1, Heap.write, setAll, unI, eqKs, eqK, fillI, B56]
      exact hQ H' l' k o m s
    · have : en = b := by omega
      subst this
      simp (disch := omega) only [BAS, ↓BPR, reduceIte, reduceCtorEq, seval, -List.reduceReplicate, fpOf, freeNext, opW, binI, ev1, Heap.write, setAll, unI, eqKs, eqK, fillI, B56]
      exact hQ H l (KeepX.refl _ _) hO (Mix.refl _ _ _) s1
  · have : mid = en := by omega
    subst this
    simp (disch := omega) only [BAS, ↓BPR, reduceIte, reduceCtorEq, seval, -List.reduceReplicate, fpOf, freeNext, opW, binI, ev1, Heap.write, setAll, unI, eqKs, eqK, fillI, B56]
    exact hQ H l (KeepX.refl _ _) hO (Mix.refl _ _ _) s2

theorem sym_rest2 {blk e cap : Nat} {ex : Bool} {d : Nat} (ih : SymOk blk e cap ex d) {l : List Hd} {a mid start en b : Nat} {H : Heap} {lo : Nat} {Q : Out → Heap → Prop} {tm : List IV} (hO : Own H blk e cap l) (hlo : lo ≤ blk) (hl : l.length ≤ 1000000) (ham : a < mid) (has : a ≤ start) (hsm : start ≤ mid) (hme : mid ≤ en) (heb : en ≤ b) (hb : b ≤ l.length) (hmb : mid < b) (hd : b - mid ≤ d) (hd' : mid - a ≤ d)
    (s1 : Srt ltH l a start) (s2 : Srt ltH l start mid) (s3 : Srt ltH l mid en) (s4 : Srt ltH l en b) (ho1 : ∀ i j, a ≤ i → i < start → start ≤ j → j < mid → ordH (nth l i) (nth l j)) (ho : ∀ i j, mid ≤ i → i < en → en ≤ j → j < b → ordH (nth l i) (nth l j))
    (hx : ∀ x y, a ≤ x → x < mid → mid ≤ y → y < b → ltH (nth l x) (nth l y))
    (htm : tm.length = 220) (t0 : tm.getD 0 IV.undef = (SV.sl blk 0 l.length cap ex).iv) (t1 : tm.getD 1 IV.undef = .int .i64 a) (t3 : tm.getD 3 IV.undef = .int .i64 b) (t4 : tm.getD 4 IV.undef = .fn 27 [] []) (t18 : tm.getD 18 IV.undef = .int .i64 mid) (t20 : tm.getD 20 IV.undef = .int .i64 start) (t24 : tm.getD 24 IV.undef = .int .i64 en)
    (hQ : ∀ H' l', KeepX blk H H' → Own H' blk e cap l' → Mix a b l l' → Srt ltH l' a b → Q (.val (.tuple [])) H') :
    W E0 lo (.code (.seq (.seq F56o46 (.cond (.tmp 199) F56o47 .skip)) (.seq F56o48 (.cond (.tmp 213) F56o49 .skip))) none ⟨tm, []⟩) H (retC lo [] Q) := by
  have fin : ∀ H2 l2 tm2, KeepX blk H H2 → Own H2 blk e cap l2 → Mix a mid l l2 → Srt ltH l2 a mid → tm2.length = 220 → tm2.getD 0 IV.undef = (SV.sl blk 0 l2.length cap ex).iv → tm2.getD 3 IV.undef = .int .i64 b → tm2.getD 4 IV.undef = .fn 27 [] [] → tm2.getD 18 IV.undef = .int .i64 mid → tm2.getD 24 IV.undef = .int .i64 en →
      W E0 lo (.code (.seq F56o48 (.cond (.tmp 213) F56o49 .skip)) none ⟨tm2, []⟩) H2 (retC lo [] Q) := by
    intro H2 l2 tm2 k2 o2 m2 q2 u u0 u3 u4 u18 u24
    have hl2 := m2.len
    refine sym_rest3 ih o2 hlo (by omega) ham hme heb (by omega) hd (s3.out m2 (by omega)) (s4.out m2 (by omega)) (fun i j h1 h2 h3 h4 => ?_) u u0 u3 u4 u18 u24 fun H3 l3 k3 o3 m3 q3 => ?_
    · rw [m2.out i (by omega), m2.out j (by omega)]; exact ho i j h1 h2 h3 h4
    · exact hQ H3 l3 (k2.trans k3) o3 ((m2.wide (Nat.le_refl _) (by omega)).trans (m3.wide (by omega) (Nat.le_refl _))) (Srt.glue m2 m3 q2 q3 hx)
  rw [expl220 tm htm, t0, t1, t3, t4, t18, t20, t24]
  by_cases c1 : a < start
  · by_cases c2 : start < mid
    · simp (disch := omega) only [BAS, ↓BPR, reduceIte, reduceCtorEq, seval, -List.reduceReplicate, fpOf, freeNext, opW, binI, ev1, Heap.write, setAll, unI, eqKs, eqK, fillI, wF56o0, F56p0, wF56o1, F56p1, wF56o2, F56p2, wF56o3, F56p3, wF56o4, F56p4, wF56o5, F56p5, wF56o6, F56p6, wF56o7, F56p7, wF56o9, F56p9, wF56o10, F56p10, wF56o11, F56p11, wF56o12, F56p12, wF56o14, F56p14, wF56o15, F56p15, wF56o16, F56p16, wF56o17, F56p17, wF56o18, F56p18, wF56o19, F56p19, wF56o20, F56p20, wF56o21, F56p21, wF56o23, F56p23, wF56o24, F56p24, wF56o25, F56p25, wF56o26, F56p26, wF56o28, F56p28, wF56o29, F56p29, wF56o30, F56p30, wF56o31, F56p31, wF56o32, F56p32, wF56o33, F56p33, wF56o34, F56p34, wF56o35, F56p35, wF56o36, F56p36, wF56o37, F56p37, wF56o38, F56p38, wF56o39, F56p39, wF56o40, F56p40, wF56o41, F56p41, wF56o43, F56p43, wF56o44, F56p44, wF56o45, F56p45, wF56o46, F56p46, wF56o47, F56p47, F56p48, wF56o49, F56p49, F56b, F56]
      refine ih l a start mid H lo _ hd' hO hlo hl c1 c2 (by omega) s1 s2 ho1 fun H' l' k o m s => ?_
      simp (disch := omega) only [BAS, ↓BPR, reduceIte, reduceCtorEq, seval, -List.reduceReplicate, fpOf, freeNext, opW, binI, ev1, Heap.write, setAll, unI, eqKs, eqK, fillI, wF56o0, F56p0, wF56o1, F56p1, wF56o2, F56p2, wF56o3, F56p3, wF56o4, F56p4, wF56o5, F56p5, wF56o6, F56p6, wF56o7, F56p7, wF56o9, F56p9, wF56o10, F56p10, wF56o11, F56p11, wF56o12, F56p12, wF56o14, F56p14, wF56o15, F56p15, wF56o16, F56p16, wF56o17, F56p17, wF56o18, F56p18, wF56o19, F56p19, wF56o20, F56p20, wF56o21, F56p21, wF56o23, F56p23, wF56o24, F56p24, wF56o25, F56p25, wF56o26, F56p26, wF56o28, F56p28, wF56o29, F56p29, wF56o30, F56p30, wF56o31, F56p31, wF56o32, F56p32, wF56o33, F56p33, wF56o34, F56p34, wF56o35, F56p35, wF56o36, F56p36, wF56o37, F56p37, wF56o38, F56p38, wF56o39, F56p39, wF56o40, F56p40, wF56o41, F56p41, wF56o43, F56p43, wF56o44, F56p44, wF56o45, F56p45, wF56o46, F56p46, wF56o47, F56p47, F56p48, wF56o49, F56p49, F56b, F56]
      rw [← W_seq]
      exact fin H' l' _ k o m s rfl (by rw [m.len]; rfl) rfl rfl rfl rfl
    · have : start = mid := by omega
      subst this
      simp (disch := omega) only [BAS, ↓BPR, reduceIte, reduceCtorEq, seval, -List.reduceReplicate, fpOf, freeNext, opW, binI, ev1, Heap.write, setAll, unI, eqKs, eqK, fillI, wF56o0, F56p0, wF56o1, F56p1, wF56o2, F56p2, wF56o3, F56p3, wF56o4, F56p4, wF56o5, F56p5, wF56o6, F56p6, wF56o7, F56p7, wF56o9, F56p9, wF56o10, F56p10, wF56o11, F56p11, wF56o12, F56p12, wF56o14, F56p14, wF56o15, F56p15, wF56o16, F56p16, wF56o17, F56p17, wF56o18, F56p18, wF56o19, F56p19, wF56o20, F56p20, wF56o21, F56p21, wF56o23, F56p23, wF56o24, F56p24, wF56o25, F56p25, wF56o26, F56p26, wF56o28, F56p28, wF56o29, F56p29, wF56o30, F56p30, wF56o31, F56p31, wF56o32, F56p32, wF56o33, F56p33, wF56o34, F56p34, wF56o35, F56p35, wF56o36, F56p36, wF56o37, F56p37, wF56o38, F56p38, wF56o39, F56p39, wF56o40, F56p40, wF56o41, F56p41, wF56o43, F56p43, wF56o44, F56p44, wF56o45, F56p45, wF56o46, F56p46, wF56o47, F56p47, F56p48, wF56o49, F56p49, F56b, F56]
      rw [← W_seq]
      exact fin H l _ (KeepX.refl _ _) hO (Mix.refl _ _ _) s1 rfl rfl rfl rfl rfl rfl
  · have : a = start := by omega
    subst this
    simp (disch := omega) only [BAS, ↓BPR, reduceIte, reduceCtorEq, seval, -List.reduceReplicate, fpOf, freeNext, opW, binI, ev1, Heap.write, setAll, unI, eqKs, eqK, fillI, wF56o0, F56p0, wF56o1, F56p1, wF56o2, F56p2, wF56o3, F56p3, wF56o4, F56p4, wF56o5, F56p5, wF56o6, F56p6, wF56o7, F56p7, wF56o9, F56p9, wF56o10, F56p10, wF56o11, F56p11, wF56o12, F56p12, wF56o14, F56p14, wF56o15, F56p15, wF56o16, F56p16, wF56o17, F56p17, wF56o18, F56p18, wF56o19, F56p19, wF56o20, F56p20, wF56o21, F56p21, wF56o23, F56p23, wF56o24, F56p24, wF56o25, F56p25, wF56o26, F56p26, wF56o28, F56p28, wF56o29, F56p29, wF56o30, F56p30, wF56o31, F56p31, wF56o32, F56p32, wF56o33, F56p33, wF56o34, F56p34, wF56o35, F56p35, wF56o36, F56p36, wF56o37, F56p37, wF56o38, F56p38, wF56o39, F56p39, wF56o40, F56p40, wF56o41, F56p41, wF56o43, F56p43, wF56o44, F56p44, wF56o45, F56p45, wF56o46, F56p46, wF56o47, F56p47, F56p48, wF56o49, F56p49, F56b, F56]
    rw [← W_seq]
    exact fin H l _ (KeepX.refl _ _) hO (Mix.refl _ _ _) s2 rfl rfl rfl rfl rfl rfl
end Go.Iso.Gen
end

section
-- fast
namespace Go.Iso.Gen
open Go.Iso
set_option maxHeartbeats 2000000
set_option maxRecDepth 10000

theorem sym_tail {blk e cap : Nat} {ex : Bool} {d : Nat} (ih : SymOk blk e cap ex d) {l : List Hd} {a m b mid start : Nat} {H : Heap} {lo : Nat} {Q : Out → Heap → Prop} {tm : List IV} (hO : Own H blk e cap l) (hlo : lo ≤ blk) (hl : l.length ≤ 1000000) (ham : a < m) (hmb : m < b) (hb : b ≤ l.length) (hmid : mid = (a + b) / 2) (hd : b - a ≤ d + 1) (h2 : a + 2 ≤ b)
    (has : a ≤ start) (hsm : start ≤ mid) (hsm' : start ≤ m) (hen : mid + m - start ≤ b)
    (sL : Srt ltH l a m) (sR : Srt ltH l m b) (hord : ∀ i j, a ≤ i → i < m → m ≤ j → j < b → ordH (nth l i) (nth l j))
    (pA : ∀ i j, a ≤ i → i < start → mid + m - start ≤ j → j < b → ltH (nth l i) (nth l j)) (pB : ∀ i j, m ≤ i → i < mid + m - start → start ≤ j → j < m → ltH (nth l i) (nth l j))
    (htm : tm.length = 220) (t0 : tm.getD 0 IV.undef = (SV.sl blk 0 l.length cap ex).iv) (t1 : tm.getD 1 IV.undef = .int .i64 a) (t2 : tm.getD 2 IV.undef = .int .i64 m) (t3 : tm.getD 3 IV.undef = .int .i64 b) (t4 : tm.getD 4 IV.undef = .fn 27 [] []) (t18 : tm.getD 18 IV.undef = .int .i64 mid) (t19 : tm.getD 19 IV.undef = .int .i64 ((mid + m : Nat) : Int)) (t20 : tm.getD 20 IV.undef = .int .i64 start)
    (hQ : ∀ H' l', KeepX blk H H' → Own H' blk e cap l' → Mix a b l l' → Srt ltH l' a b → Q (.val (.tuple [])) H') :
    W E0 lo (.code (.seq F56o43 (.seq (.seq F56o44 (.cond (.tmp 185) F56o45 .skip)) (.seq (.seq F56o46 (.cond (.tmp 199) F56o47 .skip)) (.seq F56o48 (.cond (.tmp 213) F56o49 .skip))))) none ⟨tm, []⟩) H (retC lo [] Q) := by
  obtain ⟨en, hen'⟩ : ∃ en, en = mid + m - start := ⟨_, rfl⟩
  rw [← hen'] at hen pA pB
  have ee : ((mid + m : Nat) : Int) - (start : Int) = (en : Int) := by omega
  have fin : ∀ H2 l2 tm2, KeepX blk H H2 → Own H2 blk e cap l2 → Mix a b l l2 → (∀ x, nth l2 x = rotF (nth l) start m en x) → tm2.length = 220 → tm2.getD 0 IV.undef = (SV.sl blk 0 l2.length cap ex).iv → tm2.getD 1 IV.undef = .int .i64 a → tm2.getD 3 IV.undef = .int .i64 b → tm2.getD 4 IV.undef = .fn 27 [] [] → tm2.getD 18 IV.undef = .int .i64 mid → tm2.getD 20 IV.undef = .int .i64 start → tm2.getD 24 IV.undef = .int .i64 en →
      W E0 lo (.code (.seq (.seq F56o46 (.cond (.tmp 199) F56o47 .skip)) (.seq F56o48 (.cond (.tmp 213) F56o49 .skip))) none ⟨tm2, []⟩) H2 (retC lo [] Q) := by
    intro H2 l2 tm2 k2 o2 m2 f2 u u0 u1 u3 u4 u18 u20 u24
    have hl2 := m2.len
    obtain ⟨⟨q1, q2, q3, q4⟩, q5, q6, q7⟩ := sym_law (lt := ltH) (ord := ordH) (mid := mid) has hsm hsm' (by omega) (by omega) hen (by omega) sL sR hord pA pB f2
    exact sym_rest2 ih o2 hlo (by omega) (by omega) has hsm (by omega) hen (by omega) (by omega) (by omega) (by omega) q1 q2 q3 q4 q5 q6 q7 u u0 u1 u3 u4 u18 u20 u24 fun H3 l3 k3 o3 m3 s3 => hQ H3 l3 (k2.trans k3) o3 (m2.trans m3) s3
  rw [expl220 tm htm, t0, t1, t2, t3, t4, t18, t19, t20]
  by_cases c1 : start < m
  · by_cases c2 : m < en
    · simp (disch := omega) only [BAS, ↓BPR, reduceIte, reduceCtorEq, seval, -List.reduceReplicate, fpOf, freeNext, opW, binI, ev1, Heap.write, setAll, unI, eqKs, eqK, fillI, wF56o0, F56p0, wF56o1, F56p1, wF56o2, F56p2, wF56o3, F56p3, wF56o4, F56p4, wF56o5, F56p5, wF56o6, F56p6, wF56o7, F56p7, wF56o9, F56p9, wF56o10, F56p10, wF56o11, F56p11, wF56o12, F56p12, wF56o14, F56p14, wF56o15, F56p15, wF56o16, F56p16, wF56o17, F56p17, wF56o18, F56p18, wF56o19, F56p19, wF56o20, F56p20, wF56o21, F56p21, wF56o23, F56p23, wF56o24, F56p24, wF56o25, F56p25, wF56o26, F56p26, wF56o28, F56p28, wF56o29, F56p29, wF56o30, F56p30, wF56o31, F56p31, wF56o32, F56p32, wF56o33, F56p33, wF56o34, F56p34, wF56o35, F56p35, wF56o36, F56p36, wF56o37, F56p37, wF56o38, F56p38, wF56o39, F56p39, wF56o40, F56p40, wF56o41, F56p41, wF56o43, F56p43, wF56o44, F56p44, wF56o45, F56p45, F56p46, wF56o47, F56p47, wF56o48, F56p48, wF56o49, F56p49, F56b, F56, ee]
      refine rotate_sp start m en hO hlo hl c1 c2 (by omega) fun H' l' k o mx f => ?_
      simp (disch := omega) only [BAS, ↓BPR, reduceIte, reduceCtorEq, seval, -List.reduceReplicate, fpOf, freeNext, opW, binI, ev1, Heap.write, setAll, unI, eqKs, eqK, fillI, wF56o0, F56p0, wF56o1, F56p1, wF56o2, F56p2, wF56o3, F56p3, wF56o4, F56p4, wF56o5, F56p5, wF56o6, F56p6, wF56o7, F56p7, wF56o9, F56p9, wF56o10, F56p10, wF56o11, F56p11, wF56o12, F56p12, wF56o14, F56p14, wF56o15, F56p15, wF56o16, F56p16, wF56o17, F56p17, wF56o18, F56p18, wF56o19, F56p19, wF56o20, F56p20, wF56o21, F56p21, wF56o23, F56p23, wF56o24, F56p24, wF56o25, F56p25, wF56o26, F56p26, wF56o28, F56p28, wF56o29, F56p29, wF56o30, F56p30, wF56o31, F56p31, wF56o32, F56p32, wF56o33, F56p33, wF56o34, F56p34, wF56o35, F56p35, wF56o36, F56p36, wF56o37, F56p37, wF56o38, F56p38, wF56o39, F56p39, wF56o40, F56p40, wF56o41, F56p41, wF56o43, F56p43, wF56o44, F56p44, wF56o45, F56p45, F56p46, wF56o47, F56p47, wF56o48, F56p48, wF56o49, F56p49, F56b, F56]
      rw [← W_seq, ← W_seq]
      exact fin H' l' _ k o (mx.wide has hen) f rfl (by rw [mx.len]; rfl) rfl rfl rfl rfl rfl rfl
    · simp (disch := omega) only [BAS, ↓BPR, reduceIte, reduceCtorEq, seval, -List.reduceReplicate, fpOf, freeNext, opW, binI, ev1, Heap.write, setAll, unI, eqKs, eqK, fillI, wF56o0, F56p0, wF56o1, F56p1, wF56o2, F56p2, wF56o3, F56p3, wF56o4, F56p4, wF56o5, F56p5, wF56o6, F56p6, wF56o7, F56p7, wF56o9, F56p9, wF56o10, F56p10, wF56o11, F56p11, wF56o12, F56p12, wF56o14, F56p14, wF56o15, F56p15, wF56o16, F56p16, wF56o17, F56p17, wF56o18, F56p18, wF56o19, F56p19, wF56o20, F56p20, wF56o21, F56p21, wF56o23, F56p23, wF56o24, F56p24, wF56o25, F56p25, wF56o26, F56p26, wF56o28, F56p28, wF56o29, F56p29, wF56o30, F56p30, wF56o31, F56p31, wF56o32, F56p32, wF56o33, F56p33, wF56o34, F56p34, wF56o35, F56p35, wF56o36, F56p36, wF56o37, F56p37, wF56o38, F56p38, wF56o39, F56p39, wF56o40, F56p40, wF56o41, F56p41, wF56o43, F56p43, wF56o44, F56p44, wF56o45, F56p45, F56p46, wF56o47, F56p47, wF56o48, F56p48, wF56o49, F56p49, F56b, F56, ee]
      rw [← W_seq, ← W_seq]
      exact fin H l _ (KeepX.refl _ _) hO (Mix.refl _ _ _) (fun x => (rot_none (nth l) (by omega) (by omega) (.inr (by omega)) x).symm) rfl rfl rfl rfl rfl rfl rfl rfl
  · simp (disch := omega) only [BAS, ↓BPR, reduceIte, reduceCtorEq, seval, -List.reduceReplicate, fpOf, freeNext, opW, binI, ev1, Heap.write, setAll, unI, eqKs, eqK, fillI, wF56o0, F56p0, wF56o1, F56p1, wF56o2, F56p2, wF56o3, F56p3, wF56o4, F56p4, wF56o5, F56p5, wF56o6, F56p6, wF56o7, F56p7, wF56o9, F56p9, wF56o10, F56p10, wF56o11, F56p11, wF56o12, F56p12, wF56o14, F56p14, wF56o15, F56p15, wF56o16, F56p16, wF56o17, F56p17, wF56o18, F56p18, wF56o19, F56p19, wF56o20, F56p20, wF56o21, F56p21, wF56o23, F56p23, wF56o24, F56p24, wF56o25, F56p25, wF56o26, F56p26, wF56o28, F56p28, wF56o29, F56p29, wF56o30, F56p30, wF56o31, F56p31, wF56o32, F56p32, wF56o33, F56p33, wF56o34, F56p34, wF56o35, F56p35, wF56o36, F56p36, wF56o37, F56p37, wF56o38, F56p38, wF56o39, F56p39, wF56o40, F56p40, wF56o41, F56p41, wF56o43, F56p43, wF56o44, F56p44, wF56o45, F56p45, F56p46, wF56o47, F56p47, wF56o48, F56p48, wF56o49, F56p49, F56b, F56, ee]
    rw [← W_seq, ← W_seq]
    exact fin H l _ (KeepX.refl _ _) hO (Mix.refl _ _ _) (fun x => (rot_none (nth l) (by omega) (by omega) (.inl (by omega)) x).symm) rfl rfl rfl rfl rfl rfl rfl rfl

theorem sym_sp {blk e cap : Nat} {ex : Bool} : ∀ d, SymOk blk e cap ex d := by
  intro d
  induction d with
  | zero => intro l a m b H lo Q h; intros; omega
  | succ d ih =>
    intro l a m b H lo Q hd hO hlo hl ham hmb hb sL sR hord h
    rw [c56]
    have hbn := hO.2.1
    by_cases c1 : m - a = 1
    · have ec : (m : Int) - (a : Int) = 1 := by omega
      simp (disch := omega) only [BAS, ↓BPR, reduceIte, reduceCtorEq, seval, -List.reduceReplicate, fpOf, freeNext, opW, binI, ev1, Heap.write, setAll, unI, eqKs, eqK, fillI, B56, ec]
      refine search_a hO hl ham hmb hb (by omega) sR (fun j h1 h2 => hord a j (Nat.le_refl _) ham h1 h2) rfl rfl rfl rfl rfl rfl fun H2 tm2 i k2 hi1 hi2 hL hR u u0 u1 u4 u10 => ?_
      have hO2 := hO.keep k2
      rw [expl220 tm2 u, u0, u1, u10]
      simp (disch := omega) only [BAS, ↓BPR, reduceIte, reduceCtorEq, seval, -List.reduceReplicate, fpOf, freeNext, opW, binI, ev1, Heap.write, setAll, unI, eqKs, eqK, fillI, B56]
      refine shift_a (ex := ex) (a := a) (b := b) hO2 hlo hl (by omega) hi2 hb rfl rfl rfl rfl fun H3 l3 tm3 k3 o3 m3 f3 => ?_
      simp (disch := omega) only [BAS, ↓BPR, reduceIte, reduceCtorEq, seval, -List.reduceReplicate, fpOf, freeNext, opW, binI, ev1, Heap.write, setAll, unI, eqKs, eqK, fillI, B56]
      refine h H3 l3 ((KeepX.of k2).trans k3) o3 m3 fun p q h1 h2 h3 => ?_
      rw [f3 p, f3 q]
      by_cases d1 : q < i - 1
      · rw [if_pos (by omega), if_pos (by omega)]
        exact sR _ _ (by omega) (by omega) (by omega)
      · by_cases d2 : q = i - 1
        · rw [if_pos (by omega), if_neg (by omega), if_pos d2]
          exact hL _ (by omega) (by omega)
        · rw [if_neg (show ¬ (a ≤ q ∧ q < i - 1) by omega), if_neg d2]
          by_cases d3 : p < i - 1
          · rw [if_pos (by omega)]
            exact sR _ _ (by omega) (by omega) h3
          · by_cases d4 : p = i - 1
            · rw [if_neg (by omega), if_pos d4]
              exact hR q (by omega) h3
            · rw [if_neg (by omega), if_neg d4]
              exact sR _ _ (by omega) h2 h3
    · have ec : ((m : Int) - (a : Int) == 1) = false := by simp; omega
      by_cases c2 : b - m = 1
      · have ed : (b : Int) - (m : Int) = 1 := by omega
        simp (disch := omega) only [BAS, ↓BPR, reduceIte, reduceCtorEq, seval, -List.reduceReplicate, fpOf, freeNext, opW, binI, ev1, Heap.write, setAll, unI, eqKs, eqK, fillI, B56, ec, ed]
        refine search_b hO hl ham hmb hb (by omega) sL (fun j h1 h2 => hord j m h1 h2 (Nat.le_refl _) hmb) rfl rfl rfl rfl rfl rfl fun H2 tm2 i k2 hi1 hi2 hL hR u u0 u2 u4 u14 => ?_
        have hO2 := hO.keep k2
        rw [expl220 tm2 u, u0, u2, u14]
        simp (disch := omega) only [BAS, ↓BPR, reduceIte, reduceCtorEq, seval, -List.reduceReplicate, fpOf, freeNext, opW, binI, ev1, Heap.write, setAll, unI, eqKs, eqK, fillI, B56]
        refine shift_b (ex := ex) (a := a) hO2 hlo hl hi1 hi2 (by omega) rfl rfl rfl rfl fun H3 l3 tm3 k3 o3 m3 f3 => ?_
        simp (disch := omega) only [BAS, ↓BPR, reduceIte, reduceCtorEq, seval, -List.reduceReplicate, fpOf, freeNext, opW, binI, ev1, Heap.write, setAll, unI, eqKs, eqK, fillI, B56]
        refine h H3 l3 ((KeepX.of k2).trans k3) o3 (m3.wide (Nat.le_refl _) (by omega)) fun p q h1 h2 h3 => ?_
        rw [f3 p, f3 q]
        by_cases d1 : p < i
        · rw [if_neg (show ¬ (i < p ∧ p ≤ m) by omega), if_neg (show ¬ p = i by omega)]
          by_cases d2 : q < i
          · rw [if_neg (by omega), if_neg (by omega)]
            exact sL p q h1 h2 (by omega)
          · by_cases d3 : q = i
            · rw [if_neg (by omega), if_pos d3]
              exact hL p h1 d1
            · rw [if_pos (by omega)]
              exact sL p _ h1 (by omega) (by omega)
        · rw [if_pos (show i < q ∧ q ≤ m by omega)]
          by_cases d3 : p = i
          · rw [if_neg (by omega), if_pos d3]
            exact hR _ (by omega) (by omega)
          · rw [if_pos (by omega)]
            exact sL _ _ (by omega) (by omega) (by omega)
      · have ed : ((b : Int) - (m : Int) == 1) = false := by simp; omega
        have eh : ((a : Int) + (b : Int)) / 2 = (((a + b) / 2 : Nat) : Int) := by omega
        have en : (((a + b) / 2 : Nat) : Int) + (m : Int) = (((a + b) / 2 + m : Nat) : Int) := by omega
        have ep : (((a + b) / 2 + m : Nat) : Int) - 1 = (((a + b) / 2 + m - 1 : Nat) : Int) := by omega
        obtain ⟨mid, hmid⟩ : ∃ mid, mid = (a + b) / 2 := ⟨_, rfl⟩
        rw [← hmid] at eh en ep
        have tail : ∀ s0 r0, a ≤ s0 → s0 ≤ r0 → r0 ≤ mid → r0 ≤ m → mid + m - s0 ≤ b → (s0 = a ∨ mid + m - s0 = b) → (r0 = m ∨ mid + m - r0 = m) → (∀ c, s0 ≤ c → c < r0 → a ≤ c ∧ c < m ∧ c ≤ mid + m - 1 ∧ m ≤ mid + m - 1 - c ∧ mid + m - 1 - c < b) →
            ∀ tm2, tm2.length = 220 → tm2.getD 0 IV.undef = (SV.sl blk 0 l.length cap ex).iv → tm2.getD 1 IV.undef = .int .i64 a → tm2.getD 2 IV.undef = .int .i64 m → tm2.getD 3 IV.undef = .int .i64 b → tm2.getD 4 IV.undef = .fn 27 [] [] → tm2.getD 18 IV.undef = .int .i64 mid → tm2.getD 19 IV.undef = .int .i64 ((mid + m : Nat) : Int) → tm2.getD 22 IV.undef = .int .i64 ((mid + m - 1 : Nat) : Int) → tm2.getD 20 IV.undef = .int .i64 (s0 : Nat) → tm2.getD 21 IV.undef = .int .i64 (r0 : Nat) →
            W E0 lo (.code (.loop F56l42) none ⟨tm2, []⟩) H (blkC 8 (thenC E0 lo none (.seq F56o43 (.seq (.seq F56o44 (.cond (.tmp 185) F56o45 .skip)) (.seq (.seq F56o46 (.cond (.tmp 199) F56o47 .skip)) (.seq F56o48 (.cond (.tmp 213) F56o49 .skip))))) (retC lo [] Q))) := by
          intro s0 r0 g1 g2 g3 g4 g5 g6 g7 g8 tm2 u u0 u1 u2 u3 u4 u18 u19 u22 u20 u21
          refine search_c (p := mid + m - 1) hO hl ham hmb hb (by omega) g2 hord g8 u u0 u1 u2 u3 u4 u18 u19 u22 u20 u21 fun H2 tm3 i k2 hi1 hi2 hL hR w w0 w1 w2 w3 w4 w18 w19 w22 w20 => ?_
          have hO2 := hO.keep k2
          show W _ _ _ _ _
          refine sym_tail ih hO2 hlo hl ham hmb hb hmid hd (by omega) (by omega) (by omega) (by omega) (by omega) sL sR hord (fun x y h1 h2 h3 h4 => ?_) (fun x y h1 h2 h3 h4 => ?_) w w0 w1 w2 w3 w4 w18 w19 w20 fun H3 l3 k3 o3 m3 s3 => h H3 l3 ((KeepX.of k2).trans k3) o3 m3 s3
          · rcases hL with e | hL
            · omega
            · have hr := g8 (i - 1) (by omega) (by omega)
              have e1 : mid + m - 1 - (i - 1) = mid + m - i := by omega
              rw [e1] at hL hr
              have q1 : x = i - 1 ∨ ltH (nth l x) (nth l (i - 1)) := by
                by_cases e : x = i - 1
                · exact .inl e
                · exact .inr (sL _ _ h1 (by omega) (by omega))
              have q2 : ltH (nth l x) (nth l (mid + m - i)) := by
                rcases q1 with e | q1
                · rw [e]; exact hL
                · exact ltH_tr _ _ _ q1 hL
              by_cases e : y = mid + m - i
              · rw [e]; exact q2
              · exact ltH_tr _ _ _ q2 (sR _ _ (by omega) (by omega) h4)
          · rcases hR with e | hR
            · omega
            · have hr := g8 i (by omega) (by omega)
              have e1 : mid + m - 1 - i = mid + m - i - 1 := by omega
              rw [e1] at hR hr
              have q2 : ltH (nth l x) (nth l i) := by
                by_cases e : x = mid + m - i - 1
                · rw [e]; exact hR
                · exact ltH_tr _ _ _ (sR _ _ h1 (by omega) (by omega)) hR
              by_cases e : y = i
              · rw [e]; exact q2
              · exact ltH_tr _ _ _ q2 (sL _ _ (by omega) (by omega) h4)
        by_cases c3 : m > mid
        · have es : ((mid + m : Nat) : Int) - (b : Int) = ((mid + m - b : Nat) : Int) := by omega
          simp (disch := omega) only [BAS, ↓BPR, reduceIte, reduceCtorEq, seval, -List.reduceReplicate, fpOf, freeNext, opW, binI, ev1, Heap.write, setAll, unI, eqKs, eqK, fillI, wF56o0, F56p0, wF56o1, F56p1, wF56o2, F56p2, wF56o3, F56p3, wF56o4, F56p4, wF56o5, F56p5, wF56o6, F56p6, wF56o7, F56p7, wF56o9, F56p9, wF56o10, F56p10, wF56o11, F56p11, wF56o12, F56p12, wF56o14, F56p14, wF56o15, F56p15, wF56o16, F56p16, wF56o17, F56p17, wF56o18, F56p18, wF56o19, F56p19, wF56o20, F56p20, wF56o21, F56p21, wF56o23, F56p23, wF56o24, F56p24, wF56o25, F56p25, wF56o26, F56p26, wF56o28, F56p28, wF56o29, F56p29, wF56o30, F56p30, wF56o31, F56p31, wF56o32, F56p32, wF56o33, F56p33, wF56o34, F56p34, wF56o35, F56p35, wF56o36, F56p36, wF56o37, F56p37, wF56o38, F56p38, wF56o39, F56p39, wF56o40, F56p40, wF56o41, F56p41, F56p43, wF56o44, F56p44, wF56o45, F56p45, wF56o46, F56p46, wF56o47, F56p47, wF56o48, F56p48, wF56o49, F56p49, F56b, F56, ec, ed, wU64, ↓ev_half, eh, en, ep, es]
          exact tail (mid + m - b) mid (by omega) (by omega) (by omega) (by omega) (by omega) (.inr (by omega)) (.inr (by omega)) (fun c h1 h2 => by omega) _ rfl rfl rfl rfl rfl rfl rfl rfl rfl rfl rfl
        · simp (disch := omega) only [BAS, ↓BPR, reduceIte, reduceCtorEq, seval, -List.reduceReplicate, fpOf, freeNext, opW, binI, ev1, Heap.write, setAll, unI, eqKs, eqK, fillI, wF56o0, F56p0, wF56o1, F56p1, wF56o2, F56p2, wF56o3, F56p3, wF56o4, F56p4, wF56o5, F56p5, wF56o6, F56p6, wF56o7, F56p7, wF56o9, F56p9, wF56o10, F56p10, wF56o11, F56p11, wF56o12, F56p12, wF56o14, F56p14, wF56o15, F56p15, wF56o16, F56p16, wF56o17, F56p17, wF56o18, F56p18, wF56o19, F56p19, wF56o20, F56p20, wF56o21, F56p21, wF56o23, F56p23, wF56o24, F56p24, wF56o25, F56p25, wF56o26, F56p26, wF56o28, F56p28, wF56o29, F56p29, wF56o30, F56p30, wF56o31, F56p31, wF56o32, F56p32, wF56o33, F56p33, wF56o34, F56p34, wF56o35, F56p35, wF56o36, F56p36, wF56o37, F56p37, wF56o38, F56p38, wF56o39, F56p39, wF56o40, F56p40, wF56o41, F56p41, F56p43, wF56o44, F56p44, wF56o45, F56p45, wF56o46, F56p46, wF56o47, F56p47, wF56o48, F56p48, wF56o49, F56p49, F56b, F56, ec, ed, wU64, ↓ev_half, eh, en, ep]
          exact tail a m (by omega) (by omega) (by omega) (by omega) (by omega) (.inl rfl) (.inl rfl) (fun c h1 h2 => by omega) _ rfl rfl rfl rfl rfl rfl rfl rfl rfl rfl rfl
end Go.Iso.Gen
end

section
-- fast
namespace Go.Iso.Gen
open Go.Iso
set_option maxHeartbeats 2000000
set_option maxRecDepth 10000

/-- Blocks of a length are in the order of what is in them. -/
def Cross (s : Nat) (l : List Hd) : Prop := ∀ i j q, i < q * s → q * s ≤ j → j < l.length → ordH (nth l i) (nth l j)
theorem Cross.mix {s a b q0 : Nat} {l l' : List Hd} (h : Cross s l) (k : Mix a b l l') (ha : q0 * s ≤ a) (hb : b ≤ (q0 + 1) * s) (hbl : b ≤ l.length) : Cross s l' := by
  intro i j q h1 h2 h3
  rw [k.len] at h3
  have key : ∀ q, q * s < (q0 + 1) * s → q * s ≤ q0 * s := fun q h => Nat.mul_le_mul_right _ (Nat.lt_succ_iff.1 (Nat.lt_of_mul_lt_mul_right h))
  have key' : ∀ q, q0 * s < q * s → (q0 + 1) * s ≤ q * s := fun q h => Nat.mul_le_mul_right _ (Nat.lt_of_mul_lt_mul_right h)
  have img : ∀ x, ∃ y, nth l' x = nth l y ∧ ((x = y) ∨ (a ≤ x ∧ x < b ∧ a ≤ y ∧ y < b)) := fun x => by
    by_cases c : a ≤ x ∧ x < b
    · obtain ⟨y, y1, y2, y3⟩ := k.img x c.1 c.2
      exact ⟨y, y3, .inr ⟨c.1, c.2, y1, y2⟩⟩
    · exact ⟨x, k.out x (by omega), .inl rfl⟩
  obtain ⟨y, y1, y2⟩ := img i
  obtain ⟨z, z1, z2⟩ := img j
  rw [y1, z1]
  refine h y z q ?_ ?_ ?_
  · rcases y2 with rfl | ⟨g1, g2, g3, g4⟩
    · exact h1
    · have := key' q (by omega)
      omega
  · rcases z2 with rfl | ⟨g1, g2, g3, g4⟩
    · exact h2
    · have := key q (by omega)
      omega
  · omega
theorem Cross.two {s : Nat} {l : List Hd} (h : Cross s l) : Cross (2 * s) l := fun i j q h1 h2 h3 => h i j (q * 2) (by rw [Nat.mul_assoc]; exact h1) (by rw [Nat.mul_assoc]; exact h2) h3
theorem Cross.init {l : List Hd} (h : l.Pairwise ordH) (s : Nat) : Cross s l := fun i j q h1 h2 h3 => Srt.of_pairwise h 0 l.length (Nat.le_refl _) i j (Nat.zero_le _) (by omega) h3
/-- All blocks of a length are sorted. -/
def AllB (s n : Nat) (l : List Hd) : Prop := ∀ q, q * s < n → Srt ltH l (q * s) (min ((q + 1) * s) n)
theorem AllB.of {s n q1 : Nat} {l : List Hd} (h : ∀ q, q < q1 → Srt ltH l (q * s) ((q + 1) * s)) (h1 : Srt ltH l (q1 * s) n) (hn : n ≤ (q1 + 1) * s) : AllB s n l := by
  intro q hq
  have hle : q ≤ q1 := Nat.lt_succ_iff.1 (Nat.lt_of_mul_lt_mul_right (Nat.lt_of_lt_of_le hq hn))
  by_cases e : q = q1
  · subst e; exact h1.part (Nat.le_refl _) (by omega)
  · exact (h q (by omega)).part (Nat.le_refl _) (by omega)

theorem expl63 (tm : List IV) (h : tm.length = 63) : tm = [tm.getD 0 IV.undef, tm.getD 1 IV.undef, tm.getD 2 IV.undef, tm.getD 3 IV.undef, tm.getD 4 IV.undef, tm.getD 5 IV.undef, tm.getD 6 IV.undef, tm.getD 7 IV.undef, tm.getD 8 IV.undef, tm.getD 9 IV.undef, tm.getD 10 IV.undef, tm.getD 11 IV.undef, tm.getD 12 IV.undef, tm.getD 13 IV.undef, tm.getD 14 IV.undef, tm.getD 15 IV.undef, tm.getD 16 IV.undef, tm.getD 17 IV.undef, tm.getD 18 IV.undef, tm.getD 19 IV.undef, tm.getD 20 IV.undef, tm.getD 21 IV.undef, tm.getD 22 IV.undef, tm.getD 23 IV.undef, tm.getD 24 IV.undef, tm.getD 25 IV.undef, tm.getD 26 IV.undef, tm.getD 27 IV.undef, tm.getD 28 IV.undef, tm.getD 29 IV.undef, tm.getD 30 IV.undef, tm.getD 31 IV.undef, tm.getD 32 IV.undef, tm.getD 33 IV.undef, tm.getD 34 IV.undef, tm.getD 35 IV.undef, tm.getD 36 IV.undef, tm.getD 37 IV.undef, tm.getD 38 IV.undef, tm.getD 39 IV.undef, tm.getD 40 IV.undef, tm.getD 41 IV.undef, tm.getD 42 IV.undef, tm.getD 43 IV.undef, tm.getD 44 IV.undef, tm.getD 45 IV.undef, tm.getD 46 IV.undef, tm.getD 47 IV.undef, tm.getD 48 IV.undef, tm.getD 49 IV.undef, tm.getD 50 IV.undef, tm.getD 51 IV.undef, tm.getD 52 IV.undef, tm.getD 53 IV.undef, tm.getD 54 IV.undef, tm.getD 55 IV.undef, tm.getD 56 IV.undef, tm.getD 57 IV.undef, tm.getD 58 IV.undef, tm.getD 59 IV.undef, tm.getD 60 IV.undef, tm.getD 61 IV.undef, tm.getD 62 IV.undef] := (expl tm 63 h).trans rfl
theorem st_ins {blk e cap : Nat} {ex : Bool} {l : List Hd} {H : Heap} {lo : Nat} {Q : Out → Heap → Prop} {tm : List IV} (hO : Own H blk e cap l) (hlo : lo ≤ blk) (hl : l.length ≤ 1000000) (hord : l.Pairwise ordH)
    (htm : tm.length = 63) (t0 : tm.getD 0 IV.undef = (SV.sl blk 0 l.length cap ex).iv) (t1 : tm.getD 1 IV.undef = .int .i64 l.length) (t2 : tm.getD 2 IV.undef = .fn 27 [] []) (t6 : tm.getD 6 IV.undef = .int .i64 20) (t7 : tm.getD 7 IV.undef = .int .i64 0) (t8 : tm.getD 8 IV.undef = .int .i64 20)
    (hQ : ∀ H' l' tm' q1, KeepX blk H H' → Own H' blk e cap l' → Mix 0 l.length l l' → Cross 20 l' → (∀ x, q1 * 20 ≤ x → nth l' x = nth l x) → (∀ q, q < q1 → Srt ltH l' (q * 20) ((q + 1) * 20)) → q1 * 20 ≤ l.length → l.length ≤ (q1 + 1) * 20 → tm'.length = 63 → tm'.getD 0 IV.undef = (SV.sl blk 0 l.length cap ex).iv → tm'.getD 1 IV.undef = .int .i64 l.length → tm'.getD 2 IV.undef = .fn 27 [] [] → tm'.getD 6 IV.undef = .int .i64 20 → tm'.getD 7 IV.undef = .int .i64 ((q1 * 20 : Nat) : Int) → Q (.ex (.jmp (.exit 0)) ⟨tm', []⟩) H') :
    W E0 lo (.code (.loop F49l6) none ⟨tm, []⟩) H Q := by
  refine W_inv (fun k fr H' => ∃ q1 l', q1 * 20 + k = l.length ∧ KeepX blk H H' ∧ Own H' blk e cap l' ∧ Mix 0 l.length l l' ∧ Cross 20 l' ∧ (∀ x, q1 * 20 ≤ x → nth l' x = nth l x) ∧ (∀ q, q < q1 → Srt ltH l' (q * 20) ((q + 1) * 20)) ∧ fr.marks = [] ∧ fr.tm.length = 63 ∧ fr.tm.getD 0 IV.undef = (SV.sl blk 0 l.length cap ex).iv ∧ fr.tm.getD 1 IV.undef = .int .i64 l.length ∧ fr.tm.getD 2 IV.undef = .fn 27 [] [] ∧ fr.tm.getD 6 IV.undef = .int .i64 20 ∧ fr.tm.getD 7 IV.undef = .int .i64 ((q1 * 20 : Nat) : Int) ∧ fr.tm.getD 8 IV.undef = .int .i64 ((q1 * 20 + 20 : Nat) : Int)) ?_ l.length ⟨0, l, by omega, KeepX.refl _ _, hO, Mix.refl _ _ _, Cross.init hord _, fun _ _ => rfl, fun q h => by omega, rfl, htm, t0, t1, t2, t6, t7, t8⟩
  clear htm t0 t1 t2 t6 t7 t8
  rintro k ⟨tm, mk⟩ H' ⟨q1, l', hq, hk, hO', hM, hC, hout, hB, rfl, htm, t0, t1, t2, t6, t7, t8⟩ L hN hJ
  have hl' := hM.len
  rw [expl63 tm htm, t0, t1, t2, t6, t7, t8, ← hl']
  by_cases hlt : q1 * 20 + 20 ≤ l.length
  · simp (disch := omega) only [BAS, ↓BPR, reduceIte, reduceCtorEq, seval, -List.reduceReplicate, fpOf, freeNext, opW, binI, ev1, Heap.write, setAll, unI, eqKs, eqK, fillI, B49, F49l6, F49l14, F49l19]
    refine insertion_sp (q1 * 20) (q1 * 20 + 20) hO' hlo (by omega) (by omega) (by omega) (fun i j h1 h2 h3 => ?_) fun H2 l2 k2 o2 m2 s2 => ?_
    · rw [hout i h1, hout j (by omega)]
      exact Srt.of_pairwise hord 0 l.length (Nat.le_refl _) i j (Nat.zero_le _) h2 (by omega)
    · simp (disch := omega) only [BAS, ↓BPR, reduceIte, reduceCtorEq, seval, -List.reduceReplicate, fpOf, freeNext, opW, binI, ev1, Heap.write, setAll, unI, eqKs, eqK, fillI, B49, F49l6, F49l14, F49l19]
      refine hN (k - 20) _ _ (by omega) ⟨q1 + 1, l2, by omega, hk.trans k2, o2, hM.trans (m2.wide (Nat.zero_le _) (by omega)), hC.mix m2 (Nat.le_refl _) (by omega) (by omega), fun x hx => by rw [m2.out x (by omega)]; exact hout x (by omega), fun q hq => ?_, rfl, rfl, by rw [hl']; rfl, by rw [hl']; rfl, rfl, rfl, ?_, ?_⟩
      · by_cases c : q = q1
        · subst c; rw [show (q + 1) * 20 = q * 20 + 20 from by omega]; exact s2
        · exact (hB q (by omega)).out m2 (by omega)
      · show IV.int _ _ = _
        congr 1; omega
      · show IV.int _ _ = _
        congr 1; omega
  · simp (disch := omega) only [BAS, ↓BPR, reduceIte, reduceCtorEq, seval, -List.reduceReplicate, fpOf, freeNext, opW, binI, ev1, Heap.write, setAll, unI, eqKs, eqK, fillI, B49, F49l6, F49l14, F49l19, hJ]
    exact hQ H' l' _ q1 hk hO' hM hC hout hB (by omega) (by omega) rfl (by rw [hl']; rfl) (by rw [hl']; rfl) rfl rfl rfl

theorem st_merge {blk e cap : Nat} {ex : Bool} {l : List Hd} {s : Nat} {H : Heap} {lo : Nat} {Q : Out → Heap → Prop} {tm : List IV} (hO : Own H blk e cap l) (hlo : lo ≤ blk) (hl : l.length ≤ 1000000) (hs : 0 < s) (hsn : s < l.length) (hA : AllB s l.length l) (hC : Cross s l)
    (htm : tm.length = 63) (t0 : tm.getD 0 IV.undef = (SV.sl blk 0 l.length cap ex).iv) (t1 : tm.getD 1 IV.undef = .int .i64 l.length) (t2 : tm.getD 2 IV.undef = .fn 27 [] []) (t6 : tm.getD 6 IV.undef = .int .i64 s) (t7 : tm.getD 7 IV.undef = .int .i64 0) (t8 : tm.getD 8 IV.undef = .int .i64 (2 * (s : Int)))
    (hQ : ∀ H' l' tm' q1, KeepX blk H H' → Own H' blk e cap l' → Mix 0 l.length l l' → Cross (2 * s) l' → (∀ x, q1 * (2 * s) ≤ x → nth l' x = nth l x) → (∀ q, q < q1 → Srt ltH l' (q * (2 * s)) ((q + 1) * (2 * s))) → q1 * (2 * s) ≤ l.length → l.length ≤ (q1 + 1) * (2 * s) → tm'.length = 63 → tm'.getD 0 IV.undef = (SV.sl blk 0 l.length cap ex).iv → tm'.getD 1 IV.undef = .int .i64 l.length → tm'.getD 2 IV.undef = .fn 27 [] [] → tm'.getD 6 IV.undef = .int .i64 s → tm'.getD 7 IV.undef = .int .i64 ((q1 * (2 * s) : Nat) : Int) → Q (.ex (.jmp (.exit 4)) ⟨tm', []⟩) H') :
    W E0 lo (.code (.loop F49l14) none ⟨tm, []⟩) H Q := by
  refine W_inv (fun k fr H' => ∃ q1 l', q1 * (2 * s) + k = l.length ∧ KeepX blk H H' ∧ Own H' blk e cap l' ∧ Mix 0 l.length l l' ∧ Cross (2 * s) l' ∧ (∀ x, q1 * (2 * s) ≤ x → nth l' x = nth l x) ∧ (∀ q, q < q1 → Srt ltH l' (q * (2 * s)) ((q + 1) * (2 * s))) ∧ fr.marks = [] ∧ fr.tm.length = 63 ∧ fr.tm.getD 0 IV.undef = (SV.sl blk 0 l.length cap ex).iv ∧ fr.tm.getD 1 IV.undef = .int .i64 l.length ∧ fr.tm.getD 2 IV.undef = .fn 27 [] [] ∧ fr.tm.getD 6 IV.undef = .int .i64 s ∧ fr.tm.getD 7 IV.undef = .int .i64 ((q1 * (2 * s) : Nat) : Int) ∧ fr.tm.getD 8 IV.undef = .int .i64 ((q1 * (2 * s) + 2 * s : Nat) : Int)) ?_ l.length ⟨0, l, by omega, KeepX.refl _ _, hO, Mix.refl _ _ _, hC.two, fun _ _ => rfl, fun q h => by omega, rfl, htm, t0, t1, t2, t6, by rw [t7]; congr 1; omega, by rw [t8]; congr 1; omega⟩
  clear htm t0 t1 t2 t6 t7 t8
  rintro k ⟨tm, mk⟩ H' ⟨q1, l', hq, hk, hO', hM, hC', hout, hB, rfl, htm, t0, t1, t2, t6, t7, t8⟩ L hN hJ
  have hl' := hM.len
  have e1 : (q1 + 1) * (2 * s) = q1 * (2 * s) + 2 * s := Nat.succ_mul _ _
  obtain ⟨a, ha⟩ : ∃ a, a = q1 * (2 * s) := ⟨_, rfl⟩
  rw [← ha] at hq t7 t8 hout e1
  rw [expl63 tm htm, t0, t1, t2, t6, t7, t8, ← hl']
  by_cases hlt : a + 2 * s ≤ l.length
  · have ea : (a : Int) + (s : Int) = ((a + s : Nat) : Int) := by omega
    have q2 : q1 * 2 * s = a := by rw [ha, Nat.mul_assoc]
    have q3 : (q1 * 2 + 1) * s = a + s := by rw [Nat.succ_mul, q2]
    have q4 : (q1 * 2 + 1 + 1) * s = a + 2 * s := by rw [Nat.succ_mul, q3]; omega
    have s1 := hA (q1 * 2) (by omega)
    have s2 := hA (q1 * 2 + 1) (by omega)
    rw [q2, q3, Nat.min_eq_left (by omega)] at s1
    rw [q3, q4, Nat.min_eq_left (by omega)] at s2
    simp (disch := omega) only [BAS, ↓BPR, reduceIte, reduceCtorEq, seval, -List.reduceReplicate, fpOf, freeNext, opW, binI, ev1, Heap.write, setAll, unI, eqKs, eqK, fillI, B49, F49l6, F49l14, F49l19, ea]
    refine sym_sp (2 * s) l' a (a + s) (a + 2 * s) H' lo _ (by omega) hO' hlo (by omega) (by omega) (by omega) (by omega) (fun i j h1 h2 h3 => ?_) (fun i j h1 h2 h3 => ?_) (fun i j h1 h2 h3 h4 => ?_) fun H2 l2 k2 o2 m2 s2 => ?_
    · rw [hout i h1, hout j (by omega)]; exact s1 i j h1 h2 h3
    · rw [hout i (by omega), hout j (by omega)]; exact s2 i j h1 h2 h3
    · rw [hout i h1, hout j (by omega)]; exact hC i j (q1 * 2 + 1) (by omega) (by omega) (by omega)
    · simp (disch := omega) only [BAS, ↓BPR, reduceIte, reduceCtorEq, seval, -List.reduceReplicate, fpOf, freeNext, opW, binI, ev1, Heap.write, setAll, unI, eqKs, eqK, fillI, B49, F49l6, F49l14, F49l19]
      refine hN (k - 2 * s) _ _ (by omega) ⟨q1 + 1, l2, by omega, hk.trans k2, o2, hM.trans (m2.wide (Nat.zero_le _) (by omega)), hC'.mix (q0 := q1) m2 (by omega) (by omega) (by omega), fun x hx => by rw [m2.out x (by omega)]; exact hout x (by omega), fun q hq => ?_, rfl, rfl, by rw [hl']; rfl, by rw [hl']; rfl, rfl, rfl, ?_, ?_⟩
      · by_cases c : q = q1
        · subst c; rw [← ha, e1]; exact s2
        · have : (q + 1) * (2 * s) ≤ q1 * (2 * s) := Nat.mul_le_mul_right _ (by omega)
          exact (hB q (by omega)).out m2 (by omega)
      · show IV.int _ _ = _
        congr 1; omega
      · show IV.int _ _ = _
        congr 1; omega
  · simp (disch := omega) only [BAS, ↓BPR, reduceIte, reduceCtorEq, seval, -List.reduceReplicate, fpOf, freeNext, opW, binI, ev1, Heap.write, setAll, unI, eqKs, eqK, fillI, B49, F49l6, F49l14, F49l19, hJ]
    exact hQ H' l' _ q1 hk hO' hM hC' (by rw [← ha]; exact hout) hB (by omega) (by omega) rfl (by rw [hl']; rfl) (by rw [hl']; rfl) rfl rfl (by rw [← ha]; rfl)

theorem st_double {blk e cap : Nat} {ex : Bool} {l : List Hd} {s0 : Nat} {H : Heap} {lo : Nat} {Q : Out → Heap → Prop} {tm : List IV} (hO : Own H blk e cap l) (hlo : lo ≤ blk) (hl : l.length ≤ 1000000) (hs : 0 < s0) (hs' : s0 ≤ 2000000) (hA : AllB s0 l.length l) (hC : Cross s0 l)
    (htm : tm.length = 63) (t0 : tm.getD 0 IV.undef = (SV.sl blk 0 l.length cap ex).iv) (t1 : tm.getD 1 IV.undef = .int .i64 l.length) (t2 : tm.getD 2 IV.undef = .fn 27 [] []) (t6 : tm.getD 6 IV.undef = .int .i64 s0)
    (hQ : ∀ H' l' tm', KeepX blk H H' → Own H' blk e cap l' → l'.Perm l → l'.Pairwise ltH → Q (.ex (.jmp (.exit 2)) ⟨tm', []⟩) H') :
    W E0 lo (.code (.loop F49l19) none ⟨tm, []⟩) H Q := by
  refine W_inv (fun k fr H' => ∃ s l', k = l.length - s ∧ 0 < s ∧ s ≤ 2000000 ∧ KeepX blk H H' ∧ Own H' blk e cap l' ∧ Mix 0 l.length l l' ∧ AllB s l.length l' ∧ Cross s l' ∧ fr.marks = [] ∧ fr.tm.length = 63 ∧ fr.tm.getD 0 IV.undef = (SV.sl blk 0 l.length cap ex).iv ∧ fr.tm.getD 1 IV.undef = .int .i64 l.length ∧ fr.tm.getD 2 IV.undef = .fn 27 [] [] ∧ fr.tm.getD 6 IV.undef = .int .i64 s) ?_ _ ⟨s0, l, rfl, hs, hs', KeepX.refl _ _, hO, Mix.refl _ _ _, hA, hC, rfl, htm, t0, t1, t2, t6⟩
  clear htm t0 t1 t2 t6
  rintro k ⟨tm, mk⟩ H' ⟨s, l', hks, hs0, hs2, hk, hO', hM, hA', hC', rfl, htm, t0, t1, t2, t6⟩ L hN hJ
  have hl' := hM.len
  rw [expl63 tm htm, t0, t1, t2, t6, ← hl']
  by_cases hlt : s < l.length
  · simp (disch := omega) only [BAS, ↓BPR, reduceIte, reduceCtorEq, seval, -List.reduceReplicate, fpOf, freeNext, opW, binI, ev1, Heap.write, setAll, unI, eqKs, eqK, fillI, wF49o0, F49p0, wF49o1, F49p1, wF49o2, F49p2, wF49o3, F49p3, wF49o4, F49p4, wF49o5, F49p5, F49l6, wF49o7, F49p7, wF49o8, F49p8, wF49o9, F49p9, wF49o10, F49p10, wF49o11, F49p11, wF49o12, F49p12, wF49o13, F49p13, wF49o15, F49p15, wF49o16, F49p16, wF49o17, F49p17, wF49o18, F49p18, F49l19, F49b, F49]
    refine st_merge (ex := ex) hO' hlo (by omega) hs0 (by omega) (by rw [hl']; exact hA') hC' rfl rfl rfl rfl rfl rfl rfl fun H2 l2 tm2 q1 k2 o2 m2 c2 f2 b2 g1 g2 htm2 u0 u1 u2 u6 u7 => ?_
    have hl2 := m2.len
    obtain ⟨a, ha⟩ : ∃ a, a = q1 * (2 * s) := ⟨_, rfl⟩
    have e1 : (q1 + 1) * (2 * s) = a + 2 * s := by rw [Nat.succ_mul, ha]
    have q2 : q1 * 2 * s = a := by rw [ha, Nat.mul_assoc]
    have q3 : (q1 * 2 + 1) * s = a + s := by rw [Nat.succ_mul, q2]
    have q4 : (q1 * 2 + 1 + 1) * s = a + 2 * s := by rw [Nat.succ_mul, q3]; omega
    rw [← ha] at g1 f2 u7
    rw [e1] at g2
    have ea : (a : Int) + (s : Int) = ((a + s : Nat) : Int) := by omega
    have e2 : (s : Int) * 2 = ((2 * s : Nat) : Int) := by omega
    rw [expl63 tm2 htm2, u0, u1, u2, u6, u7, ← hl2]
    have hl'' : l'.length = l.length := hl'
    have fin : ∀ H3 l3, KeepX blk H2 H3 → Own H3 blk e cap l3 → Mix a l2.length l2 l3 → Srt ltH l3 a l.length → AllB (2 * s) l.length l3 ∧ Cross (2 * s) l3 := by
      intro H3 l3 k3 o3 m3 s3
      refine ⟨AllB.of (q1 := q1) (fun q hq => ?_) (by rw [← ha]; exact s3) (by omega), c2.mix (q0 := q1) m3 (by omega) (by omega) (Nat.le_refl _)⟩
      have : (q + 1) * (2 * s) ≤ q1 * (2 * s) := Nat.mul_le_mul_right _ (by omega)
      exact (b2 q hq).out m3 (by omega)
    by_cases hm : a + s < l.length
    · have s1 := hA' (q1 * 2) (by omega)
      have s2 := hA' (q1 * 2 + 1) (by omega)
      rw [q2, q3, Nat.min_eq_left (by omega)] at s1
      rw [q3, q4, Nat.min_eq_right (by omega)] at s2
      simp (disch := omega) only [BAS, ↓BPR, reduceIte, reduceCtorEq, seval, -List.reduceReplicate, fpOf, freeNext, opW, binI, ev1, Heap.write, setAll, unI, eqKs, eqK, fillI, wF49o0, F49p0, wF49o1, F49p1, wF49o2, F49p2, wF49o3, F49p3, wF49o4, F49p4, wF49o5, F49p5, F49l6, wF49o7, F49p7, wF49o8, F49p8, wF49o9, F49p9, wF49o10, F49p10, wF49o11, F49p11, wF49o12, F49p12, wF49o13, F49p13, wF49o15, F49p15, wF49o16, F49p16, wF49o17, F49p17, wF49o18, F49p18, F49l19, F49b, F49, ea]
      refine sym_sp (2 * s) l2 a (a + s) l2.length H2 lo _ (by omega) o2 hlo (by omega) (by omega) (by omega) (by omega) (fun i j h1 h2 h3 => ?_) (fun i j h1 h2 h3 => ?_) (fun i j h1 h2 h3 h4 => ?_) fun H3 l3 k3 o3 m3 s3 => ?_
      · rw [f2 i h1, f2 j (by omega)]; exact s1 i j h1 h2 h3
      · rw [f2 i (by omega), f2 j (by omega)]; exact s2 i j h1 h2 (by omega)
      · rw [f2 i h1, f2 j (by omega)]; exact hC' i j (q1 * 2 + 1) (by omega) (by omega) (by omega)
      · rw [show l2.length = l.length from by omega] at s3
        obtain ⟨z1, z2⟩ := fin H3 l3 k3 o3 m3 s3
        simp (disch := omega) only [BAS, ↓BPR, reduceIte, reduceCtorEq, seval, -List.reduceReplicate, fpOf, freeNext, opW, binI, ev1, Heap.write, setAll, unI, eqKs, eqK, fillI, wF49o0, F49p0, wF49o1, F49p1, wF49o2, F49p2, wF49o3, F49p3, wF49o4, F49p4, wF49o5, F49p5, F49l6, wF49o7, F49p7, wF49o8, F49p8, wF49o9, F49p9, wF49o10, F49p10, wF49o11, F49p11, wF49o12, F49p12, wF49o13, F49p13, wF49o15, F49p15, wF49o16, F49p16, wF49o17, F49p17, wF49o18, F49p18, F49l19, F49b, F49, e2]
        exact hN _ _ _ (by omega) ⟨2 * s, l3, rfl, by omega, by omega, (hk.trans k2).trans k3, o3, (hM.trans (m2.wide (Nat.le_refl _) (by omega))).trans (m3.wide (Nat.zero_le _) (by omega)), z1, z2, rfl, rfl, by rw [hl2, hl']; rfl, by rw [hl2, hl']; rfl, rfl, rfl⟩
    · have s3 : Srt ltH l2 a l.length := by
        intro i j h1 h2 h3
        have s1 := hA' (q1 * 2) (by omega)
        rw [q2, q3, Nat.min_eq_right (by omega)] at s1
        rw [f2 i h1, f2 j (by omega)]; exact s1 i j h1 h2 h3
      obtain ⟨z1, z2⟩ := fin H2 l2 (KeepX.refl _ _) o2 (Mix.refl _ _ _) s3
      simp (disch := omega) only [BAS, ↓BPR, reduceIte, reduceCtorEq, seval, -List.reduceReplicate, fpOf, freeNext, opW, binI, ev1, Heap.write, setAll, unI, eqKs, eqK, fillI, wF49o0, F49p0, wF49o1, F49p1, wF49o2, F49p2, wF49o3, F49p3, wF49o4, F49p4, wF49o5, F49p5, F49l6, wF49o7, F49p7, wF49o8, F49p8, wF49o9, F49p9, wF49o10, F49p10, wF49o11, F49p11, wF49o12, F49p12, wF49o13, F49p13, wF49o15, F49p15, wF49o16, F49p16, wF49o17, F49p17, wF49o18, F49p18, F49l19, F49b, F49, ea, e2]
      exact hN _ _ _ (by omega) ⟨2 * s, l2, rfl, by omega, by omega, hk.trans k2, o2, hM.trans (m2.wide (Nat.le_refl _) (by omega)), z1, z2, rfl, rfl, by rw [hl2, hl']; rfl, by rw [hl2, hl']; rfl, rfl, rfl⟩
  · simp (disch := omega) only [BAS, ↓BPR, reduceIte, reduceCtorEq, seval, -List.reduceReplicate, fpOf, freeNext, opW, binI, ev1, Heap.write, setAll, unI, eqKs, eqK, fillI, wF49o0, F49p0, wF49o1, F49p1, wF49o2, F49p2, wF49o3, F49p3, wF49o4, F49p4, wF49o5, F49p5, F49l6, wF49o7, F49p7, wF49o8, F49p8, wF49o9, F49p9, wF49o10, F49p10, wF49o11, F49p11, wF49o12, F49p12, wF49o13, F49p13, wF49o15, F49p15, wF49o16, F49p16, wF49o17, F49p17, wF49o18, F49p18, F49l19, F49b, F49, hJ]
    refine hQ H' l' _ hk hO' hM.perm (Srt.pairwise ?_)
    by_cases h0 : l.length = 0
    · intro i j h1 h2 h3; omega
    · have := hA' 0 (by omega)
      rw [Nat.zero_mul, Nat.zero_add, Nat.one_mul, Nat.min_eq_right (by omega)] at this
      rw [hl']; exact this

theorem stable_sp {blk e cap : Nat} {ex : Bool} {l : List Hd} {H : Heap} {lo : Nat} {Q : Out → Heap → Prop} (hO : Own H blk e cap l) (hlo : lo ≤ blk) (hl : l.length ≤ 1000000) (hord : l.Pairwise ordH)
    (h : ∀ H' l', KeepX blk H H' → Own H' blk e cap l' → l'.Perm l → l'.Pairwise ltH → Q (.val (.tuple [])) H') : W E0 lo (.call 26 [(SV.sl blk 0 l.length cap ex).iv, .fn 27 [] []]) H Q := by
  rw [c26]
  have hv := hO.sl ex
  have hln := hv.ln
  simp (disch := omega) only [BAS, ↓BPR, reduceIte, reduceCtorEq, seval, -List.reduceReplicate, fpOf, freeNext, opW, binI, ev1, Heap.write, setAll, unI, eqKs, eqK, fillI, B26, ↓hln]
  rw [c49]
  simp (disch := omega) only [BAS, ↓BPR, reduceIte, reduceCtorEq, seval, -List.reduceReplicate, fpOf, freeNext, opW, binI, ev1, Heap.write, setAll, unI, eqKs, eqK, fillI, B49]
  refine st_ins (ex := ex) hO hlo hl hord rfl rfl rfl rfl rfl rfl rfl fun H2 l2 tm2 q1 k2 o2 m2 c2 f2 b2 g1 g2 htm2 u0 u1 u2 u6 u7 => ?_
  have hl2 := m2.len
  rw [expl63 tm2 htm2, u0, u1, u2, u6, u7, ← hl2]
  simp (disch := omega) only [BAS, ↓BPR, reduceIte, reduceCtorEq, seval, -List.reduceReplicate, fpOf, freeNext, opW, binI, ev1, Heap.write, setAll, unI, eqKs, eqK, fillI, B49]
  refine insertion_sp (q1 * 20) l2.length o2 hlo (by omega) (by omega) (Nat.le_refl _) (fun i j h1 h2 h3 => ?_) fun H3 l3 k3 o3 m3 s3 => ?_
  · rw [f2 i h1, f2 j (by omega)]
    exact Srt.of_pairwise hord 0 l.length (Nat.le_refl _) i j (Nat.zero_le _) h2 (by omega)
  · have hl3 := m3.len
    rw [← hl3]
    simp (disch := omega) only [BAS, ↓BPR, reduceIte, reduceCtorEq, seval, -List.reduceReplicate, fpOf, freeNext, opW, binI, ev1, Heap.write, setAll, unI, eqKs, eqK, fillI, B49]
    refine st_double (ex := ex) (s0 := 20) o3 hlo (by omega) (by omega) (by omega) (AllB.of (q1 := q1) (fun q hq => (b2 q hq).out m3 (by omega)) (by rw [hl3]; exact s3) (by omega)) (c2.mix m3 (Nat.le_refl _) (by omega) (Nat.le_refl _)) rfl rfl rfl rfl rfl fun H4 l4 tm4 k4 o4 p4 s4 => ?_
    simp (disch := omega) only [BAS, ↓BPR, reduceIte, reduceCtorEq, seval, -List.reduceReplicate, fpOf, freeNext, opW, binI, ev1, Heap.write, setAll, unI, eqKs, eqK, fillI, B49]
    exact h H4 l4 ((k2.trans k3).trans k4) o4 ((p4.trans m3.perm).trans m2.perm) s4
end Go.Iso.Gen
end
