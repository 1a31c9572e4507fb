/-
  the stable sort of the library.
-/
import Derived.Test.YthccekocaliohaaDoorFnB
set_option linter.unusedSimpArgs false
set_option linter.unusedVariables false

section
namespace Go.Iso
/-- All blocks but one stay. -/
def KeepX (mb : Nat) (H H' : Heap) : Prop := H.n ≤ H'.n ∧ ∀ x, x < H.n → x ≠ mb → H'.get x = H.get x
theorem KeepX.refl (mb : Nat) (H : Heap) : KeepX mb H H := ⟨Nat.le_refl _, fun _ _ _ => rfl⟩
theorem KeepX.trans {mb : Nat} {a b c : Heap} (h : KeepX mb a b) (k : KeepX mb b c) : KeepX mb a c := ⟨Nat.le_trans h.1 k.1, fun x h1 h2 => (k.2 x (Nat.lt_of_lt_of_le h1 h.1) h2).trans (h.2 x h1 h2)⟩
theorem KeepX.of {mb : Nat} {H H' : Heap} (k : Keep H.n H H') : KeepX mb H H' := ⟨k.1, fun x h _ => k.2 x h h⟩
theorem KeepX.put {mb : Nat} {H : Heap} (o : IObj) : KeepX mb H (H.put mb o) := ⟨Nat.le_refl _, fun x _ h => by rw [Heap.get_put, if_neg (Ne.symm h)]⟩
end Go.Iso
namespace Go.Iso.Gen
open Go.Iso
set_option maxHeartbeats 1000000
set_option maxRecDepth 10000

/-- A loop that is held, with its place in the list from which the order is made. -/
structure Hd where
  id : Id
  bed : Int
  at_ : Int
  spot : Int
  k : Nat
  deriving Inhabited
instance : Cell Hd where
  z := 5
  cs h := [.int .u8 h.id.y, .int .i64 h.id.n, .int .u8 h.bed, .int .i64 h.at_, .int .i64 h.spot]
  len _ := rfl
  one _ := rfl
  pos := by omega
def ltH (x y : Hd) : Prop := x.spot < y.spot ∨ (x.spot = y.spot ∧ x.k < y.k)
theorem ltH_tr (a b c : Hd) (h : ltH a b) (k : ltH b c) : ltH a c := by unfold ltH at *; omega
def ordH (x y : Hd) : Prop := x.k < y.k

def cmpI (a b : Int) : Int := if a < b then -1 else if a > b then 1 else 0
end Go.Iso.Gen
end

section
-- fast
namespace Go.Iso
theorem Own.store {α : Type} [Cell α] {H : Heap} {b e cap : Nat} {l : List α} (h : Own H b e cap l) {z : Nat} (hz : Cell.z α = z) (i : Nat) (hi : i < l.length) (a : α) (lo : Nat) (hlo : lo ≤ b) : ∃ ob, ev1 (.store z) [.ptr b (i * z), .agg (Cell.cs a)] lo H = some (IV.undef, H.put b ob) ∧ Own (H.put b ob) b e cap (l.set i a) := by
  obtain ⟨cs, w, s⟩ := h.set hz i hi a lo hlo
  refine ⟨_, ?_, s⟩
  simp only [ev1, IV.cells, w, Option.map_some]
  rw [if_pos (by rw [Cell.len]; exact hz)]
theorem own_swap {α : Type} [Cell α] [Inhabited α] {H : Heap} {b e cap : Nat} {l : List α} (h : Own H b e cap l) {z : Nat} (hz : Cell.z α = z) {i j : Nat} (hi : i < l.length) (hj : j < l.length) (lo : Nat) (hlo : lo ≤ b) :
    ∃ o1 o2, ev1 (.store z) [.ptr b (i * z), .agg (Cell.cs (nth l j))] lo H = some (IV.undef, H.put b o1) ∧ ev1 (.store z) [.ptr b (j * z), .agg (Cell.cs (nth l i))] lo (H.put b o1) = some (IV.undef, (H.put b o1).put b o2) ∧ Own ((H.put b o1).put b o2) b e cap (swapL l i j) := by
  obtain ⟨o1, w1, s1⟩ := h.store hz i hi (nth l j) lo hlo
  obtain ⟨o2, w2, s2⟩ := s1.store hz j (by simpa using hj) (nth l i) lo hlo
  exact ⟨_, _, w1, w2, s2⟩
theorem Own.nthRead {α : Type} [Cell α] [Inhabited α] {H : Heap} {b e cap : Nat} {l : List α} (h : Own H b e cap l) {z : Nat} (hz : Cell.z α = z) {i : Nat} (hi : i < l.length) : H.read b (i * z) z = some (Cell.cs (nth l i)) := by
  have := (h.sl true).read hz i hi
  rw [nth_in hi]
  simpa [SV.blk, SV.off] using this
end Go.Iso
namespace Go.Iso.Gen
open Go.Iso
set_option maxHeartbeats 1000000
set_option maxRecDepth 10000

end Go.Iso.Gen
end

section
-- fast
namespace Go.Iso.Gen
open Go.Iso
set_option maxHeartbeats 1000000
set_option maxRecDepth 10000

end Go.Iso.Gen
end

section
-- fast
namespace Go.Iso.Gen
open Go.Iso
set_option maxHeartbeats 2000000
set_option maxRecDepth 10000

theorem idxV {α : Type} [Cell α] {H : Heap} {blk e cap : Nat} {l : List α} (h : Own H blk e cap l) (ex : Bool) (z : Nat) : ∀ (x : Int) (lo : Nat) (H9 : Heap), 0 ≤ x → x < l.length → ev1 (.idxSl z) [.slice blk 0 l.length cap ex, .int .i64 x] lo H9 = some (.ptr blk (x.toNat * z), H9) := fun x lo H9 h0 h1 => by
  have := (h.sl ex).idx z x lo H9 h0 h1
  simpa [SV.blk, SV.off, SV.iv] using this

/-- Where the element at j is put into what is sorted. -/
structure Ins (a i j : Nat) (y : Hd) (l : List Hd) : Prop where
  at_ : nth l j = y
  srt : ∀ p q, a ≤ p → p < q → q ≤ i → p ≠ j → q ≠ j → ltH (nth l p) (nth l q)
  gt : ∀ q, j < q → q ≤ i → ltH y (nth l q)
  ord : ∀ p, a ≤ p → p ≤ i → p ≠ j → ordH (nth l p) y
theorem Ins.move {a i j : Nat} {y : Hd} {l : List Hd} (h : Ins a i j y l) (hj : a < j) (hi : j ≤ i) (hl : i < l.length) (hlt : ltH y (nth l (j - 1))) : Ins a i (j - 1) y (swapL l j (j - 1)) := by
  have hs : ∀ x, nth (swapL l j (j - 1)) x = if x = j - 1 then nth l j else if x = j then nth l (j - 1) else nth l x := nth_swap (by omega) (by omega)
  refine ⟨?_, fun p q h1 h2 h3 h4 h5 => ?_, fun q h1 h2 => ?_, fun p h1 h2 h3 => ?_⟩
  · rw [hs, if_pos rfl]; exact h.at_
  · rw [hs, hs, if_neg h4, if_neg h5]
    by_cases c1 : p = j
    · subst c1
      rw [if_pos rfl, if_neg (by omega)]
      exact h.srt _ _ (by omega) (by omega) h3 (by omega) (by omega)
    · rw [if_neg c1]
      by_cases c2 : q = j
      · subst c2
        rw [if_pos rfl]
        exact h.srt _ _ h1 (by omega) (by omega) c1 (by omega)
      · rw [if_neg c2]; exact h.srt _ _ h1 h2 h3 c1 c2
  · rw [hs, if_neg (by omega)]
    by_cases c : q = j
    · rw [if_pos c]; exact hlt
    · rw [if_neg c]; exact h.gt q (by omega) h2
  · rw [hs, if_neg h3]
    by_cases c : p = j
    · rw [if_pos c]; exact h.ord _ (by omega) (by omega) (by omega)
    · rw [if_neg c]; exact h.ord p h1 h2 c
theorem Ins.done {a i j : Nat} {y : Hd} {l : List Hd} (h : Ins a i j y l) (hj : a ≤ j) (hi : j ≤ i) (hlt : j = a ∨ ltH (nth l (j - 1)) y) : Srt ltH l a (i + 1) := by
  intro p q h1 h2 h3
  by_cases c1 : p = j
  · subst c1
    rw [h.at_]; exact h.gt q h2 (by omega)
  · by_cases c2 : q = j
    · subst c2
      rw [h.at_]
      rcases hlt with e | hlt
      · omega
      · by_cases c3 : p = q - 1
        · subst c3; exact hlt
        · exact ltH_tr _ _ _ (h.srt _ _ h1 (by omega) (by omega) c1 (by omega)) hlt
    · exact h.srt _ _ h1 h2 (by omega) c1 c2

end Go.Iso.Gen
end

section
-- fast
namespace Go.Iso
end Go.Iso
namespace Go.Iso.Gen
open Go.Iso
set_option maxHeartbeats 2000000
set_option maxRecDepth 10000

end Go.Iso.Gen
end

section
-- fast
namespace Go.Iso.Gen
open Go.Iso
set_option maxHeartbeats 2000000
set_option maxRecDepth 10000

/-- What a merge gives. -/
def SymOk (blk e cap : Nat) (ex : Bool) (d : Nat) : Prop := ∀ (l : List Hd) (a m b : Nat) (H : Heap) (lo : Nat) (Q : Out → Heap → Prop), b - a ≤ d → Own H blk e cap l → lo ≤ blk → l.length ≤ 1000000 → a < m → m < b → b ≤ l.length → Srt ltH l a m → Srt ltH l m b → (∀ i j, a ≤ i → i < m → m ≤ j → j < b → ordH (nth l i) (nth l j)) →
  (∀ H' l', KeepX blk H H' → Own H' blk e cap l' → Mix a b l l' → Srt ltH l' a b → Q (.val (.tuple [])) H') → W E0 lo (.call 56 [(SV.sl blk 0 l.length cap ex).iv, .int .i64 a, .int .i64 m, .int .i64 b, .fn 27 [] []]) H Q

end Go.Iso.Gen
end

section
-- fast
namespace Go.Iso.Gen
open Go.Iso
set_option maxHeartbeats 2000000
set_option maxRecDepth 10000

end Go.Iso.Gen
end

section
-- fast
namespace Go.Iso.Gen
open Go.Iso
set_option maxHeartbeats 2000000
set_option maxRecDepth 10000

/-- Blocks of a length are in the order of what is in them. -/
def Cross (s : Nat) (l : List Hd) : Prop := ∀ i j q, i < q * s → q * s ≤ j → j < l.length → ordH (nth l i) (nth l j)
theorem Cross.two {s : Nat} {l : List Hd} (h : Cross s l) : Cross (2 * s) l := fun i j q h1 h2 h3 => h i j (q * 2) (by rw [Nat.mul_assoc]; exact h1) (by rw [Nat.mul_assoc]; exact h2) h3
theorem Cross.init {l : List Hd} (h : l.Pairwise ordH) (s : Nat) : Cross s l := fun i j q h1 h2 h3 => Srt.of_pairwise h 0 l.length (Nat.le_refl _) i j (Nat.zero_le _) (by omega) h3
/-- All blocks of a length are sorted. -/
def AllB (s n : Nat) (l : List Hd) : Prop := ∀ q, q * s < n → Srt ltH l (q * s) (min ((q + 1) * s) n)
theorem AllB.of {s n q1 : Nat} {l : List Hd} (h : ∀ q, q < q1 → Srt ltH l (q * s) ((q + 1) * s)) (h1 : Srt ltH l (q1 * s) n) (hn : n ≤ (q1 + 1) * s) : AllB s n l := by
  intro q hq
  have hle : q ≤ q1 := Nat.lt_succ_iff.1 (Nat.lt_of_mul_lt_mul_right (Nat.lt_of_lt_of_le hq hn))
  by_cases e : q = q1
  · subst e; exact h1.part (Nat.le_refl _) (by omega)
  · exact (h q (by omega)).part (Nat.le_refl _) (by omega)

end Go.Iso.Gen
end
