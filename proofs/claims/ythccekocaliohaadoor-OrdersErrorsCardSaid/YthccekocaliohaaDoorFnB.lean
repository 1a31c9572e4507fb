/-
  what the functions of the statements of layer 3 give.
-/
import Derived.Test.YthccekocaliohaaDoorFn
set_option linter.unusedSimpArgs false
set_option linter.unusedVariables false

section
namespace Go.Iso.Gen
open Go.Iso
set_option maxHeartbeats 2000000
set_option maxRecDepth 10000

/-- Loops on a needle as plain data. -/
structure Pt where
  a : Nat
  m : Nat
  deriving Inhabited
instance : Cell Pt where
  z := 2
  cs p := [.int .u8 p.a, .int .u8 p.m]
  len _ := rfl
  one _ := rfl
  pos := by omega
theorem tmodN (a b : Nat) : (a : Int).tmod (b : Int) = ((a % b : Nat) : Int) := by
  rw [Int.tmod_eq_emod_of_nonneg (by omega)]; omega
theorem tm5 (a : Nat) : (a : Int).tmod 5 = ((a % 5 : Nat) : Int) := tmodN a 5
theorem tm3 (a : Nat) : (a : Int).tmod 3 = ((a % 3 : Nat) : Int) := tmodN a 3
/-- The n-th name. -/
def idN (n : Nat) : Id := ⟨((1 + n % 3 : Nat) : Int), ((n / 3 : Nat) : Int)⟩
/-- Loops are put on a needle, up to four. -/
def fillL (l : List Id) (n : Nat) : Nat → List Id × Nat
  | 0 => (l, n)
  | m + 1 => if l.length < 4 then fillL (l ++ [idN n]) (n + 1) m else (l, n)
def ofStep (s : List (List Id) × Nat) (p : Pt) : List (List Id) × Nat :=
  (s.1.set (p.a % 80) (fillL (s.1.getD (p.a % 80) []) s.2 (p.m % 5)).1, (fillL (s.1.getD (p.a % 80) []) s.2 (p.m % 5)).2)
def ofT (xs : List Pt) : List (List Id) × Nat := (xs.take 40).foldl ofStep (List.replicate 80 [], 0)

/-- A table in the cells of a block: each needle's slice is nil, or has a block of its own. -/
def Tb (lo : Nat) (H : Heap) (vs : List SV) (t : List (List Id)) : Prop := vs.length = 80 ∧ t.length = 80 ∧ (∀ i (h : i < vs.length) (h' : i < t.length), (vs[i] = .nil ∧ t[i] = []) ∨ ∃ b, vs[i] = .sl b 0 t[i].length t[i].length false ∧ lo ≤ b ∧ t[i] ≠ [] ∧ Own H b 35 t[i].length t[i]) ∧
  ∀ i j (h : i < vs.length) (h' : j < vs.length), i ≠ j → vs[i] ≠ .nil → vs[j] ≠ .nil → vs[i].blk ≠ vs[j].blk
theorem Tb.sl {lo : Nat} {H : Heap} {vs : List SV} {t : List (List Id)} (h : Tb lo H vs t) (i : Nat) (hi : i < vs.length) (hi' : i < t.length) : Sl H vs[i] t[i] := by
  rcases h.2.2.1 i hi hi' with ⟨h1, h2⟩ | ⟨b, h1, h2, h3, h4⟩
  · rw [h1, h2]; rfl
  · rw [h1]; exact h4.sl false

theorem Tb.keep {lo : Nat} {H H' : Heap} {vs : List SV} {t : List (List Id)} (h : Tb lo H vs t) (k : Keep H.n H H') : Tb lo H' vs t := by
  refine ⟨h.1, h.2.1, fun i a b => ?_, h.2.2.2⟩
  rcases h.2.2.1 i a b with h1 | ⟨b, h1, h2, h3, h4⟩
  · exact .inl h1
  · exact .inr ⟨b, h1, h2, h3, h4.keep k⟩

/-- One loop is put on a needle of a table. -/
theorem Tb.push {lo : Nat} {H : Heap} {vs : List SV} {t : List (List Id)} (h : Tb lo H vs t) (i : Nat) (hi : i < vs.length) (hi' : i < t.length) (hlo : lo ≤ H.n) (h4 : t[i].length < 4) (a : Id) {u : SV} (hu : Sl H u [a]) :
    ∃ H2 w, ev1 (.append 35 2 16) [vs[i].iv, u.iv] lo H = some (SV.iv w, H2) ∧ H.n ≤ H2.n ∧ (∀ x, x < H.n → (x < lo ∨ ∀ cs, H.get x ≠ some (.cells false 35 2 cs)) → H2.get x = H.get x) ∧ Tb lo H2 (vs.set i w) (t.set i (t[i] ++ [a])) := by
  rcases h.2.2.1 i hi hi' with ⟨h1, h2⟩ | ⟨b, h1, h2, h3, h5⟩
  · obtain ⟨H2, e1, e2, e3, e4⟩ := append_nil (e := 35) hu z_Id 16 lo (by simp) (by simp)
    refine ⟨H2, .sl H.n 0 1 1 false, by rw [h1]; exact e1, by omega, fun x hx _ => e3.2 x hx hx, ?_⟩
    have hk := h.keep e3
    refine ⟨by simp [h.1], by simp [h.2.1], fun j a1 a2 => ?_, fun j k a1 a2 hne n1 n2 => ?_⟩
    · rw [List.length_set] at a1 a2
      by_cases hj : i = j
      · subst hj
        rw [List.getElem_set_self, List.getElem_set_self, h2]
        exact .inr ⟨H.n, rfl, hlo, by simp, e4⟩
      · rw [List.getElem_set_ne hj, List.getElem_set_ne hj]
        exact hk.2.2.1 j a1 a2
    · rw [List.length_set] at a1 a2
      have old : ∀ j (hj : j < vs.length), vs[j] ≠ .nil → vs[j].blk < H.n := fun j hj hn => by
        rcases h.2.2.1 j hj (by have := h.1; have := h.2.1; omega) with h | ⟨b, q1, q2, q3, q4⟩
        · exact absurd h.1 hn
        · rw [q1]; exact q4.2.1
      by_cases hj : i = j
      · subst hj
        rw [List.getElem_set_ne hne] at n2 ⊢
        rw [List.getElem_set_self]
        have := old k a2 n2
        rw [SV.blk_sl]; omega
      · rw [List.getElem_set_ne hj] at n1 ⊢
        by_cases hk : i = k
        · subst hk
          rw [List.getElem_set_self]
          have := old j a1 n1
          rw [SV.blk_sl]; omega
        · rw [List.getElem_set_ne hk] at n2 ⊢
          exact h.2.2.2 j k a1 a2 hne n1 n2
  · obtain ⟨H2, e1, e2, e3, e4⟩ := append_grow (n := t[i].length) h5 rfl hu z_Id 16 lo (by simp) (by simp; omega) h2
    refine ⟨H2, .sl H.n 0 (t[i].length + 1) (t[i].length + 1) false, by rw [h1]; exact e1, by omega, fun x hx hc => e3 x ?_ hx, ?_⟩
    · intro e
      subst e
      rcases hc with hc | hc
      · omega
      · exact hc _ h5.full
    · have old : ∀ j (hj : j < vs.length), vs[j] ≠ .nil → vs[j].blk < H.n := fun j hj hn => by
        rcases h.2.2.1 j hj (by have := h.1; have := h.2.1; omega) with h | ⟨b, q1, q2, q3, q4⟩
        · exact absurd h.1 hn
        · rw [q1]; exact q4.2.1
      refine ⟨by simp [h.1], by simp [h.2.1], fun j a1 a2 => ?_, fun j k a1 a2 hne n1 n2 => ?_⟩
      · rw [List.length_set] at a1 a2
        by_cases hj : i = j
        · subst hj
          rw [List.getElem_set_self, List.getElem_set_self]
          refine .inr ⟨H.n, by simp, hlo, by simp, ?_⟩
          have := e4
          simp only [List.length_append, List.length_cons, List.length_nil] at this ⊢
          exact this
        · rw [List.getElem_set_ne hj, List.getElem_set_ne hj]
          rcases h.2.2.1 j a1 a2 with q | ⟨b', q1, q2, q3, q4⟩
          · exact .inl q
          · refine .inr ⟨b', q1, q2, q3, q4.same (by omega) (e3 b' ?_ q4.2.1)⟩
            have := h.2.2.2 i j hi a1 hj (by rw [h1]; simp) (by rw [q1]; simp)
            rw [h1, q1, SV.blk_sl, SV.blk_sl] at this
            exact Ne.symm this
      · rw [List.length_set] at a1 a2
        by_cases hj : i = j
        · subst hj
          rw [List.getElem_set_ne hne] at n2 ⊢
          rw [List.getElem_set_self]
          have := old k a2 n2
          rw [SV.blk_sl]; omega
        · rw [List.getElem_set_ne hj] at n1 ⊢
          by_cases hk : i = k
          · subst hk
            rw [List.getElem_set_self]
            have := old j a1 n1
            rw [SV.blk_sl]; omega
          · rw [List.getElem_set_ne hk] at n2 ⊢
            exact h.2.2.2 j k a1 a2 hne n1 n2

end Go.Iso.Gen
end

section
namespace Go.Iso.Gen
open Go.Iso
set_option maxHeartbeats 4000000
set_option maxRecDepth 10000

/-- What holds of a table that is made of plain data. -/
structure Good (s : List (List Id) × Nat) : Prop where
  len : s.1.length = 80
  four : ∀ l ∈ s.1, l.length ≤ 4
  ids : ∀ a ∈ s.1.flatten, ∃ j, j < s.2 ∧ a = idN j
  nd : s.1.flatten.Nodup
theorem Tb.init (lo : Nat) (H : Heap) : Tb lo H (List.replicate 80 .nil) (List.replicate 80 []) := by
  refine ⟨List.length_replicate .., List.length_replicate .., fun i h1 h2 => .inl ⟨List.getElem_replicate .., List.getElem_replicate ..⟩, fun i j h1 h2 _ h3 => ?_⟩
  rw [List.getElem_replicate] at h3
  exact absurd rfl h3
theorem Tb.put {lo x : Nat} {H : Heap} {vs : List SV} {t : List (List Id)} {ob : IObj} (h : Tb lo H vs t) (hx : ∀ cs, H.get x ≠ some (.cells false 35 2 cs)) : Tb lo (H.put x ob) vs t := by
  refine ⟨h.1, h.2.1, fun a b c => ?_, h.2.2.2⟩
  rcases h.2.2.1 a b c with h | ⟨b', q1, q2, q3, q4⟩
  · exact .inl h
  · refine .inr ⟨b', q1, q2, q3, q4.same (Nat.le_refl _) ?_⟩
    have : x ≠ b' := fun e => by subst e; exact hx _ q4.full
    rw [Heap.get_put, if_neg this]

end Go.Iso.Gen
end

section
namespace Go.Iso.Gen
open Go.Iso
set_option maxHeartbeats 4000000
set_option maxRecDepth 10000

end Go.Iso.Gen
end

section
namespace Go.Iso.Gen
open Go.Iso
set_option maxHeartbeats 4000000
set_option maxRecDepth 10000

/-- The values of a table. -/
def Tab (H : Heap) (vs : List SV) (t : List (List Id)) : Prop := vs.length = 80 ∧ t.length = 80 ∧ ∀ i (h : i < vs.length) (h' : i < t.length), Sl H vs[i] t[i]
theorem Tab.keep {H H' : Heap} {vs : List SV} {t : List (List Id)} (h : Tab H vs t) (k : Keep H.n H H') : Tab H' vs t := ⟨h.1, h.2.1, fun i a b => (h.2.2 i a b).keep k⟩

def bedF (t : List (List Id)) : List (List Id) := shortL (t.take 40)
def bedB (t : List (List Id)) : List (List Id) := shortL (t.drop 40)

/-- A bed that is being made: nil while no needle has been found that holds something, then of its length. -/
def Made (n0 : Nat) (H : Heap) (n k : Nat) (v : SV) : Prop := (n ≤ k ∧ v = .nil) ∨ (k < n ∧ ∃ b, v = .sl b 0 n n true ∧ n0 ≤ b ∧ Own H b 56 n (List.replicate n SV.nil))
theorem Made.keep {n0 : Nat} {H H' : Heap} {n k : Nat} {v : SV} (h : Made n0 H n k v) (hk : H.n ≤ H'.n) (hg : ∀ x, n0 ≤ x → x < H.n → H'.get x = H.get x) : Made n0 H' n k v := by
  rcases h with h | ⟨h1, b, h2, h3, h4⟩
  · exact .inl h
  · exact .inr ⟨h1, b, h2, h3, h4.same hk (hg b h3 h4.2.1)⟩
end Go.Iso.Gen
end

section
namespace Go.Iso.Gen
open Go.Iso
set_option maxHeartbeats 4000000
set_option maxRecDepth 10000

end Go.Iso.Gen
end

section
namespace Go.Iso.Gen
open Go.Iso
set_option maxHeartbeats 4000000
set_option maxRecDepth 10000

end Go.Iso.Gen
end

section
namespace Go.Iso.Gen
open Go.Iso
set_option maxHeartbeats 4000000
set_option maxRecDepth 10000

def nB (i : Nat) : Int := ((i % 80 / 40 : Nat) : Int)
def nA (i : Nat) : Int := ((1 + i % 40 : Nat) : Int)
/-- A table's needles hold what the beds say, and the beds are short. -/
def Fits (t fs bs : List (List Id)) : Prop := (∀ i, i < 80 → atL fs bs (nB i) (nA i) = t.getD i []) ∧ shortN fs = fs.length ∧ shortN bs = bs.length

theorem expl80 (tm : List IV) (h : tm.length = 80) : tm = [tm.getD 0 IV.undef, tm.getD 1 IV.undef, tm.getD 2 IV.undef, tm.getD 3 IV.undef, tm.getD 4 IV.undef, tm.getD 5 IV.undef, tm.getD 6 IV.undef, tm.getD 7 IV.undef, tm.getD 8 IV.undef, tm.getD 9 IV.undef, tm.getD 10 IV.undef, tm.getD 11 IV.undef, tm.getD 12 IV.undef, tm.getD 13 IV.undef, tm.getD 14 IV.undef, tm.getD 15 IV.undef, tm.getD 16 IV.undef, tm.getD 17 IV.undef, tm.getD 18 IV.undef, tm.getD 19 IV.undef, tm.getD 20 IV.undef, tm.getD 21 IV.undef, tm.getD 22 IV.undef, tm.getD 23 IV.undef, tm.getD 24 IV.undef, tm.getD 25 IV.undef, tm.getD 26 IV.undef, tm.getD 27 IV.undef, tm.getD 28 IV.undef, tm.getD 29 IV.undef, tm.getD 30 IV.undef, tm.getD 31 IV.undef, tm.getD 32 IV.undef, tm.getD 33 IV.undef, tm.getD 34 IV.undef, tm.getD 35 IV.undef, tm.getD 36 IV.undef, tm.getD 37 IV.undef, tm.getD 38 IV.undef, tm.getD 39 IV.undef, tm.getD 40 IV.undef, tm.getD 41 IV.undef, tm.getD 42 IV.undef, tm.getD 43 IV.undef, tm.getD 44 IV.undef, tm.getD 45 IV.undef, tm.getD 46 IV.undef, tm.getD 47 IV.undef, tm.getD 48 IV.undef, tm.getD 49 IV.undef, tm.getD 50 IV.undef, tm.getD 51 IV.undef, tm.getD 52 IV.undef, tm.getD 53 IV.undef, tm.getD 54 IV.undef, tm.getD 55 IV.undef, tm.getD 56 IV.undef, tm.getD 57 IV.undef, tm.getD 58 IV.undef, tm.getD 59 IV.undef, tm.getD 60 IV.undef, tm.getD 61 IV.undef, tm.getD 62 IV.undef, tm.getD 63 IV.undef, tm.getD 64 IV.undef, tm.getD 65 IV.undef, tm.getD 66 IV.undef, tm.getD 67 IV.undef, tm.getD 68 IV.undef, tm.getD 69 IV.undef, tm.getD 70 IV.undef, tm.getD 71 IV.undef, tm.getD 72 IV.undef, tm.getD 73 IV.undef, tm.getD 74 IV.undef, tm.getD 75 IV.undef, tm.getD 76 IV.undef, tm.getD 77 IV.undef, tm.getD 78 IV.undef, tm.getD 79 IV.undef] := (expl tm 80 h).trans rfl
end Go.Iso.Gen
end

section
namespace Go.Iso
section
variable {α : Type}
end
end Go.Iso
namespace Go.Iso.Gen
open Go.Iso
set_option maxHeartbeats 1000000

theorem shortL_len (ls : List (List Id)) : (shortL ls).length = shortN ls := by
  have := shortN_le ls
  unfold shortL
  rw [List.length_take]; omega
theorem shortL_flatten (ls : List (List Id)) : (shortL ls).flatten = ls.flatten := by
  have h : ls = shortL ls ++ ls.drop (shortN ls) := by unfold shortL; rw [List.take_append_drop]
  have h2 : (ls.drop (shortN ls)).flatten = [] := by
    rw [List.flatten_eq_nil_iff]
    intro l hl
    obtain ⟨i, hi, rfl⟩ := List.mem_iff_getElem.1 hl
    rw [List.getElem_drop]
    exact shortN_behind ls _ _ (by omega)
  have := congrArg List.flatten h
  rw [List.flatten_append, h2, List.append_nil] at this
  exact this.symm
/-- The index of a needle. -/
def ix (b a : Int) : Nat := (40 * b + a - 1).toNat
theorem bedF_len (t : List (List Id)) : (bedF t).length ≤ 40 := by
  unfold bedF
  have := shortN_le (t.take 40)
  rw [List.length_take] at this
  rw [shortL_len]; omega
theorem bedB_len {t : List (List Id)} (ht : t.length = 80) : (bedB t).length ≤ 40 := by
  unfold bedB
  have := shortN_le (t.drop 40)
  rw [List.length_drop] at this
  rw [shortL_len]; omega
theorem beds_flatten (t : List (List Id)) : (bedF t ++ bedB t).flatten = t.flatten := by
  unfold bedF bedB
  rw [List.flatten_append, shortL_flatten, shortL_flatten, ← List.flatten_append, List.take_append_drop]
theorem bedF_mem {t : List (List Id)} {l : List Id} (h : l ∈ bedF t) : l ∈ t := List.mem_of_mem_take (List.mem_of_mem_take h)
theorem bedB_mem {t : List (List Id)} {l : List Id} (h : l ∈ bedB t) : l ∈ t := List.mem_of_mem_drop (List.mem_of_mem_take h)
/-- A table is held by valid beds. -/
structure Valid (t : List (List Id)) : Prop where
  len : t.length = 80
  four : ∀ l ∈ t, l.length ≤ 4
  named : ∀ a ∈ t.flatten, namedB a = true
  nd : t.flatten.Nodup
theorem Valid.check {t : List (List Id)} (h : Valid t) : checkE (bedF t) (bedB t) = 0 := by
  have key : ∀ ls : List (List Id), ls.length ≤ 40 → (∀ l ∈ ls, l ∈ t) → fullB ls = false := fun ls h1 h2 => by
    unfold fullB
    rw [Bool.or_eq_false_iff, List.any_eq_false]
    exact ⟨by simp; omega, fun l hl => by have := h.four l (h2 l hl); simp; omega⟩
  unfold checkE
  rw [beds_flatten, if_neg, if_neg, if_pos h.nd]
  · rw [Bool.not_eq_false, List.all_eq_true]; exact h.named
  · rw [key _ (bedF_len t) fun l => bedF_mem, key _ (bedB_len h.len) fun l => bedB_mem]; simp
end Go.Iso.Gen
end
