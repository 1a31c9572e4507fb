/-
  a run of OrdersBack.
-/
import Derived.Test.YthccekocaliohaaDoorOrd
set_option linter.unusedSimpArgs false
set_option linter.unusedVariables false

section
namespace Go.Iso.Gen
open Go.Iso
set_option maxHeartbeats 2000000
set_option maxRecDepth 10000

end Go.Iso.Gen
end

section
namespace Go.Iso.Gen
open Go.Iso
set_option maxHeartbeats 2000000
set_option maxRecDepth 10000

def flipP (p : Ps) : Ps := ⟨p.id, p.front, if p.dir = 1 then 0 else 1⟩
def invL (l : List Ps) : List Ps := (l.map flipP).reverse
theorem invL_length (l : List Ps) : (invL l).length = l.length := by simp [invL]

theorem expl31 (tm : List IV) (h : tm.length = 31) : tm = [tm.getD 0 IV.undef, tm.getD 1 IV.undef, tm.getD 2 IV.undef, tm.getD 3 IV.undef, tm.getD 4 IV.undef, tm.getD 5 IV.undef, tm.getD 6 IV.undef, tm.getD 7 IV.undef, tm.getD 8 IV.undef, tm.getD 9 IV.undef, tm.getD 10 IV.undef, tm.getD 11 IV.undef, tm.getD 12 IV.undef, tm.getD 13 IV.undef, tm.getD 14 IV.undef, tm.getD 15 IV.undef, tm.getD 16 IV.undef, tm.getD 17 IV.undef, tm.getD 18 IV.undef, tm.getD 19 IV.undef, tm.getD 20 IV.undef, tm.getD 21 IV.undef, tm.getD 22 IV.undef, tm.getD 23 IV.undef, tm.getD 24 IV.undef, tm.getD 25 IV.undef, tm.getD 26 IV.undef, tm.getD 27 IV.undef, tm.getD 28 IV.undef, tm.getD 29 IV.undef, tm.getD 30 IV.undef] := (expl tm 31 h).trans rfl
theorem inverse_sp {u : SV} {l : List Ps} {H : Heap} {lo : Nat} {Q : Out → Heap → Prop} (hu : Sl H u l) (hl : l.length ≤ 1000000) (hlo : lo ≤ H.n)
    (h : ∀ H' b, Keep H.n H H' → H.n ≤ b → Own H' b 54 l.length (invL l) → Q (.val (SV.sl b 0 l.length l.length true).iv) H') : W E0 lo (.call 16 [u.iv]) H Q := by
  refine W.pure plain hlo ?_
  rw [c16]
  simp (disch := omega) only [BAS, ↓BPR, reduceIte, reduceCtorEq, seval, -List.reduceReplicate, fpOf, freeNext, opW, binI, ev1, Heap.write, setAll, unI, eqKs, eqK, fillI, B16, ↓hu.ln, Int.reducePow]
  generalize hH_H1 : Heap.new _ _ = H1
  have hnH1 : H1.n = H.n + 1 := by rw [← hH_H1]; rfl
  have g0 := congrArg (fun h0 => Heap.get h0 (H.n)) hH_H1.symm
  simp (disch := omega) only [BAS, ↓BPR, reduceIte, reduceCtorEq, seval, -List.reduceReplicate, fpOf, freeNext, opW, binI, ev1, Heap.write, setAll, unI, eqKs, eqK, fillI] at g0
  have kH1 : Keep H.n H H1 := ⟨by omega, fun x hx _ => by
    have gx := congrArg (fun h0 => Heap.get h0 x) hH_H1.symm
    simp (disch := omega) only [BAS, ↓BPR, reduceIte, reduceCtorEq, seval, -List.reduceReplicate, fpOf, freeNext, opW, binI, ev1, Heap.write, setAll, unI, eqKs, eqK, fillI] at gx
    exact gx⟩
  clear hH_H1
  have hO : Own H1 H.n 54 l.length (List.replicate l.length (⟨⟨0, 0⟩, false, 0⟩ : Ps)) := ⟨by simp, by omega, [], by rw [g0, List.append_nil]; exact congrArg (fun x => some (IObj.cells false 54 4 x)) (rep_flat l.length (⟨⟨0, 0⟩, false, 0⟩ : Ps)), by simp⟩
  refine W_inv (fun k fr H' => ∃ (i : Nat) (l' : List Ps), i + k = l.length ∧ Keep H.n H H' ∧ H.n < H'.n ∧ Own H' H.n 54 l.length l' ∧ l'.length = l.length ∧ (∀ x, l.length - i ≤ x → x < l.length → nth l' x = nth (invL l) x) ∧ fr.marks = [] ∧ fr.tm.length = 31 ∧ fr.tm.getD 0 IV.undef = u.iv ∧ fr.tm.getD 2 IV.undef = .nilSlice ∧ fr.tm.getD 3 IV.undef = .slice H.n 0 l.length l.length true ∧ fr.tm.getD 9 IV.undef = u.iv ∧ fr.tm.getD 10 IV.undef = .int .i64 l.length ∧ fr.tm.getD 11 IV.undef = .int .i64 i) ?_ l.length ⟨0, _, by omega, kH1, by omega, hO, by simp, fun x h1 h2 => by omega, rfl, rfl, rfl, rfl, rfl, rfl, rfl, rfl⟩
  clear hO g0
  rintro k ⟨tm, mk⟩ H' ⟨i, l', hik, hk, hn, hO, hll, hf, rfl, htm, t0, t2, t3, t9, t10, t11⟩ L hN hJ
  rw [expl31 tm htm, t0, t2, t3, t9, t10, t11]
  by_cases hi : i < l.length
  · have hu' := hu.keep hk
    have r1 := hu'.read z_Ps i hi
    have hinv : nth (invL l) (l.length - 1 - i) = flipP l[i] := by
      rw [nth_in (by rw [invL_length]; omega)]
      unfold invL
      rw [List.getElem_reverse, List.getElem_map]
      congr 2
      simp; omega
    have e1 : (l.length : Int) - 1 - (i : Int) = ((l.length - 1 - i : Nat) : Int) := by omega
    have hidx := idxV hO true 4
    rw [hll] at hidx
    have fin : ∀ H5, Keep H'.n H' H5 → ∀ ob, Own (H5.put H.n ob) H.n 54 l.length (l'.set (l.length - 1 - i) (flipP l[i])) → ∀ tm5 : List IV, tm5.length = 31 → tm5.getD 0 IV.undef = u.iv → tm5.getD 2 IV.undef = .nilSlice → tm5.getD 3 IV.undef = .slice H.n 0 l.length l.length true → tm5.getD 9 IV.undef = u.iv → tm5.getD 10 IV.undef = .int .i64 l.length → tm5.getD 11 IV.undef = .int .i64 ((i + 1 : Nat) : Int) → L (.ex .normal ⟨tm5, []⟩) (H5.put H.n ob) := by
      intro H5 k5 ob hob tm5 htm5 u0 u2 u3 u9 u10 u11
      have hn5 := k5.1
      refine hN (k - 1) _ _ (by omega) ⟨i + 1, _, by omega, (hk.trans (k5.lower (by omega))).trans (.put _ _ (Nat.le_refl _)), by rw [Heap.n_put]; omega, hob, by rw [List.length_set]; exact hll, fun x h1 h2 => ?_, rfl, htm5, u0, u2, u3, u9, u10, u11⟩
      by_cases c : x = l.length - 1 - i
      · subst c
        rw [hinv, nth_in (by rw [List.length_set]; omega), List.getElem_set_self]
      · rw [← hf x (by omega) h2]
        unfold nth
        rw [List.getD_eq_getElem?_getD, List.getElem?_set_ne (Ne.symm c), ← List.getD_eq_getElem?_getD]
    by_cases hd : l[i].dir = 1
    · have hfl : Cell.cs (flipP l[i]) = [.int .u8 l[i].id.y, .int .i64 l[i].id.n, .bool l[i].front, .int .u8 0] := by unfold flipP; rw [if_pos hd]; rfl
      obtain ⟨ob, e5, o5⟩ := Own.store (hO.keep ((Keep.newPut (o := .cells false 54 4 [.int .u8 0, .int .i64 0, .bool false, .int .u8 0]) (o' := .cells false 54 4 [.int .u8 l[i].id.y, .int .i64 l[i].id.n, .bool l[i].front, .int .u8 1])).trans (.put _ (.cells false 54 4 [.int .u8 l[i].id.y, .int .i64 l[i].id.n, .bool l[i].front, .int .u8 0]) (Nat.le_refl _)))) z_Ps (l.length - 1 - i) (by omega) (flipP l[i]) H.n (Nat.le_refl _)
      rw [hfl] at e5
      simp (disch := omega) only [BAS, ↓BPR, reduceIte, reduceCtorEq, seval, -List.reduceReplicate, fpOf, freeNext, opW, binI, ev1, Heap.write, setAll, unI, eqKs, eqK, fillI, B16, F16l10, ↓hu'.idx, ↓hu'.ln, r1, cs_Ps, hd, e1, ↓hidx, ↓e5]
      exact fin _ (Keep.newPut.trans (.put _ _ (Nat.le_refl _))) ob o5 _ rfl rfl rfl rfl rfl rfl rfl
    · have hd' : (l[i].dir == 1) = false := by simp [hd]
      have hfl : Cell.cs (flipP l[i]) = [.int .u8 l[i].id.y, .int .i64 l[i].id.n, .bool l[i].front, .int .u8 1] := by unfold flipP; rw [if_neg hd]; rfl
      obtain ⟨ob, e5, o5⟩ := Own.store (hO.keep ((Keep.newPut (o := .cells false 54 4 [.int .u8 0, .int .i64 0, .bool false, .int .u8 0]) (o' := .cells false 54 4 [.int .u8 l[i].id.y, .int .i64 l[i].id.n, .bool l[i].front, .int .u8 l[i].dir])).trans (.put _ (.cells false 54 4 [.int .u8 l[i].id.y, .int .i64 l[i].id.n, .bool l[i].front, .int .u8 1]) (Nat.le_refl _)))) z_Ps (l.length - 1 - i) (by omega) (flipP l[i]) H.n (Nat.le_refl _)
      rw [hfl] at e5
      simp (disch := omega) only [BAS, ↓BPR, reduceIte, reduceCtorEq, seval, -List.reduceReplicate, fpOf, freeNext, opW, binI, ev1, Heap.write, setAll, unI, eqKs, eqK, fillI, B16, F16l10, ↓hu'.idx, ↓hu'.ln, r1, cs_Ps, hd', e1, ↓hidx, ↓e5]
      exact fin _ (Keep.newPut.trans (.put _ _ (Nat.le_refl _))) ob o5 _ rfl rfl rfl rfl rfl rfl rfl
  · have : i = l.length := by omega
    subst this
    simp (disch := omega) only [BAS, ↓BPR, reduceIte, reduceCtorEq, seval, -List.reduceReplicate, fpOf, freeNext, opW, binI, ev1, Heap.write, setAll, unI, eqKs, eqK, fillI, B16, F16l10, hJ]
    have : l' = invL l := by
      apply List.ext_getElem
      · rw [invL_length]; exact hll
      · intro x h1 h2
        have := hf x (by omega) (by omega)
        rwa [nth_in h1, nth_in h2] at this
    subst this
    exact fun hk' => h H' H.n hk' (Nat.le_refl _) hO
end Go.Iso.Gen
end

section
namespace Go.Iso.Gen
open Go.Iso
set_option maxHeartbeats 2000000
set_option maxRecDepth 10000

/-- A crossing on the way back. -/
def crF (c : Cr) : Cr := ⟨c.b, c.a, -c.s⟩
theorem rowC_back (front back : List Id) : rowC 0 front back = (rowC 1 front back).map crF := by
  unfold rowC
  rw [List.map_flatMap]
  congr 1
  funext id
  rw [List.map_map]; rfl
theorem stepB_back (fs bs : List (List Id)) (r : Int) : stepB fs bs (r + 1) 0 = (stepB fs bs r 1).map crF := by
  unfold stepB
  rw [List.map_flatten]
  congr 1
  apply List.ext_getElem
  · simp
  · intro i h1 h2
    simp only [List.getElem_mapIdx, List.getElem_map, reduceIte, Int.reduceEq, if_true, if_false]
    rw [← rowC_back, show (i : Int) + 1 + (r + 1) - 1 = (i : Int) + 1 + r - 0 from by omega]
theorem stepL_sign {fs bs : List (List Id)} {r d : Int} {c : Cr} (h : c ∈ stepL fs bs r d) : c.s = 1 ∨ c.s = -1 := by
  have key : ∀ c ∈ stepB fs bs r d, c.s = 1 ∨ c.s = -1 := by
    intro c hc
    unfold stepB at hc
    obtain ⟨l, hl, hc⟩ := List.mem_flatten.1 hc
    obtain ⟨i, hi, rfl⟩ := List.mem_iff_getElem.1 hl
    simp only [List.getElem_mapIdx] at hc
    unfold rowC at hc
    obtain ⟨id, _, hc⟩ := List.mem_flatMap.1 hc
    obtain ⟨o, _, rfl⟩ := List.mem_map.1 hc
    unfold crE
    split
    · exact .inl rfl
    · exact .inr rfl
  unfold stepL at h
  split at h
  · exact key c (List.mem_reverse.1 h)
  · exact key c h
theorem stepL_len {fs bs : List (List Id)} (h1 : bs.length ≤ 40) (h : ∀ x ∈ fs, x.length ≤ 4) (h' : ∀ x ∈ bs, x.length ≤ 4) (r d : Int) : (stepL fs bs r d).length ≤ 640 := by
  have := stepR_len h h' r d bs.length (Nat.le_refl _)
  rw [stepR_all] at this
  unfold stepL
  split
  · rw [List.length_reverse]; omega
  · omega
theorem metAt_back {r p : Int} {i : Nat} (hi : i < 40) (h0 : rackB r = true) (h1 : rackB (r + 1) = true) : metAt (r + 1) 0 p i ↔ metAt r 1 p i := by
  have hv : needleE 1 ((i : Int) + 1) = 0 := by unfold needleE; rw [if_pos (by omega)]
  have e0 : spotE 1 ((i : Int) + 1) r = 4 * ((i : Int) + 1 + r) := by unfold spotE; rw [if_pos ⟨hv, h0⟩, if_neg (by omega)]
  have e1 : spotE 1 ((i : Int) + 1) (r + 1) = 4 * ((i : Int) + 1 + (r + 1)) := by unfold spotE; rw [if_pos ⟨hv, h1⟩, if_neg (by omega)]
  unfold metAt
  rw [e0, e1, show stepD 0 = -1 from rfl, show stepD 1 = 1 from rfl]
  omega
theorem meetB_back {bs : List (List Id)} {r p : Int} (hb : bs.length ≤ 40) (h0 : rackB r = true) (h1 : rackB (r + 1) = true) : meetB bs (r + 1) 0 p = (meetB bs r 1 p).map flipP := by
  unfold meetB
  rw [List.map_flatten]
  congr 1
  apply List.ext_getElem
  · simp
  · intro i h2 h3
    simp only [List.length_mapIdx] at h2
    simp only [List.getElem_mapIdx, List.getElem_map]
    unfold meetC
    have := metAt_back (p := p) (i := i) (by omega) h0 h1
    by_cases hm : metAt r 1 p i
    · rw [if_pos hm, if_pos (this.2 hm), List.map_map]; rfl
    · rw [if_neg hm, if_neg (fun h => hm (this.1 h))]; rfl
theorem meetL_back {bs : List (List Id)} {r p : Int} (hb : bs.length ≤ 40) (h0 : rackB r = true) (h1 : rackB (r + 1) = true) : meetL bs (r + 1) 0 p = invL (meetL bs r 1 p) := by
  have e0 : meetL bs (r + 1) 0 p = meetB bs (r + 1) 0 p := by unfold meetL; rw [if_neg (by omega)]
  have e1 : meetL bs r 1 p = (meetB bs r 1 p).reverse := by unfold meetL; rw [if_pos rfl]
  rw [e0, e1, meetB_back hb h0 h1]
  unfold invL
  rw [List.map_reverse, List.reverse_reverse]
theorem meetL_len {bs : List (List Id)} (h1 : bs.length ≤ 40) (h' : ∀ x ∈ bs, x.length ≤ 4) (r d p : Int) : (meetL bs r d p).length ≤ 160 := by
  have := meetR_len h' r d p bs.length (Nat.le_refl _)
  rw [meetR_all] at this
  unfold meetL
  split
  · rw [List.length_reverse]; omega
  · omega
theorem odd_tmod (q : Nat) : ¬ ((-13 : Int) + 2 * (q : Int)).tmod 2 = 0 := fun h => by
  have := Int.dvd_of_tmod_eq_zero h
  omega
theorem tm8 (a : Nat) : (a : Int).tmod 8 = ((a % 8 : Nat) : Int) := tmodN a 8
theorem tm97 (a : Nat) : (a : Int).tmod 97 = ((a % 97 : Nat) : Int) := tmodN a 97
end Go.Iso.Gen
end

section
namespace Go.Iso.Gen
open Go.Iso
set_option maxHeartbeats 4000000
set_option maxRecDepth 10000

theorem expl146 (tm : List IV) (h : tm.length = 146) : tm = [tm.getD 0 IV.undef, tm.getD 1 IV.undef, tm.getD 2 IV.undef, tm.getD 3 IV.undef, tm.getD 4 IV.undef, tm.getD 5 IV.undef, tm.getD 6 IV.undef, tm.getD 7 IV.undef, tm.getD 8 IV.undef, tm.getD 9 IV.undef, tm.getD 10 IV.undef, tm.getD 11 IV.undef, tm.getD 12 IV.undef, tm.getD 13 IV.undef, tm.getD 14 IV.undef, tm.getD 15 IV.undef, tm.getD 16 IV.undef, tm.getD 17 IV.undef, tm.getD 18 IV.undef, tm.getD 19 IV.undef, tm.getD 20 IV.undef, tm.getD 21 IV.undef, tm.getD 22 IV.undef, tm.getD 23 IV.undef, tm.getD 24 IV.undef, tm.getD 25 IV.undef, tm.getD 26 IV.undef, tm.getD 27 IV.undef, tm.getD 28 IV.undef, tm.getD 29 IV.undef, tm.getD 30 IV.undef, tm.getD 31 IV.undef, tm.getD 32 IV.undef, tm.getD 33 IV.undef, tm.getD 34 IV.undef, tm.getD 35 IV.undef, tm.getD 36 IV.undef, tm.getD 37 IV.undef, tm.getD 38 IV.undef, tm.getD 39 IV.undef, tm.getD 40 IV.undef, tm.getD 41 IV.undef, tm.getD 42 IV.undef, tm.getD 43 IV.undef, tm.getD 44 IV.undef, tm.getD 45 IV.undef, tm.getD 46 IV.undef, tm.getD 47 IV.undef, tm.getD 48 IV.undef, tm.getD 49 IV.undef, tm.getD 50 IV.undef, tm.getD 51 IV.undef, tm.getD 52 IV.undef, tm.getD 53 IV.undef, tm.getD 54 IV.undef, tm.getD 55 IV.undef, tm.getD 56 IV.undef, tm.getD 57 IV.undef, tm.getD 58 IV.undef, tm.getD 59 IV.undef, tm.getD 60 IV.undef, tm.getD 61 IV.undef, tm.getD 62 IV.undef, tm.getD 63 IV.undef, tm.getD 64 IV.undef, tm.getD 65 IV.undef, tm.getD 66 IV.undef, tm.getD 67 IV.undef, tm.getD 68 IV.undef, tm.getD 69 IV.undef, tm.getD 70 IV.undef, tm.getD 71 IV.undef, tm.getD 72 IV.undef, tm.getD 73 IV.undef, tm.getD 74 IV.undef, tm.getD 75 IV.undef, tm.getD 76 IV.undef, tm.getD 77 IV.undef, tm.getD 78 IV.undef, tm.getD 79 IV.undef, tm.getD 80 IV.undef, tm.getD 81 IV.undef, tm.getD 82 IV.undef, tm.getD 83 IV.undef, tm.getD 84 IV.undef, tm.getD 85 IV.undef, tm.getD 86 IV.undef, tm.getD 87 IV.undef, tm.getD 88 IV.undef, tm.getD 89 IV.undef, tm.getD 90 IV.undef, tm.getD 91 IV.undef, tm.getD 92 IV.undef, tm.getD 93 IV.undef, tm.getD 94 IV.undef, tm.getD 95 IV.undef, tm.getD 96 IV.undef, tm.getD 97 IV.undef, tm.getD 98 IV.undef, tm.getD 99 IV.undef, tm.getD 100 IV.undef, tm.getD 101 IV.undef, tm.getD 102 IV.undef, tm.getD 103 IV.undef, tm.getD 104 IV.undef, tm.getD 105 IV.undef, tm.getD 106 IV.undef, tm.getD 107 IV.undef, tm.getD 108 IV.undef, tm.getD 109 IV.undef, tm.getD 110 IV.undef, tm.getD 111 IV.undef, tm.getD 112 IV.undef, tm.getD 113 IV.undef, tm.getD 114 IV.undef, tm.getD 115 IV.undef, tm.getD 116 IV.undef, tm.getD 117 IV.undef, tm.getD 118 IV.undef, tm.getD 119 IV.undef, tm.getD 120 IV.undef, tm.getD 121 IV.undef, tm.getD 122 IV.undef, tm.getD 123 IV.undef, tm.getD 124 IV.undef, tm.getD 125 IV.undef, tm.getD 126 IV.undef, tm.getD 127 IV.undef, tm.getD 128 IV.undef, tm.getD 129 IV.undef, tm.getD 130 IV.undef, tm.getD 131 IV.undef, tm.getD 132 IV.undef, tm.getD 133 IV.undef, tm.getD 134 IV.undef, tm.getD 135 IV.undef, tm.getD 136 IV.undef, tm.getD 137 IV.undef, tm.getD 138 IV.undef, tm.getD 139 IV.undef, tm.getD 140 IV.undef, tm.getD 141 IV.undef, tm.getD 142 IV.undef, tm.getD 143 IV.undef, tm.getD 144 IV.undef, tm.getD 145 IV.undef] := (expl tm 146 h).trans rfl
/-- The first comparison: the crossings of the way back. -/
theorem back_loop {v u : SV} {l m : List Cr} {R rk pl : Nat} {r : Int} {H : Heap} {lo : Nat} {Q : Out → Heap → Prop} {tm : List IV} (hlo : lo ≤ H.n) (hv : Sl H v l) (hu : Sl H u m) (hl : l.length ≤ 1000) (hm : m.reverse = l.map crF) (hs : ∀ c ∈ l, c.s = 1 ∨ c.s = -1)
    (i : Nat) (hi0 : i = 0) (htm : tm.length = 146) (t1 : tm.getD 1 IV.undef = .int .u8 rk) (t2 : tm.getD 2 IV.undef = .int .u8 pl) (t6 : tm.getD 6 IV.undef = .bool false) (t7 : tm.getD 7 IV.undef = .ptr R 0) (t8 : tm.getD 8 IV.undef = .int .i64 r) (t9 : tm.getD 9 IV.undef = v.iv) (t11 : tm.getD 11 IV.undef = u.iv) (t13 : tm.getD 13 IV.undef = .int .i64 i)
    (hQ : ∀ H' tm', Keep H.n H H' → tm'.length = 146 → tm'.getD 1 IV.undef = .int .u8 rk → tm'.getD 2 IV.undef = .int .u8 pl → tm'.getD 6 IV.undef = .bool false → tm'.getD 7 IV.undef = .ptr R 0 → tm'.getD 8 IV.undef = .int .i64 r → Q (.ex (.jmp (.exit 0)) ⟨tm', []⟩) H') :
    W E0 lo (.code (.loop F7l13) none ⟨tm, []⟩) H Q := by
  subst hi0
  have hml : m.length = l.length := by have := congrArg List.length hm; simpa using this
  refine W_inv (fun k fr H' => ∃ i, i + k = l.length ∧ Keep H.n H H' ∧ fr.marks = [] ∧ fr.tm.length = 146 ∧ fr.tm.getD 1 IV.undef = .int .u8 rk ∧ fr.tm.getD 2 IV.undef = .int .u8 pl ∧ fr.tm.getD 6 IV.undef = .bool false ∧ fr.tm.getD 7 IV.undef = .ptr R 0 ∧ fr.tm.getD 8 IV.undef = .int .i64 r ∧ fr.tm.getD 9 IV.undef = v.iv ∧ fr.tm.getD 11 IV.undef = u.iv ∧ fr.tm.getD 13 IV.undef = .int .i64 i) ?_ l.length ⟨0, by omega, Keep.refl _ _, rfl, htm, t1, t2, t6, t7, t8, t9, t11, t13⟩
  clear htm t1 t2 t6 t7 t8 t9 t11 t13
  rintro k ⟨tm, mk⟩ H' ⟨i, hik, hk, rfl, htm, t1, t2, t6, t7, t8, t9, t11, t13⟩ L hN hJ
  have hn := hk.1
  have hv' := hv.keep hk
  have hu' := hu.keep hk
  rw [expl146 tm htm, t1, t2, t6, t7, t8, t9, t11, t13]
  by_cases hi : i < l.length
  · have ei : (m.length : Int) - 1 - (i : Int) = ((m.length - 1 - i : Nat) : Int) := by omega
    have em : m[m.length - 1 - i]'(by omega) = crF l[i] := by
      have h1 : m.reverse[i]'(by rw [List.length_reverse]; omega) = (l.map crF)[i]'(by rw [List.length_map]; omega) := by simp only [hm]
      rw [List.getElem_reverse, List.getElem_map] at h1
      exact h1
    have r1 := hv'.read z_Cr i hi
    have r2 := hu'.read z_Cr (m.length - 1 - i) (by omega)
    rw [em, show Cell.cs (crF l[i]) = [.int .u8 l[i].b.y, .int .i64 l[i].b.n, .int .u8 l[i].a.y, .int .i64 l[i].a.n, .int .i64 (-l[i].s)] from rfl] at r2
    rw [cs_Cr] at r1
    have rA := read_sub (a := 0) (m := 2) r1 (by omega)
    have rB := read_sub (a := 2) (m := 2) r1 (by omega)
    have rS := read_sub (a := 4) (m := 1) r1 (by omega)
    simp only [List.drop_zero, List.drop_succ_cons, List.take_succ_cons, List.take_zero, Nat.add_zero, Nat.add_assoc] at rA rB rS
    have hsg := hs _ (List.getElem_mem hi)
    have hvb := hv'.blk_lt' hi
    have eneg : IntKind.i64.wrap (0 - l[i].s) = -l[i].s := by rcases hsg with h | h <;> rw [h] <;> decide
    simp (disch := omega) only [BAS, ↓BPR, reduceIte, reduceCtorEq, seval, -List.reduceReplicate, fpOf, freeNext, opW, binI, ev1, Heap.write, setAll, unI, eqKs, eqK, fillI, wF7o0, F7p0, wF7o1, F7p1, wF7o2, F7p2, wF7o3, F7p3, wF7o4, F7p4, wF7o5, F7p5, wF7o6, F7p6, wF7o7, F7p7, wF7o8, F7p8, wF7o9, F7p9, wF7o10, F7p10, wF7o11, F7p11, wF7o12, F7p12, F7l13, wF7o14, F7p14, wF7o15, F7p15, wF7o16, F7p16, wF7o17, F7p17, wF7o18, F7p18, wF7o19, F7p19, wF7o20, F7p20, wF7o21, F7p21, wF7o22, F7p22, wF7o23, F7p23, wF7o24, F7p24, wF7o26, F7p26, F7b, F7, ↓hv'.ln, ↓hu'.ln, ei, ↓hu'.idx, ↓hv'.idx, r2, rA, rB, rS, eneg]
    exact hN (k - 1) _ _ (by omega) ⟨i + 1, by omega, hk.trans (Keep.newPut.lower hn), rfl, rfl, rfl, rfl, rfl, rfl, rfl, rfl, rfl, rfl⟩
  · simp (disch := omega) only [BAS, ↓BPR, reduceIte, reduceCtorEq, seval, -List.reduceReplicate, fpOf, freeNext, opW, binI, ev1, Heap.write, setAll, unI, eqKs, eqK, fillI, wF7o0, F7p0, wF7o1, F7p1, wF7o2, F7p2, wF7o3, F7p3, wF7o4, F7p4, wF7o5, F7p5, wF7o6, F7p6, wF7o7, F7p7, wF7o8, F7p8, wF7o9, F7p9, wF7o10, F7p10, wF7o11, F7p11, wF7o12, F7p12, F7l13, wF7o14, F7p14, wF7o15, F7p15, wF7o16, F7p16, wF7o17, F7p17, wF7o18, F7p18, wF7o19, F7p19, wF7o20, F7p20, wF7o21, F7p21, wF7o22, F7p22, wF7o23, F7p23, wF7o24, F7p24, wF7o26, F7p26, F7b, F7, ↓hv'.ln, hJ]
    exact hQ H' _ hk rfl rfl rfl rfl rfl rfl

theorem ordersBack_run {x : SV} {xs : List Pt} {rk pl : Nat} (hrk : rk ≤ 255) (hpl : pl ≤ 255) {H : Heap} (ht : Tabs tabs H) (hx : Sl H x xs) (hxb : ∀ p ∈ xs, p.a ≤ 255 ∧ p.m ≤ 255) : W E0 H.n (.call 7 [x.iv, .int .u8 rk, .int .u8 pl]) H (fun o _ => o = .val (.bool true)) := by
  rw [c7]
  simp (disch := omega) only [BAS, ↓BPR, reduceIte, reduceCtorEq, seval, -List.reduceReplicate, fpOf, freeNext, opW, binI, ev1, Heap.write, setAll, unI, eqKs, eqK, fillI, wF7o0, F7p0, wF7o1, F7p1, wF7o2, F7p2, F7p3, wF7o4, F7p4, wF7o5, F7p5, wF7o6, F7p6, wF7o7, F7p7, wF7o8, F7p8, wF7o9, F7p9, wF7o10, F7p10, wF7o11, F7p11, wF7o12, F7p12, wF7o14, F7p14, wF7o15, F7p15, wF7o16, F7p16, wF7o17, F7p17, wF7o18, F7p18, wF7o19, F7p19, wF7o20, F7p20, wF7o21, F7p21, wF7o22, F7p22, wF7o23, F7p23, wF7o24, F7p24, wF7o26, F7p26, F7b, F7]
  refine Of_sp hx hxb (Nat.le_refl _) fun H1 f b k1 s1 => ?_
  have hn1 := k1.1
  have hV := ofT_valid xs
  generalize (ofT xs).1 = t at s1 hV
  have hck := hV.check
  obtain ⟨c1, c2, c3, c4, _⟩ := check_len hck
  obtain ⟨r, hr⟩ : ∃ r : Int, r = ((rk % 8 : Nat) : Int) - 4 := ⟨_, rfl⟩
  have hr0 : rackB r = true := rackB_iff.2 (by omega)
  have hr1 : rackB (r + 1) = true := rackB_iff.2 (by omega)
  have hlf : ∀ l ∈ bedF t, l.length ≤ 1000000 := fun l hl => by have := c3 l hl; omega
  have hlb : ∀ l ∈ bedB t, l.length ≤ 1000000 := fun l hl => by have := c4 l hl; omega
  have ec0 : ocheckE (bedF t) (bedB t) r = 0 := by unfold ocheckE; rw [if_neg (by simp [hck]), if_pos hr0]
  have ec1 : ocheckE (bedF t) (bedB t) (r + 1) = 0 := by unfold ocheckE; rw [if_neg (by simp [hck]), if_pos hr1]
  have es0 : stepE (bedF t) (bedB t) r 1 = 0 := by unfold stepE; rw [if_neg (by simp [ec0]), if_neg (by omega), if_pos (show rackB (r + stepD 1) = true from hr1)]
  have es1 : stepE (bedF t) (bedB t) (r + 1) 0 = 0 := by unfold stepE; rw [if_neg (by simp [ec1]), if_neg (by omega), if_pos (by rw [show r + 1 + stepD 0 = r from by unfold stepD; rw [if_pos rfl]; omega]; exact hr0)]
  simp (disch := omega) only [BAS, ↓BPR, reduceIte, reduceCtorEq, seval, -List.reduceReplicate, fpOf, freeNext, opW, binI, ev1, Heap.write, setAll, unI, eqKs, eqK, fillI, B7, bv, tm8, ← hr]
  generalize hH_H2 : Heap.put _ _ _ = H2
  have hnH2 : H2.n = H1.n + 1 := by rw [← hH_H2]; rfl
  have g0 := congrArg (fun h0 => Heap.get h0 (H1.n)) hH_H2.symm
  simp (disch := omega) only [BAS, ↓BPR, reduceIte, reduceCtorEq, seval, -List.reduceReplicate, fpOf, freeNext, opW, binI, ev1, Heap.write, setAll, unI, eqKs, eqK, fillI] at g0
  have kH2 : Keep H1.n H1 H2 := ⟨by omega, fun x hx _ => by
    have gx := congrArg (fun h0 => Heap.get h0 x) hH_H2.symm
    simp (disch := omega) only [BAS, ↓BPR, reduceIte, reduceCtorEq, seval, -List.reduceReplicate, fpOf, freeNext, opW, binI, ev1, Heap.write, setAll, unI, eqKs, eqK, fillI] at gx
    exact gx⟩
  clear hH_H2
  rw [show IV.agg [f.iv, b.iv] = bv f b from rfl]
  have s2 := s1.keep kH2
  have ht2 := (ht.keep' k1).keep' kH2
  refine ostep_sp r 1 ht2 s2.1.sl2 s2.2.1.sl2 (by omega) (by omega) hlf hlb (by omega) (by omega) (fun H3 k3 h3 => absurd es0 h3) fun H3 v k3 _ hv3 => ?_
  have hn3 := k3.1
  replace g0 := (k3.2 _ (by omega) (by omega)).trans g0
  have r3 := read_get g0
  have s3 := s2.keep k3
  have ht3 := ht2.keep' k3
  simp (disch := omega) only [BAS, ↓BPR, reduceIte, reduceCtorEq, seval, -List.reduceReplicate, fpOf, freeNext, opW, binI, ev1, Heap.write, setAll, unI, eqKs, eqK, fillI, B7, r3]
  rw [show IV.agg [f.iv, b.iv] = bv f b from rfl]
  refine ostep_sp (r + 1) 0 ht3 s3.1.sl2 s3.2.1.sl2 (by omega) (by omega) hlf hlb (by omega) (by omega) (fun H4 k4 h4 => absurd es1 h4) fun H4 u k4 _ hu4 => ?_
  have hn4 := k4.1
  replace g0 := (k4.2 _ (by omega) (by omega)).trans g0
  have r4 := read_get g0
  have s4 := s3.keep k4
  have ht4 := ht3.keep' k4
  have hv4 := hv3.sl.keep k4
  have hu4' := hu4.sl
  have hlen := stepL_len c2 c3 c4 r 1
  have e0 : stepL (bedF t) (bedB t) (r + 1) 0 = stepB (bedF t) (bedB t) (r + 1) 0 := by unfold stepL; rw [if_neg (by omega)]
  have e1 : stepL (bedF t) (bedB t) r 1 = (stepB (bedF t) (bedB t) r 1).reverse := by unfold stepL; rw [if_pos rfl]
  have erev : (stepL (bedF t) (bedB t) (r + 1) 0).reverse = (stepL (bedF t) (bedB t) r 1).map crF := by rw [e0, e1, stepB_back, List.map_reverse]
  have ell : (stepL (bedF t) (bedB t) (r + 1) 0).length = (stepL (bedF t) (bedB t) r 1).length := by have := congrArg List.length erev; simpa using this
  simp (disch := omega) only [BAS, ↓BPR, reduceIte, reduceCtorEq, seval, -List.reduceReplicate, fpOf, freeNext, opW, binI, ev1, Heap.write, setAll, unI, eqKs, eqK, fillI, wF7o0, F7p0, wF7o1, F7p1, wF7o2, F7p2, wF7o3, F7p3, wF7o4, F7p4, wF7o5, F7p5, wF7o6, F7p6, wF7o7, F7p7, wF7o8, F7p8, wF7o9, F7p9, wF7o10, F7p10, wF7o11, F7p11, wF7o12, F7p12, F7p14, wF7o15, F7p15, wF7o16, F7p16, wF7o17, F7p17, wF7o18, F7p18, wF7o19, F7p19, wF7o20, F7p20, wF7o21, F7p21, wF7o22, F7p22, wF7o23, F7p23, wF7o24, F7p24, wF7o26, F7p26, F7b, F7, ↓hv4.ln, ↓hu4'.ln, ell]
  refine back_loop (R := H1.n) (r := r) (rk := rk) (pl := pl) (by omega) hv4 hu4' (by omega) erev (fun c hc => stepL_sign hc) 0 rfl rfl rfl rfl rfl rfl rfl rfl rfl rfl fun H5 tm5 k5 w w1 w2 w6 w7 w8 => ?_
  have hn5 := k5.1
  replace g0 := (k5.2 _ (by omega) (by omega)).trans g0
  have r5 := read_get g0
  have s5 := s4.keep k5
  have ht5 := ht4.keep' k5
  obtain ⟨p, hp⟩ : ∃ p : Int, p = -13 + 2 * ((pl % 97 : Nat) : Int) := ⟨_, rfl⟩
  have hodd : ¬ p.tmod 2 = 0 := by rw [hp]; exact odd_tmod _
  have em0 : meetsE (bedF t) (bedB t) r 1 p = 0 := by unfold meetsE; rw [if_neg (by simp [es0]), if_neg hodd]
  have em1 : meetsE (bedF t) (bedB t) (r + 1) 0 p = 0 := by unfold meetsE; rw [if_neg (by simp [es1]), if_neg hodd]
  rw [expl146 tm5 w, w1, w2, w6, w7, w8]
  simp (disch := omega) only [BAS, ↓BPR, reduceIte, reduceCtorEq, seval, -List.reduceReplicate, fpOf, freeNext, opW, binI, ev1, Heap.write, setAll, unI, eqKs, eqK, fillI, B7, tm97, ← hp, r5]
  rw [show IV.agg [f.iv, b.iv] = bv f b from rfl]
  refine omeets_sp r 1 p ht5 s5.1.sl2 s5.2.1.sl2 (by omega) (by omega) hlf hlb (by omega) (by omega) (fun H6 k6 h6 => absurd em0 h6) fun H6 v6 k6 _ hv6 => ?_
  have hn6 := k6.1
  replace g0 := (k6.2 _ (by omega) (by omega)).trans g0
  have r6 := read_get g0
  have s6 := s5.keep k6
  have ht6 := ht5.keep' k6
  simp (disch := omega) only [BAS, ↓BPR, reduceIte, reduceCtorEq, seval, -List.reduceReplicate, fpOf, freeNext, opW, binI, ev1, Heap.write, setAll, unI, eqKs, eqK, fillI, B7, r6]
  rw [show IV.agg [f.iv, b.iv] = bv f b from rfl]
  refine omeets_sp (r + 1) 0 p ht6 s6.1.sl2 s6.2.1.sl2 (by omega) (by omega) hlf hlb (by omega) (by omega) (fun H7 k7 h7 => absurd em1 h7) fun H7 u7 k7 _ hu7 => ?_
  have hn7 := k7.1
  have ht7 := ht6.keep' k7
  have hv7 := hv6.sl.keep k7
  have hu7' := hu7.sl
  have hlm := meetL_len c2 c4 r 1 p
  rw [meetL_back c2 hr0 hr1] at hu7'
  have hil := invL_length (meetL (bedB t) r 1 p)
  simp (disch := omega) only [BAS, ↓BPR, reduceIte, reduceCtorEq, seval, -List.reduceReplicate, fpOf, freeNext, opW, binI, ev1, Heap.write, setAll, unI, eqKs, eqK, fillI, B7, ↓hv7.ln, ↓hu7'.ln, hil]
  refine inverse_sp hv7 (by omega) (by omega) fun H8 b8 k8 hb8 o8 => ?_
  have ht8 := ht7.keep' k8
  have hw8 := o8.sl true
  have hu8 := hu7'.keep k8
  generalize hil' : (meetL (bedB t) r 1 p).length = n at *
  rw [hil] at hw8
  simp (disch := omega) only [BAS, ↓BPR, reduceIte, reduceCtorEq, seval, -List.reduceReplicate, fpOf, freeNext, opW, binI, ev1, Heap.write, setAll, unI, eqKs, eqK, fillI, B7]
  refine W_inv (fun k fr H' => ∃ i, i + k = n ∧ H' = H8 ∧ fr.marks = [] ∧ fr.tm.length = 146 ∧ fr.tm.getD 17 IV.undef = u7.iv ∧ fr.tm.getD 18 IV.undef = (SV.sl b8 0 n n true).iv ∧ fr.tm.getD 19 IV.undef = .int .i64 i) ?_ n ⟨0, by omega, rfl, rfl, rfl, rfl, rfl, rfl⟩
  rintro k ⟨tm, mk⟩ H' ⟨i, hik, he, rfl, htm, t17, t18, t19⟩ L hN hJ
  subst he
  rw [expl146 tm htm, t17, t18, t19]
  have hln := hw8.ln
  rw [hil] at hln
  by_cases hi : i < n
  · have q1 := hw8.read z_Ps i (by omega)
    have q2 := hu8.read z_Ps i (by omega)
    simp only [SV.blk_sl, SV.off_sl, Nat.zero_add] at q1
    simp (disch := omega) only [BAS, ↓BPR, reduceIte, reduceCtorEq, seval, -List.reduceReplicate, fpOf, freeNext, opW, binI, ev1, Heap.write, setAll, unI, eqKs, eqK, fillI, B7, F7l13, F7l25, ↓hln, ↓hw8.idx, ↓hu8.idx, q1, q2, cs_Ps]
    exact hN (k - 1) _ _ (by omega) ⟨i + 1, by omega, rfl, rfl, rfl, rfl, rfl, rfl⟩
  · simp (disch := omega) only [BAS, ↓BPR, reduceIte, reduceCtorEq, seval, -List.reduceReplicate, fpOf, freeNext, opW, binI, ev1, Heap.write, setAll, unI, eqKs, eqK, fillI, B7, F7l13, F7l25, ↓hln, hJ]
    refine c11 ht8 ?_
    simp (disch := omega) only [BAS, ↓BPR, reduceIte, reduceCtorEq, seval, -List.reduceReplicate, fpOf, freeNext, opW, binI, ev1, Heap.write, setAll, unI, eqKs, eqK, fillI, B7]
end Go.Iso.Gen
end
