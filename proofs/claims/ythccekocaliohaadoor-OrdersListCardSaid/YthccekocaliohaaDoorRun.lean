/-
  a run of OrdersList.
-/
import Derived.Test.YthccekocaliohaaDoorOrd
set_option linter.unusedSimpArgs false
set_option linter.unusedVariables false

section
-- fast
namespace Go.Iso
theorem Tabs.keep' {ts : List (List Int)} {H H' : Heap} (h : Tabs ts H) (k : Keep H.n H H') : Tabs ts H' := h.keep k.1 fun i hi => k.2 i (by have := h.1; omega) (by have := h.1; omega)
end Go.Iso
namespace Go.Iso.Gen
open Go.Iso
set_option maxHeartbeats 2000000
set_option maxRecDepth 10000


theorem expl69 (tm : List IV) (h : tm.length = 69) : tm = [tm.getD 0 IV.undef, tm.getD 1 IV.undef, tm.getD 2 IV.undef, tm.getD 3 IV.undef, tm.getD 4 IV.undef, tm.getD 5 IV.undef, tm.getD 6 IV.undef, tm.getD 7 IV.undef, tm.getD 8 IV.undef, tm.getD 9 IV.undef, tm.getD 10 IV.undef, tm.getD 11 IV.undef, tm.getD 12 IV.undef, tm.getD 13 IV.undef, tm.getD 14 IV.undef, tm.getD 15 IV.undef, tm.getD 16 IV.undef, tm.getD 17 IV.undef, tm.getD 18 IV.undef, tm.getD 19 IV.undef, tm.getD 20 IV.undef, tm.getD 21 IV.undef, tm.getD 22 IV.undef, tm.getD 23 IV.undef, tm.getD 24 IV.undef, tm.getD 25 IV.undef, tm.getD 26 IV.undef, tm.getD 27 IV.undef, tm.getD 28 IV.undef, tm.getD 29 IV.undef, tm.getD 30 IV.undef, tm.getD 31 IV.undef, tm.getD 32 IV.undef, tm.getD 33 IV.undef, tm.getD 34 IV.undef, tm.getD 35 IV.undef, tm.getD 36 IV.undef, tm.getD 37 IV.undef, tm.getD 38 IV.undef, tm.getD 39 IV.undef, tm.getD 40 IV.undef, tm.getD 41 IV.undef, tm.getD 42 IV.undef, tm.getD 43 IV.undef, tm.getD 44 IV.undef, tm.getD 45 IV.undef, tm.getD 46 IV.undef, tm.getD 47 IV.undef, tm.getD 48 IV.undef, tm.getD 49 IV.undef, tm.getD 50 IV.undef, tm.getD 51 IV.undef, tm.getD 52 IV.undef, tm.getD 53 IV.undef, tm.getD 54 IV.undef, tm.getD 55 IV.undef, tm.getD 56 IV.undef, tm.getD 57 IV.undef, tm.getD 58 IV.undef, tm.getD 59 IV.undef, tm.getD 60 IV.undef, tm.getD 61 IV.undef, tm.getD 62 IV.undef, tm.getD 63 IV.undef, tm.getD 64 IV.undef, tm.getD 65 IV.undef, tm.getD 66 IV.undef, tm.getD 67 IV.undef, tm.getD 68 IV.undef] := (expl tm 69 h).trans rfl
theorem ordersList_run {x : SV} {xs : List Pt} (r : Int) {H : Heap} (ht : Tabs tabs H) (hx : Sl H x xs) (hxb : ∀ p ∈ xs, p.a ≤ 255 ∧ p.m ≤ 255) : W E0 H.n (.call 3 [x.iv, .int .i64 r]) H (fun o _ => o = .val (.bool true)) := by
  rw [c3]
  simp (disch := omega) only [BAS, ↓BPR, reduceIte, reduceCtorEq, seval, -List.reduceReplicate, fpOf, freeNext, opW, binI, ev1, Heap.write, setAll, unI, eqKs, eqK, fillI, B3]
  refine Of_sp hx hxb (Nat.le_refl _) fun H1 f b k1 s1 => ?_
  have hn1 := k1.1
  have hV := ofT_valid xs
  generalize (ofT xs).1 = t at s1 hV
  have hck := hV.check
  obtain ⟨c1, c2, c3, c4, _⟩ := check_len hck
  simp (disch := omega) only [BAS, ↓BPR, reduceIte, reduceCtorEq, seval, -List.reduceReplicate, fpOf, freeNext, opW, binI, ev1, Heap.write, setAll, unI, eqKs, eqK, fillI, B3, bv]
  generalize hH_H2 : Heap.put _ _ _ = H2
  have hnH2 : H2.n = H1.n + 1 := by rw [← hH_H2]; rfl
  have g0 := congrArg (fun h0 => Heap.get h0 (H1.n)) hH_H2.symm
  simp (disch := omega) only [BAS, ↓BPR, reduceIte, reduceCtorEq, seval, -List.reduceReplicate, fpOf, freeNext, opW, binI, ev1, Heap.write, setAll, unI, eqKs, eqK, fillI] at g0
  have kH2 : Keep H1.n H1 H2 := ⟨by omega, fun x hx _ => by
    have gx := congrArg (fun h0 => Heap.get h0 x) hH_H2.symm
    simp (disch := omega) only [BAS, ↓BPR, reduceIte, reduceCtorEq, seval, -List.reduceReplicate, fpOf, freeNext, opW, binI, ev1, Heap.write, setAll, unI, eqKs, eqK, fillI] at gx
    exact gx⟩
  clear hH_H2
  have r0 := read_get g0
  have s2 := s1.keep kH2
  have ht2 := (Tabs.keep' ht k1).keep' kH2
  rw [show IV.agg [f.iv, b.iv] = bv f b from rfl]
  by_cases hr : rackB r = true
  case neg =>
    have ho : ocheckE (bedF t) (bedB t) r = 11 := by unfold ocheckE; rw [if_neg (by simp [hck]), if_neg hr]
    have hr' : r < -4 ∨ r > 4 := by rw [rackB_iff] at hr; omega
    refine olist_sp r s2.1.sl2 s2.2.1.sl2 (by omega) (by omega) (fun l hl => by have := c3 l hl; omega) (fun l hl => by have := c4 l hl; omega) (by omega) (fun H3 k3 _ => ?_) fun H3 v l k3 h3 => absurd (ho.symm.trans h3) (by omega)
    have ht3 := ht2.keep' k3
    rw [ho]
    rcases hr' with hr' | hr'
    · simp (disch := omega) only [BAS, ↓BPR, reduceIte, reduceCtorEq, seval, -List.reduceReplicate, fpOf, freeNext, opW, binI, ev1, Heap.write, setAll, unI, eqKs, eqK, fillI, B3]
      refine c11 ht3 ?_
      simp (disch := omega) only [BAS, ↓BPR, reduceIte, reduceCtorEq, seval, -List.reduceReplicate, fpOf, freeNext, opW, binI, ev1, Heap.write, setAll, unI, eqKs, eqK, fillI, B3]
    · simp (disch := omega) only [BAS, ↓BPR, reduceIte, reduceCtorEq, seval, -List.reduceReplicate, fpOf, freeNext, opW, binI, ev1, Heap.write, setAll, unI, eqKs, eqK, fillI, B3]
      refine c11 ht3 ?_
      simp (disch := omega) only [BAS, ↓BPR, reduceIte, reduceCtorEq, seval, -List.reduceReplicate, fpOf, freeNext, opW, binI, ev1, Heap.write, setAll, unI, eqKs, eqK, fillI, B3]
  have hr' := rackB_iff.1 hr
  have ho : ocheckE (bedF t) (bedB t) r = 0 := by unfold ocheckE; rw [if_neg (by simp [hck]), if_pos hr]
  refine olist_sp r s2.1.sl2 s2.2.1.sl2 (by omega) (by omega) (fun l hl => by have := c3 l hl; omega) (fun l hl => by have := c4 l hl; omega) (by omega) (fun H3 k3 h3 => absurd ho h3) fun H3 v l k3 h3 hv hp hs => ?_
  have hl := order_eq hck hr hp hs
  have hn3 := k3.1
  replace g0 := (k3.2 _ (by omega) (by omega)).trans g0
  have r3 := read_get g0
  have s3 := s2.keep k3
  have ht3 := ht2.keep' k3
  have hll : l.length ≤ 100000 := by rw [hp.length_eq, heldL_length]; have := lens_le4 c1 c3; have := lens_le4 c2 c4; omega
  simp (disch := omega) only [BAS, ↓BPR, reduceIte, reduceCtorEq, seval, -List.reduceReplicate, fpOf, freeNext, opW, binI, ev1, Heap.write, setAll, unI, eqKs, eqK, fillI, B3, r3]
  rw [show IV.agg [f.iv, b.iv] = bv f b from rfl]
  refine listed_sp r s3.1.sl2 s3.2.1.sl2 c3 c4 (by omega) fun H4 u k4 g4 => ?_
  have hn4 := k4.1
  have ht4 := ht3.keep' k4
  rw [← hl] at g4
  have hv4 := hv.sl.keep k4
  have hu4 := g4.sl
  simp (disch := omega) only [BAS, ↓BPR, reduceIte, reduceCtorEq, seval, -List.reduceReplicate, fpOf, freeNext, opW, binI, ev1, Heap.write, setAll, unI, eqKs, eqK, fillI, B3, ↓hv4.ln, ↓hu4.ln, ↓hv4.cap hv.tight]
  refine W_inv (fun k fr H' => ∃ i, i + k = l.length ∧ H' = H4 ∧ fr.marks = [] ∧ fr.tm.length = 69 ∧ fr.tm.getD 6 IV.undef = v.iv ∧ fr.tm.getD 8 IV.undef = u.iv ∧ fr.tm.getD 9 IV.undef = .int .i64 i) ?_ l.length ⟨0, by omega, rfl, rfl, rfl, rfl, rfl, rfl⟩
  rintro k ⟨tm, mk⟩ H' ⟨i, hik, rfl, rfl, htm, t6, t8, t9⟩ L hN hJ
  rw [expl69 tm htm, t6, t8, t9]
  by_cases hi : i < l.length
  · have q1 := hv4.read z_Hd i hi
    have q2 := hu4.read z_Hd i hi
    simp (disch := omega) only [BAS, ↓BPR, reduceIte, reduceCtorEq, seval, -List.reduceReplicate, fpOf, freeNext, opW, binI, ev1, Heap.write, setAll, unI, eqKs, eqK, fillI, B3, F3l13, ↓hv4.ln, ↓hv4.idx, ↓hu4.idx, q1, q2, cs_Hd]
    exact hN (k - 1) _ _ (by omega) ⟨i + 1, by omega, rfl, rfl, rfl, rfl, rfl, rfl⟩
  · simp (disch := omega) only [BAS, ↓BPR, reduceIte, reduceCtorEq, seval, -List.reduceReplicate, fpOf, freeNext, opW, binI, ev1, Heap.write, setAll, unI, eqKs, eqK, fillI, B3, F3l13, ↓hv4.ln, hJ]
    refine c11 ht4 ?_
    simp (disch := omega) only [BAS, ↓BPR, reduceIte, reduceCtorEq, seval, -List.reduceReplicate, fpOf, freeNext, opW, binI, ev1, Heap.write, setAll, unI, eqKs, eqK, fillI, B3]
end Go.Iso.Gen
end
