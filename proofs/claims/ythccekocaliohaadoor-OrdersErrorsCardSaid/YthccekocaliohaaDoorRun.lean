/-
  a run of OrdersErrors.
-/
import Derived.Test.YthccekocaliohaaDoorOrd
set_option linter.unusedSimpArgs false
set_option linter.unusedVariables false

section
namespace Go.Iso.Gen
open Go.Iso
set_option maxHeartbeats 2000000
set_option maxRecDepth 10000

theorem expl94 (tm : List IV) (h : tm.length = 94) : tm = [tm.getD 0 IV.undef, tm.getD 1 IV.undef, tm.getD 2 IV.undef, tm.getD 3 IV.undef, tm.getD 4 IV.undef, tm.getD 5 IV.undef, tm.getD 6 IV.undef, tm.getD 7 IV.undef, tm.getD 8 IV.undef, tm.getD 9 IV.undef, tm.getD 10 IV.undef, tm.getD 11 IV.undef, tm.getD 12 IV.undef, tm.getD 13 IV.undef, tm.getD 14 IV.undef, tm.getD 15 IV.undef, tm.getD 16 IV.undef, tm.getD 17 IV.undef, tm.getD 18 IV.undef, tm.getD 19 IV.undef, tm.getD 20 IV.undef, tm.getD 21 IV.undef, tm.getD 22 IV.undef, tm.getD 23 IV.undef, tm.getD 24 IV.undef, tm.getD 25 IV.undef, tm.getD 26 IV.undef, tm.getD 27 IV.undef, tm.getD 28 IV.undef, tm.getD 29 IV.undef, tm.getD 30 IV.undef, tm.getD 31 IV.undef, tm.getD 32 IV.undef, tm.getD 33 IV.undef, tm.getD 34 IV.undef, tm.getD 35 IV.undef, tm.getD 36 IV.undef, tm.getD 37 IV.undef, tm.getD 38 IV.undef, tm.getD 39 IV.undef, tm.getD 40 IV.undef, tm.getD 41 IV.undef, tm.getD 42 IV.undef, tm.getD 43 IV.undef, tm.getD 44 IV.undef, tm.getD 45 IV.undef, tm.getD 46 IV.undef, tm.getD 47 IV.undef, tm.getD 48 IV.undef, tm.getD 49 IV.undef, tm.getD 50 IV.undef, tm.getD 51 IV.undef, tm.getD 52 IV.undef, tm.getD 53 IV.undef, tm.getD 54 IV.undef, tm.getD 55 IV.undef, tm.getD 56 IV.undef, tm.getD 57 IV.undef, tm.getD 58 IV.undef, tm.getD 59 IV.undef, tm.getD 60 IV.undef, tm.getD 61 IV.undef, tm.getD 62 IV.undef, tm.getD 63 IV.undef, tm.getD 64 IV.undef, tm.getD 65 IV.undef, tm.getD 66 IV.undef, tm.getD 67 IV.undef, tm.getD 68 IV.undef, tm.getD 69 IV.undef, tm.getD 70 IV.undef, tm.getD 71 IV.undef, tm.getD 72 IV.undef, tm.getD 73 IV.undef, tm.getD 74 IV.undef, tm.getD 75 IV.undef, tm.getD 76 IV.undef, tm.getD 77 IV.undef, tm.getD 78 IV.undef, tm.getD 79 IV.undef, tm.getD 80 IV.undef, tm.getD 81 IV.undef, tm.getD 82 IV.undef, tm.getD 83 IV.undef, tm.getD 84 IV.undef, tm.getD 85 IV.undef, tm.getD 86 IV.undef, tm.getD 87 IV.undef, tm.getD 88 IV.undef, tm.getD 89 IV.undef, tm.getD 90 IV.undef, tm.getD 91 IV.undef, tm.getD 92 IV.undef, tm.getD 93 IV.undef] := (expl tm 94 h).trans rfl
theorem ordersErrors_run {f b : SV} {fs bs : List (List Id)} (r : Int) {H : Heap} (ht : Tabs tabs H) (hf : Sl2 H f fs) (hb : Sl2 H b bs) : W E0 H.n (.call 6 [bv f b, .int .i64 r]) H (fun o _ => o = .val (.bool true)) := by
  rw [c6]
  have lv : ∀ H', Keep H.n H H' → ∀ Q : Out → Heap → Prop, Q (.val (.bool true)) H' → W E0 H.n (.call 11 []) H' Q := fun H' k Q hq => c11 (ht.keep' k) hq
  by_cases h1 : fs.length > 45
  · have g1 : ((fs.length : Int) > 45) = True := by simp; omega
    simp (disch := omega) only [BAS, ↓BPR, reduceIte, reduceCtorEq, seval, -List.reduceReplicate, fpOf, freeNext, opW, binI, ev1, Heap.write, setAll, unI, eqKs, eqK, fillI, B6, bv, ↓hf.ln, g1]
    refine lv _ (.new _ _) _ ?_
    simp (disch := omega) only [BAS, ↓BPR, reduceIte, reduceCtorEq, seval, -List.reduceReplicate, fpOf, freeNext, opW, binI, ev1, Heap.write, setAll, unI, eqKs, eqK, fillI, B6]
  have g1 : ((fs.length : Int) > 45) = False := by simp; omega
  by_cases h2 : bs.length > 45
  · have g2 : ((bs.length : Int) > 45) = True := by simp; omega
    simp (disch := omega) only [BAS, ↓BPR, reduceIte, reduceCtorEq, seval, -List.reduceReplicate, fpOf, freeNext, opW, binI, ev1, Heap.write, setAll, unI, eqKs, eqK, fillI, B6, bv, ↓hf.ln, ↓hb.ln, g1, g2]
    refine lv _ (.new _ _) _ ?_
    simp (disch := omega) only [BAS, ↓BPR, reduceIte, reduceCtorEq, seval, -List.reduceReplicate, fpOf, freeNext, opW, binI, ev1, Heap.write, setAll, unI, eqKs, eqK, fillI, B6]
  have g2 : ((bs.length : Int) > 45) = False := by simp; omega
  simp (disch := omega) only [BAS, ↓BPR, reduceIte, reduceCtorEq, seval, -List.reduceReplicate, fpOf, freeNext, opW, binI, ev1, Heap.write, setAll, unI, eqKs, eqK, fillI, wF6o0, F6p0, wF6o1, F6p1, wF6o2, F6p2, wF6o3, F6p3, wF6o4, F6p4, wF6o5, F6p5, wF6o6, F6p6, wF6o7, F6p7, wF6o9, F6p9, wF6o10, F6p10, wF6o11, F6p11, wF6o12, F6p12, wF6o13, F6p13, F6p15, wF6o16, F6p16, wF6o17, F6p17, wF6o18, F6p18, wF6o19, F6p19, wF6o20, F6p20, wF6o21, F6p21, F6b, F6, bv, ↓hf.ln, ↓hb.ln, g1, g2]
  generalize hH_H1 : Heap.new _ _ = H1
  have hnH1 : H1.n = H.n + 1 := by rw [← hH_H1]; rfl
  have g0 := congrArg (fun h0 => Heap.get h0 (H.n)) hH_H1.symm
  simp (disch := omega) only [BAS, ↓BPR, reduceIte, reduceCtorEq, seval, -List.reduceReplicate, fpOf, freeNext, opW, binI, ev1, Heap.write, setAll, unI, eqKs, eqK, fillI] at g0
  have kH1 : Keep H.n H H1 := ⟨by omega, fun x hx _ => by
    have gx := congrArg (fun h0 => Heap.get h0 x) hH_H1.symm
    simp (disch := omega) only [BAS, ↓BPR, reduceIte, reduceCtorEq, seval, -List.reduceReplicate, fpOf, freeNext, opW, binI, ev1, Heap.write, setAll, unI, eqKs, eqK, fillI] at gx
    exact gx⟩
  clear hH_H1
  have hf1 := hf.keep kH1
  have hb1 := hb.keep kH1
  have r0 := read_get g0
  refine W_inv (fun k fr H' => ∃ i, i + k = fs.length ∧ H' = H1 ∧ (∀ l ∈ fs.take i, l.length ≤ 6) ∧ fr.marks = [] ∧ fr.tm.length = 94 ∧ fr.tm.getD 1 IV.undef = .int .i64 r ∧ fr.tm.getD 2 IV.undef = .ptr H.n 0 ∧ fr.tm.getD 4 IV.undef = .bool false ∧ fr.tm.getD 5 IV.undef = .int .i64 i) ?_ fs.length ⟨0, by omega, rfl, by simp, rfl, rfl, rfl, rfl, rfl, rfl⟩
  rintro k ⟨tm, mk⟩ H' ⟨i, hik, rfl, h6, rfl, htm, t1, t2, t4, t5⟩ L hN hJ
  rw [expl94 tm htm, t1, t2, t4, t5]
  by_cases hi : i < fs.length
  · obtain ⟨w, r1, s1, _⟩ := hf1.elem i hi
    by_cases hl : fs[i].length > 6
    · have g3 : ((fs[i].length : Int) > 6) = True := by simp; omega
      simp (disch := omega) only [BAS, ↓BPR, reduceIte, reduceCtorEq, seval, -List.reduceReplicate, fpOf, freeNext, opW, binI, ev1, Heap.write, setAll, unI, eqKs, eqK, fillI, wF6o0, F6p0, wF6o1, F6p1, wF6o2, F6p2, wF6o3, F6p3, wF6o4, F6p4, wF6o5, F6p5, wF6o6, F6p6, wF6o7, F6p7, F6l8, wF6o9, F6p9, wF6o10, F6p10, wF6o11, F6p11, wF6o12, F6p12, wF6o13, F6p13, F6p15, wF6o16, F6p16, wF6o17, F6p17, wF6o18, F6p18, wF6o19, F6p19, wF6o20, F6p20, wF6o21, F6p21, F6b, F6, r0, ↓hf1.ln, ↓hf1.idx, r1, ↓s1.ln, g3]
      refine lv _ kH1 _ ?_
      simp (disch := omega) only [BAS, ↓BPR, reduceIte, reduceCtorEq, seval, -List.reduceReplicate, fpOf, freeNext, opW, binI, ev1, Heap.write, setAll, unI, eqKs, eqK, fillI, wF6o0, F6p0, wF6o1, F6p1, wF6o2, F6p2, wF6o3, F6p3, wF6o4, F6p4, wF6o5, F6p5, wF6o6, F6p6, wF6o7, F6p7, F6l8, wF6o9, F6p9, wF6o10, F6p10, wF6o11, F6p11, wF6o12, F6p12, wF6o13, F6p13, F6p15, wF6o16, F6p16, wF6o17, F6p17, wF6o18, F6p18, wF6o19, F6p19, wF6o20, F6p20, wF6o21, F6p21, F6b, F6, hJ]
    · have g3 : ((fs[i].length : Int) > 6) = False := by simp; omega
      simp (disch := omega) only [BAS, ↓BPR, reduceIte, reduceCtorEq, seval, -List.reduceReplicate, fpOf, freeNext, opW, binI, ev1, Heap.write, setAll, unI, eqKs, eqK, fillI, wF6o0, F6p0, wF6o1, F6p1, wF6o2, F6p2, wF6o3, F6p3, wF6o4, F6p4, wF6o5, F6p5, wF6o6, F6p6, wF6o7, F6p7, F6l8, wF6o9, F6p9, wF6o10, F6p10, wF6o11, F6p11, wF6o12, F6p12, wF6o13, F6p13, F6p15, wF6o16, F6p16, wF6o17, F6p17, wF6o18, F6p18, wF6o19, F6p19, wF6o20, F6p20, wF6o21, F6p21, F6b, F6, r0, ↓hf1.ln, ↓hf1.idx, r1, ↓s1.ln, g3]
      refine hN (k - 1) _ _ (by omega) ⟨i + 1, by omega, rfl, fun l hl' => ?_, rfl, rfl, rfl, rfl, rfl, rfl⟩
      rw [List.take_succ_eq_append_getElem hi, List.mem_append, List.mem_singleton] at hl'
      rcases hl' with hl' | rfl
      · exact h6 l hl'
      · omega
  rw [List.take_of_length_le (by omega)] at h6
  clear hN
  simp (disch := omega) only [BAS, ↓BPR, reduceIte, reduceCtorEq, seval, -List.reduceReplicate, fpOf, freeNext, opW, binI, ev1, Heap.write, setAll, unI, eqKs, eqK, fillI, wF6o0, F6p0, wF6o1, F6p1, wF6o2, F6p2, wF6o3, F6p3, wF6o4, F6p4, wF6o5, F6p5, wF6o6, F6p6, wF6o7, F6p7, F6l8, wF6o9, F6p9, wF6o10, F6p10, wF6o11, F6p11, wF6o12, F6p12, wF6o13, F6p13, F6p15, wF6o16, F6p16, wF6o17, F6p17, wF6o18, F6p18, wF6o19, F6p19, wF6o20, F6p20, wF6o21, F6p21, F6b, F6, r0, ↓hf1.ln, hJ]
  refine W_inv (fun k fr Hc => ∃ i, i + k = bs.length ∧ Hc = H' ∧ (∀ l ∈ bs.take i, l.length ≤ 6) ∧ fr.marks = [] ∧ fr.tm.length = 94 ∧ fr.tm.getD 1 IV.undef = .int .i64 r ∧ fr.tm.getD 2 IV.undef = .ptr H.n 0 ∧ fr.tm.getD 4 IV.undef = .bool false ∧ fr.tm.getD 6 IV.undef = .int .i64 i) ?_ bs.length ⟨0, by omega, rfl, by simp, rfl, rfl, rfl, rfl, rfl, rfl⟩
  clear hJ htm t1 t2 t4 t5
  rintro k ⟨tm, mk⟩ Hc ⟨i, hik, rfl, h6', rfl, htm, t1, t2, t4, t6⟩ L hN hJ
  rw [expl94 tm htm, t1, t2, t4, t6]
  by_cases hi : i < bs.length
  · obtain ⟨w, r1, s1, _⟩ := hb1.elem i hi
    by_cases hl : bs[i].length > 6
    · have g3 : ((bs[i].length : Int) > 6) = True := by simp; omega
      simp (disch := omega) only [BAS, ↓BPR, reduceIte, reduceCtorEq, seval, -List.reduceReplicate, fpOf, freeNext, opW, binI, ev1, Heap.write, setAll, unI, eqKs, eqK, fillI, wF6o0, F6p0, wF6o1, F6p1, wF6o2, F6p2, wF6o3, F6p3, wF6o4, F6p4, wF6o5, F6p5, wF6o6, F6p6, wF6o7, F6p7, F6l8, wF6o9, F6p9, wF6o10, F6p10, wF6o11, F6p11, wF6o12, F6p12, wF6o13, F6p13, F6l14, F6p15, wF6o16, F6p16, wF6o17, F6p17, wF6o18, F6p18, wF6o19, F6p19, wF6o20, F6p20, wF6o21, F6p21, F6b, F6, r0, ↓hb1.ln, ↓hb1.idx, r1, ↓s1.ln, g3]
      refine lv _ kH1 _ ?_
      simp (disch := omega) only [BAS, ↓BPR, reduceIte, reduceCtorEq, seval, -List.reduceReplicate, fpOf, freeNext, opW, binI, ev1, Heap.write, setAll, unI, eqKs, eqK, fillI, wF6o0, F6p0, wF6o1, F6p1, wF6o2, F6p2, wF6o3, F6p3, wF6o4, F6p4, wF6o5, F6p5, wF6o6, F6p6, wF6o7, F6p7, F6l8, wF6o9, F6p9, wF6o10, F6p10, wF6o11, F6p11, wF6o12, F6p12, wF6o13, F6p13, F6l14, F6p15, wF6o16, F6p16, wF6o17, F6p17, wF6o18, F6p18, wF6o19, F6p19, wF6o20, F6p20, wF6o21, F6p21, F6b, F6, hJ]
    · have g3 : ((bs[i].length : Int) > 6) = False := by simp; omega
      simp (disch := omega) only [BAS, ↓BPR, reduceIte, reduceCtorEq, seval, -List.reduceReplicate, fpOf, freeNext, opW, binI, ev1, Heap.write, setAll, unI, eqKs, eqK, fillI, wF6o0, F6p0, wF6o1, F6p1, wF6o2, F6p2, wF6o3, F6p3, wF6o4, F6p4, wF6o5, F6p5, wF6o6, F6p6, wF6o7, F6p7, F6l8, wF6o9, F6p9, wF6o10, F6p10, wF6o11, F6p11, wF6o12, F6p12, wF6o13, F6p13, F6l14, F6p15, wF6o16, F6p16, wF6o17, F6p17, wF6o18, F6p18, wF6o19, F6p19, wF6o20, F6p20, wF6o21, F6p21, F6b, F6, r0, ↓hb1.ln, ↓hb1.idx, r1, ↓s1.ln, g3]
      refine hN (k - 1) _ _ (by omega) ⟨i + 1, by omega, rfl, fun l hl' => ?_, rfl, rfl, rfl, rfl, rfl, rfl⟩
      rw [List.take_succ_eq_append_getElem hi, List.mem_append, List.mem_singleton] at hl'
      rcases hl' with hl' | rfl
      · exact h6' l hl'
      · omega
  rw [List.take_of_length_le (by omega)] at h6'
  have hlf : ∀ l ∈ fs, l.length ≤ 1000000 := fun l hl => by have := h6 l hl; omega
  have hlb : ∀ l ∈ bs, l.length ≤ 1000000 := fun l hl => by have := h6' l hl; omega
  simp (disch := omega) only [BAS, ↓BPR, reduceIte, reduceCtorEq, seval, -List.reduceReplicate, fpOf, freeNext, opW, binI, ev1, Heap.write, setAll, unI, eqKs, eqK, fillI, B6, F6l8, F6l14, r0, ↓hb1.ln, hJ]
  rw [show IV.agg [f.iv, b.iv] = bv f b from rfl]
  refine check_sp hf1 hb1 (by omega) (by omega) hlf hlb (by omega) fun H2 k2 => ?_
  have hn2 := k2.1
  replace g0 := (k2.2 _ (by omega) (by omega)).trans g0
  have r2 := read_get g0
  have kk2 : Keep H.n H H2 := kH1.trans (k2.lower (by omega))
  by_cases hc : checkE fs bs = 0
  · simp (disch := omega) only [BAS, ↓BPR, reduceIte, reduceCtorEq, seval, -List.reduceReplicate, fpOf, freeNext, opW, binI, ev1, Heap.write, setAll, unI, eqKs, eqK, fillI, B6, hc]
    refine lv _ kk2 _ ?_
    simp (disch := omega) only [BAS, ↓BPR, reduceIte, reduceCtorEq, seval, -List.reduceReplicate, fpOf, freeNext, opW, binI, ev1, Heap.write, setAll, unI, eqKs, eqK, fillI, B6]
  have e0 : (checkE fs bs == 0) = false := by simp [hc]
  have eo : ∀ r, ocheckE fs bs r = checkE fs bs := fun r => by unfold ocheckE; rw [if_pos hc]
  have es : ∀ r d, stepE fs bs r d = checkE fs bs := fun r d => by unfold stepE; rw [eo, if_pos hc]
  have em : ∀ r d p, meetsE fs bs r d p = checkE fs bs := fun r d p => by unfold meetsE; rw [es, if_pos hc]
  simp (disch := omega) only [BAS, ↓BPR, reduceIte, reduceCtorEq, seval, -List.reduceReplicate, fpOf, freeNext, opW, binI, ev1, Heap.write, setAll, unI, eqKs, eqK, fillI, B6, e0, r2]
  rw [show IV.agg [f.iv, b.iv] = bv f b from rfl]
  refine olist_sp r (hf1.keep k2) (hb1.keep k2) (by omega) (by omega) hlf hlb (by omega) (fun H3 k3 _ => ?_) fun H3 v l k3 h3 => absurd ((eo r).symm.trans h3) hc
  rw [eo]
  have hn3 := k3.1
  replace g0 := (k3.2 _ (by omega) (by omega)).trans g0
  have r3 := read_get g0
  have kk3 : Keep H.n H H3 := kk2.trans (k3.lower (by omega))
  simp (disch := omega) only [BAS, ↓BPR, reduceIte, reduceCtorEq, seval, -List.reduceReplicate, fpOf, freeNext, opW, binI, ev1, Heap.write, setAll, unI, eqKs, eqK, fillI, B6, r3]
  rw [show IV.agg [f.iv, b.iv] = bv f b from rfl]
  refine ostep_sp r 0 (ht.keep' kk3) ((hf1.keep k2).keep k3) ((hb1.keep k2).keep k3) (by omega) (by omega) hlf hlb (by omega) (by omega) (fun H4 k4 _ => ?_) fun H4 v k4 h4 => absurd ((es r 0).symm.trans h4) hc
  rw [es]
  have hn4 := k4.1
  replace g0 := (k4.2 _ (by omega) (by omega)).trans g0
  have r4 := read_get g0
  have kk4 : Keep H.n H H4 := kk3.trans (k4.lower (by omega))
  simp (disch := omega) only [BAS, ↓BPR, reduceIte, reduceCtorEq, seval, -List.reduceReplicate, fpOf, freeNext, opW, binI, ev1, Heap.write, setAll, unI, eqKs, eqK, fillI, B6, r4]
  rw [show IV.agg [f.iv, b.iv] = bv f b from rfl]
  refine omeets_sp r 1 8 (ht.keep' kk4) (((hf1.keep k2).keep k3).keep k4) (((hb1.keep k2).keep k3).keep k4) (by omega) (by omega) hlf hlb (by omega) (by omega) (fun H5 k5 _ => ?_) fun H5 v k5 h5 => absurd ((em r 1 8).symm.trans h5) hc
  rw [em]
  have kk5 : Keep H.n H H5 := kk4.trans (k5.lower (by omega))
  simp (disch := omega) only [BAS, ↓BPR, reduceIte, reduceCtorEq, seval, -List.reduceReplicate, fpOf, freeNext, opW, binI, ev1, Heap.write, setAll, unI, eqKs, eqK, fillI, B6]
  refine lv _ kk5 _ ?_
  simp (disch := omega) only [BAS, ↓BPR, reduceIte, reduceCtorEq, seval, -List.reduceReplicate, fpOf, freeNext, opW, binI, ev1, Heap.write, setAll, unI, eqKs, eqK, fillI, B6]
end Go.Iso.Gen
end
