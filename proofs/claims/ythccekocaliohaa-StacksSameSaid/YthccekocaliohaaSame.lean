/-
  ganseylaw03.StacksSame returns true for every input and leaves its arguments as they were; no condition.
-/
import Derived.Test.YthccekocaliohaaSameA
import Derived.Test.YthccekocaliohaaRow
set_option linter.unusedSimpArgs false
set_option linter.unusedVariables false

section
namespace Go.Iso.Gen
open Go.Iso
set_option maxHeartbeats 4000000
set_option maxRecDepth 10000

theorem short_more (ls : List (List Id)) (k : Nat) : shortL (ls ++ List.replicate k []) = shortL ls := by
  refine short_ext fun i => ?_
  rw [List.getD_eq_getElem?_getD, List.getD_eq_getElem?_getD]
  by_cases h : i < ls.length
  · rw [List.getElem?_append_left h]
  · rw [List.getElem?_append_right (by omega), List.getElem?_eq_none (l := ls) (by omega), List.getElem?_replicate]
    split <;> rfl
theorem beds_inj {t u : List (List Id)} (ht : t.length = 80) (hu : u.length = 80) : (shortL (bedF t) = shortL (bedF u) ∧ shortL (bedB t) = shortL (bedB u)) ↔ t = u := by
  refine ⟨fun ⟨h1, h2⟩ => tab_ext (by omega) fun j => ?_, fun h => by rw [h]; exact ⟨rfl, rfl⟩⟩
  have k1 := short_iff.1 h1
  have k2 := short_iff.1 h2
  unfold bedF at k1
  unfold bedB at k2
  by_cases hj : j < 40
  · have := k1 j
    rwa [shortL_getD, shortL_getD, getD_take _ _ _ hj, getD_take _ _ _ hj] at this
  · have := k2 (j - 40)
    rwa [shortL_getD, shortL_getD, getD_drop, getD_drop, show 40 + (j - 40) = j by omega] at this
theorem tm2 (a : Nat) : (a : Int).tmod 2 = ((a % 2 : Nat) : Int) := tmodN a 2
theorem tm4 (a : Nat) : (a : Int).tmod 4 = ((a % 4 : Nat) : Int) := tmodN a 4
theorem td4 (a : Nat) : (a : Int).tdiv 4 = ((a / 4 : Nat) : Int) := tdivN a 4

theorem same_rest {m0 m1 M A B lo : Nat} {va vb : List SV} {ta tb : List (List Id)} {H : Heap} {tm : List IV} (hlo : lo ≤ H.n) (hm : m0 ≤ 255) (hTa : Tab H va ta) (hTb : Tab H vb tb) (la : ∀ l ∈ ta, l.length ≤ 1000) (lb : ∀ l ∈ tb, l.length ≤ 1000) (gm : H.get M = some (.cells false 52 2 [.int .u8 m0, .int .u8 m1])) (ga : H.get A = some (.cells false 31 80 (flat va))) (gb : H.get B = some (.cells false 31 80 (flat vb))) (hM : M < H.n) (hA : A < H.n) (hB : B < H.n)
    (htm : tm.length = 104) (t5 : tm.getD 5 IV.undef = .ptr M 0) (t7 : tm.getD 7 IV.undef = .ptr A 0) (t8 : tm.getD 8 IV.undef = .ptr B 0) :
    W E0 lo (.code (.seq F6o7 (.seq (.seq F6o8 (.block 0 (.loop F6l13))) (.seq F6o14 (.seq (.seq F6o15 (.block 2 (.loop F6l20))) (.seq F6o21 .ret))))) none ⟨tm, []⟩) H (retC lo F6.results fun o _ => o = .val (.bool true)) := by
  have la6 : ∀ l ∈ ta, l.length ≤ 1000000 := fun l hl => by have := la l hl; omega
  have lb6 : ∀ l ∈ tb, l.length ≤ 1000000 := fun l hl => by have := lb l hl; omega
  have hva := hTa.1
  have hvb := hTb.1
  have hfa : (flat va).length = 80 := by rw [flat_length, z_SV]; omega
  have hka : (flat va).take 80 = flat va := List.take_of_length_le (by omega)
  have hfb : (flat vb).length = 80 := by rw [flat_length, z_SV]; omega
  have hkb : (flat vb).take 80 = flat vb := List.take_of_length_le (by omega)
  rw [expl104 tm htm, t5, t7, t8]
  simp (disch := omega) only [F6, F6b, W_seq, wF6o7, F6p7, W_segs_cons, freeI_s, W_op, wantedI_n, guardC_t, evalAll, IA.eval, optC_s, argC_a, nextOf, lowOf, goC_a, opW, ev1, pairC_p, opC_a, Fr.put, List.set, W_ops_nil, segC_n, W_segs_nil, thenC_n, wF6o8, F6p8, W_block]
  refine same_loop hlo hTa hTb la6 lb6 ga gb hA hB rfl rfl rfl rfl rfl rfl ?_
  intro H1 tm1 k1 htm1 u5 u7 u8 u10
  have hn1 := k1.1
  replace gm := (k1.2 _ (by omega) (by omega)).trans gm
  replace ga := (k1.2 _ (by omega) (by omega)).trans ga
  replace gb := (k1.2 _ (by omega) (by omega)).trans gb
  replace hTa := hTa.keep k1
  replace hTb := hTb.keep k1
  rw [expl104 tm1 htm1, u5, u7, u8, u10]
  have ra := read_get ga
  simp (disch := omega) only [List.getD_cons_succ, List.getD_cons_zero, blkC_e, thenC_n, W_seq, wF6o14, F6p14, W_segs_cons, freeI_f, W_op, wantedI_n, guardC_t, evalAll, IA.eval, optC_s, argC_a, nextOf, freeNext, fpOf, Option.getD_some, pairOk, ne_eq, List.all_nil, if_true, Option.map_some, lowOf, Bool.false_eq_true, if_false, goC_a, opW, ev1, ra, Nat.zero_add, hfa, Nat.le_refl, List.drop, hka, mkAgg, Option.bind_some, pairC_p, opC_a, Fr.put, List.set, List.all_cons, Bool.or_true, Bool.and_self, W_apply, List.nil_append, List.append_nil, thenC_j]
  refine bedsT_sp hTa la6 (by omega) fun H2 f b k2 s2 => ?_
  have hn2 := k2.1
  replace gm := (k2.2 _ (by omega) (by omega)).trans gm
  replace gb := (k2.2 _ (by omega) (by omega)).trans gb
  replace hTb := hTb.keep k2
  have rb := read_get gb
  simp (disch := omega) only [valC_v, opC_a, Fr.put, List.set, W_op, wantedI_n, guardC_t, evalAll, IA.eval, List.getD_cons_succ, List.getD_cons_zero, optC_s, argC_a, nextOf, freeNext, fpOf, Option.getD_some, pairOk, ne_eq, List.all_cons, Bool.or_true, List.all_nil, Bool.and_self, if_true, Option.map_some, lowOf, Bool.false_eq_true, if_false, goC_a, opW, ev1, rb, Nat.zero_add, hfb, Nat.le_refl, List.drop, hkb, mkAgg, Option.bind_some, pairC_p, W_apply, List.nil_append, List.append_nil]
  refine bedsT_sp hTb lb6 (by omega) fun H3 f' b' k3 s3 => ?_
  have hn3 := k3.1
  replace gm := (k3.2 _ (by omega) (by omega)).trans gm
  replace s2 := s2.keep k3
  simp (disch := omega) only [bv, valC_v, opC_a, Fr.put, List.set, W_op, wantedI_n, guardC_t, evalAll, optC_s, argC_a, nextOf, freeNext, fpOf, pairOk, ne_eq, List.all_cons, Bool.or_true, List.all_nil, Bool.and_self, if_true, Option.map_some, lowOf, Bool.false_eq_true, if_false, goC_a, opW, ev1, pairC_p, Heap.n_new, W_ops_nil, segC_n, W_segs_cons, freeI_s, IA.eval, List.getD_cons_succ, List.getD_cons_zero, cellsV_agg, List.length_cons, List.length_nil, Nat.zero_add, Nat.reduceAdd, Heap.write, Heap.get_new, cEqL, cLe, Nat.le_refl, SV.iv_one, and_true, splice, Heap.get_put, cEqR, W_segs_nil, thenC_n, W_seq]
  generalize hH_H4 : Heap.put _ _ _ = H4
  have hnH4 : H4.n = H3.n + 2 := by rw [← hH_H4]; rfl
  have gp := congrArg (fun h0 => Heap.get h0 (H3.n)) hH_H4.symm
  simp (disch := omega) only [Heap.get_put, cEqL, Heap.get_new, Heap.n_new, if_true, if_false] at gp
  have gq := congrArg (fun h0 => Heap.get h0 (H3.n + 1)) hH_H4.symm
  simp (disch := omega) only [Heap.get_put, cEqR, Heap.get_new, Heap.n_new, if_false, if_true] at gq
  have kH4 : Keep H3.n H3 H4 := ⟨by omega, fun x hx _ => by
    have gx := congrArg (fun h0 => Heap.get h0 x) hH_H4.symm
    simp (disch := omega) only [Heap.get_put, cEqL, Heap.get_new, Heap.n_new, if_false] at gx
    exact gx⟩
  clear hH_H4
  replace gm := (kH4.2 _ (by omega) (by omega)).trans gm
  have kk : ∀ x, x < H3.n → H4.get x = H3.get x := fun x hx => kH4.2 x hx hx
  obtain ⟨uf, v1, hv1⟩ := gr_of s2.1 s2.2.2.1 (Nat.le_refl _)
  obtain ⟨ub, w1, hw1⟩ := gr_of s3.2.1 s3.2.2.2 (Nat.le_refl _)
  have v4 := v1.same (H2 := H4) (Nat.le_refl _) (by omega) fun x hx _ => kk x hx
  have w4 := w1.same (H2 := H4) (Nat.le_refl _) (by omega) fun x hx _ => kk x hx
  have hv4 := hv1.same (H2 := H4) (by omega) kk
  have hw4 := hw1.same (H2 := H4) (by omega) kk
  have lf := bedF_len ta
  have lb' := bedB_len hTb.2.1
  have lfb := bedF_len tb
  have lba := bedB_len hTa.2.1
  have huf := hv1.1
  have hub := hw1.1
  have h5 : m0 % 5 ≤ 4 := by omega
  simp (disch := omega) only [wF6o15, F6p15, W_segs_cons, freeI_s, W_op, wantedI_n, guardC_t, evalAll, IA.eval, optC_s, argC_a, nextOf, lowOf, goC_a, opW, ev1, pairC_p, opC_a, Fr.put, List.set, W_ops_nil, segC_n, W_segs_nil, thenC_n, W_block]
  refine more_loop (P := H3.n) (Qb := H3.n + 1) (M := M) (m0 := m0) (m1 := m1) (v := f) (w := b') (f := b) (g := f') (by omega) rfl (by omega) (by omega) (by omega) (by omega) gm hm gp gq v4 w4 s2.2.2.1 s3.2.2.2 hv4 hw4 rfl rfl rfl rfl rfl rfl ?_
  intro H5 tm5 v5 w5 uf5 ub5 n5 k5 gp5 gq5 hv5 hw5 hhv5 hhw5 htm5 x10 x12 x13
  have pF : Sl2 H5 v5 (bedF ta ++ List.replicate (m0 % 5) []) := hhv5.sl2 hv5.sl
  have qB : Sl2 H5 w5 (bedB tb ++ List.replicate (m0 % 5) []) := hhw5.sl2 hw5.sl
  have k35 : Keep H3.n H3 H5 := ⟨by omega, fun x hx _ => (k5 x hx).trans (kk x hx)⟩
  have pB := (s2.2.1.keep k35).sl2
  have qF := (s3.1.keep k35).sl2
  have c1 := hv5.cut
  have c2 : Cut H5 b := Cut.tight s2.2.2.2
  have c3 : Cut H5 f' := Cut.tight s3.2.2.1
  have c4 := hw5.cut
  have z1 : (bedF ta ++ List.replicate (m0 % 5) []).length ≤ 1000000 ∧ ∀ x ∈ bedF ta ++ List.replicate (m0 % 5) [], x.length ≤ 1000000 := ⟨by simp; omega, fun x hx => by
    rcases List.mem_append.1 hx with hx | hx
    · exact la6 x (bedF_mem hx)
    · rw [(List.mem_replicate.1 hx).2]; simp⟩
  have z2 : (bedB tb ++ List.replicate (m0 % 5) []).length ≤ 1000000 ∧ ∀ x ∈ bedB tb ++ List.replicate (m0 % 5) [], x.length ≤ 1000000 := ⟨by simp; omega, fun x hx => by
    rcases List.mem_append.1 hx with hx | hx
    · exact lb6 x (bedB_mem hx)
    · rw [(List.mem_replicate.1 hx).2]; simp⟩
  have z3 : (bedB ta).length ≤ 1000000 ∧ ∀ x ∈ bedB ta, x.length ≤ 1000000 := ⟨by omega, fun x hx => la6 x (bedB_mem hx)⟩
  have z4 : (bedF tb).length ≤ 1000000 ∧ ∀ x ∈ bedF tb, x.length ≤ 1000000 := ⟨by omega, fun x hx => lb6 x (bedF_mem hx)⟩
  have hS1 : decide (shortL (bedF ta ++ List.replicate (m0 % 5) []) = shortL (bedF tb) ∧ shortL (bedB ta) = shortL (bedB tb ++ List.replicate (m0 % 5) [])) = decide (ta = tb) := by
    rw [short_more, short_more, decide_eq_decide]
    exact beds_inj hTa.2.1 hTb.2.1
  have hS2 : decide (shortL (bedF tb) = shortL (bedF ta ++ List.replicate (m0 % 5) []) ∧ shortL (bedB tb ++ List.replicate (m0 % 5) []) = shortL (bedB ta)) = decide (ta = tb) := by
    rw [short_more, short_more, decide_eq_decide]
    exact (beds_inj hTb.2.1 hTa.2.1).trans ⟨Eq.symm, Eq.symm⟩
  generalize decide (ta = tb) = eq at *
  rw [expl104 tm5 htm5, x10, x12, x13]
  have rp := read_get gp5
  have rq := read_get gq5
  simp (disch := omega) only [List.getD_cons_succ, List.getD_cons_zero, blkC_e, thenC_n, W_seq, wF6o21, F6p21, W_segs_cons, freeI_s, W_op, wantedI_n, guardC_t, evalAll, IA.eval, optC_s, argC_a, nextOf, lowOf, goC_a, opW, ev1, Option.getD_some, rp, Nat.zero_add, List.length_cons, List.length_nil, Nat.reduceAdd, Nat.le_refl, List.drop, List.take_succ_cons, List.take, if_true, mkAgg, Option.map_some, Option.bind_some, pairC_p, opC_a, Fr.put, List.set, rq, W_apply, List.nil_append, List.append_nil, thenC_j]
  rw [show IV.agg [v5.iv, b.iv] = bv v5 b from rfl, show IV.agg [f'.iv, w5.iv] = bv f' w5 from rfl]
  refine Same_sp pF pB qF qB c1 c2 c3 c4 z1 z3 z4 z2 (by omega) fun H6 k6 => ?_
  rw [hS1]
  have hn6 := k6.1
  replace gp5 := (k6.2 _ (by omega) (by omega)).trans gp5
  replace gq5 := (k6.2 _ (by omega) (by omega)).trans gq5
  have rp := read_get gp5
  have rq := read_get gq5
  have ebe : (eq == eq) = true := by simp
  simp (disch := omega) only [valC_v, opC_a, Fr.put, List.set, W_op, wantedI_n, guardC_t, evalAll, IA.eval, List.getD_cons_succ, List.getD_cons_zero, optC_s, argC_a, nextOf, lowOf, goC_a, opW, ev1, pairC_p, beq_self_eq_true, Bool.false_bne, wantedI_s, wantV_b, Option.getD_some, rq, Nat.zero_add, List.length_cons, List.length_nil, Nat.reduceAdd, Nat.le_refl, List.drop, List.take_succ_cons, List.take, if_true, mkAgg, Option.map_some, Option.bind_some, rp, W_apply, List.nil_append, List.append_nil]
  rw [show IV.agg [v5.iv, b.iv] = bv v5 b from rfl, show IV.agg [f'.iv, w5.iv] = bv f' w5 from rfl]
  refine Same_sp (qF.keep k6) (qB.keep k6) (pF.keep k6) (pB.keep k6) (c3.keep k6) (c4.keep k6) (c1.keep k6) (c2.keep k6) z4 z2 z1 z3 (by omega) fun H7 k7 => ?_
  rw [hS2]
  have hn7 := k7.1
  replace gp5 := (k7.2 _ (by omega) (by omega)).trans gp5
  replace gq5 := (k7.2 _ (by omega) (by omega)).trans gq5
  have rp := read_get gp5
  have rq := read_get gq5
  simp (disch := omega) only [valC_v, opC_a, Fr.put, List.set, W_op, wantedI_s, List.getD_cons_succ, List.getD_cons_zero, wantV_b, beq_self_eq_true, guardC_t, evalAll, IA.eval, optC_s, argC_a, nextOf, lowOf, goC_a, opW, ev1, pairC_p, Bool.false_bne, wantedI_n, if_true, Option.getD_some, rp, Nat.zero_add, List.length_cons, List.length_nil, Nat.reduceAdd, Nat.le_refl, List.drop, List.take_succ_cons, List.take, mkAgg, Option.map_some, Option.bind_some, W_apply, List.nil_append, List.append_nil]
  rw [show IV.agg [v5.iv, b.iv] = bv v5 b from rfl]
  have k67 := k6.trans (k7.lower hn6)
  refine Same_sp (pF.keep k67) (pB.keep k67) (pF.keep k67) (pB.keep k67) (c1.keep k67) (c2.keep k67) (c1.keep k67) (c2.keep k67) z1 z3 z1 z3 (by omega) fun H8 k8 => ?_
  rw [decide_eq_true ⟨rfl, rfl⟩]
  simp (disch := omega) only [valC_v, opC_a, Fr.put, List.set, W_op, wantedI_n, guardC_t, evalAll, IA.eval, List.getD_cons_succ, List.getD_cons_zero, optC_s, argC_a, nextOf, lowOf, goC_a, opW, ev1, if_true, pairC_p, wantedI_s, wantV_b, beq_self_eq_true, W_apply, List.append_nil]
  refine c16 ?_
  simp (disch := omega) only [valC_v, opC_a, Fr.put, List.set, W_op, wantedI_n, guardC_t, evalAll, IA.eval, List.getD_cons_succ, List.getD_cons_zero, optC_s, argC_a, nextOf, lowOf, goC_a, opW, ev1, if_true, pairC_p, W_ops_nil, segC_n, W_segs_nil, thenC_n, W_ret, retC_r, unmark, leaveC_a, resultsOf, resultOf, valsC_a, tupled]
end Go.Iso.Gen
end

section
namespace Go.Iso.Gen
open Go.Iso
set_option maxHeartbeats 4000000
set_option maxRecDepth 10000

/-- A list is appended to an empty slice, and later another one. -/
theorem append_then {α : Type} [Cell α] {H : Heap} {e b lo : Nat} {m1 : List α} {v1 : SV} (h1 : Sl H v1 m1) {z : Nat} (hz : Cell.z α = z) (bytes : Nat) (hb : m1.length * (bytes + 1) ≤ 2 ^ 40) (hlo : lo ≤ H.n) (hbn : b < H.n) :
    ∃ H1 c1 ex, ev1 (.append e z bytes) [.slice b 0 0 0 true, v1.iv] lo H = some (.slice c1 0 m1.length m1.length ex, H1) ∧ Keep H.n H H1 ∧
      ∀ (H1' : Heap) (v2 : SV) (m2 : List α), Keep H1.n H1 H1' → Sl H1' v2 m2 → (m1.length + m2.length) * (bytes + 1) ≤ 2 ^ 40 → m2 ≠ [] → ∃ H2 u2, ev1 (.append e z bytes) [.slice c1 0 m1.length m1.length ex, v2.iv] lo H1' = some (SV.iv u2, H2) ∧ H1'.n ≤ H2.n ∧ (∀ x, x < H.n → H2.get x = H1'.get x) ∧ Sl H2 u2 (m1 ++ m2) ∧ H.n ≤ u2.blk := by
  have hs : Sl H (.sl b 0 ([] : List α).length 0 true) ([] : List α) := ⟨rfl, Nat.le_refl _, fun h => absurd rfl h⟩
  by_cases hm : m1 = []
  · subst hm
    refine ⟨H, b, true, ?_, Keep.refl _ _, fun H1' v2 m2 k h2 hb2 hm2 => ?_⟩
    · simp only [ev1, h1.lenI, h1.srcI hz, Option.bind_some, appendI]
      rw [if_neg (by rw [flat_all]; decide)]
      rfl
    · rw [List.length_nil, Nat.zero_add] at hb2
      obtain ⟨H2, u2, a1, a2, a3, a4⟩ := append_e0 (e := e) h2 hz bytes lo b hb2
      have := a4 hm2
      have := k.1
      exact ⟨H2, u2, a1, a2.1, fun x hx => a2.2 x (by omega) (by omega), a3, by omega⟩
  · obtain ⟨H1, e1, e2, e3, e4⟩ := append_full (e := e) hs h1 hz bytes lo hm (by rw [List.length_nil]; have : 0 < m1.length := List.length_pos_iff.2 hm; omega) (by rw [List.length_nil, Nat.zero_add]; exact hb)
    simp only [List.length_nil, Nat.zero_add, List.nil_append] at e1 e4
    refine ⟨H1, H.n, false, e1, e3, fun H1' v2 m2 k h2 hb2 hm2 => ?_⟩
    obtain ⟨H2, a1, a2, a3, a4⟩ := append_grow (n := m1.length) (e4.keep k) rfl h2 hz bytes lo hm2 hb2 hlo
    have := k.1
    refine ⟨H2, .sl H1'.n 0 (m1.length + m2.length) (m1.length + m2.length) false, a1, by omega, fun x hx => a3 x (by omega) (by omega), ?_, by rw [SV.blk_sl]; omega⟩
    rw [← List.length_append]; rw [← List.length_append] at a4; exact a4.sl false

theorem stacksSame_run {x y : SV} {xs ys : List Pt} (m0 m1 : Nat) {H : Heap} (hx : Sl H x xs) (hxb : ∀ p ∈ xs, p.a ≤ 255 ∧ p.m ≤ 255) (hy : Sl H y ys) (hyb : ∀ p ∈ ys, p.a ≤ 255 ∧ p.m ≤ 255) (hm0 : m0 ≤ 255) (hm1 : m1 ≤ 255) : W E0 H.n (.call 6 [x.iv, y.iv, .agg [.int .u8 m0, .int .u8 m1]]) H (fun o _ => o = .val (.bool true)) := by
  rw [c6]
  simp (disch := omega) only [F6b, F6, List.length_cons, List.length_nil, Nat.zero_add, Nat.reduceAdd, Nat.reduceSub, undefs, List.cons_append, List.nil_append, W_seq, wF6o0, F6p0, W_segs_cons, freeI_s, W_op, wantedI_n, guardC_t, evalAll, IA.eval, List.getD_cons_succ, List.getD_cons_zero, optC_s, argC_a, nextOf, lowOf, goC_a, opW, ev1, cellsV_agg, pairC_p, opC_a, Fr.put, List.set, W_ops_nil, segC_n, W_segs_nil, thenC_n, wF6o1, F6p1, W_apply, List.append_nil]
  generalize hH_H1 : Heap.new _ _ = H1
  have hnH1 : H1.n = H.n + 1 := by rw [← hH_H1]; rfl
  have gm := congrArg (fun h0 => Heap.get h0 (H.n)) hH_H1.symm
  simp (disch := omega) only [Heap.get_new, if_true] at gm
  have kH1 : Keep H.n H H1 := ⟨by omega, fun x hx _ => by
    have gx := congrArg (fun h0 => Heap.get h0 x) hH_H1.symm
    simp (disch := omega) only [Heap.get_new, cEqL, if_false] at gx
    exact gx⟩
  clear hH_H1
  refine of_sp (hx.keep kH1) hxb (by omega) (fun i _ => good_all xs i) fun H2 va k2 hT2 => ?_
  have hn2 := k2.1
  replace gm := (k2.2 _ (by omega) (by omega)).trans gm
  have hVa := ofT_valid xs
  simp (disch := omega) only [valC_v, opC_a, Fr.put, List.set, W_op, wantedI_n, guardC_t, evalAll, IA.eval, List.getD_cons_succ, List.getD_cons_zero, optC_s, argC_a, nextOf, lowOf, goC_a, opW, ev1, pairC_p, W_apply, List.nil_append, List.append_nil]
  refine of_sp ((hy.keep kH1).keep k2) hyb (by omega) (fun i _ => good_all ys i) fun H3 vb k3 hT3 => ?_
  have hn3 := k3.1
  replace gm := (k3.2 _ (by omega) (by omega)).trans gm
  have hVb := ofT_valid ys
  have hTa := hT2.tab.keep k3
  have hTb := hT3.tab
  generalize (ofT xs).1 = ta at *
  generalize (ofT ys).1 = tb at *
  have hva := hTa.1
  have hvb := hTb.1
  have hta := hTa.2.1
  have hfa : (flat va).length = 80 := by rw [flat_length, z_SV]; omega
  have hka : (flat va).take 80 = flat va := List.take_of_length_le (by omega)
  have hfb : (flat vb).length = 80 := by rw [flat_length, z_SV]; omega
  have hala := flat_all va
  have halb := flat_all vb
  have hspa : splice [IV.nilSlice, IV.nilSlice, IV.nilSlice, IV.nilSlice, IV.nilSlice, IV.nilSlice, IV.nilSlice, IV.nilSlice, IV.nilSlice, IV.nilSlice, IV.nilSlice, IV.nilSlice, IV.nilSlice, IV.nilSlice, IV.nilSlice, IV.nilSlice, IV.nilSlice, IV.nilSlice, IV.nilSlice, IV.nilSlice, IV.nilSlice, IV.nilSlice, IV.nilSlice, IV.nilSlice, IV.nilSlice, IV.nilSlice, IV.nilSlice, IV.nilSlice, IV.nilSlice, IV.nilSlice, IV.nilSlice, IV.nilSlice, IV.nilSlice, IV.nilSlice, IV.nilSlice, IV.nilSlice, IV.nilSlice, IV.nilSlice, IV.nilSlice, IV.nilSlice, IV.nilSlice, IV.nilSlice, IV.nilSlice, IV.nilSlice, IV.nilSlice, IV.nilSlice, IV.nilSlice, IV.nilSlice, IV.nilSlice, IV.nilSlice, IV.nilSlice, IV.nilSlice, IV.nilSlice, IV.nilSlice, IV.nilSlice, IV.nilSlice, IV.nilSlice, IV.nilSlice, IV.nilSlice, IV.nilSlice, IV.nilSlice, IV.nilSlice, IV.nilSlice, IV.nilSlice, IV.nilSlice, IV.nilSlice, IV.nilSlice, IV.nilSlice, IV.nilSlice, IV.nilSlice, IV.nilSlice, IV.nilSlice, IV.nilSlice, IV.nilSlice, IV.nilSlice, IV.nilSlice, IV.nilSlice, IV.nilSlice, IV.nilSlice, IV.nilSlice] 0 (flat va) = flat va := tab_splice hva _ rfl
  have hspb : splice [IV.nilSlice, IV.nilSlice, IV.nilSlice, IV.nilSlice, IV.nilSlice, IV.nilSlice, IV.nilSlice, IV.nilSlice, IV.nilSlice, IV.nilSlice, IV.nilSlice, IV.nilSlice, IV.nilSlice, IV.nilSlice, IV.nilSlice, IV.nilSlice, IV.nilSlice, IV.nilSlice, IV.nilSlice, IV.nilSlice, IV.nilSlice, IV.nilSlice, IV.nilSlice, IV.nilSlice, IV.nilSlice, IV.nilSlice, IV.nilSlice, IV.nilSlice, IV.nilSlice, IV.nilSlice, IV.nilSlice, IV.nilSlice, IV.nilSlice, IV.nilSlice, IV.nilSlice, IV.nilSlice, IV.nilSlice, IV.nilSlice, IV.nilSlice, IV.nilSlice, IV.nilSlice, IV.nilSlice, IV.nilSlice, IV.nilSlice, IV.nilSlice, IV.nilSlice, IV.nilSlice, IV.nilSlice, IV.nilSlice, IV.nilSlice, IV.nilSlice, IV.nilSlice, IV.nilSlice, IV.nilSlice, IV.nilSlice, IV.nilSlice, IV.nilSlice, IV.nilSlice, IV.nilSlice, IV.nilSlice, IV.nilSlice, IV.nilSlice, IV.nilSlice, IV.nilSlice, IV.nilSlice, IV.nilSlice, IV.nilSlice, IV.nilSlice, IV.nilSlice, IV.nilSlice, IV.nilSlice, IV.nilSlice, IV.nilSlice, IV.nilSlice, IV.nilSlice, IV.nilSlice, IV.nilSlice, IV.nilSlice, IV.nilSlice, IV.nilSlice] 0 (flat vb) = flat vb := tab_splice hvb _ rfl
  have hspab : splice (flat vb) 0 (flat va) = flat va := tab_splice hva _ hfb
  clear hT2 hT3 k2 k3
  simp (disch := omega) only [valC_v, opC_a, Fr.put, List.set, W_op, wantedI_n, guardC_t, evalAll, optC_s, argC_a, nextOf, lowOf, goC_a, opW, ev1, pairC_p, Heap.n_new, IA.eval, List.getD_cons_succ, List.getD_cons_zero, cellsV_agg, hfa, Heap.write, Heap.get_new, cEqL, if_true, if_false, cLe, Nat.zero_add, List.length_cons, List.length_nil, Nat.reduceAdd, Nat.le_refl, hala, and_true, hspa, Option.map_some, hfb, Heap.get_put, cEqR, halb, hspb, W_ops_nil, segC_n, W_segs_nil, thenC_n, W_seq]
  generalize hH_H4 : Heap.put _ _ _ = H4
  have hnH4 : H4.n = H3.n + 2 := by rw [← hH_H4]; rfl
  have ga := congrArg (fun h0 => Heap.get h0 (H3.n)) hH_H4.symm
  simp (disch := omega) only [Heap.get_put, cEqL, Heap.get_new, Heap.n_new, if_true, if_false] at ga
  have gb := congrArg (fun h0 => Heap.get h0 (H3.n + 1)) hH_H4.symm
  simp (disch := omega) only [Heap.get_put, cEqR, Heap.get_new, Heap.n_new, if_false, if_true] at gb
  have kH4 : Keep H3.n H3 H4 := ⟨by omega, fun x hx _ => by
    have gx := congrArg (fun h0 => Heap.get h0 x) hH_H4.symm
    simp (disch := omega) only [Heap.get_put, cEqL, Heap.get_new, Heap.n_new, if_false] at gx
    exact gx⟩
  clear hH_H4
  replace gm := (kH4.2 _ (by omega) (by omega)).trans gm
  have hTa3 := hTa
  replace hTa := hTa.keep kH4
  replace hTb := hTb.keep kH4
  have la : ∀ l ∈ ta, l.length ≤ 1000 := fun l hl => by have := hVa.four l hl; omega
  have lb : ∀ l ∈ tb, l.length ≤ 1000 := fun l hl => by have := hVb.four l hl; omega
  have rm := read_get gm
  have ra := read_get ga
  have e2 := tm2 m1
  have e4 := tm4 m1
  have q4 := td4 m1
  by_cases c1 : m1 % 2 = 1
  case neg =>
    simp (disch := omega) only [wF6o2, F6p2, W_segs_cons, freeI_s, W_op, wantedI_n, guardC_t, evalAll, IA.eval, List.getD_cons_succ, List.getD_cons_zero, optC_s, argC_a, nextOf, lowOf, goC_a, opW, ev1, iLe, iLt, and_true, Int.reduceToNat, Nat.reduceMul, Nat.zero_add, if_true, pairC_p, opC_a, Fr.put, List.set, Option.getD_none, rm, Nat.reduceAdd, List.length_cons, List.length_nil, Nat.le_refl, List.drop, List.take_succ_cons, List.take, mkAgg, Option.bind_some, Option.map_some, binI, Int.reduceEq, e2, if_false, iBeqF, W_ops_nil, segC_n, W_segs_nil, thenC_n, W_cond, condC_f, W_skip, W_seq]
    rw [← W_seq]
    exact same_rest (by omega) hm0 hTa hTb la lb gm ga gb (by omega) (by omega) (by omega) rfl rfl rfl rfl
  have put5 : ∀ (H5 : Heap) (ob : IObj) (x : Nat), x ≠ H3.n + 1 → (H5.put (H3.n + 1) ob).get x = H5.get x := fun H5 ob x hx => by rw [Heap.get_put, if_neg (Ne.symm hx)]
  by_cases c2 : m1 % 4 = 3
  case neg =>
    simp (disch := omega) only [wF6o2, F6p2, W_segs_cons, freeI_s, W_op, wantedI_n, guardC_t, evalAll, IA.eval, List.getD_cons_succ, List.getD_cons_zero, optC_s, argC_a, nextOf, lowOf, goC_a, opW, ev1, iLe, iLt, and_true, Int.reduceToNat, Nat.reduceMul, Nat.zero_add, if_true, pairC_p, opC_a, Fr.put, List.set, Option.getD_none, rm, Nat.reduceAdd, List.length_cons, List.length_nil, Nat.le_refl, List.drop, List.take_succ_cons, List.take, mkAgg, Option.bind_some, Option.map_some, binI, Int.reduceEq, e2, if_false, iBeq, W_ops_nil, segC_n, W_segs_nil, thenC_n, W_cond, condC_t, W_seq, wF6o3, F6p3, Option.getD_some, ra, hfa, hka, cellsV_agg, Heap.write, gb, cLe, hfb, hala, hspab, wF6o4, F6p4, read_put, cEqL, readO_c, e4, iBeqF, condC_f, W_skip]
    rw [← W_seq]
    have kk5 : ∀ ob, Keep H3.n H3 (H4.put (H3.n + 1) ob) := fun ob => kH4.trans (.put _ _ (by omega))
    exact same_rest (by rw [Heap.n_put]; omega) hm0 (hTa3.keep (kk5 _)) (hTa3.keep (kk5 _)) la la ((put5 _ _ _ (by omega)).trans gm) ((put5 _ _ _ (by omega)).trans ga) (by rw [Heap.get_put, if_pos rfl]) (by rw [Heap.n_put]; omega) (by rw [Heap.n_put]; omega) (by rw [Heap.n_put]; omega) rfl rfl rfl rfl
  obtain ⟨i, hi⟩ : ∃ i, i = m1 / 4 := ⟨_, rfl⟩
  have hi80 : i < 80 := by omega
  have e80 : (i : Int).tmod 80 = (i : Int) := by rw [tm80, Nat.mod_eq_of_lt hi80]
  rw [← hi] at q4
  -- the heap in which the second table is a copy
  generalize hH5 : H4.put (H3.n + 1) (.cells false 31 80 (flat va)) = H5
  have n5 : H5.n = H4.n := by rw [← hH5]; rfl
  have k5 : Keep H3.n H3 H5 := by rw [← hH5]; exact kH4.trans (.put _ _ (by omega))
  have gm5 : H5.get H.n = _ := (by rw [← hH5]; exact put5 _ _ _ (by omega) : H5.get H.n = H4.get H.n).trans gm
  have ga5 : H5.get H3.n = _ := (by rw [← hH5]; exact put5 _ _ _ (by omega) : H5.get H3.n = H4.get H3.n).trans ga
  have gb5 : H5.get (H3.n + 1) = some (.cells false 31 80 (flat va)) := by rw [← hH5, Heap.get_put, if_pos rfl]
  have rm5 := read_get gm5
  simp (disch := omega) only [wF6o2, F6p2, W_segs_cons, freeI_s, W_op, wantedI_n, guardC_t, evalAll, IA.eval, List.getD_cons_succ, List.getD_cons_zero, optC_s, argC_a, nextOf, lowOf, goC_a, opW, ev1, iLe, iLt, and_true, Int.reduceToNat, Nat.reduceMul, Nat.zero_add, if_true, pairC_p, opC_a, Fr.put, List.set, Option.getD_none, rm, Nat.reduceAdd, List.length_cons, List.length_nil, Nat.le_refl, List.drop, List.take_succ_cons, List.take, mkAgg, Option.bind_some, Option.map_some, binI, Int.reduceEq, e2, if_false, iBeq, W_ops_nil, segC_n, W_segs_nil, thenC_n, W_cond, condC_t, W_seq, wF6o3, F6p3, Option.getD_some, ra, hfa, hka, cellsV_agg, Heap.write, gb, cLe, hfb, hala, hspab, hH5]
  have hT5 := hTa3.keep k5
  have si := hT5.2.2 i (by omega) (by omega)
  have l4 := la _ (List.getElem_mem (show i < ta.length by omega))
  have ri : (H5.new (.cells false 28 2 [])).read (H3.n + 1) (i * 1) 1 = some [va[i].iv] := by rw [read_new, if_neg (by omega)]; exact tab_read gb5 i (by omega)
  obtain ⟨H6, c6, ex6, e6, k6, a6⟩ := append_then (e := 28) (b := H5.n) (lo := H.n) (H := H5.new (.cells false 28 2 [])) (si.keep (Keep.new _ _)) z_Id 16 (by omega) (by rw [Heap.n_new]; omega) (by rw [Heap.n_new]; omega)
  have hn6 := k6.1
  rw [Heap.n_new] at hn6
  have g7 : (H6.new (.cells false 28 2 [.int .u8 6, .int .i64 9])).get H6.n = some (.cells false 28 2 [.int .u8 6, .int .i64 9]) := by rw [Heap.get_new, if_pos rfl]
  have s7 : Sl (H6.new (.cells false 28 2 [.int .u8 6, .int .i64 9])) (.sl H6.n 0 1 1 true) [(⟨6, 9⟩ : Id)] := (Own.mk' (l := [(⟨6, 9⟩ : Id)]) (by rw [Heap.n_new]; omega) z_Id g7 rfl).sl true
  obtain ⟨H8, u8, e8, n8, k8, s8, b8⟩ := a6 _ _ _ (Keep.new _ _) s7 (by simp; omega) (by simp)
  rw [SV.sl_iv] at e8
  rw [Heap.n_new] at n8 b8 k8
  have k58 : ∀ x, x < H5.n → H8.get x = H5.get x := fun x hx => by
    rw [k8 x (by omega), Heap.get_new, if_neg (by omega), k6.2 x (by rw [Heap.n_new]; omega) (by rw [Heap.n_new]; omega), Heap.get_new, if_neg (by omega)]
  have gb8 := (k58 _ (by omega)).trans gb5
  have hput := tab_put (vs := va) i (by omega) u8
  simp (disch := omega) only [wF6o4, F6p4, W_segs_cons, freeI_s, W_op, wantedI_n, guardC_t, evalAll, IA.eval, List.getD_cons_succ, List.getD_cons_zero, optC_s, argC_a, nextOf, lowOf, goC_a, opW, ev1, iLe, iLt, and_true, Int.reduceToNat, Nat.reduceMul, Nat.zero_add, if_true, pairC_p, opC_a, Fr.put, List.set, Option.getD_none, rm5, Nat.reduceAdd, List.length_cons, List.length_nil, Nat.le_refl, List.drop, List.take_succ_cons, List.take, mkAgg, Option.bind_some, Option.map_some, binI, Int.reduceEq, e4, if_false, iBeq, W_ops_nil, segC_n, W_segs_nil, thenC_n, W_cond, condC_t, W_seq, wF6o5, F6p5, q4, wU8, wI64, e80, wF6o6, F6p6, fillI, Int.toNat_natCast, ri, ↓e6, cellsV_int, cLe, splice, cellsV_agg, ↓e8, SV.iv_cells, Heap.write, gb8, hfa, List.all_cons, SV.iv_one, List.all_nil, Bool.and_self, hput]
  rw [← W_seq]
  have kk9 : ∀ ob, Keep H3.n H3 (H8.put (H3.n + 1) ob) := fun ob => k5.trans (.trans ⟨by omega, fun x hx _ => k58 x (by omega)⟩ (.put _ _ (by omega)))
  have s8' : ∀ ob, Sl (H8.put (H3.n + 1) ob) u8 (ta[i] ++ [⟨6, 9⟩]) := fun ob => s8.same (Nat.le_refl _) fun _ => put5 _ _ _ (by omega)
  refine same_rest (vb := va.set i u8) (tb := ta.set i (ta[i] ++ [⟨6, 9⟩])) (by rw [Heap.n_put]; omega) hm0 (hTa3.keep (kk9 _)) (tab_set (hTa3.keep (kk9 _)) i u8 _ (s8' _)) la ?_ ((put5 _ _ _ (by omega)).trans ((k58 _ (by omega)).trans gm5)) ((put5 _ _ _ (by omega)).trans ((k58 _ (by omega)).trans ga5)) (by rw [Heap.get_put, if_pos rfl]) (by rw [Heap.n_put]; omega) (by rw [Heap.n_put]; omega) (by rw [Heap.n_put]; omega) rfl rfl rfl rfl
  intro l hl
  rcases List.mem_or_eq_of_mem_set hl with hl | rfl
  · exact la l hl
  · have := hVa.four _ (List.getElem_mem (show i < ta.length by omega))
    simp; omega
end Go.Iso.Gen
end

section
namespace Go.Iso.Gen
open Go.Iso Go.Proofs
set_option maxRecDepth 100000
set_option maxHeartbeats 4000000

theorem rd_u8 {H : Heap} {c : List IV} {d : PD} (h : Rd H (.int .u8) c d) : ∃ x : Nat, c = [.int .u8 (x : Int)] ∧ x ≤ 255 := by
  cases h with
  | int k x hx =>
    have e1 : IntKind.u8.min = 0 := rfl
    have e2 : IntKind.u8.max = 255 := rfl
    rw [e1, e2] at hx
    exact ⟨x.toNat, by rw [Int.toNat_of_nonneg hx.1], by omega⟩
theorem rd_two {H : Heap} {c : List IV} {d : PD} (h : Rd H (.arr 2 (.int .u8)) c d) : ∃ x y : Nat, c = [.int .u8 (x : Int), .int .u8 (y : Int)] ∧ x ≤ 255 ∧ y ≤ 255 := by
  cases h with
  | arr n e css l he =>
    cases he with
    | cons h1 he =>
      cases he with
      | cons h2 he =>
        cases he
        obtain ⟨x, rfl, hx⟩ := rd_u8 h1
        obtain ⟨y, rfl, hy⟩ := rd_u8 h2
        exact ⟨x, y, rfl, hx, hy⟩

theorem params6 : Try.f6.params.toList.mapM (tyOf Try.prog 8) = some [.slice putT, .slice putT, .arr 2 (.int .u8)] := by kernel_rfl
theorem types6 : typesOk Try.prog Try.f6 = true := by kernel_rfl

theorem same_lifted (os : Os) (started : os.Started) (T : Type) (enc : TypeId × Value → T) :
    ReturnsInHanded {} Try.checked os 6 .any (Ythccekocaliohaa.Rows.stacksSameSpec.pre6 enc Try.prog Try.f6 [] false) (Ythccekocaliohaa.Rows.stacksSameSpec.post enc Try.prog Try.f6 false true false false) := by
  refine returnsInHanded_of_change (C := Try.checked) own_knob started (by kernel_rfl) Try.func6
    (ChangeSpec.witness6 (enc := enc) (C := Try.checked) false ⟨#[], #[.slice none 0 0, .slice none 0 0, .agg #[.int .u8 0, .int .u8 0]], []⟩ 8 (by kernel_rfl) (by kernel_rfl) (by kernel_rfl) (by kernel_rfl)) ?_
  intro W base args ds gs before hval hW _ _
  refine law_calls (P := Try.prog) (tb := 4) (s := Ythccekocaliohaa.Rows.stacksSameSpec) env0 rfl params6 (by kernel_rfl) (by kernel_rfl) types6 rfl ?_ (fun _ => True) ?_ W base args ds gs before hval hW trivial
  · intro T ds hd
    match ds, hd with
    | [a, b, c], _ => rfl
  · intro H css ds hro hrd _
    cases hrd with
    | cons h1 hrd =>
      cases hrd with
      | cons h2 hrd =>
        cases hrd with
        | cons h3 hrd =>
          cases hrd
          obtain ⟨v, l, rfl, hl, hx⟩ := rd_B hro h1
          obtain ⟨w, m, rfl, hm, hy⟩ := rd_B hro h2
          obtain ⟨m0, m1, rfl, hm0, hm1⟩ := rd_two h3
          obtain ⟨n, o, H', h, rfl⟩ := stacksSame_run m0 m1 hl hx hm hy hm0 hm1
          exact ⟨n, H', h⟩

theorem same_holds : Ythccekocaliohaa.Rows.StacksSameSaid :=
  OpenClaim.holds_of_wide 6 Try.f6 rfl rfl rfl rfl rfl rfl rfl ⟨rfl, rfl, rfl, rfl, rfl⟩ rfl rfl rfl rfl rfl (by kernel_rfl) Try.func6 (by kernel_rfl)
    (of_decide_eq_true (by kernel_rfl)) (by unfold Func.isWrapper; first | (rw [if_pos (by decide +kernel)]; kernel_rfl) | (rw [if_neg (by decide +kernel)]; exact ⟨rfl, rfl⟩))
    (fun os started H enc _ => same_lifted os started H enc)
end Go.Iso.Gen

namespace Go.Proofs.Ythccekocaliohaa
theorem stacksSame_holds : Rows.StacksSameSaid := Go.Iso.Gen.same_holds
end Go.Proofs.Ythccekocaliohaa
end
