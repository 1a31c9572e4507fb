/-
  ganseylaw03.StacksJoin returns true for every input and leaves its arguments as they were; no condition.
-/
import Derived.Test.YthccekocaliohaaJoinA
import Derived.Test.YthccekocaliohaaRow
set_option linter.unusedSimpArgs false
set_option linter.unusedVariables false

section
namespace Go.Iso.Gen
open Go.Iso
set_option maxHeartbeats 4000000
set_option maxRecDepth 10000

theorem stacksJoin_run {x : SV} {xs : List Pt} (fb fa tb ta : Int) {H : Heap} (hx : Sl H x xs) (hxb : ∀ p ∈ xs, p.a ≤ 255 ∧ p.m ≤ 255) : W E0 H.n (.call 5 [x.iv, .agg [.int .u8 fb, .int .i64 fa], .agg [.int .u8 tb, .int .i64 ta]]) H (fun o _ => o = .val (.bool true)) := by
  rw [c5]
  simp (disch := omega) only [F5b, F5, List.length_cons, List.length_nil, Nat.zero_add, Nat.reduceAdd, Nat.reduceSub, undefs, List.cons_append, List.nil_append, W_seq, wF5o0, F5p0, W_segs_cons, freeI_s, W_op, wantedI_n, guardC_t, evalAll, IA.eval, List.getD_cons_succ, List.getD_cons_zero, optC_s, argC_a, nextOf, lowOf, goC_a, opW, ev1, cellsV_agg, pairC_p, opC_a, Fr.put, List.set, Heap.n_new, W_ops_nil, segC_n, W_segs_nil, thenC_n, wF5o1, F5p1, W_apply, List.append_nil]
  generalize hH_H1 : Heap.new _ _ = H1
  have hnH1 : H1.n = H.n + 2 := by rw [← hH_H1]; rfl
  have g0 := congrArg (fun h0 => Heap.get h0 (H.n)) hH_H1.symm
  simp (disch := omega) only [Heap.get_new, Heap.n_new, cEqL, if_true, if_false] at g0
  have g1 := congrArg (fun h0 => Heap.get h0 (H.n + 1)) hH_H1.symm
  simp (disch := omega) only [Heap.get_new, Heap.n_new, cEqR, if_false, if_true] at g1
  have kH1 : Keep H.n H H1 := ⟨by omega, fun x hx _ => by
    have gx := congrArg (fun h0 => Heap.get h0 x) hH_H1.symm
    simp (disch := omega) only [Heap.get_new, Heap.n_new, cEqL, if_false] at gx
    exact gx⟩
  clear hH_H1
  refine of_sp (hx.keep kH1) hxb (by omega) (fun i _ => good_all xs i) fun H2 vs k2 hT2 => ?_
  obtain ⟨t, ht⟩ : ∃ t, t = (ofT xs).1 := ⟨_, rfl⟩
  have hV : Valid t := by rw [ht]; exact ofT_valid xs
  rw [← ht] at hT2
  have hn2 := k2.1
  replace g0 := (k2.2 _ (by omega) (by omega)).trans g0
  replace g1 := (k2.2 _ (by omega) (by omega)).trans g1
  have hvl := hT2.1
  have hfl : (flat vs).length = 80 := by rw [flat_length, z_SV]; omega
  have hall := flat_all vs
  have hspl : splice [IV.nilSlice, IV.nilSlice, IV.nilSlice, IV.nilSlice, IV.nilSlice, IV.nilSlice, IV.nilSlice, IV.nilSlice, IV.nilSlice, IV.nilSlice, IV.nilSlice, IV.nilSlice, IV.nilSlice, IV.nilSlice, IV.nilSlice, IV.nilSlice, IV.nilSlice, IV.nilSlice, IV.nilSlice, IV.nilSlice, IV.nilSlice, IV.nilSlice, IV.nilSlice, IV.nilSlice, IV.nilSlice, IV.nilSlice, IV.nilSlice, IV.nilSlice, IV.nilSlice, IV.nilSlice, IV.nilSlice, IV.nilSlice, IV.nilSlice, IV.nilSlice, IV.nilSlice, IV.nilSlice, IV.nilSlice, IV.nilSlice, IV.nilSlice, IV.nilSlice, IV.nilSlice, IV.nilSlice, IV.nilSlice, IV.nilSlice, IV.nilSlice, IV.nilSlice, IV.nilSlice, IV.nilSlice, IV.nilSlice, IV.nilSlice, IV.nilSlice, IV.nilSlice, IV.nilSlice, IV.nilSlice, IV.nilSlice, IV.nilSlice, IV.nilSlice, IV.nilSlice, IV.nilSlice, IV.nilSlice, IV.nilSlice, IV.nilSlice, IV.nilSlice, IV.nilSlice, IV.nilSlice, IV.nilSlice, IV.nilSlice, IV.nilSlice, IV.nilSlice, IV.nilSlice, IV.nilSlice, IV.nilSlice, IV.nilSlice, IV.nilSlice, IV.nilSlice, IV.nilSlice, IV.nilSlice, IV.nilSlice, IV.nilSlice, IV.nilSlice] 0 (flat vs) = flat vs := tab_splice hvl _ rfl
  have htk : (flat vs).take 80 = flat vs := List.take_of_length_le (by omega)
  simp (disch := omega) only [valC_v, opC_a, Fr.put, List.set, W_op, wantedI_n, guardC_t, evalAll, optC_s, argC_a, nextOf, lowOf, goC_a, opW, ev1, pairC_p, IA.eval, List.getD_cons_succ, List.getD_cons_zero, cellsV_agg, hfl, Heap.write, Heap.get_new, if_true, cLe, Nat.zero_add, List.length_cons, List.length_nil, Nat.reduceAdd, Nat.le_refl, hall, and_true, hspl, Option.map_some, W_ops_nil, segC_n, W_segs_nil, thenC_n, W_seq, wF5o2, F5p2, W_segs_cons, freeI_s, Option.getD_some, read_put, readO_c, List.drop, htk, read_new, List.take_succ_cons, List.take, mkAgg, Option.bind_some, W_apply, List.nil_append, List.append_nil]
  have hl6 : ∀ l ∈ t, l.length ≤ 1000000 := fun l hl => by have := hV.four l hl; omega
  generalize hH_H3 : Heap.put _ _ _ = H3
  have hnH3 : H3.n = H2.n + 1 := by rw [← hH_H3]; rfl
  have gt := congrArg (fun h0 => Heap.get h0 (H2.n)) hH_H3.symm
  simp (disch := omega) only [Heap.get_put, Heap.get_new, if_true] at gt
  have k3 : Keep H2.n H2 H3 := ⟨by omega, fun x hx _ => by
    have gx := congrArg (fun h0 => Heap.get h0 x) hH_H3.symm
    simp (disch := omega) only [Heap.get_put, cEqL, Heap.get_new, if_false] at gx
    exact gx⟩
  clear hH_H3
  replace g0 := (k3.2 _ (by omega) (by omega)).trans g0
  replace g1 := (k3.2 _ (by omega) (by omega)).trans g1
  have hT3 := hT2.tab.keep k3
  refine bedsT_sp hT3 hl6 (by omega) fun H4 f b k4 s4 => ?_
  have hn4 := k4.1
  replace g0 := (k4.2 _ (by omega) (by omega)).trans g0
  replace g1 := (k4.2 _ (by omega) (by omega)).trans g1
  replace gt := (k4.2 _ (by omega) (by omega)).trans gt
  have hT4 := hT3.keep k4
  have hF := fits_beds hV.len
  have hlF := bedF_len t
  have hlB := bedB_len hV.len
  have h6F : ∀ l ∈ bedF t, l.length ≤ 1000000 := fun l hl => hl6 l (bedF_mem hl)
  have h6B : ∀ l ∈ bedB t, l.length ≤ 1000000 := fun l hl => hl6 l (bedB_mem hl)
  simp (disch := omega) only [bv, valC_v, opC_a, Fr.put, List.set, W_op, wantedI_n, guardC_t, evalAll, optC_s, argC_a, nextOf, lowOf, goC_a, opW, ev1, pairC_p, IA.eval, List.getD_cons_succ, List.getD_cons_zero, cellsV_agg, List.length_cons, List.length_nil, Nat.zero_add, Nat.reduceAdd, Heap.write, Heap.get_new, if_true, cLe, Nat.le_refl, List.all_cons, SV.iv_one, List.all_nil, Bool.and_self, and_true, splice, Option.map_some, W_ops_nil, segC_n, W_segs_nil, thenC_n, W_seq]
  generalize hH_H5 : Heap.put _ _ _ = H5
  have hnH5 : H5.n = H4.n + 1 := by rw [← hH_H5]; rfl
  have gb := congrArg (fun h0 => Heap.get h0 (H4.n)) hH_H5.symm
  simp (disch := omega) only [Heap.get_put, Heap.get_new, if_true] at gb
  have kH5 : Keep H4.n H4 H5 := ⟨by omega, fun x hx _ => by
    have gx := congrArg (fun h0 => Heap.get h0 x) hH_H5.symm
    simp (disch := omega) only [Heap.get_put, cEqL, Heap.get_new, if_false] at gx
    exact gx⟩
  clear hH_H5
  replace g0 := (kH5.2 _ (by omega) (by omega)).trans g0
  replace g1 := (kH5.2 _ (by omega) (by omega)).trans g1
  replace gt := (kH5.2 _ (by omega) (by omega)).trans gt
  have hT5 := hT4.keep kH5
  have s5 := s4.keep kH5
  clear hT2 hT3 hT4 s4 k2 k3 k4 kH5
  have rb := read_get gb
  have r0 := read_get g0
  have r1 := read_get g1
  simp (disch := omega) only [wF5o3, F5p3, W_segs_cons, freeI_s, W_op, wantedI_n, guardC_t, evalAll, IA.eval, List.getD_cons_succ, List.getD_cons_zero, optC_s, argC_a, nextOf, lowOf, goC_a, opW, ev1, Option.getD_some, rb, Nat.zero_add, List.length_cons, List.length_nil, Nat.reduceAdd, Nat.le_refl, List.drop, List.take_succ_cons, List.take, if_true, mkAgg, Option.map_some, Option.bind_some, pairC_p, opC_a, Fr.put, List.set, r0, r1, W_apply, List.nil_append, List.append_nil]
  rw [show IV.agg [f.iv, b.iv] = bv f b from rfl]
  -- behind Join
  have rest : ∀ (H6 : Heap) (f6 b6 : SV) (e : Int) (tm : List IV), Keep H5.n H5 H6 → e = joinE (bedF t) (bedB t) fb fa tb ta → (e ≠ 0 → f6 = .nil ∧ b6 = .nil) → (e = 0 → Beds H5.n H6 f6 b6 (bedF (joinT t fb (ix fb fa) (ix tb ta))) (bedB (joinT t fb (ix fb fa) (ix tb ta)))) → tm.length = 163 → tm.getD 4 IV.undef = .ptr H.n 0 → tm.getD 5 IV.undef = .ptr (H.n + 1) 0 → tm.getD 7 IV.undef = .ptr H2.n 0 → tm.getD 8 IV.undef = .ptr H4.n 0 → tm.getD 9 IV.undef = .ptr H6.n 0 → tm.getD 10 IV.undef = .int .i64 e →
      W E0 H.n (.code (.seq F5o4 (.seq (.seq F5o5 (.block 0 (.loop F5l12))) (.seq F5o13 (.seq (.block 2 (.seq F5o14 (.cond (.tmp 45) F5o15 (.seq F5o16 (.cond (.tmp 59) F5o17 (.seq F5o18 (.cond (.tmp 65) F5o19 .skip))))))) (.seq (.seq F5o20 (.cond (.tmp 84) (.seq F5o21 .ret) .skip)) (.seq (.seq F5o22 (.cond (.tmp 86) (.seq F5o23 .ret) .skip)) (.seq F5o24 (.seq F5o25 (.seq (.seq F5o26 (.cond (.tmp 108) F5o27 F5o28)) (.seq F5o29 (.seq (.seq F5o30 (.cond (.tmp 143) (.seq F5o31 .ret) .skip)) (.seq F5o32 (.seq (.seq F5o33 (.cond (.tmp 152) (.seq F5o34 .ret) .skip)) (.seq F5o35 .ret)))))))))))))) none ⟨tm, []⟩) ((H6.new (.cells false 35 2 [.nilSlice, .nilSlice])).put H6.n (.cells false 35 2 [f6.iv, b6.iv])) (retC H.n F5.results fun o _ => o = .val (.bool true)) := by
    intro H6 f6 b6 e tm k6 he hnil hok htm t4 t5 t7 t8 t9 t10
    have hn6 := k6.1
    replace g0 := (k6.2 _ (by omega) (by omega)).trans g0
    replace g1 := (k6.2 _ (by omega) (by omega)).trans g1
    replace gt := (k6.2 _ (by omega) (by omega)).trans gt
    replace gb := (k6.2 _ (by omega) (by omega)).trans gb
    have hT6 := hT5.keep k6
    have s6 := s5.keep k6
    generalize hH_H7 : Heap.put _ _ _ = H7
    have hnH7 : H7.n = H6.n + 1 := by rw [← hH_H7]; rfl
    have g7 := congrArg (fun h0 => Heap.get h0 (H6.n)) hH_H7.symm
    simp (disch := omega) only [Heap.get_put, Heap.get_new, if_true] at g7
    have kH7 : Keep H6.n H6 H7 := ⟨by omega, fun x hx _ => by
      have gx := congrArg (fun h0 => Heap.get h0 x) hH_H7.symm
      simp (disch := omega) only [Heap.get_put, cEqL, Heap.get_new, if_false] at gx
      exact gx⟩
    clear hH_H7
    replace g0 := (kH7.2 _ (by omega) (by omega)).trans g0
    replace g1 := (kH7.2 _ (by omega) (by omega)).trans g1
    replace gt := (kH7.2 _ (by omega) (by omega)).trans gt
    replace gb := (kH7.2 _ (by omega) (by omega)).trans gb
    have hT7 := hT6.keep kH7
    have s7 := s6.keep kH7
    rw [expl163 tm htm, t4, t5, t7, t8, t9, t10]
    simp (disch := omega) only [F5, F5b, W_seq, wF5o4, F5p4, W_segs_cons, freeI_s, W_op, wantedI_n, guardC_t, evalAll, IA.eval, optC_s, argC_a, nextOf, lowOf, goC_a, opW, ev1, pairC_p, opC_a, Fr.put, List.set, W_ops_nil, segC_n, W_segs_nil, thenC_n, wF5o5, F5p5, W_block]
    refine join_seek (p := H.n) (q := H.n + 1) (by omega) g0 g1 (by omega) (by omega) rfl rfl rfl rfl rfl rfl rfl rfl rfl rfl ?_
    intro H8 tm8 k8 htm8 u4 u5 u7 u8 u9 u10 u11 u12
    have hn8 := k8.1
    replace g0 := (k8.2 _ (by omega) (by omega)).trans g0
    replace g1 := (k8.2 _ (by omega) (by omega)).trans g1
    replace gt := (k8.2 _ (by omega) (by omega)).trans gt
    replace gb := (k8.2 _ (by omega) (by omega)).trans gb
    replace g7 := (k8.2 _ (by omega) (by omega)).trans g7
    have hT8 := hT7.keep k8
    have s8 := s7.keep k8
    rw [expl163 tm8 htm8, u4, u5, u7, u8, u9, u10, u11, u12]
    -- behind the switch
    have rest2 : ∀ (tm : List IV), tm.length = 163 → tm.getD 4 IV.undef = .ptr H.n 0 → tm.getD 5 IV.undef = .ptr (H.n + 1) 0 → tm.getD 7 IV.undef = .ptr H2.n 0 → tm.getD 8 IV.undef = .ptr H4.n 0 → tm.getD 9 IV.undef = .ptr H6.n 0 → tm.getD 10 IV.undef = .int .i64 e → tm.getD 11 IV.undef = .int .i64 (seek fb fa 80) → tm.getD 12 IV.undef = .int .i64 (seek tb ta 80) → tm.getD 14 IV.undef = .int .i64 e →
        W E0 H.n (.code (.seq (.seq F5o20 (.cond (.tmp 84) (.seq F5o21 .ret) .skip)) (.seq (.seq F5o22 (.cond (.tmp 86) (.seq F5o23 .ret) .skip)) (.seq F5o24 (.seq F5o25 (.seq (.seq F5o26 (.cond (.tmp 108) F5o27 F5o28)) (.seq F5o29 (.seq (.seq F5o30 (.cond (.tmp 143) (.seq F5o31 .ret) .skip)) (.seq F5o32 (.seq (.seq F5o33 (.cond (.tmp 152) (.seq F5o34 .ret) .skip)) (.seq F5o35 .ret)))))))))) none ⟨tm, []⟩) H8 (retC H.n F5.results fun o _ => o = .val (.bool true)) := by
      intro tm htm t4 t5 t7 t8 t9 t10 t11 t12 t14
      have rt := read_get gt
      have rb := read_get gb
      rw [expl163 tm htm, t4, t5, t7, t8, t9, t10, t11, t12, t14]
      simp (disch := omega) only [F5, F5b, W_seq, wF5o20, F5p20, W_segs_cons, freeI_s, W_op, wantedI_n, guardC_t, evalAll, IA.eval, List.getD_cons_succ, List.getD_cons_zero, optC_s, argC_a, nextOf, lowOf, goC_a, opW, ev1, pairC_p, opC_a, Fr.put, List.set, binI, bne_self_eq_false, if_true, Option.map_some, wantedI_s, wantV_b, beq_self_eq_true, Option.getD_some, rt, Nat.zero_add, hfl, Nat.le_refl, List.drop, htk, mkAgg, Option.bind_some, rb, List.length_cons, List.length_nil, Nat.reduceAdd, List.take_succ_cons, List.take, W_apply, List.nil_append, List.append_nil]
      rw [show IV.agg [f.iv, b.iv] = bv f b from rfl]
      refine differs_sp hT8 hl6 s8.1.sl2 s8.2.1.sl2 s8.2.2.1 s8.2.2.2 (by omega) (by omega) h6F h6B (by omega) fun H9 n9 k9 hn0 => ?_
      have hn0 := hn0.2 hF
      subst hn0
      have hn9 := k9.1
      replace g0 := (k9.2 _ (by omega) (by omega)).trans g0
      replace g1 := (k9.2 _ (by omega) (by omega)).trans g1
      replace gt := (k9.2 _ (by omega) (by omega)).trans gt
      replace gb := (k9.2 _ (by omega) (by omega)).trans gb
      replace g7 := (k9.2 _ (by omega) (by omega)).trans g7
      have hT9 := hT8.keep k9
      have s9 := s8.keep k9
      by_cases he0 : e = 0
      · subst he0
        simp (disch := omega) only [valC_v, opC_a, Fr.put, List.set, W_op, wantedI_s, List.getD_cons_succ, List.getD_cons_zero, wantV_b, beq_self_eq_true, guardC_t, evalAll, IA.eval, optC_s, argC_a, nextOf, lowOf, goC_a, opW, ev1, binI, iBneF, if_true, Option.map_some, pairC_p, wantedI_n, Bool.false_eq_true, if_false, W_ops_nil, segC_n, W_segs_nil, thenC_n, W_cond, condC_f, W_skip, W_seq, wF5o22, F5p22, W_segs_cons, freeI_s, bne_self_eq_false]
        rw [← W_seq]
        rw [joinE_eq hV] at he
        split at he
        · omega
        split at he
        · omega
        split at he
        · omega
        rename_i c1 c2 c3
        rw [not_or, not_or, Classical.not_not, Classical.not_not] at c1
        have k79 : Keep H6.n H6 H9 := kH7.trans ((k8.lower (by omega)).trans (k9.lower (by omega)))
        rw [seek_v c1.1, seek_v c1.2.1]
        exact join_tail (p := H.n) (q := H.n + 1) (T := H2.n) (B := H4.n) (G := H6.n) hV c1.1 c1.2.1 c1.2.2 rfl rfl rfl c2 (by omega) g0 g1 hT9 gt gb g7 s9 ((hok rfl).keep k79) (by omega) (by omega) (by omega) (by omega) (by omega) (by omega) rfl rfl rfl rfl rfl rfl rfl rfl
      · obtain ⟨rfl, rfl⟩ := hnil he0
        have ene : (e != 0) = true := by simp [he0]
        have r7 := read_get g7
        simp (disch := omega) only [valC_v, opC_a, Fr.put, List.set, W_op, wantedI_s, List.getD_cons_succ, List.getD_cons_zero, wantV_b, beq_self_eq_true, guardC_t, evalAll, IA.eval, optC_s, argC_a, nextOf, lowOf, goC_a, opW, ev1, binI, iBneF, if_true, Option.map_some, pairC_p, wantedI_n, Bool.false_eq_true, if_false, W_ops_nil, segC_n, W_segs_nil, thenC_n, W_cond, condC_f, W_skip, W_seq, wF5o22, F5p22, W_segs_cons, freeI_s, ene, condC_t, wF5o23, F5p23, Nat.add_zero, Option.getD_none, r7, Nat.zero_add, SV.nil_iv, List.length_cons, List.length_nil, Nat.reduceAdd, cLe, List.drop, List.take_succ_cons, List.take, mkAgg, Option.bind_some, Nat.le_refl, W_apply, List.append_nil]
        refine c16 ?_
        simp (disch := omega) only [valC_v, opC_a, Fr.put, List.set, W_op, wantedI_n, guardC_t, evalAll, IA.eval, List.getD_cons_succ, List.getD_cons_zero, optC_s, argC_a, nextOf, lowOf, goC_a, opW, ev1, if_true, pairC_p, W_ops_nil, segC_n, W_segs_nil, thenC_n, W_ret, thenC_j, retC_r, unmark, leaveC_a, resultsOf, resultOf, valsC_a, tupled]
    have r0 := read_get g0
    have r1 := read_get g1
    by_cases c1 : needleE fb fa = 0
    case neg =>
      have he' : e = 1 := by rw [he, joinE_eq hV, if_pos (.inl c1)]
      have hs := seek_n c1
      rw [hs]
      simp (disch := omega) only [List.getD_cons_succ, List.getD_cons_zero, blkC_e, thenC_n, W_seq, wF5o13, F5p13, W_segs_cons, freeI_s, W_op, wantedI_n, guardC_t, evalAll, IA.eval, optC_s, argC_a, nextOf, lowOf, goC_a, opW, ev1, pairC_p, opC_a, Fr.put, List.set, W_ops_nil, segC_n, W_segs_nil, W_block, wF5o14, F5p14, binI, iLt, decide_true, if_true, Option.map_some, wantedI_s, wantV_b, bb_tf, guardC_f, W_cond, condC_t, wF5o15, F5p15, blkC_n, thenC_j]
      rw [← W_seq, ← W_seq]
      exact rest2 _ rfl rfl rfl rfl rfl rfl rfl (by rw [hs]; rfl) rfl (by rw [he']; rfl)
    have hs1 := seek_v c1
    by_cases c2 : needleE tb ta = 0
    case neg =>
      have he' : e = 1 := by rw [he, joinE_eq hV, if_pos (.inr (.inl c2))]
      have hs := seek_n c2
      rw [hs, hs1]
      simp (disch := omega) only [List.getD_cons_succ, List.getD_cons_zero, blkC_e, thenC_n, W_seq, wF5o13, F5p13, W_segs_cons, freeI_s, W_op, wantedI_n, guardC_t, evalAll, IA.eval, optC_s, argC_a, nextOf, lowOf, goC_a, opW, ev1, pairC_p, opC_a, Fr.put, List.set, W_ops_nil, segC_n, W_segs_nil, W_block, wF5o14, F5p14, binI, iLtF, decide_false, if_true, Option.map_some, wantedI_s, wantV_b, beq_self_eq_true, iLt, decide_true, Bool.false_eq_true, if_false, bb_tf, guardC_f, W_cond, condC_t, wF5o15, F5p15, blkC_n, thenC_j]
      rw [← W_seq, ← W_seq]
      exact rest2 _ rfl rfl rfl rfl rfl rfl rfl (by rw [hs1]; rfl) (by rw [hs]; rfl) (by rw [he']; rfl)
    have hs2 := seek_v c2
    by_cases c3 : fb = tb
    case pos =>
      have he' : e = 1 := by rw [he, joinE_eq hV, if_pos (.inr (.inr c3))]
      have ebb : (fb == tb) = true := by simp [c3]
      rw [hs2, hs1]
      simp (disch := omega) only [List.getD_cons_succ, List.getD_cons_zero, blkC_e, thenC_n, W_seq, wF5o13, F5p13, W_segs_cons, freeI_s, W_op, wantedI_n, guardC_t, evalAll, IA.eval, optC_s, argC_a, nextOf, lowOf, goC_a, opW, ev1, pairC_p, opC_a, Fr.put, List.set, W_ops_nil, segC_n, W_segs_nil, W_block, wF5o14, F5p14, binI, iLtF, decide_false, if_true, Option.map_some, wantedI_s, wantV_b, beq_self_eq_true, Bool.false_eq_true, if_false, Nat.add_zero, Option.getD_none, r0, Nat.zero_add, List.length_cons, List.length_nil, Nat.reduceAdd, cLe, List.drop, List.take_succ_cons, List.take, mkAgg, Option.bind_some, r1, ebb, W_cond, condC_t, wF5o15, F5p15, blkC_n, thenC_j]
      rw [← W_seq, ← W_seq]
      exact rest2 _ rfl rfl rfl rfl rfl rfl rfl (by rw [hs1]; rfl) (by rw [hs2]; rfl) (by rw [he']; rfl)
    have hnn : ¬ (needleE fb fa ≠ 0 ∨ needleE tb ta ≠ 0 ∨ fb = tb) := by simp [c1, c2, c3]
    have ebb : (fb == tb) = false := by simp [c3]
    have htl := hV.len
    have hi80 := (n_ix c1).2.2
    have hk80 := (n_ix c2).2.2
    have hE := joinE_eq hV fb fa tb ta
    rw [if_neg hnn, ← he] at hE
    clear hnn c3 he hok hnil
    generalize ix fb fa = i at *
    generalize ix tb ta = k at *
    generalize seek fb fa 80 = a1 at *
    generalize seek tb ta 80 = a2 at *
    subst hs1 hs2
    generalize needleE fb fa = z1 at *
    generalize needleE tb ta = z2 at *
    clear c1 c2
    have gik := getD_in (ls := t) (i := i) (by omega)
    have gkk := getD_in (ls := t) (i := k) (by omega)
    have rk := tab_read gt k (by omega)
    have ri := tab_read gt i (by omega)
    have sk := hT8.2.2 k (by omega) (by omega)
    have si := hT8.2.2 i (by omega) (by omega)
    have l4i := hV.four _ (List.getElem_mem (show i < t.length by omega))
    have l4k := hV.four _ (List.getElem_mem (show k < t.length by omega))
    rw [gik, gkk] at hE
    by_cases c4 : (t[i]'(by omega)).length = 0
    · rw [if_pos c4] at hE
      simp (disch := omega) only [List.getD_cons_succ, List.getD_cons_zero, blkC_e, thenC_n, W_seq, wF5o13, F5p13, W_segs_cons, freeI_s, W_op, wantedI_n, guardC_t, evalAll, IA.eval, optC_s, argC_a, nextOf, lowOf, goC_a, opW, ev1, pairC_p, opC_a, Fr.put, List.set, W_ops_nil, segC_n, W_segs_nil, W_block, wF5o14, F5p14, binI, iLtF, decide_false, if_true, Option.map_some, wantedI_s, wantV_b, beq_self_eq_true, Bool.false_eq_true, if_false, Nat.add_zero, Option.getD_none, r0, Nat.zero_add, List.length_cons, List.length_nil, Nat.reduceAdd, cLe, List.drop, List.take_succ_cons, List.take, mkAgg, Option.bind_some, r1, ebb, W_cond, condC_f, wF5o16, F5p16, iLe, iLt, and_true, Int.toNat_natCast, ri, ↓si.ln, iBeq, condC_t, wF5o17, F5p17, blkC_n, thenC_j]
      rw [← W_seq, ← W_seq]
      exact rest2 _ rfl rfl rfl rfl rfl rfl rfl rfl rfl (by rw [hE]; rfl)
    rw [if_neg c4] at hE
    have c4' : 0 < (t[i]'(by omega)).length := by omega
    clear c4
    by_cases c5 : (t[i]'(by omega)).length + (t[k]'(by omega)).length > 4
    · rw [if_pos c5] at hE
      simp (disch := omega) only [List.getD_cons_succ, List.getD_cons_zero, blkC_e, thenC_n, W_seq, wF5o13, F5p13, W_segs_cons, freeI_s, W_op, wantedI_n, guardC_t, evalAll, IA.eval, optC_s, argC_a, nextOf, lowOf, goC_a, opW, ev1, pairC_p, opC_a, Fr.put, List.set, W_ops_nil, segC_n, W_segs_nil, W_block, wF5o14, F5p14, binI, iLtF, decide_false, if_true, Option.map_some, wantedI_s, wantV_b, beq_self_eq_true, Bool.false_eq_true, if_false, Nat.add_zero, Option.getD_none, r0, Nat.zero_add, List.length_cons, List.length_nil, Nat.reduceAdd, cLe, List.drop, List.take_succ_cons, List.take, mkAgg, Option.bind_some, r1, ebb, W_cond, condC_f, wF5o16, F5p16, iLe, iLt, and_true, Int.toNat_natCast, ri, ↓si.ln, iBeqF, wF5o18, F5p18, freeI_f, freeNext, fpOf, pairOk, ne_eq, List.all_nil, List.all_cons, Bool.or_true, Bool.and_self, rk, ↓sk.ln, wI64, decide_true, condC_t, wF5o19, F5p19, blkC_n, thenC_j]
      rw [← W_seq, ← W_seq]
      exact rest2 _ rfl rfl rfl rfl rfl rfl rfl rfl rfl (by rw [hE]; rfl)
    · rw [if_neg c5] at hE
      simp (disch := omega) only [List.getD_cons_succ, List.getD_cons_zero, blkC_e, thenC_n, W_seq, wF5o13, F5p13, W_segs_cons, freeI_s, W_op, wantedI_n, guardC_t, evalAll, IA.eval, optC_s, argC_a, nextOf, lowOf, goC_a, opW, ev1, pairC_p, opC_a, Fr.put, List.set, W_ops_nil, segC_n, W_segs_nil, W_block, wF5o14, F5p14, binI, iLtF, decide_false, if_true, Option.map_some, wantedI_s, wantV_b, beq_self_eq_true, Bool.false_eq_true, if_false, Nat.add_zero, Option.getD_none, r0, Nat.zero_add, List.length_cons, List.length_nil, Nat.reduceAdd, cLe, List.drop, List.take_succ_cons, List.take, mkAgg, Option.bind_some, r1, ebb, W_cond, condC_f, wF5o16, F5p16, iLe, iLt, and_true, Int.toNat_natCast, ri, ↓si.ln, iBeqF, wF5o18, F5p18, freeI_f, freeNext, fpOf, pairOk, ne_eq, List.all_nil, List.all_cons, Bool.or_true, Bool.and_self, rk, ↓sk.ln, wI64, W_skip, blkC_n, thenC_j]
      rw [← W_seq, ← W_seq]
      exact rest2 _ rfl rfl rfl rfl rfl rfl rfl rfl rfl (by rw [hE]; rfl)
  refine join_sp fb fa tb ta s5.1.sl2 s5.2.1.sl2 (by omega) (by omega) h6F h6B (by omega) (fun H6 k6 he => ?_) fun H6 f6 b6 k6 he s6 => ?_
  · have hn6 := k6.1
    simp (disch := omega) only [bv, SV.nil_iv, valC_v, opC_a, Fr.put, List.set, W_op, wantedI_n, guardC_t, evalAll, IA.eval, List.getD_cons_succ, List.getD_cons_zero, optC_s, argC_a, nextOf, lowOf, goC_a, opW, ev1, pairC_p, List.getElem?_cons_zero, Option.map_some, List.getElem?_cons_succ, cellsV_agg, List.length_cons, List.length_nil, Nat.zero_add, Nat.reduceAdd, Heap.write, Heap.get_new, if_true, cLe, Nat.le_refl, List.all_cons, oneV_nilSlice, List.all_nil, Bool.and_self, and_true, splice, W_ops_nil, segC_n, W_segs_nil, thenC_n, W_seq]
    rw [← W_seq]
    exact rest H6 .nil .nil _ _ k6 rfl (fun _ => ⟨rfl, rfl⟩) (fun h => absurd h he) rfl rfl rfl rfl rfl rfl rfl
  · have hn6 := k6.1
    simp (disch := omega) only [bv, valC_v, opC_a, Fr.put, List.set, W_op, wantedI_n, guardC_t, evalAll, IA.eval, List.getD_cons_succ, List.getD_cons_zero, optC_s, argC_a, nextOf, lowOf, goC_a, opW, ev1, pairC_p, List.getElem?_cons_zero, Option.map_some, List.getElem?_cons_succ, cellsV_agg, List.length_cons, List.length_nil, Nat.zero_add, Nat.reduceAdd, Heap.write, Heap.get_new, if_true, cLe, Nat.le_refl, List.all_cons, SV.iv_one, List.all_nil, Bool.and_self, and_true, splice, W_ops_nil, segC_n, W_segs_nil, thenC_n, W_seq]
    rw [← W_seq]
    refine rest H6 f6 b6 0 _ k6 he.symm (fun h => absurd rfl h) (fun _ => ?_) rfl rfl rfl rfl rfl rfl rfl
    rw [joinE_eq hV] at he
    split at he
    · omega
    rename_i c1
    rw [not_or, not_or, Classical.not_not, Classical.not_not] at c1
    obtain ⟨e1, e2⟩ := joinFB_eq hV c1.1 c1.2.1
    rwa [e1, e2] at s6
end Go.Iso.Gen
end

section
namespace Go.Iso.Gen
open Go.Iso Go.Proofs
set_option maxRecDepth 100000
set_option maxHeartbeats 4000000

theorem params5 : Try.f5.params.toList.mapM (tyOf Try.prog 8) = some [.slice putT, idT, idT] := by kernel_rfl
theorem types5 : typesOk Try.prog Try.f5 = true := by kernel_rfl

theorem join_lifted (os : Os) (started : os.Started) (T : Type) (enc : TypeId × Value → T) :
    ReturnsInHanded {} Try.checked os 5 .any (Ythccekocaliohaa.Rows.stacksJoinSpec.pre6 enc Try.prog Try.f5 [] false) (Ythccekocaliohaa.Rows.stacksJoinSpec.post enc Try.prog Try.f5 false true false false) := by
  refine returnsInHanded_of_change (C := Try.checked) own_knob started (by kernel_rfl) Try.func5
    (ChangeSpec.witness6 (enc := enc) (C := Try.checked) false ⟨#[], #[.slice none 0 0, .agg #[.int .u8 0, .int .i64 0], .agg #[.int .u8 0, .int .i64 0]], []⟩ 8 (by kernel_rfl) (by kernel_rfl) (by kernel_rfl) (by kernel_rfl)) ?_
  intro W base args ds gs before hval hW _ _
  refine law_calls (P := Try.prog) (tb := 4) (s := Ythccekocaliohaa.Rows.stacksJoinSpec) env0 rfl params5 (by kernel_rfl) (by kernel_rfl) types5 rfl ?_ (fun _ => True) ?_ W base args ds gs before hval hW trivial
  · intro T ds hd
    match ds, hd with
    | [a, b, c], _ => rfl
  · intro H css ds hro hrd _
    cases hrd with
    | cons h1 hrd =>
      cases hrd with
      | cons h2 hrd =>
        cases hrd with
        | cons h3 hrd =>
          cases hrd
          obtain ⟨v, l, rfl, hl, hx⟩ := rd_B hro h1
          obtain ⟨n, rfl, hn⟩ := rd_id h2
          obtain ⟨a, rfl, ha⟩ := rd_id h3
          obtain ⟨n, o, H', h, rfl⟩ := stacksJoin_run n.y n.n a.y a.n hl hx
          exact ⟨n, H', h⟩

theorem join_holds : Ythccekocaliohaa.Rows.StacksJoinSaid :=
  OpenClaim.holds_of_wide 5 Try.f5 rfl rfl rfl rfl rfl rfl rfl ⟨rfl, rfl, rfl, rfl, rfl⟩ rfl rfl rfl rfl rfl (by kernel_rfl) Try.func5 (by kernel_rfl)
    (of_decide_eq_true (by kernel_rfl)) (by unfold Func.isWrapper; first | (rw [if_pos (by decide +kernel)]; kernel_rfl) | (rw [if_neg (by decide +kernel)]; exact ⟨rfl, rfl⟩))
    (fun os started H enc _ => join_lifted os started H enc)
end Go.Iso.Gen

namespace Go.Proofs.Ythccekocaliohaa
theorem stacksJoin_holds : Rows.StacksJoinSaid := Go.Iso.Gen.join_holds
end Go.Proofs.Ythccekocaliohaa
end
