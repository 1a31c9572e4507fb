/-
  what Make gives.
-/
import Derived.Test.YtpekmodcnpfmkaaFnB
set_option linter.unusedSimpArgs false
set_option linter.unusedVariables false

section
namespace Go.Iso.GenA
open Go.Iso
set_option maxHeartbeats 4000000
set_option maxRecDepth 10000

def mc (n : Int) (new : Bool) (v : IV) : List IV := [.int .i64 n, .bool new, v]

theorem make_sp (inn new : Bool) (place count : Int) {v : IV} {l : List Ps} {H : Heap} {lo : Nat} {Q : Out → Heap → Prop} (hv : PL H v l) (hl : l.length ≤ 100000) (hlo : lo ≤ H.n)
    (h : ∀ H' e, Keep H.n H H' → (checkE inn place count new l ≠ 0 ∧ e = checkE inn place count new l ∨ checkE inn place count new l = 0 ∧ inn = false ∧ e = 12 ∨ checkE inn place count new l = 0 ∧ inn = true ∧ count = 2048 ∧ e = 3) →
        Q (.val (.tuple [.agg (yc false 0 0 false .nilSlice), .agg (mc 0 false .nilSlice), .int .i64 e])) H')
    (hok : ∀ H' b, Keep H.n H H' → checkE inn place count new l = 0 → inn = true → count ≠ 2048 → H.n ≤ b → Own H' b l.length l →
        Q (.val (.tuple [.agg (yc true place (IntKind.i64.wrap (count + 1)) false .nilSlice), .agg (mc count new (.slice b 0 l.length l.length true)), .int .i64 0])) H') :
    W E0 lo (.call 20 [.agg (yc inn place count new v)]) H Q := by
  refine W.pure plain hlo ?_
  rw [c20]
  simp only [W_skip, W_ret, W_exit, W_seq, W_block, W_ops, W_cond, W_segs_cons, W_segs_nil, freeI_s, freeI_f, W_op1, W_op, guardC_t, guardC_f, bb_tf, bb_ft, bb_tt, bb_ff, argC_a, goC_a, seqC_a, pairC_p, eq_self, Nat.left_eq_add, Nat.add_eq_left, Nat.reduceEqDiff, Int.reduceEq, Nat.add_left_cancel_iff, Nat.add_assoc, W_ops_nil, wantedI_n, wantedI_s, wantV_b, wantV_u, evalAll, IA.eval, optC_s, optC_n, nextOf, freeNext, fpOf, lowOf, opW, ev1, opC_a, Fr.put, List.set, List.getD_cons_zero, List.getD_cons_succ, thenC_n, thenC_j, segC_n, blkC_n, blkC_r, blkC_e, condC_t, condC_f, valC_v, W_apply, if_true, if_false, Option.map_some, Option.map_none, Option.bind_some, Option.bind_none, List.nil_append, List.append_nil, List.cons_append, undefs, List.length_cons, List.length_nil, Nat.reduceSub, Nat.reduceAdd, Nat.zero_add, retC_r, retC_n, leaveC_a, valsC_a, unmark, resultsOf, resultOf, tupled, binI, unI, beq_self_eq_true, Bool.false_eq_true, reduceIte, reduceCtorEq, Bool.not_true, Bool.not_false, Option.getD_some, Option.getD_none, mkAgg, IV.cells, Heap.read, Heap.get_new, Heap.n_new, Heap.get_put, Heap.n_put, List.drop_succ_cons, List.drop_zero, List.take_succ_cons, List.take_zero, Nat.add_zero, Nat.reduceLeDiff, Nat.reduceMul, Nat.le_refl, Int.reduceLT, Int.reduceLE, List.drop, List.take, Option.some.injEq, and_true, true_and, and_false, false_and, BEq.rfl, Heap.write, splice, IV.one, List.all_cons, List.all_nil, Bool.and_self, Bool.and_true, Bool.true_and, Nat.le_add_right, eqKs, eqK, Nat.reduceLT, Nat.add_sub_cancel, bne_self_eq_false, Bool.false_bne, Bool.bne_false, List.append, pairOk, Bool.or_true, Bool.true_or, Int.toNat_natCast, Option.isSome_some, List.getElem?_cons_zero, List.getElem?_cons_succ, F20o0, F20o1, F20o2, F20o3, F20o4, F20o5, F20o6, F20o7, F20o8, F20o9, F20b, F20, yc]
  have k0 : Keep H.n H (((H.new (.cells false 38 5 [.bool inn, .int .i64 place, .int .i64 count, .bool new, v])).new (.cells false 38 5 [.bool false, .int .i64 0, .int .i64 0, .bool false, .nilSlice])).new (.cells false 50 3 [.int .i64 0, .bool false, .nilSlice])) := ((Keep.new _ _).trans (.new _ _)).trans (.new _ _)
  refine check_sp inn new place count (hv.keep k0) hl (fun H1 hk => ?_) (by simp only [Heap.n_new]; omega)
  have g0 : H1.get H.n = some (.cells false 38 5 [.bool inn, .int .i64 place, .int .i64 count, .bool new, v]) := by
    rw [hk.2 H.n (by simp only [Heap.n_new]; omega) (by simp only [Heap.n_new]; omega), Heap.get_new, if_neg (by simp only [Heap.n_new]; omega), Heap.get_new, if_neg (by simp only [Heap.n_new]; omega), Heap.get_new, if_pos rfl]
  have g1 : H1.get (H.n + 1) = some (.cells false 38 5 [.bool false, .int .i64 0, .int .i64 0, .bool false, .nilSlice]) := by
    rw [hk.2 (H.n + 1) (by simp only [Heap.n_new]; omega) (by simp only [Heap.n_new]; omega), Heap.get_new, if_neg (by simp only [Heap.n_new]; omega), Heap.get_new, if_pos (by rw [Heap.n_new])]
  have g2 : H1.get (H.n + 2) = some (.cells false 50 3 [.int .i64 0, .bool false, .nilSlice]) := by
    rw [hk.2 (H.n + 2) (by simp only [Heap.n_new]; omega) (by simp only [Heap.n_new]; omega), Heap.get_new, if_pos (by simp only [Heap.n_new])]
  have hn1 : H.n + 3 ≤ H1.n := by have := hk.1; simp only [Heap.n_new] at this; omega
  have k1 : Keep H.n H H1 := k0.trans (hk.lower (by simp only [Heap.n_new]; omega))
  clear hk k0
  have hz : ((0 : Int) != 0) = false := by decide
  cases e0 : (checkE inn place count new l != 0)
  case true =>
    have f0 : checkE inn place count new l ≠ 0 := by simpa using e0
    simp only [W_skip, W_ret, W_exit, W_seq, W_block, W_ops, W_cond, W_segs_cons, W_segs_nil, freeI_s, freeI_f, W_op1, W_op, guardC_t, guardC_f, bb_tf, bb_ft, bb_tt, bb_ff, argC_a, goC_a, seqC_a, pairC_p, eq_self, Nat.left_eq_add, Nat.add_eq_left, Nat.reduceEqDiff, Int.reduceEq, Nat.add_left_cancel_iff, Nat.add_assoc, W_ops_nil, wantedI_n, wantedI_s, wantV_b, wantV_u, evalAll, IA.eval, optC_s, optC_n, nextOf, freeNext, fpOf, lowOf, opW, ev1, opC_a, Fr.put, List.set, List.getD_cons_zero, List.getD_cons_succ, thenC_n, thenC_j, segC_n, blkC_n, blkC_r, blkC_e, condC_t, condC_f, valC_v, W_apply, if_true, if_false, Option.map_some, Option.map_none, Option.bind_some, Option.bind_none, List.nil_append, List.append_nil, List.cons_append, undefs, List.length_cons, List.length_nil, Nat.reduceSub, Nat.reduceAdd, Nat.zero_add, retC_r, retC_n, leaveC_a, valsC_a, unmark, resultsOf, resultOf, tupled, binI, unI, beq_self_eq_true, Bool.false_eq_true, reduceIte, reduceCtorEq, Bool.not_true, Bool.not_false, Option.getD_some, Option.getD_none, mkAgg, IV.cells, Heap.read, Heap.get_new, Heap.n_new, Heap.get_put, Heap.n_put, List.drop_succ_cons, List.drop_zero, List.take_succ_cons, List.take_zero, Nat.add_zero, Nat.reduceLeDiff, Nat.reduceMul, Nat.le_refl, Int.reduceLT, Int.reduceLE, List.drop, List.take, Option.some.injEq, and_true, true_and, and_false, false_and, BEq.rfl, Heap.write, splice, IV.one, List.all_cons, List.all_nil, Bool.and_self, Bool.and_true, Bool.true_and, Nat.le_add_right, eqKs, eqK, Nat.reduceLT, Nat.add_sub_cancel, bne_self_eq_false, Bool.false_bne, Bool.bne_false, List.append, pairOk, Bool.or_true, Bool.true_or, Int.toNat_natCast, Option.isSome_some, List.getElem?_cons_zero, List.getElem?_cons_succ, F20o0, F20o1, F20o2, F20o3, F20o4, F20o5, F20o6, F20o7, F20o8, F20o9, F20b, F20, e0, g0, g1, g2, fillI]
    exact fun hk => h _ _ hk (.inl ⟨f0, rfl⟩)
  have f0 : checkE inn place count new l = 0 := by simpa using e0
  cases inn with
  | false =>
    simp only [W_skip, W_ret, W_exit, W_seq, W_block, W_ops, W_cond, W_segs_cons, W_segs_nil, freeI_s, freeI_f, W_op1, W_op, guardC_t, guardC_f, bb_tf, bb_ft, bb_tt, bb_ff, argC_a, goC_a, seqC_a, pairC_p, eq_self, Nat.left_eq_add, Nat.add_eq_left, Nat.reduceEqDiff, Int.reduceEq, Nat.add_left_cancel_iff, Nat.add_assoc, W_ops_nil, wantedI_n, wantedI_s, wantV_b, wantV_u, evalAll, IA.eval, optC_s, optC_n, nextOf, freeNext, fpOf, lowOf, opW, ev1, opC_a, Fr.put, List.set, List.getD_cons_zero, List.getD_cons_succ, thenC_n, thenC_j, segC_n, blkC_n, blkC_r, blkC_e, condC_t, condC_f, valC_v, W_apply, if_true, if_false, Option.map_some, Option.map_none, Option.bind_some, Option.bind_none, List.nil_append, List.append_nil, List.cons_append, undefs, List.length_cons, List.length_nil, Nat.reduceSub, Nat.reduceAdd, Nat.zero_add, retC_r, retC_n, leaveC_a, valsC_a, unmark, resultsOf, resultOf, tupled, binI, unI, beq_self_eq_true, Bool.false_eq_true, reduceIte, reduceCtorEq, Bool.not_true, Bool.not_false, Option.getD_some, Option.getD_none, mkAgg, IV.cells, Heap.read, Heap.get_new, Heap.n_new, Heap.get_put, Heap.n_put, List.drop_succ_cons, List.drop_zero, List.take_succ_cons, List.take_zero, Nat.add_zero, Nat.reduceLeDiff, Nat.reduceMul, Nat.le_refl, Int.reduceLT, Int.reduceLE, List.drop, List.take, Option.some.injEq, and_true, true_and, and_false, false_and, BEq.rfl, Heap.write, splice, IV.one, List.all_cons, List.all_nil, Bool.and_self, Bool.and_true, Bool.true_and, Nat.le_add_right, eqKs, eqK, Nat.reduceLT, Nat.add_sub_cancel, bne_self_eq_false, Bool.false_bne, Bool.bne_false, List.append, pairOk, Bool.or_true, Bool.true_or, Int.toNat_natCast, Option.isSome_some, List.getElem?_cons_zero, List.getElem?_cons_succ, F20o0, F20o1, F20o2, F20o3, F20o4, F20o5, F20o6, F20o7, F20o8, F20o9, F20b, F20, e0, g0, g1, g2, fillI]
    exact fun hk => h _ _ hk (.inr (.inl ⟨f0, rfl, rfl⟩))
  | true =>
    cases e1 : (count == 2048)
    case true =>
      have f1 : count = 2048 := by simpa using e1
      simp only [W_skip, W_ret, W_exit, W_seq, W_block, W_ops, W_cond, W_segs_cons, W_segs_nil, freeI_s, freeI_f, W_op1, W_op, guardC_t, guardC_f, bb_tf, bb_ft, bb_tt, bb_ff, argC_a, goC_a, seqC_a, pairC_p, eq_self, Nat.left_eq_add, Nat.add_eq_left, Nat.reduceEqDiff, Int.reduceEq, Nat.add_left_cancel_iff, Nat.add_assoc, W_ops_nil, wantedI_n, wantedI_s, wantV_b, wantV_u, evalAll, IA.eval, optC_s, optC_n, nextOf, freeNext, fpOf, lowOf, opW, ev1, opC_a, Fr.put, List.set, List.getD_cons_zero, List.getD_cons_succ, thenC_n, thenC_j, segC_n, blkC_n, blkC_r, blkC_e, condC_t, condC_f, valC_v, W_apply, if_true, if_false, Option.map_some, Option.map_none, Option.bind_some, Option.bind_none, List.nil_append, List.append_nil, List.cons_append, undefs, List.length_cons, List.length_nil, Nat.reduceSub, Nat.reduceAdd, Nat.zero_add, retC_r, retC_n, leaveC_a, valsC_a, unmark, resultsOf, resultOf, tupled, binI, unI, beq_self_eq_true, Bool.false_eq_true, reduceIte, reduceCtorEq, Bool.not_true, Bool.not_false, Option.getD_some, Option.getD_none, mkAgg, IV.cells, Heap.read, Heap.get_new, Heap.n_new, Heap.get_put, Heap.n_put, List.drop_succ_cons, List.drop_zero, List.take_succ_cons, List.take_zero, Nat.add_zero, Nat.reduceLeDiff, Nat.reduceMul, Nat.le_refl, Int.reduceLT, Int.reduceLE, List.drop, List.take, Option.some.injEq, and_true, true_and, and_false, false_and, BEq.rfl, Heap.write, splice, IV.one, List.all_cons, List.all_nil, Bool.and_self, Bool.and_true, Bool.true_and, Nat.le_add_right, eqKs, eqK, Nat.reduceLT, Nat.add_sub_cancel, bne_self_eq_false, Bool.false_bne, Bool.bne_false, List.append, pairOk, Bool.or_true, Bool.true_or, Int.toNat_natCast, Option.isSome_some, List.getElem?_cons_zero, List.getElem?_cons_succ, F20o0, F20o1, F20o2, F20o3, F20o4, F20o5, F20o6, F20o7, F20o8, F20o9, F20b, F20, e0, e1, g0, g1, g2, fillI]
      exact fun hk => h _ _ hk (.inr (.inr ⟨f0, rfl, f1, rfl⟩))
    have f1 : count ≠ 2048 := by simpa using e1
    simp only [W_skip, W_ret, W_exit, W_seq, W_block, W_ops, W_cond, W_segs_cons, W_segs_nil, freeI_s, freeI_f, W_op1, W_op, guardC_t, guardC_f, bb_tf, bb_ft, bb_tt, bb_ff, argC_a, goC_a, seqC_a, pairC_p, eq_self, Nat.left_eq_add, Nat.add_eq_left, Nat.reduceEqDiff, Int.reduceEq, Nat.add_left_cancel_iff, Nat.add_assoc, W_ops_nil, wantedI_n, wantedI_s, wantV_b, wantV_u, evalAll, IA.eval, optC_s, optC_n, nextOf, freeNext, fpOf, lowOf, opW, ev1, opC_a, Fr.put, List.set, List.getD_cons_zero, List.getD_cons_succ, thenC_n, thenC_j, segC_n, blkC_n, blkC_r, blkC_e, condC_t, condC_f, valC_v, W_apply, if_true, if_false, Option.map_some, Option.map_none, Option.bind_some, Option.bind_none, List.nil_append, List.append_nil, List.cons_append, undefs, List.length_cons, List.length_nil, Nat.reduceSub, Nat.reduceAdd, Nat.zero_add, retC_r, retC_n, leaveC_a, valsC_a, unmark, resultsOf, resultOf, tupled, binI, unI, beq_self_eq_true, Bool.false_eq_true, reduceIte, reduceCtorEq, Bool.not_true, Bool.not_false, Option.getD_some, Option.getD_none, mkAgg, IV.cells, Heap.read, Heap.get_new, Heap.n_new, Heap.get_put, Heap.n_put, List.drop_succ_cons, List.drop_zero, List.take_succ_cons, List.take_zero, Nat.add_zero, Nat.reduceLeDiff, Nat.reduceMul, Nat.le_refl, Int.reduceLT, Int.reduceLE, List.drop, List.take, Option.some.injEq, and_true, true_and, and_false, false_and, BEq.rfl, Heap.write, splice, IV.one, List.all_cons, List.all_nil, Bool.and_self, Bool.and_true, Bool.true_and, Nat.le_add_right, eqKs, eqK, Nat.reduceLT, Nat.add_sub_cancel, bne_self_eq_false, Bool.false_bne, Bool.bne_false, List.append, pairOk, Bool.or_true, Bool.true_or, Int.toNat_natCast, Option.isSome_some, List.getElem?_cons_zero, List.getElem?_cons_succ, F20o0, F20o1, F20o2, F20o3, F20o4, F20o5, F20o6, F20o7, F20o8, F20o9, F20b, F20, e0, e1, g0, g1, g2, fillI]
    refine copied_sp (hv.keep k1) hl (by omega) fun H2 b2 k2 hb2 ho2 => ?_
    have g0' := (k2.2 H.n (by omega) (by omega)).trans g0
    have g1' := (k2.2 (H.n + 1) (by omega) (by omega)).trans g1
    have g2' := (k2.2 (H.n + 2) (by omega) (by omega)).trans g2
    have hn2 := k2.1
    have q1 : (H2.n = H.n) = False := by simp; omega
    have q2 : (H2.n = H.n + 1) = False := by simp; omega
    have q3 : (H2.n = H.n + 2) = False := by simp; omega
    have q4 : (H.n ≤ H2.n) = True := by simp; omega
    have t1 : Nat.testBit 63 3 = true := by decide
    have t2 : Nat.testBit 63 1 = true := by decide
    have ap : apartR H2.n 0 3 (H.n + 1) 0 5 = true := by
      have : H2.n ≠ H.n + 1 := by omega
      simp [apartR, this]
    have q5 : (H.n + 1 = H2.n) = False := by simp; omega
    have q6 : (H.n + 2 = H2.n) = False := by simp; omega
    simp only [W_skip, W_ret, W_exit, W_seq, W_block, W_ops, W_cond, W_segs_cons, W_segs_nil, freeI_s, freeI_f, W_op1, W_op, guardC_t, guardC_f, bb_tf, bb_ft, bb_tt, bb_ff, argC_a, goC_a, seqC_a, pairC_p, eq_self, Nat.left_eq_add, Nat.add_eq_left, Nat.reduceEqDiff, Int.reduceEq, Nat.add_left_cancel_iff, Nat.add_assoc, W_ops_nil, wantedI_n, wantedI_s, wantV_b, wantV_u, evalAll, IA.eval, optC_s, optC_n, nextOf, freeNext, fpOf, lowOf, opW, ev1, opC_a, Fr.put, List.set, List.getD_cons_zero, List.getD_cons_succ, thenC_n, thenC_j, segC_n, blkC_n, blkC_r, blkC_e, condC_t, condC_f, valC_v, W_apply, if_true, if_false, Option.map_some, Option.map_none, Option.bind_some, Option.bind_none, List.nil_append, List.append_nil, List.cons_append, undefs, List.length_cons, List.length_nil, Nat.reduceSub, Nat.reduceAdd, Nat.zero_add, retC_r, retC_n, leaveC_a, valsC_a, unmark, resultsOf, resultOf, tupled, binI, unI, beq_self_eq_true, Bool.false_eq_true, reduceIte, reduceCtorEq, Bool.not_true, Bool.not_false, Option.getD_some, Option.getD_none, mkAgg, IV.cells, Heap.read, Heap.get_new, Heap.n_new, Heap.get_put, Heap.n_put, List.drop_succ_cons, List.drop_zero, List.take_succ_cons, List.take_zero, Nat.add_zero, Nat.reduceLeDiff, Nat.reduceMul, Nat.le_refl, Int.reduceLT, Int.reduceLE, List.drop, List.take, Option.some.injEq, and_true, true_and, and_false, false_and, BEq.rfl, Heap.write, splice, IV.one, List.all_cons, List.all_nil, Bool.and_self, Bool.and_true, Bool.true_and, Nat.le_add_right, eqKs, eqK, Nat.reduceLT, Nat.add_sub_cancel, bne_self_eq_false, Bool.false_bne, Bool.bne_false, List.append, pairOk, Bool.or_true, Bool.true_or, Int.toNat_natCast, Option.isSome_some, List.getElem?_cons_zero, List.getElem?_cons_succ, F20o0, F20o1, F20o2, F20o3, F20o4, F20o5, F20o6, F20o7, F20o8, F20o9, F20b, F20, g0', g1', g2', q1, q2, q3, q4, q5, q6, t1, t2, ap, fillI]
    intro hk
    refine hok _ b2 hk f0 rfl f1 (by omega) ?_
    obtain ⟨r1, r2, cs, r3, r4⟩ := ho2
    refine ⟨r1, by simp only [Heap.n_put, Heap.n_new]; omega, cs, ?_, r4⟩
    rw [Heap.get_put, if_neg (by omega), Heap.get_put, if_neg (by omega), Heap.get_put, if_neg (by omega), Heap.get_new, if_neg (by omega)]
    exact r3
end Go.Iso.GenA
end
