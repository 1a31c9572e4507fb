/-
  ganseylaw02.YarnsBack returns true for every input and leaves its arguments as they were; no condition.
-/
import Derived.Test.YtpekmodcnpfmkaaFnB
import Derived.Test.YtpekmodcnpfmkaaRow
set_option linter.unusedSimpArgs false
set_option linter.unusedVariables false

section
namespace Go.Iso.GenA
open Go.Iso
set_option maxHeartbeats 4000000
set_option maxRecDepth 10000

theorem yb_run (H : Heap) (va vb : IV) (l m : List Int) (x0 x1 : Int) (hl : BL H va l) (hm : BL H vb m) (hx : ∀ x, x ∈ l → 0 ≤ x ∧ x ≤ 255) (hy : ∀ x, x ∈ m → 0 ≤ x ∧ x ≤ 255) (h0 : 0 ≤ x0 ∧ x0 ≤ 255) (h1 : 0 ≤ x1 ∧ x1 ≤ 255) :
    W E0 H.n (.call 5 [va, vb, .agg [.int .u8 x0, .int .u8 x1]]) H fun o _ => o = .val (.bool true) := by
  rw [c5]
  cases e0 : decide ((l.length : Int) > 20)
  case true =>
    simp only [W_skip, W_ret, W_exit, W_seq, W_block, W_ops, W_cond, W_segs_cons, W_segs_nil, freeI_s, freeI_f, W_op1, W_op, guardC_t, guardC_f, bb_tf, bb_ft, bb_tt, bb_ff, argC_a, goC_a, seqC_a, pairC_p, eq_self, Nat.left_eq_add, Nat.add_eq_left, Nat.reduceEqDiff, Int.reduceEq, Nat.add_left_cancel_iff, Nat.add_assoc, W_ops_nil, wantedI_n, wantedI_s, wantV_b, wantV_u, evalAll, IA.eval, optC_s, optC_n, nextOf, freeNext, fpOf, lowOf, opW, ev1, opC_a, Fr.put, List.set, List.getD_cons_zero, List.getD_cons_succ, thenC_n, thenC_j, segC_n, blkC_n, blkC_r, blkC_e, condC_t, condC_f, valC_v, W_apply, if_true, if_false, Option.map_some, Option.map_none, Option.bind_some, Option.bind_none, List.nil_append, List.append_nil, List.cons_append, undefs, List.length_cons, List.length_nil, Nat.reduceSub, Nat.reduceAdd, Nat.zero_add, retC_r, retC_n, leaveC_a, valsC_a, unmark, resultsOf, resultOf, tupled, binI, unI, beq_self_eq_true, Bool.false_eq_true, reduceIte, reduceCtorEq, Bool.not_true, Bool.not_false, Option.getD_some, Option.getD_none, mkAgg, IV.cells, Heap.read, Heap.get_new, Heap.n_new, Heap.get_put, Heap.n_put, List.drop_succ_cons, List.drop_zero, List.take_succ_cons, List.take_zero, Nat.add_zero, Nat.reduceLeDiff, Nat.reduceMul, Nat.le_refl, Int.reduceLT, Int.reduceLE, List.drop, List.take, Option.some.injEq, and_true, true_and, and_false, false_and, BEq.rfl, Heap.write, splice, IV.one, List.all_cons, List.all_nil, Bool.and_self, Bool.and_true, Bool.true_and, Nat.le_add_right, eqKs, eqK, Nat.reduceLT, Nat.add_sub_cancel, bne_self_eq_false, Bool.false_bne, Bool.bne_false, List.append, pairOk, Bool.or_true, Bool.true_or, Int.toNat_natCast, Option.isSome_some, List.getElem?_cons_zero, List.getElem?_cons_succ, F5o0, F5o1, F5o2, F5o3, F5o4, F5o5, F5o6, F5o7, F5o8, F5o9, F5o10, F5o11, F5o12, F5b, F5, ↓hl.len, ↓hm.len, e0]
    refine c9 ?_
    simp only [W_skip, W_ret, W_exit, W_seq, W_block, W_ops, W_cond, W_segs_cons, W_segs_nil, freeI_s, freeI_f, W_op1, W_op, guardC_t, guardC_f, bb_tf, bb_ft, bb_tt, bb_ff, argC_a, goC_a, seqC_a, pairC_p, eq_self, Nat.left_eq_add, Nat.add_eq_left, Nat.reduceEqDiff, Int.reduceEq, Nat.add_left_cancel_iff, Nat.add_assoc, W_ops_nil, wantedI_n, wantedI_s, wantV_b, wantV_u, evalAll, IA.eval, optC_s, optC_n, nextOf, freeNext, fpOf, lowOf, opW, ev1, opC_a, Fr.put, List.set, List.getD_cons_zero, List.getD_cons_succ, thenC_n, thenC_j, segC_n, blkC_n, blkC_r, blkC_e, condC_t, condC_f, valC_v, W_apply, if_true, if_false, Option.map_some, Option.map_none, Option.bind_some, Option.bind_none, List.nil_append, List.append_nil, List.cons_append, undefs, List.length_cons, List.length_nil, Nat.reduceSub, Nat.reduceAdd, Nat.zero_add, retC_r, retC_n, leaveC_a, valsC_a, unmark, resultsOf, resultOf, tupled, binI, unI, beq_self_eq_true, Bool.false_eq_true, reduceIte, reduceCtorEq, Bool.not_true, Bool.not_false, Option.getD_some, Option.getD_none, mkAgg, IV.cells, Heap.read, Heap.get_new, Heap.n_new, Heap.get_put, Heap.n_put, List.drop_succ_cons, List.drop_zero, List.take_succ_cons, List.take_zero, Nat.add_zero, Nat.reduceLeDiff, Nat.reduceMul, Nat.le_refl, Int.reduceLT, Int.reduceLE, List.drop, List.take, Option.some.injEq, and_true, true_and, and_false, false_and, BEq.rfl, Heap.write, splice, IV.one, List.all_cons, List.all_nil, Bool.and_self, Bool.and_true, Bool.true_and, Nat.le_add_right, eqKs, eqK, Nat.reduceLT, Nat.add_sub_cancel, bne_self_eq_false, Bool.false_bne, Bool.bne_false, List.append, pairOk, Bool.or_true, Bool.true_or, Int.toNat_natCast, Option.isSome_some, List.getElem?_cons_zero, List.getElem?_cons_succ, F5o0, F5o1, F5o2, F5o3, F5o4, F5o5, F5o6, F5o7, F5o8, F5o9, F5o10, F5o11, F5o12, F5b, F5]
  cases e1 : decide ((m.length : Int) > 20)
  case true =>
    simp only [W_skip, W_ret, W_exit, W_seq, W_block, W_ops, W_cond, W_segs_cons, W_segs_nil, freeI_s, freeI_f, W_op1, W_op, guardC_t, guardC_f, bb_tf, bb_ft, bb_tt, bb_ff, argC_a, goC_a, seqC_a, pairC_p, eq_self, Nat.left_eq_add, Nat.add_eq_left, Nat.reduceEqDiff, Int.reduceEq, Nat.add_left_cancel_iff, Nat.add_assoc, W_ops_nil, wantedI_n, wantedI_s, wantV_b, wantV_u, evalAll, IA.eval, optC_s, optC_n, nextOf, freeNext, fpOf, lowOf, opW, ev1, opC_a, Fr.put, List.set, List.getD_cons_zero, List.getD_cons_succ, thenC_n, thenC_j, segC_n, blkC_n, blkC_r, blkC_e, condC_t, condC_f, valC_v, W_apply, if_true, if_false, Option.map_some, Option.map_none, Option.bind_some, Option.bind_none, List.nil_append, List.append_nil, List.cons_append, undefs, List.length_cons, List.length_nil, Nat.reduceSub, Nat.reduceAdd, Nat.zero_add, retC_r, retC_n, leaveC_a, valsC_a, unmark, resultsOf, resultOf, tupled, binI, unI, beq_self_eq_true, Bool.false_eq_true, reduceIte, reduceCtorEq, Bool.not_true, Bool.not_false, Option.getD_some, Option.getD_none, mkAgg, IV.cells, Heap.read, Heap.get_new, Heap.n_new, Heap.get_put, Heap.n_put, List.drop_succ_cons, List.drop_zero, List.take_succ_cons, List.take_zero, Nat.add_zero, Nat.reduceLeDiff, Nat.reduceMul, Nat.le_refl, Int.reduceLT, Int.reduceLE, List.drop, List.take, Option.some.injEq, and_true, true_and, and_false, false_and, BEq.rfl, Heap.write, splice, IV.one, List.all_cons, List.all_nil, Bool.and_self, Bool.and_true, Bool.true_and, Nat.le_add_right, eqKs, eqK, Nat.reduceLT, Nat.add_sub_cancel, bne_self_eq_false, Bool.false_bne, Bool.bne_false, List.append, pairOk, Bool.or_true, Bool.true_or, Int.toNat_natCast, Option.isSome_some, List.getElem?_cons_zero, List.getElem?_cons_succ, F5o0, F5o1, F5o2, F5o3, F5o4, F5o5, F5o6, F5o7, F5o8, F5o9, F5o10, F5o11, F5o12, F5b, F5, ↓hl.len, ↓hm.len, e0, e1]
    refine c9 ?_
    simp only [W_skip, W_ret, W_exit, W_seq, W_block, W_ops, W_cond, W_segs_cons, W_segs_nil, freeI_s, freeI_f, W_op1, W_op, guardC_t, guardC_f, bb_tf, bb_ft, bb_tt, bb_ff, argC_a, goC_a, seqC_a, pairC_p, eq_self, Nat.left_eq_add, Nat.add_eq_left, Nat.reduceEqDiff, Int.reduceEq, Nat.add_left_cancel_iff, Nat.add_assoc, W_ops_nil, wantedI_n, wantedI_s, wantV_b, wantV_u, evalAll, IA.eval, optC_s, optC_n, nextOf, freeNext, fpOf, lowOf, opW, ev1, opC_a, Fr.put, List.set, List.getD_cons_zero, List.getD_cons_succ, thenC_n, thenC_j, segC_n, blkC_n, blkC_r, blkC_e, condC_t, condC_f, valC_v, W_apply, if_true, if_false, Option.map_some, Option.map_none, Option.bind_some, Option.bind_none, List.nil_append, List.append_nil, List.cons_append, undefs, List.length_cons, List.length_nil, Nat.reduceSub, Nat.reduceAdd, Nat.zero_add, retC_r, retC_n, leaveC_a, valsC_a, unmark, resultsOf, resultOf, tupled, binI, unI, beq_self_eq_true, Bool.false_eq_true, reduceIte, reduceCtorEq, Bool.not_true, Bool.not_false, Option.getD_some, Option.getD_none, mkAgg, IV.cells, Heap.read, Heap.get_new, Heap.n_new, Heap.get_put, Heap.n_put, List.drop_succ_cons, List.drop_zero, List.take_succ_cons, List.take_zero, Nat.add_zero, Nat.reduceLeDiff, Nat.reduceMul, Nat.le_refl, Int.reduceLT, Int.reduceLE, List.drop, List.take, Option.some.injEq, and_true, true_and, and_false, false_and, BEq.rfl, Heap.write, splice, IV.one, List.all_cons, List.all_nil, Bool.and_self, Bool.and_true, Bool.true_and, Nat.le_add_right, eqKs, eqK, Nat.reduceLT, Nat.add_sub_cancel, bne_self_eq_false, Bool.false_bne, Bool.bne_false, List.append, pairOk, Bool.or_true, Bool.true_or, Int.toNat_natCast, Option.isSome_some, List.getElem?_cons_zero, List.getElem?_cons_succ, F5o0, F5o1, F5o2, F5o3, F5o4, F5o5, F5o6, F5o7, F5o8, F5o9, F5o10, F5o11, F5o12, F5b, F5]
  have hl20 : l.length ≤ 20 := by simp at e0; omega
  have hm20 : m.length ≤ 20 := by simp at e1; omega
  have hA : Valids (l.map ofP) := of_valids hx
  have hB : Valids (m.map ofP) := of_valids hy
  have hAl : (l.map ofP).length ≤ 20 := by simpa using hl20
  have hBl : (m.map ofP).length ≤ 20 := by simpa using hm20
  have hpa := placeOf_ok h0
  have hpb := placeOf_ok h1
  have ha : IntKind.i64.wrap (-13 + IntKind.i64.wrap (2 * IntKind.i64.wrap (x0.tmod 97))) = placeOf x0 := rfl
  have hb : IntKind.i64.wrap (-13 + IntKind.i64.wrap (2 * IntKind.i64.wrap (x1.tmod 97))) = placeOf x1 := rfl
  have kb := Keep.new (lo := H.n) H (.cells false 36 2 [.int .u8 x0, .int .u8 x1])
  have i0 : ((0 : Int) < ((2 : Nat) : Int)) = True := by simp
  have i1 : ((1 : Int) < ((2 : Nat) : Int)) = True := by simp
  simp only [W_skip, W_ret, W_exit, W_seq, W_block, W_ops, W_cond, W_segs_cons, W_segs_nil, freeI_s, freeI_f, W_op1, W_op, guardC_t, guardC_f, bb_tf, bb_ft, bb_tt, bb_ff, argC_a, goC_a, seqC_a, pairC_p, eq_self, Nat.left_eq_add, Nat.add_eq_left, Nat.reduceEqDiff, Int.reduceEq, Nat.add_left_cancel_iff, Nat.add_assoc, W_ops_nil, wantedI_n, wantedI_s, wantV_b, wantV_u, evalAll, IA.eval, optC_s, optC_n, nextOf, freeNext, fpOf, lowOf, opW, ev1, opC_a, Fr.put, List.set, List.getD_cons_zero, List.getD_cons_succ, thenC_n, thenC_j, segC_n, blkC_n, blkC_r, blkC_e, condC_t, condC_f, valC_v, W_apply, if_true, if_false, Option.map_some, Option.map_none, Option.bind_some, Option.bind_none, List.nil_append, List.append_nil, List.cons_append, undefs, List.length_cons, List.length_nil, Nat.reduceSub, Nat.reduceAdd, Nat.zero_add, retC_r, retC_n, leaveC_a, valsC_a, unmark, resultsOf, resultOf, tupled, binI, unI, beq_self_eq_true, Bool.false_eq_true, reduceIte, reduceCtorEq, Bool.not_true, Bool.not_false, Option.getD_some, Option.getD_none, mkAgg, IV.cells, Heap.read, Heap.get_new, Heap.n_new, Heap.get_put, Heap.n_put, List.drop_succ_cons, List.drop_zero, List.take_succ_cons, List.take_zero, Nat.add_zero, Nat.reduceLeDiff, Nat.reduceMul, Nat.le_refl, Int.reduceLT, Int.reduceLE, List.drop, List.take, Option.some.injEq, and_true, true_and, and_false, false_and, BEq.rfl, Heap.write, splice, IV.one, List.all_cons, List.all_nil, Bool.and_self, Bool.and_true, Bool.true_and, Nat.le_add_right, eqKs, eqK, Nat.reduceLT, Nat.add_sub_cancel, bne_self_eq_false, Bool.false_bne, Bool.bne_false, List.append, pairOk, Bool.or_true, Bool.true_or, Int.toNat_natCast, Option.isSome_some, List.getElem?_cons_zero, List.getElem?_cons_succ, F5o0, F5o1, F5o2, F5o3, F5o4, F5o5, F5o6, F5o7, F5o8, F5o9, F5o10, F5o11, F5o12, F5b, F5, ↓hl.len, ↓hm.len, e0, e1, ha, hb, i0, i1, fillI, Int.toNat_zero, Int.toNat_one, Nat.zero_mul, Nat.one_mul]
  have hch0 : checkE false 0 5 false [] = 0 := by decide
  have hs0 : sidedB 0 = true := by decide
  refine enter_sp false false 0 5 0 (l := []) .nil (by simp) (by rw [Heap.n_new]; omega) fun H1 k1 => ?_
  simp only [hch0, hs0, ne_eq, not_true_eq_false, if_false, Bool.true_eq_false, Bool.false_eq_true, yc]
  have i2 : ((0 : Int) = 1) = False := by decide
  have e2 : (H.n ≤ H1.n) = True := by have := k1.1; rw [Heap.n_new] at this; simp; omega
  have hz : ((0 : Int) != 0) = false := by decide
  simp only [W_skip, W_ret, W_exit, W_seq, W_block, W_ops, W_cond, W_segs_cons, W_segs_nil, freeI_s, freeI_f, W_op1, W_op, guardC_t, guardC_f, bb_tf, bb_ft, bb_tt, bb_ff, argC_a, goC_a, seqC_a, pairC_p, eq_self, Nat.left_eq_add, Nat.add_eq_left, Nat.reduceEqDiff, Int.reduceEq, Nat.add_left_cancel_iff, Nat.add_assoc, W_ops_nil, wantedI_n, wantedI_s, wantV_b, wantV_u, evalAll, IA.eval, optC_s, optC_n, nextOf, freeNext, fpOf, lowOf, opW, ev1, opC_a, Fr.put, List.set, List.getD_cons_zero, List.getD_cons_succ, thenC_n, thenC_j, segC_n, blkC_n, blkC_r, blkC_e, condC_t, condC_f, valC_v, W_apply, if_true, if_false, Option.map_some, Option.map_none, Option.bind_some, Option.bind_none, List.nil_append, List.append_nil, List.cons_append, undefs, List.length_cons, List.length_nil, Nat.reduceSub, Nat.reduceAdd, Nat.zero_add, retC_r, retC_n, leaveC_a, valsC_a, unmark, resultsOf, resultOf, tupled, binI, unI, beq_self_eq_true, Bool.false_eq_true, reduceIte, reduceCtorEq, Bool.not_true, Bool.not_false, Option.getD_some, Option.getD_none, mkAgg, IV.cells, Heap.read, Heap.get_new, Heap.n_new, Heap.get_put, Heap.n_put, List.drop_succ_cons, List.drop_zero, List.take_succ_cons, List.take_zero, Nat.add_zero, Nat.reduceLeDiff, Nat.reduceMul, Nat.le_refl, Int.reduceLT, Int.reduceLE, List.drop, List.take, Option.some.injEq, and_true, true_and, and_false, false_and, BEq.rfl, Heap.write, splice, IV.one, List.all_cons, List.all_nil, Bool.and_self, Bool.and_true, Bool.true_and, Nat.le_add_right, eqKs, eqK, Nat.reduceLT, Nat.add_sub_cancel, bne_self_eq_false, Bool.false_bne, Bool.bne_false, List.append, pairOk, Bool.or_true, Bool.true_or, Int.toNat_natCast, Option.isSome_some, List.getElem?_cons_zero, List.getElem?_cons_succ, F5o0, F5o1, F5o2, F5o3, F5o4, F5o5, F5o6, F5o7, F5o8, F5o9, F5o10, F5o11, F5o12, F5b, F5, i2, hz, e2]
  have kk1 : Keep H.n H H1 := kb.trans (k1.lower (by rw [Heap.n_new]; omega))
  have hn1 : H.n + 1 ≤ H1.n := by have := k1.1; rw [Heap.n_new] at this; exact this
  clear k1
  generalize hH2 : (H1.new (.cells false 38 5 [.bool false, .int .i64 0, .int .i64 0, .bool false, .nilSlice])).put H1.n (.cells false 38 5 [.bool true, .int .i64 (-13), .int .i64 5, .bool true, .nilSlice]) = H2
  have hn2 : H2.n = H1.n + 1 := by rw [← hH2, Heap.n_put, Heap.n_new]
  have gy : H2.get H1.n = some (.cells false 38 5 [.bool true, .int .i64 (-13), .int .i64 5, .bool true, .nilSlice]) := by rw [← hH2, Heap.get_put, if_pos rfl]
  have kk2 : Keep H.n H H2 := kk1.trans (by rw [← hH2]; exact (Keep.new _ _).trans (.put _ _ (by omega)))
  have hRA : Red (pushL [] (l.map ofP)) := red_pushL (S := []) trivial _
  have hVA : Valids (pushL [] (l.map ofP)) := valids_pushL _ [] (fun p hp => by cases hp) hA
  have hLA : (pushL [] (l.map ofP)).length ≤ 20 := by have := pushL_length (l.map ofP) []; simp at this ⊢; omega
  have hRB : Red (pushL (pushL [] (l.map ofP)) (m.map ofP)) := red_pushL hRA _
  have hVB : Valids (pushL (pushL [] (l.map ofP)) (m.map ofP)) := valids_pushL _ _ hVA hB
  have hLB : (pushL (pushL [] (l.map ofP)) (m.map ofP)).length ≤ 40 := by have := pushL_length (m.map ofP) (pushL [] (l.map ofP)); omega
  have hback : pushL (pushL (pushL [] (l.map ofP)) (m.map ofP)) (inv (m.map ofP)) = pushL [] (l.map ofP) := push_inv _ _ hRA (fun p hp => valid_sided (hB p hp))
  have hIB : Valids (inv (m.map ofP)) := valids_inv hB
  refine of_sp (hl.keep kk2) (by omega) (by omega) fun H3 u3 k3 hg3 => ?_
  have hu3 := hg3.pl
  have gy3 := (k3.2 H1.n (by omega) (by omega)).trans gy
  have kk3 : Keep H.n H H3 := kk2.trans (k3.lower (by omega))
  have hn3 := k3.1
  clear k3 hg3 gy hH2
  generalize l.map ofP = A at *
  simp only [W_skip, W_ret, W_exit, W_seq, W_block, W_ops, W_cond, W_segs_cons, W_segs_nil, freeI_s, freeI_f, W_op1, W_op, guardC_t, guardC_f, bb_tf, bb_ft, bb_tt, bb_ff, argC_a, goC_a, seqC_a, pairC_p, eq_self, Nat.left_eq_add, Nat.add_eq_left, Nat.reduceEqDiff, Int.reduceEq, Nat.add_left_cancel_iff, Nat.add_assoc, W_ops_nil, wantedI_n, wantedI_s, wantV_b, wantV_u, evalAll, IA.eval, optC_s, optC_n, nextOf, freeNext, fpOf, lowOf, opW, ev1, opC_a, Fr.put, List.set, List.getD_cons_zero, List.getD_cons_succ, thenC_n, thenC_j, segC_n, blkC_n, blkC_r, blkC_e, condC_t, condC_f, valC_v, W_apply, if_true, if_false, Option.map_some, Option.map_none, Option.bind_some, Option.bind_none, List.nil_append, List.append_nil, List.cons_append, undefs, List.length_cons, List.length_nil, Nat.reduceSub, Nat.reduceAdd, Nat.zero_add, retC_r, retC_n, leaveC_a, valsC_a, unmark, resultsOf, resultOf, tupled, binI, unI, beq_self_eq_true, Bool.false_eq_true, reduceIte, reduceCtorEq, Bool.not_true, Bool.not_false, Option.getD_some, Option.getD_none, mkAgg, IV.cells, Heap.read, Heap.get_new, Heap.n_new, Heap.get_put, Heap.n_put, List.drop_succ_cons, List.drop_zero, List.take_succ_cons, List.take_zero, Nat.add_zero, Nat.reduceLeDiff, Nat.reduceMul, Nat.le_refl, Int.reduceLT, Int.reduceLE, List.drop, List.take, Option.some.injEq, and_true, true_and, and_false, false_and, BEq.rfl, Heap.write, splice, IV.one, List.all_cons, List.all_nil, Bool.and_self, Bool.and_true, Bool.true_and, Nat.le_add_right, eqKs, eqK, Nat.reduceLT, Nat.add_sub_cancel, bne_self_eq_false, Bool.false_bne, Bool.bne_false, List.append, pairOk, Bool.or_true, Bool.true_or, Int.toNat_natCast, Option.isSome_some, List.getElem?_cons_zero, List.getElem?_cons_succ, F5o0, F5o1, F5o2, F5o3, F5o4, F5o5, F5o6, F5o7, F5o8, F5o9, F5o10, F5o11, F5o12, F5b, F5]
  have hin1 : checkE true (-13) 5 true [] = 0 := by decide
  refine go_sp true true (-13) 5 (placeOf x0) (l := []) (m := A) .nil hu3 (by simp) (by omega) (by omega) (fun H' e hk hcase => ?_) (fun H4 b4 k4 _ _ _ _ _ hb4 ho4 => ?_)
  · exfalso
    have hvA := valids_all hA
    rcases hcase with h | h | h | h | h
    · exact h.1 hin1
    · rw [hpa] at h; exact absurd h.2.1 (by simp)
    · rw [hvA] at h; exact absurd h.2.2.1 (by simp)
    · exact absurd h.2.2.2.1 (by simp)
    · omega
  have gy4 := (k4.2 H1.n (by omega) (by omega)).trans gy3
  have kk4 : Keep H.n H H4 := kk3.trans (k4.lower (by omega))
  have hn4 := k4.1
  clear k4 hu3 gy3
  generalize pushL [] A = RA at *
  have hp4 := ho4.pl true
  have e4 : (H.n ≤ H1.n) = True := by simp; omega
  simp only [W_skip, W_ret, W_exit, W_seq, W_block, W_ops, W_cond, W_segs_cons, W_segs_nil, freeI_s, freeI_f, W_op1, W_op, guardC_t, guardC_f, bb_tf, bb_ft, bb_tt, bb_ff, argC_a, goC_a, seqC_a, pairC_p, eq_self, Nat.left_eq_add, Nat.add_eq_left, Nat.reduceEqDiff, Int.reduceEq, Nat.add_left_cancel_iff, Nat.add_assoc, W_ops_nil, wantedI_n, wantedI_s, wantV_b, wantV_u, evalAll, IA.eval, optC_s, optC_n, nextOf, freeNext, fpOf, lowOf, opW, ev1, opC_a, Fr.put, List.set, List.getD_cons_zero, List.getD_cons_succ, thenC_n, thenC_j, segC_n, blkC_n, blkC_r, blkC_e, condC_t, condC_f, valC_v, W_apply, if_true, if_false, Option.map_some, Option.map_none, Option.bind_some, Option.bind_none, List.nil_append, List.append_nil, List.cons_append, undefs, List.length_cons, List.length_nil, Nat.reduceSub, Nat.reduceAdd, Nat.zero_add, retC_r, retC_n, leaveC_a, valsC_a, unmark, resultsOf, resultOf, tupled, binI, unI, beq_self_eq_true, Bool.false_eq_true, reduceIte, reduceCtorEq, Bool.not_true, Bool.not_false, Option.getD_some, Option.getD_none, mkAgg, IV.cells, Heap.read, Heap.get_new, Heap.n_new, Heap.get_put, Heap.n_put, List.drop_succ_cons, List.drop_zero, List.take_succ_cons, List.take_zero, Nat.add_zero, Nat.reduceLeDiff, Nat.reduceMul, Nat.le_refl, Int.reduceLT, Int.reduceLE, List.drop, List.take, Option.some.injEq, and_true, true_and, and_false, false_and, BEq.rfl, Heap.write, splice, IV.one, List.all_cons, List.all_nil, Bool.and_self, Bool.and_true, Bool.true_and, Nat.le_add_right, eqKs, eqK, Nat.reduceLT, Nat.add_sub_cancel, bne_self_eq_false, Bool.false_bne, Bool.bne_false, List.append, pairOk, Bool.or_true, Bool.true_or, Int.toNat_natCast, Option.isSome_some, List.getElem?_cons_zero, List.getElem?_cons_succ, F5o0, F5o1, F5o2, F5o3, F5o4, F5o5, F5o6, F5o7, F5o8, F5o9, F5o10, F5o11, F5o12, F5b, F5, yc, gy4, e4]
  generalize hH5 : H4.put H1.n _ = H5
  have hn5 : H5.n = H4.n := by rw [← hH5, Heap.n_put]
  have gy5 : H5.get H1.n = some (.cells false 38 5 [.bool true, .int .i64 (placeOf x0), .int .i64 5, .bool true, .slice b4 0 RA.length RA.length true]) := by rw [← hH5, Heap.get_put, if_pos rfl]
  have kk5 : Keep H.n H H5 := kk4.trans (by rw [← hH5]; exact .put _ _ (by omega))
  have ho5 : Own H5 b4 RA.length RA := by
    obtain ⟨q1, q2, cs, q3, q4⟩ := ho4
    exact ⟨q1, by omega, cs, by rw [← hH5, Heap.get_put, if_neg (by omega)]; exact q3, q4⟩
  clear hH5 gy4 ho4 hp4 kk4
  refine of_sp (hm.keep kk5) (by omega) (by omega) fun H6 u6 k6 hg6 => ?_
  have hu6 := hg6.pl
  have gy6 := (k6.2 H1.n (by omega) (by omega)).trans gy5
  have ho6 := ho5.keep k6
  have kk6 : Keep H.n H H6 := kk5.trans (k6.lower (by omega))
  have hn6 := k6.1
  clear k6 hg6 gy5 ho5 kk5
  have hmB : m.map ofP = m.map ofP := rfl
  generalize hB' : m.map ofP = B at *
  simp only [W_skip, W_ret, W_exit, W_seq, W_block, W_ops, W_cond, W_segs_cons, W_segs_nil, freeI_s, freeI_f, W_op1, W_op, guardC_t, guardC_f, bb_tf, bb_ft, bb_tt, bb_ff, argC_a, goC_a, seqC_a, pairC_p, eq_self, Nat.left_eq_add, Nat.add_eq_left, Nat.reduceEqDiff, Int.reduceEq, Nat.add_left_cancel_iff, Nat.add_assoc, W_ops_nil, wantedI_n, wantedI_s, wantV_b, wantV_u, evalAll, IA.eval, optC_s, optC_n, nextOf, freeNext, fpOf, lowOf, opW, ev1, opC_a, Fr.put, List.set, List.getD_cons_zero, List.getD_cons_succ, thenC_n, thenC_j, segC_n, blkC_n, blkC_r, blkC_e, condC_t, condC_f, valC_v, W_apply, if_true, if_false, Option.map_some, Option.map_none, Option.bind_some, Option.bind_none, List.nil_append, List.append_nil, List.cons_append, undefs, List.length_cons, List.length_nil, Nat.reduceSub, Nat.reduceAdd, Nat.zero_add, retC_r, retC_n, leaveC_a, valsC_a, unmark, resultsOf, resultOf, tupled, binI, unI, beq_self_eq_true, Bool.false_eq_true, reduceIte, reduceCtorEq, Bool.not_true, Bool.not_false, Option.getD_some, Option.getD_none, mkAgg, IV.cells, Heap.read, Heap.get_new, Heap.n_new, Heap.get_put, Heap.n_put, List.drop_succ_cons, List.drop_zero, List.take_succ_cons, List.take_zero, Nat.add_zero, Nat.reduceLeDiff, Nat.reduceMul, Nat.le_refl, Int.reduceLT, Int.reduceLE, List.drop, List.take, Option.some.injEq, and_true, true_and, and_false, false_and, BEq.rfl, Heap.write, splice, IV.one, List.all_cons, List.all_nil, Bool.and_self, Bool.and_true, Bool.true_and, Nat.le_add_right, eqKs, eqK, Nat.reduceLT, Nat.add_sub_cancel, bne_self_eq_false, Bool.false_bne, Bool.bne_false, List.append, pairOk, Bool.or_true, Bool.true_or, Int.toNat_natCast, Option.isSome_some, List.getElem?_cons_zero, List.getElem?_cons_succ, F5o0, F5o1, F5o2, F5o3, F5o4, F5o5, F5o6, F5o7, F5o8, F5o9, F5o10, F5o11, F5o12, F5b, F5, gy6]
  have hin2 : checkE true (placeOf x0) 5 true RA = 0 := check_in hpa (by omega) (by omega) hVA hRA
  refine go_sp true true (placeOf x0) 5 (placeOf x1) (l := RA) (m := B) (ho6.pl true) hu6 (by omega) (by omega) (by omega) (fun H' e hk hcase => ?_) (fun H7 b7 k7 _ _ _ _ _ hb7 ho7 => ?_)
  · exfalso
    have hvB := valids_all hB
    rcases hcase with h | h | h | h | h
    · exact h.1 hin2
    · rw [hpb] at h; exact absurd h.2.1 (by simp)
    · rw [hvB] at h; exact absurd h.2.2.1 (by simp)
    · exact absurd h.2.2.2.1 (by simp)
    · omega
  have gy7 := (k7.2 H1.n (by omega) (by omega)).trans gy6
  have ho7y := ho6.keep k7
  have kk7 : Keep H.n H H7 := kk6.trans (k7.lower (by omega))
  have hn7 := k7.1
  clear k7 hu6 gy6 ho6 kk6
  generalize pushL RA B = RB at *
  have e7 : (H.n ≤ H7.n) = True := by simp; omega
  have t1 : Nat.testBit 383 0 = true := by decide
  have t2 : Nat.testBit 767 0 = true := by decide
  simp only [W_skip, W_ret, W_exit, W_seq, W_block, W_ops, W_cond, W_segs_cons, W_segs_nil, freeI_s, freeI_f, W_op1, W_op, guardC_t, guardC_f, bb_tf, bb_ft, bb_tt, bb_ff, argC_a, goC_a, seqC_a, pairC_p, eq_self, Nat.left_eq_add, Nat.add_eq_left, Nat.reduceEqDiff, Int.reduceEq, Nat.add_left_cancel_iff, Nat.add_assoc, W_ops_nil, wantedI_n, wantedI_s, wantV_b, wantV_u, evalAll, IA.eval, optC_s, optC_n, nextOf, freeNext, fpOf, lowOf, opW, ev1, opC_a, Fr.put, List.set, List.getD_cons_zero, List.getD_cons_succ, thenC_n, thenC_j, segC_n, blkC_n, blkC_r, blkC_e, condC_t, condC_f, valC_v, W_apply, if_true, if_false, Option.map_some, Option.map_none, Option.bind_some, Option.bind_none, List.nil_append, List.append_nil, List.cons_append, undefs, List.length_cons, List.length_nil, Nat.reduceSub, Nat.reduceAdd, Nat.zero_add, retC_r, retC_n, leaveC_a, valsC_a, unmark, resultsOf, resultOf, tupled, binI, unI, beq_self_eq_true, Bool.false_eq_true, reduceIte, reduceCtorEq, Bool.not_true, Bool.not_false, Option.getD_some, Option.getD_none, mkAgg, IV.cells, Heap.read, Heap.get_new, Heap.n_new, Heap.get_put, Heap.n_put, List.drop_succ_cons, List.drop_zero, List.take_succ_cons, List.take_zero, Nat.add_zero, Nat.reduceLeDiff, Nat.reduceMul, Nat.le_refl, Int.reduceLT, Int.reduceLE, List.drop, List.take, Option.some.injEq, and_true, true_and, and_false, false_and, BEq.rfl, Heap.write, splice, IV.one, List.all_cons, List.all_nil, Bool.and_self, Bool.and_true, Bool.true_and, Nat.le_add_right, eqKs, eqK, Nat.reduceLT, Nat.add_sub_cancel, bne_self_eq_false, Bool.false_bne, Bool.bne_false, List.append, pairOk, Bool.or_true, Bool.true_or, Int.toNat_natCast, Option.isSome_some, List.getElem?_cons_zero, List.getElem?_cons_succ, F5o0, F5o1, F5o2, F5o3, F5o4, F5o5, F5o6, F5o7, F5o8, F5o9, F5o10, F5o11, F5o12, F5b, F5, yc, e7, t1]
  generalize hH8 : (H7.new (.cells false 38 5 [.bool false, .int .i64 0, .int .i64 0, .bool false, .nilSlice])).put H7.n _ = H8
  have hn8 : H8.n = H7.n + 1 := by rw [← hH8, Heap.n_put, Heap.n_new]
  have k78 : Keep H7.n H7 H8 := by rw [← hH8]; exact (Keep.new _ _).trans (.put _ _ (Nat.le_refl _))
  have gz8 : H8.get H7.n = some (.cells false 38 5 [.bool true, .int .i64 (placeOf x1), .int .i64 5, .bool true, .slice b7 0 RB.length RB.length true]) := by rw [← hH8, Heap.get_put, if_pos rfl]
  have gy8 := (k78.2 H1.n (by omega) (by omega)).trans gy7
  have ho8y := ho7y.keep k78
  have ho8z := ho7.keep k78
  have kk8 : Keep H.n H H8 := kk7.trans (k78.lower (by omega))
  clear hH8 k78 gy7 ho7y ho7 kk7
  refine of_sp (hm.keep kk8) (by omega) (by omega) fun H9 u9 k9 hg9 => ?_
  rw [hB'] at hg9
  have hu9 := hg9.pl
  have gy9 := (k9.2 H1.n (by omega) (by omega)).trans gy8
  have gz9 := (k9.2 H7.n (by omega) (by omega)).trans gz8
  have ho9y := ho8y.keep k9
  have ho9z := ho8z.keep k9
  have kk9 : Keep H.n H H9 := kk8.trans (k9.lower (by omega))
  have hn9 := k9.1
  clear k9 hg9 gy8 gz8 ho8y ho8z kk8
  simp only [W_skip, W_ret, W_exit, W_seq, W_block, W_ops, W_cond, W_segs_cons, W_segs_nil, freeI_s, freeI_f, W_op1, W_op, guardC_t, guardC_f, bb_tf, bb_ft, bb_tt, bb_ff, argC_a, goC_a, seqC_a, pairC_p, eq_self, Nat.left_eq_add, Nat.add_eq_left, Nat.reduceEqDiff, Int.reduceEq, Nat.add_left_cancel_iff, Nat.add_assoc, W_ops_nil, wantedI_n, wantedI_s, wantV_b, wantV_u, evalAll, IA.eval, optC_s, optC_n, nextOf, freeNext, fpOf, lowOf, opW, ev1, opC_a, Fr.put, List.set, List.getD_cons_zero, List.getD_cons_succ, thenC_n, thenC_j, segC_n, blkC_n, blkC_r, blkC_e, condC_t, condC_f, valC_v, W_apply, if_true, if_false, Option.map_some, Option.map_none, Option.bind_some, Option.bind_none, List.nil_append, List.append_nil, List.cons_append, undefs, List.length_cons, List.length_nil, Nat.reduceSub, Nat.reduceAdd, Nat.zero_add, retC_r, retC_n, leaveC_a, valsC_a, unmark, resultsOf, resultOf, tupled, binI, unI, beq_self_eq_true, Bool.false_eq_true, reduceIte, reduceCtorEq, Bool.not_true, Bool.not_false, Option.getD_some, Option.getD_none, mkAgg, IV.cells, Heap.read, Heap.get_new, Heap.n_new, Heap.get_put, Heap.n_put, List.drop_succ_cons, List.drop_zero, List.take_succ_cons, List.take_zero, Nat.add_zero, Nat.reduceLeDiff, Nat.reduceMul, Nat.le_refl, Int.reduceLT, Int.reduceLE, List.drop, List.take, Option.some.injEq, and_true, true_and, and_false, false_and, BEq.rfl, Heap.write, splice, IV.one, List.all_cons, List.all_nil, Bool.and_self, Bool.and_true, Bool.true_and, Nat.le_add_right, eqKs, eqK, Nat.reduceLT, Nat.add_sub_cancel, bne_self_eq_false, Bool.false_bne, Bool.bne_false, List.append, pairOk, Bool.or_true, Bool.true_or, Int.toNat_natCast, Option.isSome_some, List.getElem?_cons_zero, List.getElem?_cons_succ, F5o0, F5o1, F5o2, F5o3, F5o4, F5o5, F5o6, F5o7, F5o8, F5o9, F5o10, F5o11, F5o12, F5b, F5, gz9]
  refine inverse_sp hu9 (by omega) (by omega) fun H10 b10 k10 hb10 ho10 => ?_
  have hil := inv_length B
  have hu10 := ho10.pl true
  have gy10 := (k10.2 H1.n (by omega) (by omega)).trans gy9
  have gz10 := (k10.2 H7.n (by omega) (by omega)).trans gz9
  have ho10y := ho9y.keep k10
  have ho10z := ho9z.keep k10
  have kk10 : Keep H.n H H10 := kk9.trans (k10.lower (by omega))
  have hn10 := k10.1
  clear k10 gy9 gz9 ho9y ho9z kk9 hu9 ho10
  rw [hil] at hu10
  simp only [W_skip, W_ret, W_exit, W_seq, W_block, W_ops, W_cond, W_segs_cons, W_segs_nil, freeI_s, freeI_f, W_op1, W_op, guardC_t, guardC_f, bb_tf, bb_ft, bb_tt, bb_ff, argC_a, goC_a, seqC_a, pairC_p, eq_self, Nat.left_eq_add, Nat.add_eq_left, Nat.reduceEqDiff, Int.reduceEq, Nat.add_left_cancel_iff, Nat.add_assoc, W_ops_nil, wantedI_n, wantedI_s, wantV_b, wantV_u, evalAll, IA.eval, optC_s, optC_n, nextOf, freeNext, fpOf, lowOf, opW, ev1, opC_a, Fr.put, List.set, List.getD_cons_zero, List.getD_cons_succ, thenC_n, thenC_j, segC_n, blkC_n, blkC_r, blkC_e, condC_t, condC_f, valC_v, W_apply, if_true, if_false, Option.map_some, Option.map_none, Option.bind_some, Option.bind_none, List.nil_append, List.append_nil, List.cons_append, undefs, List.length_cons, List.length_nil, Nat.reduceSub, Nat.reduceAdd, Nat.zero_add, retC_r, retC_n, leaveC_a, valsC_a, unmark, resultsOf, resultOf, tupled, binI, unI, beq_self_eq_true, Bool.false_eq_true, reduceIte, reduceCtorEq, Bool.not_true, Bool.not_false, Option.getD_some, Option.getD_none, mkAgg, IV.cells, Heap.read, Heap.get_new, Heap.n_new, Heap.get_put, Heap.n_put, List.drop_succ_cons, List.drop_zero, List.take_succ_cons, List.take_zero, Nat.add_zero, Nat.reduceLeDiff, Nat.reduceMul, Nat.le_refl, Int.reduceLT, Int.reduceLE, List.drop, List.take, Option.some.injEq, and_true, true_and, and_false, false_and, BEq.rfl, Heap.write, splice, IV.one, List.all_cons, List.all_nil, Bool.and_self, Bool.and_true, Bool.true_and, Nat.le_add_right, eqKs, eqK, Nat.reduceLT, Nat.add_sub_cancel, bne_self_eq_false, Bool.false_bne, Bool.bne_false, List.append, pairOk, Bool.or_true, Bool.true_or, Int.toNat_natCast, Option.isSome_some, List.getElem?_cons_zero, List.getElem?_cons_succ, F5o0, F5o1, F5o2, F5o3, F5o4, F5o5, F5o6, F5o7, F5o8, F5o9, F5o10, F5o11, F5o12, F5b, F5]
  have hin3 : checkE true (placeOf x1) 5 true RB = 0 := check_in hpb (by omega) (by omega) hVB hRB
  refine go_sp true true (placeOf x1) 5 (placeOf x0) (l := RB) (m := inv B) (ho10z.pl true) hu10 (by omega) (by omega) (by omega) (fun H' e hk hcase => ?_) (fun H11 b11 k11 _ _ _ _ _ hb11 ho11 => ?_)
  · exfalso
    have hvB := valids_all hIB
    rw [hback] at hcase
    rcases hcase with h | h | h | h | h
    · exact h.1 hin3
    · rw [hpa] at h; exact absurd h.2.1 (by simp)
    · rw [hvB] at h; exact absurd h.2.2.1 (by simp)
    · exact absurd h.2.2.2.1 (by simp)
    · omega
  rw [hback] at ho11
  rw [hback]
  have gy11 := (k11.2 H1.n (by omega) (by omega)).trans gy10
  have gz11 := (k11.2 H7.n (by omega) (by omega)).trans gz10
  have ho11y := ho10y.keep k11
  have hn11 := k11.1
  clear k11 gy10 gz10 ho10y ho10z kk10 hu10
  have e11 : (H.n ≤ H11.n) = True := by simp; omega
  have e12 : (H11.n = H1.n) = False := by simp; omega
  have e13 : (H11.n = H7.n) = False := by simp; omega
  have pp0 : (placeOf x0 == placeOf x0) = true := by simp
  have pp1 : (placeOf x1 == placeOf x1) = true := by simp
  have five : ((5 : Int) == 5) = true := by decide
  have one1 : ((1 : Int) == 1) = true := by decide
  simp only [W_skip, W_ret, W_exit, W_seq, W_block, W_ops, W_cond, W_segs_cons, W_segs_nil, freeI_s, freeI_f, W_op1, W_op, guardC_t, guardC_f, bb_tf, bb_ft, bb_tt, bb_ff, argC_a, goC_a, seqC_a, pairC_p, eq_self, Nat.left_eq_add, Nat.add_eq_left, Nat.reduceEqDiff, Int.reduceEq, Nat.add_left_cancel_iff, Nat.add_assoc, W_ops_nil, wantedI_n, wantedI_s, wantV_b, wantV_u, evalAll, IA.eval, optC_s, optC_n, nextOf, freeNext, fpOf, lowOf, opW, ev1, opC_a, Fr.put, List.set, List.getD_cons_zero, List.getD_cons_succ, thenC_n, thenC_j, segC_n, blkC_n, blkC_r, blkC_e, condC_t, condC_f, valC_v, W_apply, if_true, if_false, Option.map_some, Option.map_none, Option.bind_some, Option.bind_none, List.nil_append, List.append_nil, List.cons_append, undefs, List.length_cons, List.length_nil, Nat.reduceSub, Nat.reduceAdd, Nat.zero_add, retC_r, retC_n, leaveC_a, valsC_a, unmark, resultsOf, resultOf, tupled, binI, unI, beq_self_eq_true, Bool.false_eq_true, reduceIte, reduceCtorEq, Bool.not_true, Bool.not_false, Option.getD_some, Option.getD_none, mkAgg, IV.cells, Heap.read, Heap.get_new, Heap.n_new, Heap.get_put, Heap.n_put, List.drop_succ_cons, List.drop_zero, List.take_succ_cons, List.take_zero, Nat.add_zero, Nat.reduceLeDiff, Nat.reduceMul, Nat.le_refl, Int.reduceLT, Int.reduceLE, List.drop, List.take, Option.some.injEq, and_true, true_and, and_false, false_and, BEq.rfl, Heap.write, splice, IV.one, List.all_cons, List.all_nil, Bool.and_self, Bool.and_true, Bool.true_and, Nat.le_add_right, eqKs, eqK, Nat.reduceLT, Nat.add_sub_cancel, bne_self_eq_false, Bool.false_bne, Bool.bne_false, List.append, pairOk, Bool.or_true, Bool.true_or, Int.toNat_natCast, Option.isSome_some, List.getElem?_cons_zero, List.getElem?_cons_succ, F5o0, F5o1, F5o2, F5o3, F5o4, F5o5, F5o6, F5o7, F5o8, F5o9, F5o10, F5o11, F5o12, F5b, F5, yc, e11, e12, e13, t2, hz, gy11, gz11, pp0, pp1, five]
  have k12 : Keep H11.n H11 ((H11.new (.cells false 38 5 [.bool false, .int .i64 0, .int .i64 0, .bool false, .nilSlice])).put H11.n (.cells false 38 5 [.bool true, .int .i64 (placeOf x0), .int .i64 5, .bool true, .slice b11 0 RA.length RA.length true])) := (Keep.new _ _).trans (.put _ _ (Nat.le_refl _))
  refine same_sp (l := RA) ((ho11.pl true).keep k12) (.inr ⟨b11, 0, rfl⟩) ((ho11y.pl true).keep k12) (by omega) ?_
  simp only [W_skip, W_ret, W_exit, W_seq, W_block, W_ops, W_cond, W_segs_cons, W_segs_nil, freeI_s, freeI_f, W_op1, W_op, guardC_t, guardC_f, bb_tf, bb_ft, bb_tt, bb_ff, argC_a, goC_a, seqC_a, pairC_p, eq_self, Nat.left_eq_add, Nat.add_eq_left, Nat.reduceEqDiff, Int.reduceEq, Nat.add_left_cancel_iff, Nat.add_assoc, W_ops_nil, wantedI_n, wantedI_s, wantV_b, wantV_u, evalAll, IA.eval, optC_s, optC_n, nextOf, freeNext, fpOf, lowOf, opW, ev1, opC_a, Fr.put, List.set, List.getD_cons_zero, List.getD_cons_succ, thenC_n, thenC_j, segC_n, blkC_n, blkC_r, blkC_e, condC_t, condC_f, valC_v, W_apply, if_true, if_false, Option.map_some, Option.map_none, Option.bind_some, Option.bind_none, List.nil_append, List.append_nil, List.cons_append, undefs, List.length_cons, List.length_nil, Nat.reduceSub, Nat.reduceAdd, Nat.zero_add, retC_r, retC_n, leaveC_a, valsC_a, unmark, resultsOf, resultOf, tupled, binI, unI, beq_self_eq_true, Bool.false_eq_true, reduceIte, reduceCtorEq, Bool.not_true, Bool.not_false, Option.getD_some, Option.getD_none, mkAgg, IV.cells, Heap.read, Heap.get_new, Heap.n_new, Heap.get_put, Heap.n_put, List.drop_succ_cons, List.drop_zero, List.take_succ_cons, List.take_zero, Nat.add_zero, Nat.reduceLeDiff, Nat.reduceMul, Nat.le_refl, Int.reduceLT, Int.reduceLE, List.drop, List.take, Option.some.injEq, and_true, true_and, and_false, false_and, BEq.rfl, Heap.write, splice, IV.one, List.all_cons, List.all_nil, Bool.and_self, Bool.and_true, Bool.true_and, Nat.le_add_right, eqKs, eqK, Nat.reduceLT, Nat.add_sub_cancel, bne_self_eq_false, Bool.false_bne, Bool.bne_false, List.append, pairOk, Bool.or_true, Bool.true_or, Int.toNat_natCast, Option.isSome_some, List.getElem?_cons_zero, List.getElem?_cons_succ, F5o0, F5o1, F5o2, F5o3, F5o4, F5o5, F5o6, F5o7, F5o8, F5o9, F5o10, F5o11, F5o12, F5b, F5, one1]
  refine c9 ?_
  simp only [W_skip, W_ret, W_exit, W_seq, W_block, W_ops, W_cond, W_segs_cons, W_segs_nil, freeI_s, freeI_f, W_op1, W_op, guardC_t, guardC_f, bb_tf, bb_ft, bb_tt, bb_ff, argC_a, goC_a, seqC_a, pairC_p, eq_self, Nat.left_eq_add, Nat.add_eq_left, Nat.reduceEqDiff, Int.reduceEq, Nat.add_left_cancel_iff, Nat.add_assoc, W_ops_nil, wantedI_n, wantedI_s, wantV_b, wantV_u, evalAll, IA.eval, optC_s, optC_n, nextOf, freeNext, fpOf, lowOf, opW, ev1, opC_a, Fr.put, List.set, List.getD_cons_zero, List.getD_cons_succ, thenC_n, thenC_j, segC_n, blkC_n, blkC_r, blkC_e, condC_t, condC_f, valC_v, W_apply, if_true, if_false, Option.map_some, Option.map_none, Option.bind_some, Option.bind_none, List.nil_append, List.append_nil, List.cons_append, undefs, List.length_cons, List.length_nil, Nat.reduceSub, Nat.reduceAdd, Nat.zero_add, retC_r, retC_n, leaveC_a, valsC_a, unmark, resultsOf, resultOf, tupled, binI, unI, beq_self_eq_true, Bool.false_eq_true, reduceIte, reduceCtorEq, Bool.not_true, Bool.not_false, Option.getD_some, Option.getD_none, mkAgg, IV.cells, Heap.read, Heap.get_new, Heap.n_new, Heap.get_put, Heap.n_put, List.drop_succ_cons, List.drop_zero, List.take_succ_cons, List.take_zero, Nat.add_zero, Nat.reduceLeDiff, Nat.reduceMul, Nat.le_refl, Int.reduceLT, Int.reduceLE, List.drop, List.take, Option.some.injEq, and_true, true_and, and_false, false_and, BEq.rfl, Heap.write, splice, IV.one, List.all_cons, List.all_nil, Bool.and_self, Bool.and_true, Bool.true_and, Nat.le_add_right, eqKs, eqK, Nat.reduceLT, Nat.add_sub_cancel, bne_self_eq_false, Bool.false_bne, Bool.bne_false, List.append, pairOk, Bool.or_true, Bool.true_or, Int.toNat_natCast, Option.isSome_some, List.getElem?_cons_zero, List.getElem?_cons_succ, F5o0, F5o1, F5o2, F5o3, F5o4, F5o5, F5o6, F5o7, F5o8, F5o9, F5o10, F5o11, F5o12, F5b, F5]
end Go.Iso.GenA
end

section
namespace Go.Iso.GenA
open Go.Iso Go.Proofs
set_option maxRecDepth 100000
set_option maxHeartbeats 4000000

theorem rd_two {H : Heap} {c : List IV} {d : PD} (h : Rd H (.arr 2 (.int .u8)) c d) : ∃ x0 x1 : Int, c = [.int .u8 x0, .int .u8 x1] ∧ (0 ≤ x0 ∧ x0 ≤ 255) ∧ (0 ≤ x1 ∧ x1 ≤ 255) := by
  cases h with
  | arr n e css l he =>
    cases he with
    | cons h1 he =>
      cases he with
      | cons h2 he =>
        cases he
        cases h1 with
        | int k n hn =>
          cases h2 with
          | int k n' hn' => exact ⟨n, n', rfl, hn, hn'⟩

theorem params5 : Try.f5.params.toList.mapM (tyOf Try.prog 8) = some [.slice (.int .u8), .slice (.int .u8), .arr 2 (.int .u8)] := by kernel_rfl
theorem types5 : typesOk Try.prog Try.f5 = true := by kernel_rfl

theorem back_lifted (os : Os) (started : os.Started) (T : Type) (enc : TypeId × Value → T) :
    ReturnsInHanded {} Try.checked os 5 .any (Ytpekmodcnpfmkaa.Rows.yarnsBackSpec.pre6 enc Try.prog Try.f5 [] false) (Ytpekmodcnpfmkaa.Rows.yarnsBackSpec.post enc Try.prog Try.f5 false true false false) := by
  refine returnsInHanded_of_change (C := Try.checked) own_knob started (by kernel_rfl) Try.func5
    (ChangeSpec.witness6 (enc := enc) (C := Try.checked) false ⟨#[], #[.slice none 0 0, .slice none 0 0, .agg #[.int .u8 0, .int .u8 0]], []⟩ 8 (by kernel_rfl) (by kernel_rfl) (by kernel_rfl) (by kernel_rfl)) ?_
  intro W base args ds gs before hval hW _ _
  refine law_calls (P := Try.prog) (tb := 4) (s := Ytpekmodcnpfmkaa.Rows.yarnsBackSpec) env0 rfl params5 (by kernel_rfl) (by kernel_rfl) types5 rfl ?_ (fun _ => True) ?_ W base args ds gs before hval hW trivial
  · intro T ds hd
    match ds, hd with
    | [a, b, c], _ => rfl
  · intro H css ds hro hrd _
    cases hrd with
    | cons h1 hrd =>
      cases hrd with
      | cons h2 hrd =>
        cases hrd with
        | cons h3 hrd =>
          cases hrd
          obtain ⟨va, l, rfl, hl, hx⟩ := rd_bytes hro h1
          obtain ⟨vb, m, rfl, hm, hy⟩ := rd_bytes hro h2
          obtain ⟨x0, x1, rfl, g0, g1⟩ := rd_two h3
          obtain ⟨n, o, H', h, rfl⟩ := yb_run H va vb l m x0 x1 hl hm hx hy g0 g1
          exact ⟨n, H', h⟩

theorem back_holds : Ytpekmodcnpfmkaa.Rows.YarnsBackSaid :=
  OpenClaim.holds_of_wide 5 Try.f5 rfl rfl rfl rfl rfl rfl rfl ⟨rfl, rfl, rfl, rfl, rfl⟩ rfl rfl rfl rfl rfl (by kernel_rfl) Try.func5 (by kernel_rfl)
    (of_decide_eq_true (by kernel_rfl)) (by unfold Func.isWrapper; first | (rw [if_pos (by decide +kernel)]; kernel_rfl) | (rw [if_neg (by decide +kernel)]; exact ⟨rfl, rfl⟩))
    (fun os started H enc _ => back_lifted os started H enc)
end Go.Iso.GenA

namespace Go.Proofs.Ytpekmodcnpfmkaa
theorem yarnsBack_holds : Rows.YarnsBackSaid := Go.Iso.GenA.back_holds
end Go.Proofs.Ytpekmodcnpfmkaa
end
