/-
  what the functions of layer 2 give.
-/
import Derived.Test.YtpekmodcnpfmkaaGen
import Derived.IntWalk
set_option linter.unusedSimpArgs false
set_option linter.unusedVariables false

section
namespace Go.Iso.GenA
open Go.Iso
set_option maxHeartbeats 1000000
set_option maxRecDepth 10000

/-- A direction is left or right. -/
def sidedB (d : Int) : Bool := d == 0 || d == 1
theorem sided_sp (d : Int) {H : Heap} {lo : Nat} {Q : Out → Heap → Prop} (h : Q (.val (.bool (sidedB d))) H) : W E0 lo (.call 25 [.int .u8 d]) H Q := by
  rw [c25]
  unfold sidedB at h
  cases e0 : (d == 0) <;> cases e1 : (d == 1) <;> simp only [e0, e1, Bool.or_true, Bool.or_false] at h <;> simp only [W_skip, W_ret, W_exit, W_seq, W_block, W_ops, W_cond, W_segs_cons, W_segs_nil, freeI_s, freeI_f, W_op1, W_op, guardC_t, guardC_f, bb_tf, bb_ft, bb_tt, bb_ff, argC_a, goC_a, seqC_a, pairC_p, eq_self, Nat.left_eq_add, Nat.add_eq_left, Nat.reduceEqDiff, Int.reduceEq, Nat.add_left_cancel_iff, Nat.add_assoc, W_ops_nil, wantedI_n, wantedI_s, wantV_b, wantV_u, evalAll, IA.eval, optC_s, optC_n, nextOf, freeNext, fpOf, lowOf, opW, ev1, opC_a, Fr.put, List.set, List.getD_cons_zero, List.getD_cons_succ, thenC_n, thenC_j, segC_n, blkC_n, blkC_r, blkC_e, condC_t, condC_f, valC_v, W_apply, if_true, if_false, Option.map_some, Option.map_none, Option.bind_some, Option.bind_none, List.nil_append, List.append_nil, List.cons_append, undefs, List.length_cons, List.length_nil, Nat.reduceSub, Nat.reduceAdd, Nat.zero_add, retC_r, retC_n, leaveC_a, valsC_a, unmark, resultsOf, resultOf, tupled, binI, unI, beq_self_eq_true, Bool.false_eq_true, reduceIte, reduceCtorEq, Bool.not_true, Bool.not_false, Option.getD_some, Option.getD_none, mkAgg, IV.cells, Heap.read, Heap.get_new, Heap.n_new, Heap.get_put, Heap.n_put, List.drop_succ_cons, List.drop_zero, List.take_succ_cons, List.take_zero, Nat.add_zero, Nat.reduceLeDiff, Nat.reduceMul, Nat.le_refl, Int.reduceLT, Int.reduceLE, List.drop, List.take, Option.some.injEq, and_true, true_and, and_false, false_and, BEq.rfl, Heap.write, splice, IV.one, List.all_cons, List.all_nil, Bool.and_self, Bool.and_true, Bool.true_and, Nat.le_add_right, eqKs, eqK, Nat.reduceLT, Nat.add_sub_cancel, bne_self_eq_false, Bool.false_bne, Bool.bne_false, List.append, pairOk, Bool.or_true, Bool.true_or, Int.toNat_natCast, Option.isSome_some, List.getElem?_cons_zero, List.getElem?_cons_succ, F25o0, F25o1, F25b, F25, e0, e1] <;> exact h

def placeB (p : Int) : Bool := p.tmod 2 != 0 && (decide (p ≥ -13) && decide (p ≤ 179))
theorem isPlace_sp (p : Int) {H : Heap} {lo : Nat} {Q : Out → Heap → Prop} (h : Q (.val (.bool (placeB p))) H) : W E0 lo (.call 26 [.int .i64 p]) H Q := by
  rw [c26]
  unfold placeB at h
  cases e0 : (p.tmod 2 != 0) <;> cases e1 : decide (p ≥ -13) <;> cases e2 : decide (p ≤ 179) <;> simp only [e0, e1, e2, Bool.and_true, Bool.and_false] at h <;> simp only [W_skip, W_ret, W_exit, W_seq, W_block, W_ops, W_cond, W_segs_cons, W_segs_nil, freeI_s, freeI_f, W_op1, W_op, guardC_t, guardC_f, bb_tf, bb_ft, bb_tt, bb_ff, argC_a, goC_a, seqC_a, pairC_p, eq_self, Nat.left_eq_add, Nat.add_eq_left, Nat.reduceEqDiff, Int.reduceEq, Nat.add_left_cancel_iff, Nat.add_assoc, W_ops_nil, wantedI_n, wantedI_s, wantV_b, wantV_u, evalAll, IA.eval, optC_s, optC_n, nextOf, freeNext, fpOf, lowOf, opW, ev1, opC_a, Fr.put, List.set, List.getD_cons_zero, List.getD_cons_succ, thenC_n, thenC_j, segC_n, blkC_n, blkC_r, blkC_e, condC_t, condC_f, valC_v, W_apply, if_true, if_false, Option.map_some, Option.map_none, Option.bind_some, Option.bind_none, List.nil_append, List.append_nil, List.cons_append, undefs, List.length_cons, List.length_nil, Nat.reduceSub, Nat.reduceAdd, Nat.zero_add, retC_r, retC_n, leaveC_a, valsC_a, unmark, resultsOf, resultOf, tupled, binI, unI, beq_self_eq_true, Bool.false_eq_true, reduceIte, reduceCtorEq, Bool.not_true, Bool.not_false, Option.getD_some, Option.getD_none, mkAgg, IV.cells, Heap.read, Heap.get_new, Heap.n_new, Heap.get_put, Heap.n_put, List.drop_succ_cons, List.drop_zero, List.take_succ_cons, List.take_zero, Nat.add_zero, Nat.reduceLeDiff, Nat.reduceMul, Nat.le_refl, Int.reduceLT, Int.reduceLE, List.drop, List.take, Option.some.injEq, and_true, true_and, and_false, false_and, BEq.rfl, Heap.write, splice, IV.one, List.all_cons, List.all_nil, Bool.and_self, Bool.and_true, Bool.true_and, Nat.le_add_right, eqKs, eqK, Nat.reduceLT, Nat.add_sub_cancel, bne_self_eq_false, Bool.false_bne, Bool.bne_false, List.append, pairOk, Bool.or_true, Bool.true_or, Int.toNat_natCast, Option.isSome_some, List.getElem?_cons_zero, List.getElem?_cons_succ, F26o0, F26o1, F26b, F26, e0, e1, e2] <;> exact h

def namedB (y n : Int) : Bool := decide (y ≥ 1) && (decide (y ≤ 6) && (decide (n ≥ 0) && decide (n < 2048)))
theorem named_sp (y n : Int) {H : Heap} {lo : Nat} {Q : Out → Heap → Prop} (h : ∀ H', Keep H.n H H' → Q (.val (.bool (namedB y n))) H') (hlo : lo ≤ H.n) : W E0 lo (.call 22 [.agg [.int .u8 y, .int .i64 n]]) H Q := by
  refine W.pure plain hlo ?_
  generalize hR : (fun (o : Out) (H' : Heap) => Keep H.n H H' → Q o H') = R
  have h' : ∀ H', R (.val (.bool (namedB y n))) H' := by subst hR; exact h
  clear h hR
  rw [c22]
  unfold namedB at h'
  cases e0 : decide (y ≥ 1) <;> cases e1 : decide (y ≤ 6) <;> cases e2 : decide (n ≥ 0) <;> cases e3 : decide (n < 2048) <;> simp only [e0, e1, e2, e3, Bool.and_true, Bool.and_false] at h' <;> simp only [W_skip, W_ret, W_exit, W_seq, W_block, W_ops, W_cond, W_segs_cons, W_segs_nil, freeI_s, freeI_f, W_op1, W_op, guardC_t, guardC_f, bb_tf, bb_ft, bb_tt, bb_ff, argC_a, goC_a, seqC_a, pairC_p, eq_self, Nat.left_eq_add, Nat.add_eq_left, Nat.reduceEqDiff, Int.reduceEq, Nat.add_left_cancel_iff, Nat.add_assoc, W_ops_nil, wantedI_n, wantedI_s, wantV_b, wantV_u, evalAll, IA.eval, optC_s, optC_n, nextOf, freeNext, fpOf, lowOf, opW, ev1, opC_a, Fr.put, List.set, List.getD_cons_zero, List.getD_cons_succ, thenC_n, thenC_j, segC_n, blkC_n, blkC_r, blkC_e, condC_t, condC_f, valC_v, W_apply, if_true, if_false, Option.map_some, Option.map_none, Option.bind_some, Option.bind_none, List.nil_append, List.append_nil, List.cons_append, undefs, List.length_cons, List.length_nil, Nat.reduceSub, Nat.reduceAdd, Nat.zero_add, retC_r, retC_n, leaveC_a, valsC_a, unmark, resultsOf, resultOf, tupled, binI, unI, beq_self_eq_true, Bool.false_eq_true, reduceIte, reduceCtorEq, Bool.not_true, Bool.not_false, Option.getD_some, Option.getD_none, mkAgg, IV.cells, Heap.read, Heap.get_new, Heap.n_new, Heap.get_put, Heap.n_put, List.drop_succ_cons, List.drop_zero, List.take_succ_cons, List.take_zero, Nat.add_zero, Nat.reduceLeDiff, Nat.reduceMul, Nat.le_refl, Int.reduceLT, Int.reduceLE, List.drop, List.take, Option.some.injEq, and_true, true_and, and_false, false_and, BEq.rfl, Heap.write, splice, IV.one, List.all_cons, List.all_nil, Bool.and_self, Bool.and_true, Bool.true_and, Nat.le_add_right, eqKs, eqK, Nat.reduceLT, Nat.add_sub_cancel, bne_self_eq_false, Bool.false_bne, Bool.bne_false, List.append, pairOk, Bool.or_true, Bool.true_or, Int.toNat_natCast, Option.isSome_some, List.getElem?_cons_zero, List.getElem?_cons_succ, F22o0, F22o1, F22b, F22, e0, e1, e2, e3] <;> exact h' _
end Go.Iso.GenA
end

section
namespace Go.Iso.GenA
open Go.Iso
set_option maxHeartbeats 1000000
set_option maxRecDepth 10000

/-- A pass. -/
structure Ps where
  y : Int
  n : Int
  f : Bool
  d : Int

def Ps.cells (p : Ps) : List IV := [.int .u8 p.y, .int .i64 p.n, .bool p.f, .int .u8 p.d]

theorem pureQ {f : FuncId} {args : List IV} {lo : Nat} {H : Heap} {Q : Out → Heap → Prop} (v : IV) (hlo : lo ≤ H.n) (h : ∀ H', Keep H.n H H' → Q (.val v) H') (hw : ∀ R : Out → Heap → Prop, (∀ H', R (.val v) H') → W E0 H.n (.call f args) H R) : W E0 lo (.call f args) H Q :=
  W.pure plain hlo (hw _ h)

def cancelB (p q : Ps) : Bool := sidedB p.d && (sidedB q.d && (!(p.d == q.d) && ((p.y == q.y) && ((p.n == q.n) && ((p.f == q.f))))))

theorem cancel_sp (p q : Ps) {H : Heap} {lo : Nat} {Q : Out → Heap → Prop} (h : ∀ H', Keep H.n H H' → Q (.val (.bool (cancelB p q))) H') (hlo : lo ≤ H.n) : W E0 lo (.call 28 [.agg p.cells, .agg q.cells]) H Q := by
  refine pureQ _ hlo h fun R hR => ?_
  rw [c28]
  unfold cancelB at hR
  cases e0 : sidedB p.d
  · simp only [e0, Bool.false_and] at hR
    simp only [W_skip, W_ret, W_exit, W_seq, W_block, W_ops, W_cond, W_segs_cons, W_segs_nil, freeI_s, freeI_f, W_op1, W_op, guardC_t, guardC_f, bb_tf, bb_ft, bb_tt, bb_ff, argC_a, goC_a, seqC_a, pairC_p, eq_self, Nat.left_eq_add, Nat.add_eq_left, Nat.reduceEqDiff, Int.reduceEq, Nat.add_left_cancel_iff, Nat.add_assoc, W_ops_nil, wantedI_n, wantedI_s, wantV_b, wantV_u, evalAll, IA.eval, optC_s, optC_n, nextOf, freeNext, fpOf, lowOf, opW, ev1, opC_a, Fr.put, List.set, List.getD_cons_zero, List.getD_cons_succ, thenC_n, thenC_j, segC_n, blkC_n, blkC_r, blkC_e, condC_t, condC_f, valC_v, W_apply, if_true, if_false, Option.map_some, Option.map_none, Option.bind_some, Option.bind_none, List.nil_append, List.append_nil, List.cons_append, undefs, List.length_cons, List.length_nil, Nat.reduceSub, Nat.reduceAdd, Nat.zero_add, retC_r, retC_n, leaveC_a, valsC_a, unmark, resultsOf, resultOf, tupled, binI, unI, beq_self_eq_true, Bool.false_eq_true, reduceIte, reduceCtorEq, Bool.not_true, Bool.not_false, Option.getD_some, Option.getD_none, mkAgg, IV.cells, Heap.read, Heap.get_new, Heap.n_new, Heap.get_put, Heap.n_put, List.drop_succ_cons, List.drop_zero, List.take_succ_cons, List.take_zero, Nat.add_zero, Nat.reduceLeDiff, Nat.reduceMul, Nat.le_refl, Int.reduceLT, Int.reduceLE, List.drop, List.take, Option.some.injEq, and_true, true_and, and_false, false_and, BEq.rfl, Heap.write, splice, IV.one, List.all_cons, List.all_nil, Bool.and_self, Bool.and_true, Bool.true_and, Nat.le_add_right, eqKs, eqK, Nat.reduceLT, Nat.add_sub_cancel, bne_self_eq_false, Bool.false_bne, Bool.bne_false, List.append, pairOk, Bool.or_true, Bool.true_or, Int.toNat_natCast, Option.isSome_some, List.getElem?_cons_zero, List.getElem?_cons_succ, F28o0, F28o1, F28o2, F28o3, F28o4, F28b, F28, Ps.cells]
    refine sided_sp _ ?_
    simp only [W_skip, W_ret, W_exit, W_seq, W_block, W_ops, W_cond, W_segs_cons, W_segs_nil, freeI_s, freeI_f, W_op1, W_op, guardC_t, guardC_f, bb_tf, bb_ft, bb_tt, bb_ff, argC_a, goC_a, seqC_a, pairC_p, eq_self, Nat.left_eq_add, Nat.add_eq_left, Nat.reduceEqDiff, Int.reduceEq, Nat.add_left_cancel_iff, Nat.add_assoc, W_ops_nil, wantedI_n, wantedI_s, wantV_b, wantV_u, evalAll, IA.eval, optC_s, optC_n, nextOf, freeNext, fpOf, lowOf, opW, ev1, opC_a, Fr.put, List.set, List.getD_cons_zero, List.getD_cons_succ, thenC_n, thenC_j, segC_n, blkC_n, blkC_r, blkC_e, condC_t, condC_f, valC_v, W_apply, if_true, if_false, Option.map_some, Option.map_none, Option.bind_some, Option.bind_none, List.nil_append, List.append_nil, List.cons_append, undefs, List.length_cons, List.length_nil, Nat.reduceSub, Nat.reduceAdd, Nat.zero_add, retC_r, retC_n, leaveC_a, valsC_a, unmark, resultsOf, resultOf, tupled, binI, unI, beq_self_eq_true, Bool.false_eq_true, reduceIte, reduceCtorEq, Bool.not_true, Bool.not_false, Option.getD_some, Option.getD_none, mkAgg, IV.cells, Heap.read, Heap.get_new, Heap.n_new, Heap.get_put, Heap.n_put, List.drop_succ_cons, List.drop_zero, List.take_succ_cons, List.take_zero, Nat.add_zero, Nat.reduceLeDiff, Nat.reduceMul, Nat.le_refl, Int.reduceLT, Int.reduceLE, List.drop, List.take, Option.some.injEq, and_true, true_and, and_false, false_and, BEq.rfl, Heap.write, splice, IV.one, List.all_cons, List.all_nil, Bool.and_self, Bool.and_true, Bool.true_and, Nat.le_add_right, eqKs, eqK, Nat.reduceLT, Nat.add_sub_cancel, bne_self_eq_false, Bool.false_bne, Bool.bne_false, List.append, pairOk, Bool.or_true, Bool.true_or, Int.toNat_natCast, Option.isSome_some, List.getElem?_cons_zero, List.getElem?_cons_succ, F28o0, F28o1, F28o2, F28o3, F28o4, F28b, F28, Ps.cells, e0]
    exact hR _
  simp only [e0, Bool.true_and] at hR
  cases e1 : sidedB q.d
  · simp only [e1, Bool.false_and] at hR
    simp only [W_skip, W_ret, W_exit, W_seq, W_block, W_ops, W_cond, W_segs_cons, W_segs_nil, freeI_s, freeI_f, W_op1, W_op, guardC_t, guardC_f, bb_tf, bb_ft, bb_tt, bb_ff, argC_a, goC_a, seqC_a, pairC_p, eq_self, Nat.left_eq_add, Nat.add_eq_left, Nat.reduceEqDiff, Int.reduceEq, Nat.add_left_cancel_iff, Nat.add_assoc, W_ops_nil, wantedI_n, wantedI_s, wantV_b, wantV_u, evalAll, IA.eval, optC_s, optC_n, nextOf, freeNext, fpOf, lowOf, opW, ev1, opC_a, Fr.put, List.set, List.getD_cons_zero, List.getD_cons_succ, thenC_n, thenC_j, segC_n, blkC_n, blkC_r, blkC_e, condC_t, condC_f, valC_v, W_apply, if_true, if_false, Option.map_some, Option.map_none, Option.bind_some, Option.bind_none, List.nil_append, List.append_nil, List.cons_append, undefs, List.length_cons, List.length_nil, Nat.reduceSub, Nat.reduceAdd, Nat.zero_add, retC_r, retC_n, leaveC_a, valsC_a, unmark, resultsOf, resultOf, tupled, binI, unI, beq_self_eq_true, Bool.false_eq_true, reduceIte, reduceCtorEq, Bool.not_true, Bool.not_false, Option.getD_some, Option.getD_none, mkAgg, IV.cells, Heap.read, Heap.get_new, Heap.n_new, Heap.get_put, Heap.n_put, List.drop_succ_cons, List.drop_zero, List.take_succ_cons, List.take_zero, Nat.add_zero, Nat.reduceLeDiff, Nat.reduceMul, Nat.le_refl, Int.reduceLT, Int.reduceLE, List.drop, List.take, Option.some.injEq, and_true, true_and, and_false, false_and, BEq.rfl, Heap.write, splice, IV.one, List.all_cons, List.all_nil, Bool.and_self, Bool.and_true, Bool.true_and, Nat.le_add_right, eqKs, eqK, Nat.reduceLT, Nat.add_sub_cancel, bne_self_eq_false, Bool.false_bne, Bool.bne_false, List.append, pairOk, Bool.or_true, Bool.true_or, Int.toNat_natCast, Option.isSome_some, List.getElem?_cons_zero, List.getElem?_cons_succ, F28o0, F28o1, F28o2, F28o3, F28o4, F28b, F28, Ps.cells]
    refine sided_sp _ ?_
    simp only [W_skip, W_ret, W_exit, W_seq, W_block, W_ops, W_cond, W_segs_cons, W_segs_nil, freeI_s, freeI_f, W_op1, W_op, guardC_t, guardC_f, bb_tf, bb_ft, bb_tt, bb_ff, argC_a, goC_a, seqC_a, pairC_p, eq_self, Nat.left_eq_add, Nat.add_eq_left, Nat.reduceEqDiff, Int.reduceEq, Nat.add_left_cancel_iff, Nat.add_assoc, W_ops_nil, wantedI_n, wantedI_s, wantV_b, wantV_u, evalAll, IA.eval, optC_s, optC_n, nextOf, freeNext, fpOf, lowOf, opW, ev1, opC_a, Fr.put, List.set, List.getD_cons_zero, List.getD_cons_succ, thenC_n, thenC_j, segC_n, blkC_n, blkC_r, blkC_e, condC_t, condC_f, valC_v, W_apply, if_true, if_false, Option.map_some, Option.map_none, Option.bind_some, Option.bind_none, List.nil_append, List.append_nil, List.cons_append, undefs, List.length_cons, List.length_nil, Nat.reduceSub, Nat.reduceAdd, Nat.zero_add, retC_r, retC_n, leaveC_a, valsC_a, unmark, resultsOf, resultOf, tupled, binI, unI, beq_self_eq_true, Bool.false_eq_true, reduceIte, reduceCtorEq, Bool.not_true, Bool.not_false, Option.getD_some, Option.getD_none, mkAgg, IV.cells, Heap.read, Heap.get_new, Heap.n_new, Heap.get_put, Heap.n_put, List.drop_succ_cons, List.drop_zero, List.take_succ_cons, List.take_zero, Nat.add_zero, Nat.reduceLeDiff, Nat.reduceMul, Nat.le_refl, Int.reduceLT, Int.reduceLE, List.drop, List.take, Option.some.injEq, and_true, true_and, and_false, false_and, BEq.rfl, Heap.write, splice, IV.one, List.all_cons, List.all_nil, Bool.and_self, Bool.and_true, Bool.true_and, Nat.le_add_right, eqKs, eqK, Nat.reduceLT, Nat.add_sub_cancel, bne_self_eq_false, Bool.false_bne, Bool.bne_false, List.append, pairOk, Bool.or_true, Bool.true_or, Int.toNat_natCast, Option.isSome_some, List.getElem?_cons_zero, List.getElem?_cons_succ, F28o0, F28o1, F28o2, F28o3, F28o4, F28b, F28, Ps.cells, e0]
    refine sided_sp _ ?_
    simp only [W_skip, W_ret, W_exit, W_seq, W_block, W_ops, W_cond, W_segs_cons, W_segs_nil, freeI_s, freeI_f, W_op1, W_op, guardC_t, guardC_f, bb_tf, bb_ft, bb_tt, bb_ff, argC_a, goC_a, seqC_a, pairC_p, eq_self, Nat.left_eq_add, Nat.add_eq_left, Nat.reduceEqDiff, Int.reduceEq, Nat.add_left_cancel_iff, Nat.add_assoc, W_ops_nil, wantedI_n, wantedI_s, wantV_b, wantV_u, evalAll, IA.eval, optC_s, optC_n, nextOf, freeNext, fpOf, lowOf, opW, ev1, opC_a, Fr.put, List.set, List.getD_cons_zero, List.getD_cons_succ, thenC_n, thenC_j, segC_n, blkC_n, blkC_r, blkC_e, condC_t, condC_f, valC_v, W_apply, if_true, if_false, Option.map_some, Option.map_none, Option.bind_some, Option.bind_none, List.nil_append, List.append_nil, List.cons_append, undefs, List.length_cons, List.length_nil, Nat.reduceSub, Nat.reduceAdd, Nat.zero_add, retC_r, retC_n, leaveC_a, valsC_a, unmark, resultsOf, resultOf, tupled, binI, unI, beq_self_eq_true, Bool.false_eq_true, reduceIte, reduceCtorEq, Bool.not_true, Bool.not_false, Option.getD_some, Option.getD_none, mkAgg, IV.cells, Heap.read, Heap.get_new, Heap.n_new, Heap.get_put, Heap.n_put, List.drop_succ_cons, List.drop_zero, List.take_succ_cons, List.take_zero, Nat.add_zero, Nat.reduceLeDiff, Nat.reduceMul, Nat.le_refl, Int.reduceLT, Int.reduceLE, List.drop, List.take, Option.some.injEq, and_true, true_and, and_false, false_and, BEq.rfl, Heap.write, splice, IV.one, List.all_cons, List.all_nil, Bool.and_self, Bool.and_true, Bool.true_and, Nat.le_add_right, eqKs, eqK, Nat.reduceLT, Nat.add_sub_cancel, bne_self_eq_false, Bool.false_bne, Bool.bne_false, List.append, pairOk, Bool.or_true, Bool.true_or, Int.toNat_natCast, Option.isSome_some, List.getElem?_cons_zero, List.getElem?_cons_succ, F28o0, F28o1, F28o2, F28o3, F28o4, F28b, F28, Ps.cells, e1]
    exact hR _
  simp only [e1, Bool.true_and] at hR
  cases e2 : (p.d == q.d)
  · simp only [e2, Bool.not_false, Bool.true_and] at hR
    simp only [W_skip, W_ret, W_exit, W_seq, W_block, W_ops, W_cond, W_segs_cons, W_segs_nil, freeI_s, freeI_f, W_op1, W_op, guardC_t, guardC_f, bb_tf, bb_ft, bb_tt, bb_ff, argC_a, goC_a, seqC_a, pairC_p, eq_self, Nat.left_eq_add, Nat.add_eq_left, Nat.reduceEqDiff, Int.reduceEq, Nat.add_left_cancel_iff, Nat.add_assoc, W_ops_nil, wantedI_n, wantedI_s, wantV_b, wantV_u, evalAll, IA.eval, optC_s, optC_n, nextOf, freeNext, fpOf, lowOf, opW, ev1, opC_a, Fr.put, List.set, List.getD_cons_zero, List.getD_cons_succ, thenC_n, thenC_j, segC_n, blkC_n, blkC_r, blkC_e, condC_t, condC_f, valC_v, W_apply, if_true, if_false, Option.map_some, Option.map_none, Option.bind_some, Option.bind_none, List.nil_append, List.append_nil, List.cons_append, undefs, List.length_cons, List.length_nil, Nat.reduceSub, Nat.reduceAdd, Nat.zero_add, retC_r, retC_n, leaveC_a, valsC_a, unmark, resultsOf, resultOf, tupled, binI, unI, beq_self_eq_true, Bool.false_eq_true, reduceIte, reduceCtorEq, Bool.not_true, Bool.not_false, Option.getD_some, Option.getD_none, mkAgg, IV.cells, Heap.read, Heap.get_new, Heap.n_new, Heap.get_put, Heap.n_put, List.drop_succ_cons, List.drop_zero, List.take_succ_cons, List.take_zero, Nat.add_zero, Nat.reduceLeDiff, Nat.reduceMul, Nat.le_refl, Int.reduceLT, Int.reduceLE, List.drop, List.take, Option.some.injEq, and_true, true_and, and_false, false_and, BEq.rfl, Heap.write, splice, IV.one, List.all_cons, List.all_nil, Bool.and_self, Bool.and_true, Bool.true_and, Nat.le_add_right, eqKs, eqK, Nat.reduceLT, Nat.add_sub_cancel, bne_self_eq_false, Bool.false_bne, Bool.bne_false, List.append, pairOk, Bool.or_true, Bool.true_or, Int.toNat_natCast, Option.isSome_some, List.getElem?_cons_zero, List.getElem?_cons_succ, F28o0, F28o1, F28o2, F28o3, F28o4, F28b, F28, Ps.cells]
    refine sided_sp _ ?_
    simp only [W_skip, W_ret, W_exit, W_seq, W_block, W_ops, W_cond, W_segs_cons, W_segs_nil, freeI_s, freeI_f, W_op1, W_op, guardC_t, guardC_f, bb_tf, bb_ft, bb_tt, bb_ff, argC_a, goC_a, seqC_a, pairC_p, eq_self, Nat.left_eq_add, Nat.add_eq_left, Nat.reduceEqDiff, Int.reduceEq, Nat.add_left_cancel_iff, Nat.add_assoc, W_ops_nil, wantedI_n, wantedI_s, wantV_b, wantV_u, evalAll, IA.eval, optC_s, optC_n, nextOf, freeNext, fpOf, lowOf, opW, ev1, opC_a, Fr.put, List.set, List.getD_cons_zero, List.getD_cons_succ, thenC_n, thenC_j, segC_n, blkC_n, blkC_r, blkC_e, condC_t, condC_f, valC_v, W_apply, if_true, if_false, Option.map_some, Option.map_none, Option.bind_some, Option.bind_none, List.nil_append, List.append_nil, List.cons_append, undefs, List.length_cons, List.length_nil, Nat.reduceSub, Nat.reduceAdd, Nat.zero_add, retC_r, retC_n, leaveC_a, valsC_a, unmark, resultsOf, resultOf, tupled, binI, unI, beq_self_eq_true, Bool.false_eq_true, reduceIte, reduceCtorEq, Bool.not_true, Bool.not_false, Option.getD_some, Option.getD_none, mkAgg, IV.cells, Heap.read, Heap.get_new, Heap.n_new, Heap.get_put, Heap.n_put, List.drop_succ_cons, List.drop_zero, List.take_succ_cons, List.take_zero, Nat.add_zero, Nat.reduceLeDiff, Nat.reduceMul, Nat.le_refl, Int.reduceLT, Int.reduceLE, List.drop, List.take, Option.some.injEq, and_true, true_and, and_false, false_and, BEq.rfl, Heap.write, splice, IV.one, List.all_cons, List.all_nil, Bool.and_self, Bool.and_true, Bool.true_and, Nat.le_add_right, eqKs, eqK, Nat.reduceLT, Nat.add_sub_cancel, bne_self_eq_false, Bool.false_bne, Bool.bne_false, List.append, pairOk, Bool.or_true, Bool.true_or, Int.toNat_natCast, Option.isSome_some, List.getElem?_cons_zero, List.getElem?_cons_succ, F28o0, F28o1, F28o2, F28o3, F28o4, F28b, F28, Ps.cells, e0]
    refine sided_sp _ ?_
    simp only [W_skip, W_ret, W_exit, W_seq, W_block, W_ops, W_cond, W_segs_cons, W_segs_nil, freeI_s, freeI_f, W_op1, W_op, guardC_t, guardC_f, bb_tf, bb_ft, bb_tt, bb_ff, argC_a, goC_a, seqC_a, pairC_p, eq_self, Nat.left_eq_add, Nat.add_eq_left, Nat.reduceEqDiff, Int.reduceEq, Nat.add_left_cancel_iff, Nat.add_assoc, W_ops_nil, wantedI_n, wantedI_s, wantV_b, wantV_u, evalAll, IA.eval, optC_s, optC_n, nextOf, freeNext, fpOf, lowOf, opW, ev1, opC_a, Fr.put, List.set, List.getD_cons_zero, List.getD_cons_succ, thenC_n, thenC_j, segC_n, blkC_n, blkC_r, blkC_e, condC_t, condC_f, valC_v, W_apply, if_true, if_false, Option.map_some, Option.map_none, Option.bind_some, Option.bind_none, List.nil_append, List.append_nil, List.cons_append, undefs, List.length_cons, List.length_nil, Nat.reduceSub, Nat.reduceAdd, Nat.zero_add, retC_r, retC_n, leaveC_a, valsC_a, unmark, resultsOf, resultOf, tupled, binI, unI, beq_self_eq_true, Bool.false_eq_true, reduceIte, reduceCtorEq, Bool.not_true, Bool.not_false, Option.getD_some, Option.getD_none, mkAgg, IV.cells, Heap.read, Heap.get_new, Heap.n_new, Heap.get_put, Heap.n_put, List.drop_succ_cons, List.drop_zero, List.take_succ_cons, List.take_zero, Nat.add_zero, Nat.reduceLeDiff, Nat.reduceMul, Nat.le_refl, Int.reduceLT, Int.reduceLE, List.drop, List.take, Option.some.injEq, and_true, true_and, and_false, false_and, BEq.rfl, Heap.write, splice, IV.one, List.all_cons, List.all_nil, Bool.and_self, Bool.and_true, Bool.true_and, Nat.le_add_right, eqKs, eqK, Nat.reduceLT, Nat.add_sub_cancel, bne_self_eq_false, Bool.false_bne, Bool.bne_false, List.append, pairOk, Bool.or_true, Bool.true_or, Int.toNat_natCast, Option.isSome_some, List.getElem?_cons_zero, List.getElem?_cons_succ, F28o0, F28o1, F28o2, F28o3, F28o4, F28b, F28, Ps.cells, e1, e2]
    exact hR _
  · simp only [e2, Bool.not_true, Bool.false_and] at hR
    simp only [W_skip, W_ret, W_exit, W_seq, W_block, W_ops, W_cond, W_segs_cons, W_segs_nil, freeI_s, freeI_f, W_op1, W_op, guardC_t, guardC_f, bb_tf, bb_ft, bb_tt, bb_ff, argC_a, goC_a, seqC_a, pairC_p, eq_self, Nat.left_eq_add, Nat.add_eq_left, Nat.reduceEqDiff, Int.reduceEq, Nat.add_left_cancel_iff, Nat.add_assoc, W_ops_nil, wantedI_n, wantedI_s, wantV_b, wantV_u, evalAll, IA.eval, optC_s, optC_n, nextOf, freeNext, fpOf, lowOf, opW, ev1, opC_a, Fr.put, List.set, List.getD_cons_zero, List.getD_cons_succ, thenC_n, thenC_j, segC_n, blkC_n, blkC_r, blkC_e, condC_t, condC_f, valC_v, W_apply, if_true, if_false, Option.map_some, Option.map_none, Option.bind_some, Option.bind_none, List.nil_append, List.append_nil, List.cons_append, undefs, List.length_cons, List.length_nil, Nat.reduceSub, Nat.reduceAdd, Nat.zero_add, retC_r, retC_n, leaveC_a, valsC_a, unmark, resultsOf, resultOf, tupled, binI, unI, beq_self_eq_true, Bool.false_eq_true, reduceIte, reduceCtorEq, Bool.not_true, Bool.not_false, Option.getD_some, Option.getD_none, mkAgg, IV.cells, Heap.read, Heap.get_new, Heap.n_new, Heap.get_put, Heap.n_put, List.drop_succ_cons, List.drop_zero, List.take_succ_cons, List.take_zero, Nat.add_zero, Nat.reduceLeDiff, Nat.reduceMul, Nat.le_refl, Int.reduceLT, Int.reduceLE, List.drop, List.take, Option.some.injEq, and_true, true_and, and_false, false_and, BEq.rfl, Heap.write, splice, IV.one, List.all_cons, List.all_nil, Bool.and_self, Bool.and_true, Bool.true_and, Nat.le_add_right, eqKs, eqK, Nat.reduceLT, Nat.add_sub_cancel, bne_self_eq_false, Bool.false_bne, Bool.bne_false, List.append, pairOk, Bool.or_true, Bool.true_or, Int.toNat_natCast, Option.isSome_some, List.getElem?_cons_zero, List.getElem?_cons_succ, F28o0, F28o1, F28o2, F28o3, F28o4, F28b, F28, Ps.cells]
    refine sided_sp _ ?_
    simp only [W_skip, W_ret, W_exit, W_seq, W_block, W_ops, W_cond, W_segs_cons, W_segs_nil, freeI_s, freeI_f, W_op1, W_op, guardC_t, guardC_f, bb_tf, bb_ft, bb_tt, bb_ff, argC_a, goC_a, seqC_a, pairC_p, eq_self, Nat.left_eq_add, Nat.add_eq_left, Nat.reduceEqDiff, Int.reduceEq, Nat.add_left_cancel_iff, Nat.add_assoc, W_ops_nil, wantedI_n, wantedI_s, wantV_b, wantV_u, evalAll, IA.eval, optC_s, optC_n, nextOf, freeNext, fpOf, lowOf, opW, ev1, opC_a, Fr.put, List.set, List.getD_cons_zero, List.getD_cons_succ, thenC_n, thenC_j, segC_n, blkC_n, blkC_r, blkC_e, condC_t, condC_f, valC_v, W_apply, if_true, if_false, Option.map_some, Option.map_none, Option.bind_some, Option.bind_none, List.nil_append, List.append_nil, List.cons_append, undefs, List.length_cons, List.length_nil, Nat.reduceSub, Nat.reduceAdd, Nat.zero_add, retC_r, retC_n, leaveC_a, valsC_a, unmark, resultsOf, resultOf, tupled, binI, unI, beq_self_eq_true, Bool.false_eq_true, reduceIte, reduceCtorEq, Bool.not_true, Bool.not_false, Option.getD_some, Option.getD_none, mkAgg, IV.cells, Heap.read, Heap.get_new, Heap.n_new, Heap.get_put, Heap.n_put, List.drop_succ_cons, List.drop_zero, List.take_succ_cons, List.take_zero, Nat.add_zero, Nat.reduceLeDiff, Nat.reduceMul, Nat.le_refl, Int.reduceLT, Int.reduceLE, List.drop, List.take, Option.some.injEq, and_true, true_and, and_false, false_and, BEq.rfl, Heap.write, splice, IV.one, List.all_cons, List.all_nil, Bool.and_self, Bool.and_true, Bool.true_and, Nat.le_add_right, eqKs, eqK, Nat.reduceLT, Nat.add_sub_cancel, bne_self_eq_false, Bool.false_bne, Bool.bne_false, List.append, pairOk, Bool.or_true, Bool.true_or, Int.toNat_natCast, Option.isSome_some, List.getElem?_cons_zero, List.getElem?_cons_succ, F28o0, F28o1, F28o2, F28o3, F28o4, F28b, F28, Ps.cells, e0]
    refine sided_sp _ ?_
    simp only [W_skip, W_ret, W_exit, W_seq, W_block, W_ops, W_cond, W_segs_cons, W_segs_nil, freeI_s, freeI_f, W_op1, W_op, guardC_t, guardC_f, bb_tf, bb_ft, bb_tt, bb_ff, argC_a, goC_a, seqC_a, pairC_p, eq_self, Nat.left_eq_add, Nat.add_eq_left, Nat.reduceEqDiff, Int.reduceEq, Nat.add_left_cancel_iff, Nat.add_assoc, W_ops_nil, wantedI_n, wantedI_s, wantV_b, wantV_u, evalAll, IA.eval, optC_s, optC_n, nextOf, freeNext, fpOf, lowOf, opW, ev1, opC_a, Fr.put, List.set, List.getD_cons_zero, List.getD_cons_succ, thenC_n, thenC_j, segC_n, blkC_n, blkC_r, blkC_e, condC_t, condC_f, valC_v, W_apply, if_true, if_false, Option.map_some, Option.map_none, Option.bind_some, Option.bind_none, List.nil_append, List.append_nil, List.cons_append, undefs, List.length_cons, List.length_nil, Nat.reduceSub, Nat.reduceAdd, Nat.zero_add, retC_r, retC_n, leaveC_a, valsC_a, unmark, resultsOf, resultOf, tupled, binI, unI, beq_self_eq_true, Bool.false_eq_true, reduceIte, reduceCtorEq, Bool.not_true, Bool.not_false, Option.getD_some, Option.getD_none, mkAgg, IV.cells, Heap.read, Heap.get_new, Heap.n_new, Heap.get_put, Heap.n_put, List.drop_succ_cons, List.drop_zero, List.take_succ_cons, List.take_zero, Nat.add_zero, Nat.reduceLeDiff, Nat.reduceMul, Nat.le_refl, Int.reduceLT, Int.reduceLE, List.drop, List.take, Option.some.injEq, and_true, true_and, and_false, false_and, BEq.rfl, Heap.write, splice, IV.one, List.all_cons, List.all_nil, Bool.and_self, Bool.and_true, Bool.true_and, Nat.le_add_right, eqKs, eqK, Nat.reduceLT, Nat.add_sub_cancel, bne_self_eq_false, Bool.false_bne, Bool.bne_false, List.append, pairOk, Bool.or_true, Bool.true_or, Int.toNat_natCast, Option.isSome_some, List.getElem?_cons_zero, List.getElem?_cons_succ, F28o0, F28o1, F28o2, F28o3, F28o4, F28b, F28, Ps.cells, e1, e2]
    exact hR _
end Go.Iso.GenA
end

section
namespace Go.Iso.GenA
open Go.Iso
set_option maxHeartbeats 1000000
set_option maxRecDepth 10000

def flat (l : List Ps) : List IV := l.flatMap Ps.cells

theorem flat_nil : flat [] = [] := rfl
theorem flat_cons (p : Ps) (l : List Ps) : flat (p :: l) = p.cells ++ flat l := rfl
theorem flat_append (a b : List Ps) : flat (a ++ b) = flat a ++ flat b := by simp [flat]
theorem flat_length (l : List Ps) : (flat l).length = 4 * l.length := by
  induction l with
  | nil => rfl
  | cons p l ih => rw [flat_cons, List.length_append, ih]; simp [Ps.cells]; omega
theorem flat_all (l : List Ps) : (flat l).all IV.one = true := by
  induction l with
  | nil => rfl
  | cons p l ih => rw [flat_cons, List.all_append, ih]; rfl
theorem flat_at (l : List Ps) (i : Nat) (h : i < l.length) : ((flat l).drop (i * 4)).take 4 = l[i].cells := by
  induction l generalizing i with
  | nil => simp at h
  | cons p l ih =>
    cases i with
    | zero => simp [flat_cons, Ps.cells]
    | succ i =>
      rw [flat_cons, show (i + 1) * 4 = p.cells.length + i * 4 from by simp [Ps.cells]; omega, List.drop_length_add_append]
      simp only [List.getElem_cons_succ]
      exact ih i (by simpa using h)
theorem flat_take (l : List Ps) (k : Nat) : (flat l).take (4 * k) = flat (l.take k) := by
  induction l generalizing k with
  | nil => simp [flat]
  | cons p l ih =>
    cases k with
    | zero => simp [flat]
    | succ k =>
      rw [flat_cons, List.take_succ_cons, flat_cons, show 4 * (k + 1) = p.cells.length + 4 * k from by simp [Ps.cells]; omega, List.take_length_add_append, ih]
theorem flat_drop (l : List Ps) (k : Nat) : (flat l).drop (4 * k) = flat (l.drop k) := by
  induction l generalizing k with
  | nil => simp [flat]
  | cons p l ih =>
    cases k with
    | zero => simp [flat]
    | succ k =>
      rw [flat_cons, List.drop_succ_cons, show 4 * (k + 1) = p.cells.length + 4 * k from by simp [Ps.cells]; omega, List.drop_length_add_append, ih]

def Has (H : Heap) (b o : Nat) (l : List Ps) : Prop := ∃ ro e ez cs, H.get b = some (.cells ro e ez cs) ∧ (cs.drop o).take (4 * l.length) = flat l

theorem Has.len {H : Heap} {b o : Nat} {l : List Ps} {ro : Bool} {e ez : Nat} {cs : List IV} (hc : (cs.drop o).take (4 * l.length) = flat l) : l.length = 0 ∨ o + 4 * l.length ≤ cs.length := by
  have := congrArg List.length hc
  rw [List.length_take, List.length_drop, flat_length] at this
  omega

theorem Has.read {H : Heap} {b o : Nat} {l : List Ps} (h : Has H b o l) {i : Nat} (hi : i < l.length) : H.read b (o + i * 4) 4 = some l[i].cells := by
  obtain ⟨ro, e, ez, cs, hg, hc⟩ := h
  have hlen := congrArg List.length hc
  rw [List.length_take, List.length_drop, flat_length] at hlen
  unfold Heap.read
  rw [hg]
  simp only
  rw [if_pos (by omega)]
  rw [← flat_at l i hi, ← hc, List.drop_take, List.take_take, List.drop_drop, show min 4 (4 * l.length - i * 4) = 4 from by omega]

theorem Has.all {H : Heap} {b o : Nat} {l : List Ps} (h : Has H b o l) : H.read b o (4 * l.length) = some (flat l) ∨ l = [] := by
  by_cases h0 : l = []
  · exact .inr h0
  left
  obtain ⟨ro, e, ez, cs, hg, hc⟩ := h
  have hlen := congrArg List.length hc
  rw [List.length_take, List.length_drop, flat_length] at hlen
  have : 0 < l.length := List.length_pos_iff.2 h0
  unfold Heap.read
  rw [hg]
  simp only
  rw [if_pos (by omega), hc]

theorem Has.keep {H H' : Heap} {b o : Nat} {l : List Ps} (h : Has H b o l) (e : H'.get b = H.get b) : Has H' b o l := by
  obtain ⟨ro, e', ez, cs, hg, hc⟩ := h
  exact ⟨ro, e', ez, cs, e.trans hg, hc⟩

/-- A slice of passes. -/
inductive PL (H : Heap) : IV → List Ps → Prop
  | nil : PL H .nilSlice []
  | sl (b o c : Nat) (ex : Bool) (l : List Ps) (hc : l.length ≤ c) (h : l ≠ [] → b < H.n ∧ Has H b o l) : PL H (.slice b o l.length c ex) l

theorem PL.keep {H H' : Heap} {v : IV} {l : List Ps} (h : PL H v l) (k : Keep H.n H H') : PL H' v l := by
  cases h with
  | nil => exact .nil
  | sl b o c ex l hc h => exact .sl b o c ex l hc fun hl => ⟨Nat.lt_of_lt_of_le (h hl).1 k.1, (h hl).2.keep (k.2 b (h hl).1 (h hl).1)⟩

/-- A block of the call's own with room for so many passes, the first of which are these. -/
def Own (H : Heap) (b cap : Nat) (l : List Ps) : Prop := l.length ≤ cap ∧ b < H.n ∧ ∃ cs, H.get b = some (.cells false 33 4 cs) ∧ cs.length = 4 * cap ∧ cs.take (4 * l.length) = flat l

theorem Own.has {H : Heap} {b cap : Nat} {l : List Ps} (h : Own H b cap l) : Has H b 0 l := by
  obtain ⟨_, _, cs, hg, hl, hc⟩ := h
  exact ⟨false, 33, 4, cs, hg, by simpa using hc⟩
theorem Own.pl {H : Heap} {b cap : Nat} {l : List Ps} (h : Own H b cap l) (ex : Bool) : PL H (.slice b 0 l.length cap ex) l := .sl b 0 cap ex l h.1 fun _ => ⟨h.2.1, h.has⟩
theorem Own.keep {H H' : Heap} {b cap : Nat} {l : List Ps} (h : Own H b cap l) (k : Keep H.n H H') : Own H' b cap l := by
  obtain ⟨h1, h2, cs, hg, h3⟩ := h
  exact ⟨h1, Nat.lt_of_lt_of_le h2 k.1, cs, (k.2 b h2 h2).trans hg, h3⟩

theorem rep_length (n : Nat) (zs : List IV) : (rep n zs).length = n * zs.length := by
  induction n with
  | zero => simp [rep]
  | succ n ih => simp [rep, ih, Nat.succ_mul]; omega

theorem splice_length : ∀ (cs : List IV) (o : Nat) (vs : List IV), (splice cs o vs).length = cs.length
  | [], _, _ => rfl
  | c :: cs, 0, [] => rfl
  | _ :: cs, 0, v :: vs => by simp [splice, splice_length cs 0 vs]
  | c :: cs, o + 1, vs => by simp [splice, splice_length cs o vs]

theorem splice_eq : ∀ (cs : List IV) (o : Nat) (vs : List IV), o + vs.length ≤ cs.length → splice cs o vs = cs.take o ++ vs ++ cs.drop (o + vs.length)
  | [], o, vs, h => by
    have : vs = [] := List.length_eq_zero_iff.1 (by simp only [List.length_nil] at h; omega)
    subst this; simp [splice]
  | c :: cs, 0, [], _ => by simp [splice]
  | _ :: cs, 0, v :: vs, h => by
    have := splice_eq cs 0 vs (by simp at h ⊢; omega)
    simp [splice, this]
  | c :: cs, o + 1, vs, h => by
    have := splice_eq cs o vs (by simp at h ⊢; omega)
    simp [splice, this, show o + 1 + vs.length = (o + vs.length) + 1 from by omega]

theorem expl (tm : List IV) (n : Nat) (h : tm.length = n) : tm = (List.range n).map fun i => tm.getD i IV.undef := by
  subst h
  apply List.ext_getElem
  · simp
  · intro i h1 h2
    simp [List.getD_eq_getElem?_getD, h1]

theorem wrap_nat (n : Nat) (h : n ≤ 200000) : IntKind.i64.wrap (n : Int) = (n : Int) := IntWalk.i64_in _ (by omega)

/-- What a slice's parts come to. -/
theorem PL.len {H : Heap} {v : IV} {l : List Ps} (h : PL H v l) (lo : Nat) (H' : Heap) : ev1 .lenSl [v] lo H' = some (.int .i64 l.length, H') := by
  cases h with
  | nil => rfl
  | sl b o c ex l hc h => rfl

theorem copied_sp {v : IV} {l : List Ps} {H : Heap} {lo : Nat} {Q : Out → Heap → Prop} (hv : PL H v l) (hl : l.length ≤ 100000) (hlo : lo ≤ H.n)
    (h : ∀ H' b, Keep H.n H H' → H.n ≤ b → Own H' b l.length l → Q (.val (.slice b 0 l.length l.length true)) H') : W E0 lo (.call 23 [v]) H Q := by
  refine W.pure plain hlo ?_
  rw [c23]
  by_cases h0 : l = []
  · subst h0
    have ho : Own (H.new (.cells false 33 4 [])) H.n 0 [] := ⟨Nat.le_refl _, by rw [Heap.n_new]; omega, [], by rw [Heap.get_new, if_pos rfl], rfl, rfl⟩
    cases hv with
    | nil =>
      simp only [W_skip, W_ret, W_exit, W_seq, W_block, W_ops, W_cond, W_segs_cons, W_segs_nil, freeI_s, freeI_f, W_op1, W_op, guardC_t, guardC_f, bb_tf, bb_ft, bb_tt, bb_ff, argC_a, goC_a, seqC_a, pairC_p, eq_self, Nat.left_eq_add, Nat.add_eq_left, Nat.reduceEqDiff, Int.reduceEq, Nat.add_left_cancel_iff, Nat.add_assoc, W_ops_nil, wantedI_n, wantedI_s, wantV_b, wantV_u, evalAll, IA.eval, optC_s, optC_n, nextOf, freeNext, fpOf, lowOf, opW, ev1, opC_a, Fr.put, List.set, List.getD_cons_zero, List.getD_cons_succ, thenC_n, thenC_j, segC_n, blkC_n, blkC_r, blkC_e, condC_t, condC_f, valC_v, W_apply, if_true, if_false, Option.map_some, Option.map_none, Option.bind_some, Option.bind_none, List.nil_append, List.append_nil, List.cons_append, undefs, List.length_cons, List.length_nil, Nat.reduceSub, Nat.reduceAdd, Nat.zero_add, retC_r, retC_n, leaveC_a, valsC_a, unmark, resultsOf, resultOf, tupled, binI, unI, beq_self_eq_true, Bool.false_eq_true, reduceIte, reduceCtorEq, Bool.not_true, Bool.not_false, Option.getD_some, Option.getD_none, mkAgg, IV.cells, Heap.read, Heap.get_new, Heap.n_new, Heap.get_put, Heap.n_put, List.drop_succ_cons, List.drop_zero, List.take_succ_cons, List.take_zero, Nat.add_zero, Nat.reduceLeDiff, Nat.reduceMul, Nat.le_refl, Int.reduceLT, Int.reduceLE, List.drop, List.take, Option.some.injEq, and_true, true_and, and_false, false_and, BEq.rfl, Heap.write, splice, IV.one, List.all_cons, List.all_nil, Bool.and_self, Bool.and_true, Bool.true_and, Nat.le_add_right, eqKs, eqK, Nat.reduceLT, Nat.add_sub_cancel, bne_self_eq_false, Bool.false_bne, Bool.bne_false, List.append, pairOk, Bool.or_true, Bool.true_or, Int.toNat_natCast, Option.isSome_some, List.getElem?_cons_zero, List.getElem?_cons_succ, F23o0, F23o1, F23o2, F23o3, F23b, F23, Int.toNat_zero, Int.zero_mul, rep, dstLen, lenI, Nat.min_self, Int.reducePow, Int.zero_le_ofNat, Int.reduceLE]
      exact fun hk => h _ _ hk (Nat.le_refl _) ho
    | sl b o c ex l hc hh =>
      simp only [W_skip, W_ret, W_exit, W_seq, W_block, W_ops, W_cond, W_segs_cons, W_segs_nil, freeI_s, freeI_f, W_op1, W_op, guardC_t, guardC_f, bb_tf, bb_ft, bb_tt, bb_ff, argC_a, goC_a, seqC_a, pairC_p, eq_self, Nat.left_eq_add, Nat.add_eq_left, Nat.reduceEqDiff, Int.reduceEq, Nat.add_left_cancel_iff, Nat.add_assoc, W_ops_nil, wantedI_n, wantedI_s, wantV_b, wantV_u, evalAll, IA.eval, optC_s, optC_n, nextOf, freeNext, fpOf, lowOf, opW, ev1, opC_a, Fr.put, List.set, List.getD_cons_zero, List.getD_cons_succ, thenC_n, thenC_j, segC_n, blkC_n, blkC_r, blkC_e, condC_t, condC_f, valC_v, W_apply, if_true, if_false, Option.map_some, Option.map_none, Option.bind_some, Option.bind_none, List.nil_append, List.append_nil, List.cons_append, undefs, List.length_cons, List.length_nil, Nat.reduceSub, Nat.reduceAdd, Nat.zero_add, retC_r, retC_n, leaveC_a, valsC_a, unmark, resultsOf, resultOf, tupled, binI, unI, beq_self_eq_true, Bool.false_eq_true, reduceIte, reduceCtorEq, Bool.not_true, Bool.not_false, Option.getD_some, Option.getD_none, mkAgg, IV.cells, Heap.read, Heap.get_new, Heap.n_new, Heap.get_put, Heap.n_put, List.drop_succ_cons, List.drop_zero, List.take_succ_cons, List.take_zero, Nat.add_zero, Nat.reduceLeDiff, Nat.reduceMul, Nat.le_refl, Int.reduceLT, Int.reduceLE, List.drop, List.take, Option.some.injEq, and_true, true_and, and_false, false_and, BEq.rfl, Heap.write, splice, IV.one, List.all_cons, List.all_nil, Bool.and_self, Bool.and_true, Bool.true_and, Nat.le_add_right, eqKs, eqK, Nat.reduceLT, Nat.add_sub_cancel, bne_self_eq_false, Bool.false_bne, Bool.bne_false, List.append, pairOk, Bool.or_true, Bool.true_or, Int.toNat_natCast, Option.isSome_some, List.getElem?_cons_zero, List.getElem?_cons_succ, F23o0, F23o1, F23o2, F23o3, F23b, F23, Int.toNat_zero, Int.zero_mul, rep, dstLen, lenI, Nat.min_self, Int.reducePow, Int.zero_le_ofNat, Int.reduceLE, Int.natCast_zero, Int.ofNat_zero]
      exact fun hk => h _ _ hk (Nat.le_refl _) ho
  · have hpos : 0 < l.length := List.length_pos_iff.2 h0
    cases hv with
    | nil => exact absurd rfl h0
    | sl b o c ex l hc hh =>
      obtain ⟨hb, ro, e, ez, cs, hg, hcs⟩ := hh h0
      have hlen := congrArg List.length hcs
      rw [List.length_take, List.length_drop, flat_length] at hlen
      have e1 : (0 ≤ (l.length : Int) ∧ (l.length : Int) ≤ l.length ∧ (l.length : Int) * (((24 : Nat) : Int) + 1) ≤ 2 ^ 40) = True := by simp; omega
      have e2 : ((l.length : Int)).toNat = l.length := by omega
      have e3 : (l.length = 0) = False := by simp; omega
      have e4 : (H.n = b) = False := by simp; omega
      have e5 : (o + l.length * 4 ≤ cs.length) = True := by simp; omega
      rw [Nat.mul_comm] at hcs
      have hrl : (rep l.length [IV.int .u8 0, .int .i64 0, .bool false, .int .u8 0]).length = l.length * 4 := rep_length _ _
      have hfl := flat_length l
      have e6 : ((flat l).length ≤ (rep l.length [IV.int .u8 0, .int .i64 0, .bool false, .int .u8 0]).length) = True := by simp; omega
      simp only [W_skip, W_ret, W_exit, W_seq, W_block, W_ops, W_cond, W_segs_cons, W_segs_nil, freeI_s, freeI_f, W_op1, W_op, guardC_t, guardC_f, bb_tf, bb_ft, bb_tt, bb_ff, argC_a, goC_a, seqC_a, pairC_p, eq_self, Nat.left_eq_add, Nat.add_eq_left, Nat.reduceEqDiff, Int.reduceEq, Nat.add_left_cancel_iff, Nat.add_assoc, W_ops_nil, wantedI_n, wantedI_s, wantV_b, wantV_u, evalAll, IA.eval, optC_s, optC_n, nextOf, freeNext, fpOf, lowOf, opW, ev1, opC_a, Fr.put, List.set, List.getD_cons_zero, List.getD_cons_succ, thenC_n, thenC_j, segC_n, blkC_n, blkC_r, blkC_e, condC_t, condC_f, valC_v, W_apply, if_true, if_false, Option.map_some, Option.map_none, Option.bind_some, Option.bind_none, List.nil_append, List.append_nil, List.cons_append, undefs, List.length_cons, List.length_nil, Nat.reduceSub, Nat.reduceAdd, Nat.zero_add, retC_r, retC_n, leaveC_a, valsC_a, unmark, resultsOf, resultOf, tupled, binI, unI, beq_self_eq_true, Bool.false_eq_true, reduceIte, reduceCtorEq, Bool.not_true, Bool.not_false, Option.getD_some, Option.getD_none, mkAgg, IV.cells, Heap.read, Heap.get_new, Heap.n_new, Heap.get_put, Heap.n_put, List.drop_succ_cons, List.drop_zero, List.take_succ_cons, List.take_zero, Nat.add_zero, Nat.reduceLeDiff, Nat.reduceMul, Nat.le_refl, Int.reduceLT, Int.reduceLE, List.drop, List.take, Option.some.injEq, and_true, true_and, and_false, false_and, BEq.rfl, Heap.write, splice, IV.one, List.all_cons, List.all_nil, Bool.and_self, Bool.and_true, Bool.true_and, Nat.le_add_right, eqKs, eqK, Nat.reduceLT, Nat.add_sub_cancel, bne_self_eq_false, Bool.false_bne, Bool.bne_false, List.append, pairOk, Bool.or_true, Bool.true_or, Int.toNat_natCast, Option.isSome_some, List.getElem?_cons_zero, List.getElem?_cons_succ, F23o0, F23o1, F23o2, F23o3, F23b, F23, e1, e2, e3, e4, e5, e6, hg, hcs, dstLen, lenI, Nat.min_self, srcI, flat_all]
      intro hk
      refine h _ _ hk (Nat.le_refl _) ⟨Nat.le_refl _, by rw [Heap.n_put, Heap.n_new]; omega, _, by rw [Heap.get_put, if_pos rfl], ?_, ?_⟩
      · rw [splice_length, hrl]; omega
      · rw [splice_eq _ _ _ (by omega)]
        simp only [List.take_zero, List.nil_append, Nat.zero_add]
        rw [← hfl, List.take_left]
end Go.Iso.GenA
end

section
namespace Go.Iso.GenA
open Go.Iso
set_option maxHeartbeats 2000000
set_option maxRecDepth 10000

theorem expl39 (tm : List IV) (h : tm.length = 39) : tm = [tm.getD 0 IV.undef, tm.getD 1 IV.undef, tm.getD 2 IV.undef, tm.getD 3 IV.undef, tm.getD 4 IV.undef, tm.getD 5 IV.undef, tm.getD 6 IV.undef, tm.getD 7 IV.undef, tm.getD 8 IV.undef, tm.getD 9 IV.undef, tm.getD 10 IV.undef, tm.getD 11 IV.undef, tm.getD 12 IV.undef, tm.getD 13 IV.undef, tm.getD 14 IV.undef, tm.getD 15 IV.undef, tm.getD 16 IV.undef, tm.getD 17 IV.undef, tm.getD 18 IV.undef, tm.getD 19 IV.undef, tm.getD 20 IV.undef, tm.getD 21 IV.undef, tm.getD 22 IV.undef, tm.getD 23 IV.undef, tm.getD 24 IV.undef, tm.getD 25 IV.undef, tm.getD 26 IV.undef, tm.getD 27 IV.undef, tm.getD 28 IV.undef, tm.getD 29 IV.undef, tm.getD 30 IV.undef, tm.getD 31 IV.undef, tm.getD 32 IV.undef, tm.getD 33 IV.undef, tm.getD 34 IV.undef, tm.getD 35 IV.undef, tm.getD 36 IV.undef, tm.getD 37 IV.undef, tm.getD 38 IV.undef] := (expl tm 39 h).trans rfl

def push1 (S : List Ps) (p : Ps) : List Ps :=
  match S.getLast? with
  | none => S ++ [p]
  | some q => if cancelB q p = true then S.dropLast else S ++ [p]
def pushL (S l : List Ps) : List Ps := l.foldl push1 S

def KeepBut (b : Nat) (H H' : Heap) : Prop := H.n ≤ H'.n ∧ ∀ b', b' < H.n → b' ≠ b → H'.get b' = H.get b'
theorem KeepBut.trans {b : Nat} {A B C : Heap} (h : KeepBut b A B) (k : KeepBut b B C) : KeepBut b A C :=
  ⟨Nat.le_trans h.1 k.1, fun x h1 h2 => (k.2 x (Nat.lt_of_lt_of_le h1 h.1) h2).trans (h.2 x h1 h2)⟩

def offB (v : IV) (b : Nat) : Prop := ∀ vb vo n vc vex, v = .slice vb vo n vc vex → n ≠ 0 → vb ≠ b

theorem PL.keepBut {H H' : Heap} {v : IV} {l : List Ps} {b : Nat} (h : PL H v l) (hb : offB v b) (k : KeepBut b H H') : PL H' v l := by
  cases h with
  | nil => exact .nil
  | sl vb o c ex l hc h =>
    refine .sl vb o c ex l hc fun hl => ⟨Nat.lt_of_lt_of_le (h hl).1 k.1, (h hl).2.keep (k.2 vb (h hl).1 (hb vb o _ c ex rfl ?_))⟩
    intro e; exact hl (List.length_eq_zero_iff.1 e)

theorem own_push {H' : Heap} {b cap : Nat} {S : List Ps} {p : Ps} {ks : List IV} (hb : b < H'.n) (hk : ks.length = 4 * cap) (hs : ks.take (4 * S.length) = flat S) (hr : S.length + 1 ≤ cap) (hg : H'.get b = some (.cells false 33 4 (splice ks (S.length * 4) p.cells))) : Own H' b cap (S ++ [p]) := by
  refine ⟨by simp; omega, hb, _, hg, by rw [splice_length]; exact hk, ?_⟩
  have hpc : p.cells.length = 4 := rfl
  rw [splice_eq _ _ _ (by omega), flat_append, Nat.mul_comm S.length 4, hs, List.length_append, List.append_assoc]
  have hfs := flat_length S
  rw [show 4 * (S.length + [p].length) = (flat S ++ p.cells).length from by simp [hfs, hpc]; omega, ← List.append_assoc, List.take_left]
  simp [flat]

theorem own_pop {H' : Heap} {b cap : Nat} {S : List Ps} {ks : List IV} (hb : b < H'.n) (hk : ks.length = 4 * cap) (hs : ks.take (4 * S.length) = flat S) (hr : S.length ≤ cap) (hg : H'.get b = some (.cells false 33 4 ks)) : Own H' b cap S.dropLast := by
  refine ⟨by simp; omega, hb, _, hg, hk, ?_⟩
  rw [List.length_dropLast, List.dropLast_eq_take, ← flat_take, ← hs, List.take_take, show min (4 * (S.length - 1)) (4 * S.length) = 4 * (S.length - 1) from by omega]

theorem push_loop (b cap lo : Nat) (v : IV) (l : List Ps) (hlo : lo ≤ b) (hl : l.length ≤ 100000) (hcap : cap ≤ 200000) (hoff : offB v b) : ∀ (k i : Nat) (S : List Ps) (H : Heap) (tm : List IV), i + k = l.length → tm.length = 39 →
    tm.getD 0 IV.undef = .slice b 0 S.length cap true → tm.getD 8 IV.undef = v → tm.getD 9 IV.undef = .int .i64 l.length → tm.getD 10 IV.undef = .int .i64 i → Own H b cap S → S.length + k ≤ cap → PL H v l →
    ∀ Q : Out → Heap → Prop, (∀ H' tm', tm'.length = 39 → tm'.getD 0 IV.undef = .slice b 0 (pushL S (l.drop i)).length cap true → Own H' b cap (pushL S (l.drop i)) → KeepBut b H H' → Q (.ex (.jmp (.exit 0)) ⟨tm', []⟩) H') →
    W E0 lo (.code (.loop F24l9) none ⟨tm, []⟩) H Q := by
  intro k
  induction k with
  | zero =>
    intro i S H tm hi htm h0 h8 h9 h10 hown hroom hpl Q hQ
    have hi' : i = l.length := by omega
    subst hi'
    rw [W_loop, expl39 tm htm, h0, h8, h9, h10]
    have e1 : decide ((l.length : Int) < l.length) = false := by simp
    simp only [W_skip, W_ret, W_exit, W_seq, W_block, W_ops, W_cond, W_segs_cons, W_segs_nil, freeI_s, freeI_f, W_op1, W_op, guardC_t, guardC_f, bb_tf, bb_ft, bb_tt, bb_ff, argC_a, goC_a, seqC_a, pairC_p, eq_self, Nat.left_eq_add, Nat.add_eq_left, Nat.reduceEqDiff, Int.reduceEq, Nat.add_left_cancel_iff, Nat.add_assoc, W_ops_nil, wantedI_n, wantedI_s, wantV_b, wantV_u, evalAll, IA.eval, optC_s, optC_n, nextOf, freeNext, fpOf, lowOf, opW, ev1, opC_a, Fr.put, List.set, List.getD_cons_zero, List.getD_cons_succ, thenC_n, thenC_j, segC_n, blkC_n, blkC_r, blkC_e, condC_t, condC_f, valC_v, W_apply, if_true, if_false, Option.map_some, Option.map_none, Option.bind_some, Option.bind_none, List.nil_append, List.append_nil, List.cons_append, undefs, List.length_cons, List.length_nil, Nat.reduceSub, Nat.reduceAdd, Nat.zero_add, retC_r, retC_n, leaveC_a, valsC_a, unmark, resultsOf, resultOf, tupled, binI, unI, beq_self_eq_true, Bool.false_eq_true, reduceIte, reduceCtorEq, Bool.not_true, Bool.not_false, Option.getD_some, Option.getD_none, mkAgg, IV.cells, Heap.read, Heap.get_new, Heap.n_new, Heap.get_put, Heap.n_put, List.drop_succ_cons, List.drop_zero, List.take_succ_cons, List.take_zero, Nat.add_zero, Nat.reduceLeDiff, Nat.reduceMul, Nat.le_refl, Int.reduceLT, Int.reduceLE, List.drop, List.take, Option.some.injEq, and_true, true_and, and_false, false_and, BEq.rfl, Heap.write, splice, IV.one, List.all_cons, List.all_nil, Bool.and_self, Bool.and_true, Bool.true_and, Nat.le_add_right, eqKs, eqK, Nat.reduceLT, Nat.add_sub_cancel, bne_self_eq_false, Bool.false_bne, Bool.bne_false, List.append, pairOk, Bool.or_true, Bool.true_or, Int.toNat_natCast, Option.isSome_some, List.getElem?_cons_zero, List.getElem?_cons_succ, F24o0, F24o1, F24o2, F24o3, F24o4, F24o5, F24o6, F24o7, F24o8, F24l9, F24o10, F24b, F24, e1]
    refine hQ _ _ rfl ?_ ?_ ⟨Nat.le_refl _, fun _ _ _ => rfl⟩
    · rw [List.drop_length]; rfl
    · rw [List.drop_length]; exact hown
  | succ k ih =>
    intro i S H tm hi htm h0 h8 h9 h10 hown hroom hpl Q hQ
    have hil : i < l.length := by omega
    have hne : l ≠ [] := fun e => by rw [e] at hil; simp at hil
    have hpush : pushL S (l.drop i) = pushL (push1 S l[i]) (l.drop (i + 1)) := by rw [List.drop_eq_getElem_cons hil]; rfl
    obtain ⟨hS, hbn, ks, hgb, hkl, hks⟩ := hown
    cases hpl with
    | nil => exact absurd rfl hne
    | sl vb vo vc vex l hvc hh =>
      obtain ⟨hvb, ro, e, ez, cs, hgv, hcs⟩ := hh hne
      have hvne : vb ≠ b := hoff vb vo _ vc vex rfl (by omega)
      have hclen := congrArg List.length hcs
      rw [List.length_take, List.length_drop, flat_length] at hclen
      have hp : (cs.drop (vo + i * 4)).take 4 = l[i].cells := by
        rw [← flat_at l i hil, ← hcs, List.drop_take, List.take_take, List.drop_drop, show min 4 (4 * l.length - i * 4) = 4 from by omega]
      have e1 : decide ((i : Int) < l.length) = true := by simp; omega
      have e2 : (0 ≤ (i : Int) ∧ (i : Int) < l.length) = True := by simp; omega
      have e3 : (vo + (i * 4 + 4) ≤ cs.length) = True := by simp; omega
      have e4 : (H.n = vb) = False := by simp; omega
      have e5 : (H.n = b) = False := by simp; omega
      have e6 : (lo ≤ H.n) = True := by simp; omega
      generalize l[i] = p at hp hpush
      have hw : IntKind.i64.wrap ((i : Int) + 1) = ((i + 1 : Nat) : Int) := IntWalk.i64_in _ (by omega)
      have e8 : (S.length + 1 ≤ cap) = True := by simp; omega
      have e9 : (lo ≤ b ∧ S.length * 4 + 4 ≤ ks.length) = True := by simp; omega
      have eA : (H.n + 1 = b) = False := by simp; omega
      rw [W_loop, expl39 tm htm, h0, h8, h9, h10]
      by_cases hS0 : S = []
      · have e7 : decide ((S.length : Int) > 0) = false := by simp [hS0]
        simp only [W_skip, W_ret, W_exit, W_seq, W_block, W_ops, W_cond, W_segs_cons, W_segs_nil, freeI_s, freeI_f, W_op1, W_op, guardC_t, guardC_f, bb_tf, bb_ft, bb_tt, bb_ff, argC_a, goC_a, seqC_a, pairC_p, eq_self, Nat.left_eq_add, Nat.add_eq_left, Nat.reduceEqDiff, Int.reduceEq, Nat.add_left_cancel_iff, Nat.add_assoc, W_ops_nil, wantedI_n, wantedI_s, wantV_b, wantV_u, evalAll, IA.eval, optC_s, optC_n, nextOf, freeNext, fpOf, lowOf, opW, ev1, opC_a, Fr.put, List.set, List.getD_cons_zero, List.getD_cons_succ, thenC_n, thenC_j, segC_n, blkC_n, blkC_r, blkC_e, condC_t, condC_f, valC_v, W_apply, if_true, if_false, Option.map_some, Option.map_none, Option.bind_some, Option.bind_none, List.nil_append, List.append_nil, List.cons_append, undefs, List.length_cons, List.length_nil, Nat.reduceSub, Nat.reduceAdd, Nat.zero_add, retC_r, retC_n, leaveC_a, valsC_a, unmark, resultsOf, resultOf, tupled, binI, unI, beq_self_eq_true, Bool.false_eq_true, reduceIte, reduceCtorEq, Bool.not_true, Bool.not_false, Option.getD_some, Option.getD_none, mkAgg, IV.cells, Heap.read, Heap.get_new, Heap.n_new, Heap.get_put, Heap.n_put, List.drop_succ_cons, List.drop_zero, List.take_succ_cons, List.take_zero, Nat.add_zero, Nat.reduceLeDiff, Nat.reduceMul, Nat.le_refl, Int.reduceLT, Int.reduceLE, List.drop, List.take, Option.some.injEq, and_true, true_and, and_false, false_and, BEq.rfl, Heap.write, splice, IV.one, List.all_cons, List.all_nil, Bool.and_self, Bool.and_true, Bool.true_and, Nat.le_add_right, eqKs, eqK, Nat.reduceLT, Nat.add_sub_cancel, bne_self_eq_false, Bool.false_bne, Bool.bne_false, List.append, pairOk, Bool.or_true, Bool.true_or, Int.toNat_natCast, Option.isSome_some, List.getElem?_cons_zero, List.getElem?_cons_succ, F24o0, F24o1, F24o2, F24o3, F24o4, F24o5, F24o6, F24o7, F24o8, F24l9, F24o10, F24b, F24, e1, e2, e3, e4, e5, e6, e7, e8, e9, eA, hgv, hgb, hp, hw, Ps.cells, lenI, srcI, appendI, fillI, if_neg, Nat.succ_ne_zero, Nat.one_ne_zero]
        have hkb : KeepBut b H ((((H.new (.cells false 33 4 [.int .u8 0, .int .i64 0, .bool false, .int .u8 0])).put H.n (.cells false 33 4 p.cells)).new (.cells false 33 4 p.cells)).put b (.cells false 33 4 (splice ks (S.length * 4) p.cells))) := by
          refine ⟨by simp only [Heap.n_put, Heap.n_new]; omega, fun x h1 h2 => ?_⟩
          rw [Heap.get_put, if_neg (Ne.symm h2), Heap.get_new, if_neg (by simp only [Heap.n_put, Heap.n_new]; omega), Heap.get_put, if_neg (by omega), Heap.get_new, if_neg (by omega)]
        refine ih (i + 1) (S ++ [p]) _ _ (by omega) rfl (by simp) rfl rfl rfl (own_push (by simp only [Heap.n_put, Heap.n_new]; omega) hkl hks (by omega) (by rw [Heap.get_put, if_pos rfl])) (by simp; omega) (PL.keepBut (.sl vb vo vc vex l hvc fun _ => ⟨hvb, ro, e, ez, cs, hgv, hcs⟩) hoff hkb) Q ?_
        have hp1 : push1 S p = S ++ [p] := by simp [push1, hS0]
        rw [hpush, hp1] at hQ
        exact fun H' tm' a1 a2 a3 a4 => hQ H' tm' a1 a2 a3 (hkb.trans a4)
      · have hSp : 0 < S.length := List.length_pos_iff.2 hS0
        have e7 : decide ((S.length : Int) > 0) = true := by simp; omega
        have hq : (ks.drop ((S.length - 1) * 4)).take 4 = (S.getLast hS0).cells := by
          rw [List.getLast_eq_getElem, ← flat_at S (S.length - 1) (by omega), ← hks, List.drop_take, List.take_take, show min 4 (4 * S.length - (S.length - 1) * 4) = 4 from by omega]
        have hw1 : IntKind.i64.wrap ((S.length : Int) - 1) = ((S.length - 1 : Nat) : Int) := by
          rw [IntWalk.i64_in _ (by omega)]; omega
        have f1 : (0 ≤ ((S.length - 1 : Nat) : Int) ∧ ((S.length - 1 : Nat) : Int) < S.length) = True := by simp; omega
        have f2 : ((S.length - 1) * 4 + 4 ≤ ks.length) = True := by simp; omega
        have hgl : S.getLast? = some (S.getLast hS0) := List.getLast?_eq_some_getLast hS0
        generalize S.getLast hS0 = q at hq hgl
        simp only [W_skip, W_ret, W_exit, W_seq, W_block, W_ops, W_cond, W_segs_cons, W_segs_nil, freeI_s, freeI_f, W_op1, W_op, guardC_t, guardC_f, bb_tf, bb_ft, bb_tt, bb_ff, argC_a, goC_a, seqC_a, pairC_p, eq_self, Nat.left_eq_add, Nat.add_eq_left, Nat.reduceEqDiff, Int.reduceEq, Nat.add_left_cancel_iff, Nat.add_assoc, W_ops_nil, wantedI_n, wantedI_s, wantV_b, wantV_u, evalAll, IA.eval, optC_s, optC_n, nextOf, freeNext, fpOf, lowOf, opW, ev1, opC_a, Fr.put, List.set, List.getD_cons_zero, List.getD_cons_succ, thenC_n, thenC_j, segC_n, blkC_n, blkC_r, blkC_e, condC_t, condC_f, valC_v, W_apply, if_true, if_false, Option.map_some, Option.map_none, Option.bind_some, Option.bind_none, List.nil_append, List.append_nil, List.cons_append, undefs, List.length_cons, List.length_nil, Nat.reduceSub, Nat.reduceAdd, Nat.zero_add, retC_r, retC_n, leaveC_a, valsC_a, unmark, resultsOf, resultOf, tupled, binI, unI, beq_self_eq_true, Bool.false_eq_true, reduceIte, reduceCtorEq, Bool.not_true, Bool.not_false, Option.getD_some, Option.getD_none, mkAgg, IV.cells, Heap.read, Heap.get_new, Heap.n_new, Heap.get_put, Heap.n_put, List.drop_succ_cons, List.drop_zero, List.take_succ_cons, List.take_zero, Nat.add_zero, Nat.reduceLeDiff, Nat.reduceMul, Nat.le_refl, Int.reduceLT, Int.reduceLE, List.drop, List.take, Option.some.injEq, and_true, true_and, and_false, false_and, BEq.rfl, Heap.write, splice, IV.one, List.all_cons, List.all_nil, Bool.and_self, Bool.and_true, Bool.true_and, Nat.le_add_right, eqKs, eqK, Nat.reduceLT, Nat.add_sub_cancel, bne_self_eq_false, Bool.false_bne, Bool.bne_false, List.append, pairOk, Bool.or_true, Bool.true_or, Int.toNat_natCast, Option.isSome_some, List.getElem?_cons_zero, List.getElem?_cons_succ, F24o0, F24o1, F24o2, F24o3, F24o4, F24o5, F24o6, F24o7, F24o8, F24l9, F24o10, F24b, F24, e1, e2, e3, e4, e5, e6, e7, e8, e9, eA, hgv, hgb, hp, hw, hw1, f1, f2, hq, Ps.cells, List.all_cons, List.all_nil]
        generalize hH1 : (H.new (.cells false 33 4 [.int .u8 0, .int .i64 0, .bool false, .int .u8 0])).put H.n (.cells false 33 4 [.int .u8 p.y, .int .i64 p.n, .bool p.f, .int .u8 p.d]) = H1
        have hn1 : H1.n = H.n + 1 := by rw [← hH1, Heap.n_put, Heap.n_new]
        have hkb1 : KeepBut b H H1 := ⟨by omega, fun x h1 h2 => by rw [← hH1, Heap.get_put, if_neg (by omega), Heap.get_new, if_neg (by omega)]⟩
        have hgb1 : H1.get b = some (.cells false 33 4 ks) := by rw [← hH1, Heap.get_put, if_neg (by omega), Heap.get_new, if_neg (by omega)]; exact hgb
        have hgp1 : H1.get H.n = some (.cells false 33 4 [.int .u8 p.y, .int .i64 p.n, .bool p.f, .int .u8 p.d]) := by rw [← hH1, Heap.get_put, if_pos rfl]
        refine cancel_sp q p (fun H2 hk2 => ?_) (by omega)
        have hgb2 : H2.get b = some (.cells false 33 4 ks) := (hk2.2 b (by omega) (by omega)).trans hgb1
        have hgp2 : H2.get H.n = some (.cells false 33 4 [.int .u8 p.y, .int .i64 p.n, .bool p.f, .int .u8 p.d]) := (hk2.2 H.n (by omega) (by omega)).trans hgp1
        have hn2 : H.n + 1 ≤ H2.n := by have := hk2.1; omega
        have hkb2 : KeepBut b H H2 := ⟨by omega, fun x h1 h2 => (hk2.2 x (by omega) (by omega)).trans (hkb1.2 x h1 h2)⟩
        clear hk2 hgb1 hgp1 hkb1 hn1
        cases ec : cancelB q p
        · have f3 : (H2.n = b) = False := by simp; omega
          simp only [W_skip, W_ret, W_exit, W_seq, W_block, W_ops, W_cond, W_segs_cons, W_segs_nil, freeI_s, freeI_f, W_op1, W_op, guardC_t, guardC_f, bb_tf, bb_ft, bb_tt, bb_ff, argC_a, goC_a, seqC_a, pairC_p, eq_self, Nat.left_eq_add, Nat.add_eq_left, Nat.reduceEqDiff, Int.reduceEq, Nat.add_left_cancel_iff, Nat.add_assoc, W_ops_nil, wantedI_n, wantedI_s, wantV_b, wantV_u, evalAll, IA.eval, optC_s, optC_n, nextOf, freeNext, fpOf, lowOf, opW, ev1, opC_a, Fr.put, List.set, List.getD_cons_zero, List.getD_cons_succ, thenC_n, thenC_j, segC_n, blkC_n, blkC_r, blkC_e, condC_t, condC_f, valC_v, W_apply, if_true, if_false, Option.map_some, Option.map_none, Option.bind_some, Option.bind_none, List.nil_append, List.append_nil, List.cons_append, undefs, List.length_cons, List.length_nil, Nat.reduceSub, Nat.reduceAdd, Nat.zero_add, retC_r, retC_n, leaveC_a, valsC_a, unmark, resultsOf, resultOf, tupled, binI, unI, beq_self_eq_true, Bool.false_eq_true, reduceIte, reduceCtorEq, Bool.not_true, Bool.not_false, Option.getD_some, Option.getD_none, mkAgg, IV.cells, Heap.read, Heap.get_new, Heap.n_new, Heap.get_put, Heap.n_put, List.drop_succ_cons, List.drop_zero, List.take_succ_cons, List.take_zero, Nat.add_zero, Nat.reduceLeDiff, Nat.reduceMul, Nat.le_refl, Int.reduceLT, Int.reduceLE, List.drop, List.take, Option.some.injEq, and_true, true_and, and_false, false_and, BEq.rfl, Heap.write, splice, IV.one, List.all_cons, List.all_nil, Bool.and_self, Bool.and_true, Bool.true_and, Nat.le_add_right, eqKs, eqK, Nat.reduceLT, Nat.add_sub_cancel, bne_self_eq_false, Bool.false_bne, Bool.bne_false, List.append, pairOk, Bool.or_true, Bool.true_or, Int.toNat_natCast, Option.isSome_some, List.getElem?_cons_zero, List.getElem?_cons_succ, F24o0, F24o1, F24o2, F24o3, F24o4, F24o5, F24o6, F24o7, F24o8, F24l9, F24o10, F24b, F24, e7, e8, e9, f3, hgb2, hgp2, hw, hw1, Ps.cells, lenI, srcI, appendI, fillI, Nat.one_ne_zero]
          have hkb : KeepBut b H ((H2.new (.cells false 33 4 p.cells)).put b (.cells false 33 4 (splice ks (S.length * 4) p.cells))) := by
            refine ⟨by simp only [Heap.n_put, Heap.n_new]; omega, fun x h1 h2 => ?_⟩
            rw [Heap.get_put, if_neg (Ne.symm h2), Heap.get_new, if_neg (by omega)]
            exact hkb2.2 x h1 h2
          refine ih (i + 1) (S ++ [p]) _ _ (by omega) rfl (by simp) rfl rfl rfl (own_push (by simp only [Heap.n_put, Heap.n_new]; omega) hkl hks (by omega) (by rw [Heap.get_put, if_pos rfl])) (by simp; omega) (PL.keepBut (.sl vb vo vc vex l hvc fun _ => ⟨hvb, ro, e, ez, cs, hgv, hcs⟩) hoff hkb) Q ?_
          have hp1 : push1 S p = S ++ [p] := by simp [push1, hgl, ec]
          rw [hpush, hp1] at hQ
          exact fun H' tm' a1 a2 a3 a4 => hQ H' tm' a1 a2 a3 (hkb.trans a4)
        · have f3 : (0 ≤ (cap : Int) ∧ (cap : Int) ≤ (cap : Int)) = True := by simp
          have f4 : (0 ≤ ((S.length - 1 : Nat) : Int) ∧ ((S.length - 1 : Nat) : Int) ≤ (cap : Int)) = True := by simp; omega
          simp only [W_skip, W_ret, W_exit, W_seq, W_block, W_ops, W_cond, W_segs_cons, W_segs_nil, freeI_s, freeI_f, W_op1, W_op, guardC_t, guardC_f, bb_tf, bb_ft, bb_tt, bb_ff, argC_a, goC_a, seqC_a, pairC_p, eq_self, Nat.left_eq_add, Nat.add_eq_left, Nat.reduceEqDiff, Int.reduceEq, Nat.add_left_cancel_iff, Nat.add_assoc, W_ops_nil, wantedI_n, wantedI_s, wantV_b, wantV_u, evalAll, IA.eval, optC_s, optC_n, nextOf, freeNext, fpOf, lowOf, opW, ev1, opC_a, Fr.put, List.set, List.getD_cons_zero, List.getD_cons_succ, thenC_n, thenC_j, segC_n, blkC_n, blkC_r, blkC_e, condC_t, condC_f, valC_v, W_apply, if_true, if_false, Option.map_some, Option.map_none, Option.bind_some, Option.bind_none, List.nil_append, List.append_nil, List.cons_append, undefs, List.length_cons, List.length_nil, Nat.reduceSub, Nat.reduceAdd, Nat.zero_add, retC_r, retC_n, leaveC_a, valsC_a, unmark, resultsOf, resultOf, tupled, binI, unI, beq_self_eq_true, Bool.false_eq_true, reduceIte, reduceCtorEq, Bool.not_true, Bool.not_false, Option.getD_some, Option.getD_none, mkAgg, IV.cells, Heap.read, Heap.get_new, Heap.n_new, Heap.get_put, Heap.n_put, List.drop_succ_cons, List.drop_zero, List.take_succ_cons, List.take_zero, Nat.add_zero, Nat.reduceLeDiff, Nat.reduceMul, Nat.le_refl, Int.reduceLT, Int.reduceLE, List.drop, List.take, Option.some.injEq, and_true, true_and, and_false, false_and, BEq.rfl, Heap.write, splice, IV.one, List.all_cons, List.all_nil, Bool.and_self, Bool.and_true, Bool.true_and, Nat.le_add_right, eqKs, eqK, Nat.reduceLT, Nat.add_sub_cancel, bne_self_eq_false, Bool.false_bne, Bool.bne_false, List.append, pairOk, Bool.or_true, Bool.true_or, Int.toNat_natCast, Option.isSome_some, List.getElem?_cons_zero, List.getElem?_cons_succ, F24o0, F24o1, F24o2, F24o3, F24o4, F24o5, F24o6, F24o7, F24o8, F24l9, F24o10, F24b, F24, e7, e8, e9, f3, f4, hgb2, hgp2, hw, hw1, Ps.cells, boundsI, boundI, Nat.zero_mul, Nat.sub_zero, Bool.true_or]
          refine ih (i + 1) S.dropLast H2 _ (by omega) rfl (by simp) rfl rfl rfl (own_pop (by omega) hkl hks hS hgb2) (by simp; omega) (PL.keepBut (.sl vb vo vc vex l hvc fun _ => ⟨hvb, ro, e, ez, cs, hgv, hcs⟩) hoff hkb2) Q ?_
          have hp1 : push1 S p = S.dropLast := by simp [push1, hgl, ec]
          rw [hpush, hp1] at hQ
          exact fun H' tm' a1 a2 a3 a4 => hQ H' tm' a1 a2 a3 (hkb2.trans a4)

theorem push_sp {b cap lo : Nat} {v : IV} {l S : List Ps} {H : Heap} {Q : Out → Heap → Prop} (hlo : lo ≤ b) (hl : l.length ≤ 100000) (hcap : cap ≤ 200000) (hoff : offB v b) (hown : Own H b cap S) (hroom : S.length + l.length ≤ cap) (hpl : PL H v l)
    (h : ∀ H', Own H' b cap (pushL S l) → KeepBut b H H' → Q (.val (.slice b 0 (pushL S l).length cap true)) H') : W E0 lo (.call 24 [.slice b 0 S.length cap true, v]) H Q := by
  rw [c24]
  have hp0 := hpl
  cases hpl with
  | nil =>
    simp only [W_skip, W_ret, W_exit, W_seq, W_block, W_ops, W_cond, W_segs_cons, W_segs_nil, freeI_s, freeI_f, W_op1, W_op, guardC_t, guardC_f, bb_tf, bb_ft, bb_tt, bb_ff, argC_a, goC_a, seqC_a, pairC_p, eq_self, Nat.left_eq_add, Nat.add_eq_left, Nat.reduceEqDiff, Int.reduceEq, Nat.add_left_cancel_iff, Nat.add_assoc, W_ops_nil, wantedI_n, wantedI_s, wantV_b, wantV_u, evalAll, IA.eval, optC_s, optC_n, nextOf, freeNext, fpOf, lowOf, opW, ev1, opC_a, Fr.put, List.set, List.getD_cons_zero, List.getD_cons_succ, thenC_n, thenC_j, segC_n, blkC_n, blkC_r, blkC_e, condC_t, condC_f, valC_v, W_apply, if_true, if_false, Option.map_some, Option.map_none, Option.bind_some, Option.bind_none, List.nil_append, List.append_nil, List.cons_append, undefs, List.length_cons, List.length_nil, Nat.reduceSub, Nat.reduceAdd, Nat.zero_add, retC_r, retC_n, leaveC_a, valsC_a, unmark, resultsOf, resultOf, tupled, binI, unI, beq_self_eq_true, Bool.false_eq_true, reduceIte, reduceCtorEq, Bool.not_true, Bool.not_false, Option.getD_some, Option.getD_none, mkAgg, IV.cells, Heap.read, Heap.get_new, Heap.n_new, Heap.get_put, Heap.n_put, List.drop_succ_cons, List.drop_zero, List.take_succ_cons, List.take_zero, Nat.add_zero, Nat.reduceLeDiff, Nat.reduceMul, Nat.le_refl, Int.reduceLT, Int.reduceLE, List.drop, List.take, Option.some.injEq, and_true, true_and, and_false, false_and, BEq.rfl, Heap.write, splice, IV.one, List.all_cons, List.all_nil, Bool.and_self, Bool.and_true, Bool.true_and, Nat.le_add_right, eqKs, eqK, Nat.reduceLT, Nat.add_sub_cancel, bne_self_eq_false, Bool.false_bne, Bool.bne_false, List.append, pairOk, Bool.or_true, Bool.true_or, Int.toNat_natCast, Option.isSome_some, List.getElem?_cons_zero, List.getElem?_cons_succ, F24o0, F24o1, F24o2, F24o3, F24o4, F24o5, F24o6, F24o7, F24o8, F24o10, F24b, F24]
    refine push_loop b cap lo .nilSlice [] hlo hl hcap hoff 0 0 S H _ rfl rfl rfl rfl rfl rfl hown hroom hp0 _ fun H' tm' a1 a2 a3 a4 => ?_
    rw [expl39 tm' a1, a2]
    simp only [W_skip, W_ret, W_exit, W_seq, W_block, W_ops, W_cond, W_segs_cons, W_segs_nil, freeI_s, freeI_f, W_op1, W_op, guardC_t, guardC_f, bb_tf, bb_ft, bb_tt, bb_ff, argC_a, goC_a, seqC_a, pairC_p, eq_self, Nat.left_eq_add, Nat.add_eq_left, Nat.reduceEqDiff, Int.reduceEq, Nat.add_left_cancel_iff, Nat.add_assoc, W_ops_nil, wantedI_n, wantedI_s, wantV_b, wantV_u, evalAll, IA.eval, optC_s, optC_n, nextOf, freeNext, fpOf, lowOf, opW, ev1, opC_a, Fr.put, List.set, List.getD_cons_zero, List.getD_cons_succ, thenC_n, thenC_j, segC_n, blkC_n, blkC_r, blkC_e, condC_t, condC_f, valC_v, W_apply, if_true, if_false, Option.map_some, Option.map_none, Option.bind_some, Option.bind_none, List.nil_append, List.append_nil, List.cons_append, undefs, List.length_cons, List.length_nil, Nat.reduceSub, Nat.reduceAdd, Nat.zero_add, retC_r, retC_n, leaveC_a, valsC_a, unmark, resultsOf, resultOf, tupled, binI, unI, beq_self_eq_true, Bool.false_eq_true, reduceIte, reduceCtorEq, Bool.not_true, Bool.not_false, Option.getD_some, Option.getD_none, mkAgg, IV.cells, Heap.read, Heap.get_new, Heap.n_new, Heap.get_put, Heap.n_put, List.drop_succ_cons, List.drop_zero, List.take_succ_cons, List.take_zero, Nat.add_zero, Nat.reduceLeDiff, Nat.reduceMul, Nat.le_refl, Int.reduceLT, Int.reduceLE, List.drop, List.take, Option.some.injEq, and_true, true_and, and_false, false_and, BEq.rfl, Heap.write, splice, IV.one, List.all_cons, List.all_nil, Bool.and_self, Bool.and_true, Bool.true_and, Nat.le_add_right, eqKs, eqK, Nat.reduceLT, Nat.add_sub_cancel, bne_self_eq_false, Bool.false_bne, Bool.bne_false, List.append, pairOk, Bool.or_true, Bool.true_or, Int.toNat_natCast, Option.isSome_some, List.getElem?_cons_zero, List.getElem?_cons_succ, F24o0, F24o1, F24o2, F24o3, F24o4, F24o5, F24o6, F24o7, F24o8, F24o10, F24b, F24]
    exact h H' a3 a4
  | sl vb vo vc vex l hvc hh =>
    simp only [W_skip, W_ret, W_exit, W_seq, W_block, W_ops, W_cond, W_segs_cons, W_segs_nil, freeI_s, freeI_f, W_op1, W_op, guardC_t, guardC_f, bb_tf, bb_ft, bb_tt, bb_ff, argC_a, goC_a, seqC_a, pairC_p, eq_self, Nat.left_eq_add, Nat.add_eq_left, Nat.reduceEqDiff, Int.reduceEq, Nat.add_left_cancel_iff, Nat.add_assoc, W_ops_nil, wantedI_n, wantedI_s, wantV_b, wantV_u, evalAll, IA.eval, optC_s, optC_n, nextOf, freeNext, fpOf, lowOf, opW, ev1, opC_a, Fr.put, List.set, List.getD_cons_zero, List.getD_cons_succ, thenC_n, thenC_j, segC_n, blkC_n, blkC_r, blkC_e, condC_t, condC_f, valC_v, W_apply, if_true, if_false, Option.map_some, Option.map_none, Option.bind_some, Option.bind_none, List.nil_append, List.append_nil, List.cons_append, undefs, List.length_cons, List.length_nil, Nat.reduceSub, Nat.reduceAdd, Nat.zero_add, retC_r, retC_n, leaveC_a, valsC_a, unmark, resultsOf, resultOf, tupled, binI, unI, beq_self_eq_true, Bool.false_eq_true, reduceIte, reduceCtorEq, Bool.not_true, Bool.not_false, Option.getD_some, Option.getD_none, mkAgg, IV.cells, Heap.read, Heap.get_new, Heap.n_new, Heap.get_put, Heap.n_put, List.drop_succ_cons, List.drop_zero, List.take_succ_cons, List.take_zero, Nat.add_zero, Nat.reduceLeDiff, Nat.reduceMul, Nat.le_refl, Int.reduceLT, Int.reduceLE, List.drop, List.take, Option.some.injEq, and_true, true_and, and_false, false_and, BEq.rfl, Heap.write, splice, IV.one, List.all_cons, List.all_nil, Bool.and_self, Bool.and_true, Bool.true_and, Nat.le_add_right, eqKs, eqK, Nat.reduceLT, Nat.add_sub_cancel, bne_self_eq_false, Bool.false_bne, Bool.bne_false, List.append, pairOk, Bool.or_true, Bool.true_or, Int.toNat_natCast, Option.isSome_some, List.getElem?_cons_zero, List.getElem?_cons_succ, F24o0, F24o1, F24o2, F24o3, F24o4, F24o5, F24o6, F24o7, F24o8, F24o10, F24b, F24]
    refine push_loop b cap lo _ l hlo hl hcap hoff l.length 0 S H _ (by omega) rfl rfl rfl rfl rfl hown hroom hp0 _ fun H' tm' a1 a2 a3 a4 => ?_
    rw [expl39 tm' a1, a2]
    simp only [W_skip, W_ret, W_exit, W_seq, W_block, W_ops, W_cond, W_segs_cons, W_segs_nil, freeI_s, freeI_f, W_op1, W_op, guardC_t, guardC_f, bb_tf, bb_ft, bb_tt, bb_ff, argC_a, goC_a, seqC_a, pairC_p, eq_self, Nat.left_eq_add, Nat.add_eq_left, Nat.reduceEqDiff, Int.reduceEq, Nat.add_left_cancel_iff, Nat.add_assoc, W_ops_nil, wantedI_n, wantedI_s, wantV_b, wantV_u, evalAll, IA.eval, optC_s, optC_n, nextOf, freeNext, fpOf, lowOf, opW, ev1, opC_a, Fr.put, List.set, List.getD_cons_zero, List.getD_cons_succ, thenC_n, thenC_j, segC_n, blkC_n, blkC_r, blkC_e, condC_t, condC_f, valC_v, W_apply, if_true, if_false, Option.map_some, Option.map_none, Option.bind_some, Option.bind_none, List.nil_append, List.append_nil, List.cons_append, undefs, List.length_cons, List.length_nil, Nat.reduceSub, Nat.reduceAdd, Nat.zero_add, retC_r, retC_n, leaveC_a, valsC_a, unmark, resultsOf, resultOf, tupled, binI, unI, beq_self_eq_true, Bool.false_eq_true, reduceIte, reduceCtorEq, Bool.not_true, Bool.not_false, Option.getD_some, Option.getD_none, mkAgg, IV.cells, Heap.read, Heap.get_new, Heap.n_new, Heap.get_put, Heap.n_put, List.drop_succ_cons, List.drop_zero, List.take_succ_cons, List.take_zero, Nat.add_zero, Nat.reduceLeDiff, Nat.reduceMul, Nat.le_refl, Int.reduceLT, Int.reduceLE, List.drop, List.take, Option.some.injEq, and_true, true_and, and_false, false_and, BEq.rfl, Heap.write, splice, IV.one, List.all_cons, List.all_nil, Bool.and_self, Bool.and_true, Bool.true_and, Nat.le_add_right, eqKs, eqK, Nat.reduceLT, Nat.add_sub_cancel, bne_self_eq_false, Bool.false_bne, Bool.bne_false, List.append, pairOk, Bool.or_true, Bool.true_or, Int.toNat_natCast, Option.isSome_some, List.getElem?_cons_zero, List.getElem?_cons_succ, F24o0, F24o1, F24o2, F24o3, F24o4, F24o5, F24o6, F24o7, F24o8, F24o10, F24b, F24]
    exact h H' a3 a4
end Go.Iso.GenA
end

section
namespace Go.Iso.GenA
open Go.Iso
set_option maxHeartbeats 2000000
set_option maxRecDepth 10000

theorem push1_length (S : List Ps) (p : Ps) : (push1 S p).length ≤ S.length + 1 := by
  unfold push1
  split
  · simp
  · split
    · simp; omega
    · simp
theorem pushL_length (l : List Ps) : ∀ S : List Ps, (pushL S l).length ≤ S.length + l.length := by
  induction l with
  | nil => intro S; simp [pushL]
  | cons p l ih =>
    intro S
    have := ih (push1 S p)
    have h1 := push1_length S p
    simp only [pushL, List.foldl_cons, List.length_cons] at this ⊢
    omega

theorem reduce_sp {v : IV} {l : List Ps} {H : Heap} {lo : Nat} {Q : Out → Heap → Prop} (hv : PL H v l) (hl : l.length ≤ 100000) (hlo : lo ≤ H.n)
    (h : ∀ H' b, Keep H.n H H' → H.n ≤ b → Own H' b (pushL [] l).length (pushL [] l) → Q (.val (.slice b 0 (pushL [] l).length (pushL [] l).length true)) H') : W E0 lo (.call 11 [v]) H Q := by
  refine W.pure plain hlo ?_
  rw [c11]
  have hpl := pushL_length l []
  simp only [List.length_nil, Nat.zero_add] at hpl
  have e1 : ((0 : Int) ≤ l.length ∧ (l.length : Int) * (((24 : Nat) : Int) + 1) ≤ 2 ^ 40) = True := by simp; omega
  have hoff : offB v H.n := by
    intro vb vo n vc vex e hn
    subst e
    cases hv with
    | sl vb vo vc vex l hvc hh => have := (hh (fun e => hn (by rw [e]; rfl))).1; omega
  have step : ∀ (zs : List IV) (K : IV → Heap → Prop), zs.length = 4 * l.length → (∀ H', Own H' H.n l.length (pushL [] l) → KeepBut H.n (H.new (.cells false 33 4 zs)) H' → K (.slice H.n 0 (pushL [] l).length l.length true) H') →
      W E0 H.n (.call 24 [.slice H.n 0 0 l.length true, v]) (H.new (.cells false 33 4 zs)) (valC K) := by
    intro zs K hz hK
    refine push_sp (S := []) (Nat.le_refl _) hl (by omega) hoff ⟨Nat.zero_le _, by rw [Heap.n_new]; omega, zs, by rw [Heap.get_new, if_pos rfl], hz, rfl⟩ (by simp) (hv.keep (Keep.new _ _)) fun H' a b => ?_
    exact hK H' a b
  cases hv with
  | nil =>
    simp only [W_skip, W_ret, W_exit, W_seq, W_block, W_ops, W_cond, W_segs_cons, W_segs_nil, freeI_s, freeI_f, W_op1, W_op, guardC_t, guardC_f, bb_tf, bb_ft, bb_tt, bb_ff, argC_a, goC_a, seqC_a, pairC_p, eq_self, Nat.left_eq_add, Nat.add_eq_left, Nat.reduceEqDiff, Int.reduceEq, Nat.add_left_cancel_iff, Nat.add_assoc, W_ops_nil, wantedI_n, wantedI_s, wantV_b, wantV_u, evalAll, IA.eval, optC_s, optC_n, nextOf, freeNext, fpOf, lowOf, opW, ev1, opC_a, Fr.put, List.set, List.getD_cons_zero, List.getD_cons_succ, thenC_n, thenC_j, segC_n, blkC_n, blkC_r, blkC_e, condC_t, condC_f, valC_v, W_apply, if_true, if_false, Option.map_some, Option.map_none, Option.bind_some, Option.bind_none, List.nil_append, List.append_nil, List.cons_append, undefs, List.length_cons, List.length_nil, Nat.reduceSub, Nat.reduceAdd, Nat.zero_add, retC_r, retC_n, leaveC_a, valsC_a, unmark, resultsOf, resultOf, tupled, binI, unI, beq_self_eq_true, Bool.false_eq_true, reduceIte, reduceCtorEq, Bool.not_true, Bool.not_false, Option.getD_some, Option.getD_none, mkAgg, IV.cells, Heap.read, Heap.get_new, Heap.n_new, Heap.get_put, Heap.n_put, List.drop_succ_cons, List.drop_zero, List.take_succ_cons, List.take_zero, Nat.add_zero, Nat.reduceLeDiff, Nat.reduceMul, Nat.le_refl, Int.reduceLT, Int.reduceLE, List.drop, List.take, Option.some.injEq, and_true, true_and, and_false, false_and, BEq.rfl, Heap.write, splice, IV.one, List.all_cons, List.all_nil, Bool.and_self, Bool.and_true, Bool.true_and, Nat.le_add_right, eqKs, eqK, Nat.reduceLT, Nat.add_sub_cancel, bne_self_eq_false, Bool.false_bne, Bool.bne_false, List.append, pairOk, Bool.or_true, Bool.true_or, Int.toNat_natCast, Option.isSome_some, List.getElem?_cons_zero, List.getElem?_cons_succ, F11o0, F11o1, F11b, F11, e1, Int.zero_mul, Int.toNat_zero, rep, Int.reduceLE, Int.reducePow]
    refine step _ _ rfl fun H1 h1 h2 => ?_
    simp only [W_skip, W_ret, W_exit, W_seq, W_block, W_ops, W_cond, W_segs_cons, W_segs_nil, freeI_s, freeI_f, W_op1, W_op, guardC_t, guardC_f, bb_tf, bb_ft, bb_tt, bb_ff, argC_a, goC_a, seqC_a, pairC_p, eq_self, Nat.left_eq_add, Nat.add_eq_left, Nat.reduceEqDiff, Int.reduceEq, Nat.add_left_cancel_iff, Nat.add_assoc, W_ops_nil, wantedI_n, wantedI_s, wantV_b, wantV_u, evalAll, IA.eval, optC_s, optC_n, nextOf, freeNext, fpOf, lowOf, opW, ev1, opC_a, Fr.put, List.set, List.getD_cons_zero, List.getD_cons_succ, thenC_n, thenC_j, segC_n, blkC_n, blkC_r, blkC_e, condC_t, condC_f, valC_v, W_apply, if_true, if_false, Option.map_some, Option.map_none, Option.bind_some, Option.bind_none, List.nil_append, List.append_nil, List.cons_append, undefs, List.length_cons, List.length_nil, Nat.reduceSub, Nat.reduceAdd, Nat.zero_add, retC_r, retC_n, leaveC_a, valsC_a, unmark, resultsOf, resultOf, tupled, binI, unI, beq_self_eq_true, Bool.false_eq_true, reduceIte, reduceCtorEq, Bool.not_true, Bool.not_false, Option.getD_some, Option.getD_none, mkAgg, IV.cells, Heap.read, Heap.get_new, Heap.n_new, Heap.get_put, Heap.n_put, List.drop_succ_cons, List.drop_zero, List.take_succ_cons, List.take_zero, Nat.add_zero, Nat.reduceLeDiff, Nat.reduceMul, Nat.le_refl, Int.reduceLT, Int.reduceLE, List.drop, List.take, Option.some.injEq, and_true, true_and, and_false, false_and, BEq.rfl, Heap.write, splice, IV.one, List.all_cons, List.all_nil, Bool.and_self, Bool.and_true, Bool.true_and, Nat.le_add_right, eqKs, eqK, Nat.reduceLT, Nat.add_sub_cancel, bne_self_eq_false, Bool.false_bne, Bool.bne_false, List.append, pairOk, Bool.or_true, Bool.true_or, Int.toNat_natCast, Option.isSome_some, List.getElem?_cons_zero, List.getElem?_cons_succ, F11o0, F11o1, F11b, F11]
    refine copied_sp (h1.pl true) (by omega) (by have := h2.1; rw [Heap.n_new] at this; omega) fun H2 b k1 k2 k3 => ?_
    simp only [W_skip, W_ret, W_exit, W_seq, W_block, W_ops, W_cond, W_segs_cons, W_segs_nil, freeI_s, freeI_f, W_op1, W_op, guardC_t, guardC_f, bb_tf, bb_ft, bb_tt, bb_ff, argC_a, goC_a, seqC_a, pairC_p, eq_self, Nat.left_eq_add, Nat.add_eq_left, Nat.reduceEqDiff, Int.reduceEq, Nat.add_left_cancel_iff, Nat.add_assoc, W_ops_nil, wantedI_n, wantedI_s, wantV_b, wantV_u, evalAll, IA.eval, optC_s, optC_n, nextOf, freeNext, fpOf, lowOf, opW, ev1, opC_a, Fr.put, List.set, List.getD_cons_zero, List.getD_cons_succ, thenC_n, thenC_j, segC_n, blkC_n, blkC_r, blkC_e, condC_t, condC_f, valC_v, W_apply, if_true, if_false, Option.map_some, Option.map_none, Option.bind_some, Option.bind_none, List.nil_append, List.append_nil, List.cons_append, undefs, List.length_cons, List.length_nil, Nat.reduceSub, Nat.reduceAdd, Nat.zero_add, retC_r, retC_n, leaveC_a, valsC_a, unmark, resultsOf, resultOf, tupled, binI, unI, beq_self_eq_true, Bool.false_eq_true, reduceIte, reduceCtorEq, Bool.not_true, Bool.not_false, Option.getD_some, Option.getD_none, mkAgg, IV.cells, Heap.read, Heap.get_new, Heap.n_new, Heap.get_put, Heap.n_put, List.drop_succ_cons, List.drop_zero, List.take_succ_cons, List.take_zero, Nat.add_zero, Nat.reduceLeDiff, Nat.reduceMul, Nat.le_refl, Int.reduceLT, Int.reduceLE, List.drop, List.take, Option.some.injEq, and_true, true_and, and_false, false_and, BEq.rfl, Heap.write, splice, IV.one, List.all_cons, List.all_nil, Bool.and_self, Bool.and_true, Bool.true_and, Nat.le_add_right, eqKs, eqK, Nat.reduceLT, Nat.add_sub_cancel, bne_self_eq_false, Bool.false_bne, Bool.bne_false, List.append, pairOk, Bool.or_true, Bool.true_or, Int.toNat_natCast, Option.isSome_some, List.getElem?_cons_zero, List.getElem?_cons_succ, F11o0, F11o1, F11b, F11]
    exact fun hk => h H2 b hk (by have := h2.1; rw [Heap.n_new] at this; omega) k3
  | sl vb vo vc vex l hvc hh =>
    simp only [W_skip, W_ret, W_exit, W_seq, W_block, W_ops, W_cond, W_segs_cons, W_segs_nil, freeI_s, freeI_f, W_op1, W_op, guardC_t, guardC_f, bb_tf, bb_ft, bb_tt, bb_ff, argC_a, goC_a, seqC_a, pairC_p, eq_self, Nat.left_eq_add, Nat.add_eq_left, Nat.reduceEqDiff, Int.reduceEq, Nat.add_left_cancel_iff, Nat.add_assoc, W_ops_nil, wantedI_n, wantedI_s, wantV_b, wantV_u, evalAll, IA.eval, optC_s, optC_n, nextOf, freeNext, fpOf, lowOf, opW, ev1, opC_a, Fr.put, List.set, List.getD_cons_zero, List.getD_cons_succ, thenC_n, thenC_j, segC_n, blkC_n, blkC_r, blkC_e, condC_t, condC_f, valC_v, W_apply, if_true, if_false, Option.map_some, Option.map_none, Option.bind_some, Option.bind_none, List.nil_append, List.append_nil, List.cons_append, undefs, List.length_cons, List.length_nil, Nat.reduceSub, Nat.reduceAdd, Nat.zero_add, retC_r, retC_n, leaveC_a, valsC_a, unmark, resultsOf, resultOf, tupled, binI, unI, beq_self_eq_true, Bool.false_eq_true, reduceIte, reduceCtorEq, Bool.not_true, Bool.not_false, Option.getD_some, Option.getD_none, mkAgg, IV.cells, Heap.read, Heap.get_new, Heap.n_new, Heap.get_put, Heap.n_put, List.drop_succ_cons, List.drop_zero, List.take_succ_cons, List.take_zero, Nat.add_zero, Nat.reduceLeDiff, Nat.reduceMul, Nat.le_refl, Int.reduceLT, Int.reduceLE, List.drop, List.take, Option.some.injEq, and_true, true_and, and_false, false_and, BEq.rfl, Heap.write, splice, IV.one, List.all_cons, List.all_nil, Bool.and_self, Bool.and_true, Bool.true_and, Nat.le_add_right, eqKs, eqK, Nat.reduceLT, Nat.add_sub_cancel, bne_self_eq_false, Bool.false_bne, Bool.bne_false, List.append, pairOk, Bool.or_true, Bool.true_or, Int.toNat_natCast, Option.isSome_some, List.getElem?_cons_zero, List.getElem?_cons_succ, F11o0, F11o1, F11b, F11, e1, Int.toNat_zero]
    refine step _ _ ?_ fun H1 h1 h2 => ?_
    · rw [rep_length, Nat.mul_comm]; rfl
    simp only [W_skip, W_ret, W_exit, W_seq, W_block, W_ops, W_cond, W_segs_cons, W_segs_nil, freeI_s, freeI_f, W_op1, W_op, guardC_t, guardC_f, bb_tf, bb_ft, bb_tt, bb_ff, argC_a, goC_a, seqC_a, pairC_p, eq_self, Nat.left_eq_add, Nat.add_eq_left, Nat.reduceEqDiff, Int.reduceEq, Nat.add_left_cancel_iff, Nat.add_assoc, W_ops_nil, wantedI_n, wantedI_s, wantV_b, wantV_u, evalAll, IA.eval, optC_s, optC_n, nextOf, freeNext, fpOf, lowOf, opW, ev1, opC_a, Fr.put, List.set, List.getD_cons_zero, List.getD_cons_succ, thenC_n, thenC_j, segC_n, blkC_n, blkC_r, blkC_e, condC_t, condC_f, valC_v, W_apply, if_true, if_false, Option.map_some, Option.map_none, Option.bind_some, Option.bind_none, List.nil_append, List.append_nil, List.cons_append, undefs, List.length_cons, List.length_nil, Nat.reduceSub, Nat.reduceAdd, Nat.zero_add, retC_r, retC_n, leaveC_a, valsC_a, unmark, resultsOf, resultOf, tupled, binI, unI, beq_self_eq_true, Bool.false_eq_true, reduceIte, reduceCtorEq, Bool.not_true, Bool.not_false, Option.getD_some, Option.getD_none, mkAgg, IV.cells, Heap.read, Heap.get_new, Heap.n_new, Heap.get_put, Heap.n_put, List.drop_succ_cons, List.drop_zero, List.take_succ_cons, List.take_zero, Nat.add_zero, Nat.reduceLeDiff, Nat.reduceMul, Nat.le_refl, Int.reduceLT, Int.reduceLE, List.drop, List.take, Option.some.injEq, and_true, true_and, and_false, false_and, BEq.rfl, Heap.write, splice, IV.one, List.all_cons, List.all_nil, Bool.and_self, Bool.and_true, Bool.true_and, Nat.le_add_right, eqKs, eqK, Nat.reduceLT, Nat.add_sub_cancel, bne_self_eq_false, Bool.false_bne, Bool.bne_false, List.append, pairOk, Bool.or_true, Bool.true_or, Int.toNat_natCast, Option.isSome_some, List.getElem?_cons_zero, List.getElem?_cons_succ, F11o0, F11o1, F11b, F11]
    refine copied_sp (h1.pl true) (by omega) (by have := h2.1; rw [Heap.n_new] at this; omega) fun H2 b k1 k2 k3 => ?_
    simp only [W_skip, W_ret, W_exit, W_seq, W_block, W_ops, W_cond, W_segs_cons, W_segs_nil, freeI_s, freeI_f, W_op1, W_op, guardC_t, guardC_f, bb_tf, bb_ft, bb_tt, bb_ff, argC_a, goC_a, seqC_a, pairC_p, eq_self, Nat.left_eq_add, Nat.add_eq_left, Nat.reduceEqDiff, Int.reduceEq, Nat.add_left_cancel_iff, Nat.add_assoc, W_ops_nil, wantedI_n, wantedI_s, wantV_b, wantV_u, evalAll, IA.eval, optC_s, optC_n, nextOf, freeNext, fpOf, lowOf, opW, ev1, opC_a, Fr.put, List.set, List.getD_cons_zero, List.getD_cons_succ, thenC_n, thenC_j, segC_n, blkC_n, blkC_r, blkC_e, condC_t, condC_f, valC_v, W_apply, if_true, if_false, Option.map_some, Option.map_none, Option.bind_some, Option.bind_none, List.nil_append, List.append_nil, List.cons_append, undefs, List.length_cons, List.length_nil, Nat.reduceSub, Nat.reduceAdd, Nat.zero_add, retC_r, retC_n, leaveC_a, valsC_a, unmark, resultsOf, resultOf, tupled, binI, unI, beq_self_eq_true, Bool.false_eq_true, reduceIte, reduceCtorEq, Bool.not_true, Bool.not_false, Option.getD_some, Option.getD_none, mkAgg, IV.cells, Heap.read, Heap.get_new, Heap.n_new, Heap.get_put, Heap.n_put, List.drop_succ_cons, List.drop_zero, List.take_succ_cons, List.take_zero, Nat.add_zero, Nat.reduceLeDiff, Nat.reduceMul, Nat.le_refl, Int.reduceLT, Int.reduceLE, List.drop, List.take, Option.some.injEq, and_true, true_and, and_false, false_and, BEq.rfl, Heap.write, splice, IV.one, List.all_cons, List.all_nil, Bool.and_self, Bool.and_true, Bool.true_and, Nat.le_add_right, eqKs, eqK, Nat.reduceLT, Nat.add_sub_cancel, bne_self_eq_false, Bool.false_bne, Bool.bne_false, List.append, pairOk, Bool.or_true, Bool.true_or, Int.toNat_natCast, Option.isSome_some, List.getElem?_cons_zero, List.getElem?_cons_succ, F11o0, F11o1, F11b, F11]
    exact fun hk => h H2 b hk (by have := h2.1; rw [Heap.n_new] at this; omega) k3

/-! Inverse. -/
def flip (p : Ps) : Ps := { p with d := if p.d == 1 then 0 else 1 }
def inv (l : List Ps) : List Ps := (l.map flip).reverse

theorem expl31 (tm : List IV) (h : tm.length = 31) : tm = [tm.getD 0 IV.undef, tm.getD 1 IV.undef, tm.getD 2 IV.undef, tm.getD 3 IV.undef, tm.getD 4 IV.undef, tm.getD 5 IV.undef, tm.getD 6 IV.undef, tm.getD 7 IV.undef, tm.getD 8 IV.undef, tm.getD 9 IV.undef, tm.getD 10 IV.undef, tm.getD 11 IV.undef, tm.getD 12 IV.undef, tm.getD 13 IV.undef, tm.getD 14 IV.undef, tm.getD 15 IV.undef, tm.getD 16 IV.undef, tm.getD 17 IV.undef, tm.getD 18 IV.undef, tm.getD 19 IV.undef, tm.getD 20 IV.undef, tm.getD 21 IV.undef, tm.getD 22 IV.undef, tm.getD 23 IV.undef, tm.getD 24 IV.undef, tm.getD 25 IV.undef, tm.getD 26 IV.undef, tm.getD 27 IV.undef, tm.getD 28 IV.undef, tm.getD 29 IV.undef, tm.getD 30 IV.undef] := (expl tm 31 h).trans rfl

theorem inv_loop (b lo : Nat) (v : IV) (l : List Ps) (hlo : lo ≤ b) (hl : l.length ≤ 100000) (hoff : offB v b) : ∀ (k i : Nat) (H : Heap) (tm : List IV) (cs0 : List IV), i + k = l.length → tm.length = 31 →
    tm.getD 0 IV.undef = v → tm.getD 3 IV.undef = .slice b 0 l.length l.length true → tm.getD 9 IV.undef = v → tm.getD 10 IV.undef = .int .i64 l.length → tm.getD 11 IV.undef = .int .i64 i → b < H.n → H.get b = some (.cells false 33 4 cs0) → cs0.length = 4 * l.length →
    cs0.drop (4 * k) = flat (inv (l.take i)) → PL H v l →
    ∀ Q : Out → Heap → Prop, (∀ H' tm', tm'.length = 31 → tm'.getD 3 IV.undef = .slice b 0 l.length l.length true → Own H' b l.length (inv l) → Q (.ex (.jmp (.exit 0)) ⟨tm', []⟩) H') →
    W E0 lo (.code (.loop F16l10) none ⟨tm, []⟩) H Q := by
  intro k
  induction k with
  | zero =>
    intro i H tm cs0 hi htm h0 h3 h9 h10 h11 hbn hgb hcl hcs hpl Q hQ
    have hi' : i = l.length := by omega
    subst hi'
    rw [W_loop, expl31 tm htm, h0, h3, h9, h10, h11]
    have e1 : decide ((l.length : Int) < l.length) = false := by simp
    simp only [W_skip, W_ret, W_exit, W_seq, W_block, W_ops, W_cond, W_segs_cons, W_segs_nil, freeI_s, freeI_f, W_op1, W_op, guardC_t, guardC_f, bb_tf, bb_ft, bb_tt, bb_ff, argC_a, goC_a, seqC_a, pairC_p, eq_self, Nat.left_eq_add, Nat.add_eq_left, Nat.reduceEqDiff, Int.reduceEq, Nat.add_left_cancel_iff, Nat.add_assoc, W_ops_nil, wantedI_n, wantedI_s, wantV_b, wantV_u, evalAll, IA.eval, optC_s, optC_n, nextOf, freeNext, fpOf, lowOf, opW, ev1, opC_a, Fr.put, List.set, List.getD_cons_zero, List.getD_cons_succ, thenC_n, thenC_j, segC_n, blkC_n, blkC_r, blkC_e, condC_t, condC_f, valC_v, W_apply, if_true, if_false, Option.map_some, Option.map_none, Option.bind_some, Option.bind_none, List.nil_append, List.append_nil, List.cons_append, undefs, List.length_cons, List.length_nil, Nat.reduceSub, Nat.reduceAdd, Nat.zero_add, retC_r, retC_n, leaveC_a, valsC_a, unmark, resultsOf, resultOf, tupled, binI, unI, beq_self_eq_true, Bool.false_eq_true, reduceIte, reduceCtorEq, Bool.not_true, Bool.not_false, Option.getD_some, Option.getD_none, mkAgg, IV.cells, Heap.read, Heap.get_new, Heap.n_new, Heap.get_put, Heap.n_put, List.drop_succ_cons, List.drop_zero, List.take_succ_cons, List.take_zero, Nat.add_zero, Nat.reduceLeDiff, Nat.reduceMul, Nat.le_refl, Int.reduceLT, Int.reduceLE, List.drop, List.take, Option.some.injEq, and_true, true_and, and_false, false_and, BEq.rfl, Heap.write, splice, IV.one, List.all_cons, List.all_nil, Bool.and_self, Bool.and_true, Bool.true_and, Nat.le_add_right, eqKs, eqK, Nat.reduceLT, Nat.add_sub_cancel, bne_self_eq_false, Bool.false_bne, Bool.bne_false, List.append, pairOk, Bool.or_true, Bool.true_or, Int.toNat_natCast, Option.isSome_some, List.getElem?_cons_zero, List.getElem?_cons_succ, F16o0, F16o1, F16o2, F16o3, F16o4, F16o5, F16o6, F16o7, F16o8, F16o9, F16l10, F16o11, F16b, F16, e1]
    refine hQ _ _ rfl rfl ⟨by simp [inv], hbn, cs0, hgb, hcl, ?_⟩
    rw [List.take_length] at hcs
    rw [show (inv l).length = l.length from by simp [inv], ← hcl, List.take_length]
    simpa using hcs
  | succ k ih =>
    intro i H tm cs0 hi htm h0 h3 h9 h10 h11 hbn hgb hcl hcs hpl Q hQ
    have hil : i < l.length := by omega
    have hne : l ≠ [] := fun e => by rw [e] at hil; simp at hil
    cases hpl with
    | nil => exact absurd rfl hne
    | sl vb vo vc vex l hvc hh =>
      obtain ⟨hvb, ro, e, ez, cs, hgv, hcsv⟩ := hh hne
      have hvne : vb ≠ b := hoff vb vo _ vc vex rfl (by omega)
      have hclen := congrArg List.length hcsv
      rw [List.length_take, List.length_drop, flat_length] at hclen
      have hp : (cs.drop (vo + i * 4)).take 4 = l[i].cells := by
        rw [← flat_at l i hil, ← hcsv, List.drop_take, List.take_take, List.drop_drop, show min 4 (4 * l.length - i * 4) = 4 from by omega]
      have htake : l.take (i + 1) = l.take i ++ [l[i]] := List.take_succ_eq_append_getElem hil
      have e1 : decide ((i : Int) < l.length) = true := by simp; omega
      have e2 : (0 ≤ (i : Int) ∧ (i : Int) < l.length) = True := by simp; omega
      have e3 : (vo + (i * 4 + 4) ≤ cs.length) = True := by simp; omega
      have e4 : (H.n = vb) = False := by simp; omega
      have e5 : (H.n = b) = False := by simp; omega
      have e6 : (lo ≤ H.n) = True := by simp; omega
      generalize l[i] = p at hp htake
      have hw : IntKind.i64.wrap ((i : Int) + 1) = ((i + 1 : Nat) : Int) := IntWalk.i64_in _ (by omega)
      have hw1 : IntKind.i64.wrap ((l.length : Int) - 1) = (l.length : Int) - 1 := IntWalk.i64_in _ (by omega)
      have hw2 : IntKind.i64.wrap ((l.length : Int) - 1 - (i : Int)) = (k : Int) := by rw [IntWalk.i64_in _ (by omega)]; omega
      have e7 : (0 ≤ (k : Int) ∧ (k : Int) < l.length) = True := by simp; omega
      have e8 : (lo ≤ b ∧ k * 4 + 4 ≤ cs0.length) = True := by simp; omega
      rw [W_loop, expl31 tm htm, h0, h3, h9, h10, h11]
      have fin : ∀ (H' : Heap) (tm' : List IV), tm'.length = 31 → tm'.getD 0 IV.undef = .slice vb vo l.length vc vex → tm'.getD 3 IV.undef = .slice b 0 l.length l.length true → tm'.getD 9 IV.undef = .slice vb vo l.length vc vex → tm'.getD 10 IV.undef = .int .i64 l.length → tm'.getD 11 IV.undef = .int .i64 ((i + 1 : Nat) : Int) →
          H'.n = H.n + 1 → H'.get b = some (.cells false 33 4 (splice cs0 (k * 4) (flip p).cells)) → (∀ x, x < H.n → x ≠ b → H'.get x = H.get x) → W E0 lo (.code (.loop F16l10) none ⟨tm', []⟩) H' Q := by
        intro H' tm' t1 t2 t3 t4 t5 t6 a1 a2 a3
        have hpc : (flip p).cells.length = 4 := rfl
        refine ih (i + 1) H' tm' _ (by omega) t1 t2 t3 t4 t5 t6 (by omega) a2 (by rw [splice_length]; exact hcl) ?_ (PL.keepBut (.sl vb vo vc vex l hvc fun _ => ⟨hvb, ro, e, ez, cs, hgv, hcsv⟩) hoff ⟨by omega, a3⟩) Q hQ
        rw [splice_eq _ _ _ (by omega), htake]
        have hd : (cs0.take (k * 4) ++ (flip p).cells ++ cs0.drop (k * 4 + (flip p).cells.length)).drop (4 * k) = (flip p).cells ++ cs0.drop (4 * (k + 1)) := by
          rw [List.append_assoc, List.drop_append_of_le_length (by simp; omega), List.drop_eq_nil_of_le (by simp; omega), List.nil_append, hpc, show k * 4 + 4 = 4 * (k + 1) from by omega]
        rw [hd, hcs]
        simp [inv, flat]
      cases ed : (p.d == 1)
      · have hf : (flip p).cells = [.int .u8 p.y, .int .i64 p.n, .bool p.f, .int .u8 1] := by simp [flip, ed, Ps.cells]
        simp only [W_skip, W_ret, W_exit, W_seq, W_block, W_ops, W_cond, W_segs_cons, W_segs_nil, freeI_s, freeI_f, W_op1, W_op, guardC_t, guardC_f, bb_tf, bb_ft, bb_tt, bb_ff, argC_a, goC_a, seqC_a, pairC_p, eq_self, Nat.left_eq_add, Nat.add_eq_left, Nat.reduceEqDiff, Int.reduceEq, Nat.add_left_cancel_iff, Nat.add_assoc, W_ops_nil, wantedI_n, wantedI_s, wantV_b, wantV_u, evalAll, IA.eval, optC_s, optC_n, nextOf, freeNext, fpOf, lowOf, opW, ev1, opC_a, Fr.put, List.set, List.getD_cons_zero, List.getD_cons_succ, thenC_n, thenC_j, segC_n, blkC_n, blkC_r, blkC_e, condC_t, condC_f, valC_v, W_apply, if_true, if_false, Option.map_some, Option.map_none, Option.bind_some, Option.bind_none, List.nil_append, List.append_nil, List.cons_append, undefs, List.length_cons, List.length_nil, Nat.reduceSub, Nat.reduceAdd, Nat.zero_add, retC_r, retC_n, leaveC_a, valsC_a, unmark, resultsOf, resultOf, tupled, binI, unI, beq_self_eq_true, Bool.false_eq_true, reduceIte, reduceCtorEq, Bool.not_true, Bool.not_false, Option.getD_some, Option.getD_none, mkAgg, IV.cells, Heap.read, Heap.get_new, Heap.n_new, Heap.get_put, Heap.n_put, List.drop_succ_cons, List.drop_zero, List.take_succ_cons, List.take_zero, Nat.add_zero, Nat.reduceLeDiff, Nat.reduceMul, Nat.le_refl, Int.reduceLT, Int.reduceLE, List.drop, List.take, Option.some.injEq, and_true, true_and, and_false, false_and, BEq.rfl, Heap.write, splice, IV.one, List.all_cons, List.all_nil, Bool.and_self, Bool.and_true, Bool.true_and, Nat.le_add_right, eqKs, eqK, Nat.reduceLT, Nat.add_sub_cancel, bne_self_eq_false, Bool.false_bne, Bool.bne_false, List.append, pairOk, Bool.or_true, Bool.true_or, Int.toNat_natCast, Option.isSome_some, List.getElem?_cons_zero, List.getElem?_cons_succ, F16o0, F16o1, F16o2, F16o3, F16o4, F16o5, F16o6, F16o7, F16o8, F16o9, F16l10, F16o11, F16b, F16, e1, e2, e3, e4, e5, e6, e7, e8, ed, hgv, hgb, hp, hw, hw1, hw2, Ps.cells]
        refine fin _ _ rfl rfl rfl rfl rfl rfl (by simp only [Heap.n_put, Heap.n_new]) (by rw [Heap.get_put, if_pos rfl, hf]) (fun x h1 h2 => ?_)
        rw [Heap.get_put, if_neg (Ne.symm h2), Heap.get_put, if_neg (by omega), Heap.get_put, if_neg (by omega), Heap.get_new, if_neg (by omega)]
      · have hf : (flip p).cells = [.int .u8 p.y, .int .i64 p.n, .bool p.f, .int .u8 0] := by simp [flip, ed, Ps.cells]
        simp only [W_skip, W_ret, W_exit, W_seq, W_block, W_ops, W_cond, W_segs_cons, W_segs_nil, freeI_s, freeI_f, W_op1, W_op, guardC_t, guardC_f, bb_tf, bb_ft, bb_tt, bb_ff, argC_a, goC_a, seqC_a, pairC_p, eq_self, Nat.left_eq_add, Nat.add_eq_left, Nat.reduceEqDiff, Int.reduceEq, Nat.add_left_cancel_iff, Nat.add_assoc, W_ops_nil, wantedI_n, wantedI_s, wantV_b, wantV_u, evalAll, IA.eval, optC_s, optC_n, nextOf, freeNext, fpOf, lowOf, opW, ev1, opC_a, Fr.put, List.set, List.getD_cons_zero, List.getD_cons_succ, thenC_n, thenC_j, segC_n, blkC_n, blkC_r, blkC_e, condC_t, condC_f, valC_v, W_apply, if_true, if_false, Option.map_some, Option.map_none, Option.bind_some, Option.bind_none, List.nil_append, List.append_nil, List.cons_append, undefs, List.length_cons, List.length_nil, Nat.reduceSub, Nat.reduceAdd, Nat.zero_add, retC_r, retC_n, leaveC_a, valsC_a, unmark, resultsOf, resultOf, tupled, binI, unI, beq_self_eq_true, Bool.false_eq_true, reduceIte, reduceCtorEq, Bool.not_true, Bool.not_false, Option.getD_some, Option.getD_none, mkAgg, IV.cells, Heap.read, Heap.get_new, Heap.n_new, Heap.get_put, Heap.n_put, List.drop_succ_cons, List.drop_zero, List.take_succ_cons, List.take_zero, Nat.add_zero, Nat.reduceLeDiff, Nat.reduceMul, Nat.le_refl, Int.reduceLT, Int.reduceLE, List.drop, List.take, Option.some.injEq, and_true, true_and, and_false, false_and, BEq.rfl, Heap.write, splice, IV.one, List.all_cons, List.all_nil, Bool.and_self, Bool.and_true, Bool.true_and, Nat.le_add_right, eqKs, eqK, Nat.reduceLT, Nat.add_sub_cancel, bne_self_eq_false, Bool.false_bne, Bool.bne_false, List.append, pairOk, Bool.or_true, Bool.true_or, Int.toNat_natCast, Option.isSome_some, List.getElem?_cons_zero, List.getElem?_cons_succ, F16o0, F16o1, F16o2, F16o3, F16o4, F16o5, F16o6, F16o7, F16o8, F16o9, F16l10, F16o11, F16b, F16, e1, e2, e3, e4, e5, e6, e7, e8, ed, hgv, hgb, hp, hw, hw1, hw2, Ps.cells]
        refine fin _ _ rfl rfl rfl rfl rfl rfl (by simp only [Heap.n_put, Heap.n_new]) (by rw [Heap.get_put, if_pos rfl, hf]) (fun x h1 h2 => ?_)
        rw [Heap.get_put, if_neg (Ne.symm h2), Heap.get_put, if_neg (by omega), Heap.get_put, if_neg (by omega), Heap.get_new, if_neg (by omega)]

theorem inverse_sp {v : IV} {l : List Ps} {H : Heap} {lo : Nat} {Q : Out → Heap → Prop} (hv : PL H v l) (hl : l.length ≤ 100000) (hlo : lo ≤ H.n)
    (h : ∀ H' b, Keep H.n H H' → H.n ≤ b → Own H' b l.length (inv l) → Q (.val (.slice b 0 l.length l.length true)) H') : W E0 lo (.call 16 [v]) H Q := by
  refine W.pure plain hlo ?_
  rw [c16]
  have e1 : (0 ≤ (l.length : Int) ∧ (l.length : Int) ≤ l.length ∧ (l.length : Int) * (((24 : Nat) : Int) + 1) ≤ 2 ^ 40) = True := by simp; omega
  have hoff : offB v H.n := by
    intro vb vo n vc vex e hn
    subst e
    cases hv with
    | sl vb vo vc vex l hvc hh => have := (hh (fun e => hn (by rw [e]; rfl))).1; omega
  have hv' : ∀ o, PL (H.new o) v l := fun o => hv.keep (Keep.new _ _)
  cases hv with
  | nil =>
    simp only [W_skip, W_ret, W_exit, W_seq, W_block, W_ops, W_cond, W_segs_cons, W_segs_nil, freeI_s, freeI_f, W_op1, W_op, guardC_t, guardC_f, bb_tf, bb_ft, bb_tt, bb_ff, argC_a, goC_a, seqC_a, pairC_p, eq_self, Nat.left_eq_add, Nat.add_eq_left, Nat.reduceEqDiff, Int.reduceEq, Nat.add_left_cancel_iff, Nat.add_assoc, W_ops_nil, wantedI_n, wantedI_s, wantV_b, wantV_u, evalAll, IA.eval, optC_s, optC_n, nextOf, freeNext, fpOf, lowOf, opW, ev1, opC_a, Fr.put, List.set, List.getD_cons_zero, List.getD_cons_succ, thenC_n, thenC_j, segC_n, blkC_n, blkC_r, blkC_e, condC_t, condC_f, valC_v, W_apply, if_true, if_false, Option.map_some, Option.map_none, Option.bind_some, Option.bind_none, List.nil_append, List.append_nil, List.cons_append, undefs, List.length_cons, List.length_nil, Nat.reduceSub, Nat.reduceAdd, Nat.zero_add, retC_r, retC_n, leaveC_a, valsC_a, unmark, resultsOf, resultOf, tupled, binI, unI, beq_self_eq_true, Bool.false_eq_true, reduceIte, reduceCtorEq, Bool.not_true, Bool.not_false, Option.getD_some, Option.getD_none, mkAgg, IV.cells, Heap.read, Heap.get_new, Heap.n_new, Heap.get_put, Heap.n_put, List.drop_succ_cons, List.drop_zero, List.take_succ_cons, List.take_zero, Nat.add_zero, Nat.reduceLeDiff, Nat.reduceMul, Nat.le_refl, Int.reduceLT, Int.reduceLE, List.drop, List.take, Option.some.injEq, and_true, true_and, and_false, false_and, BEq.rfl, Heap.write, splice, IV.one, List.all_cons, List.all_nil, Bool.and_self, Bool.and_true, Bool.true_and, Nat.le_add_right, eqKs, eqK, Nat.reduceLT, Nat.add_sub_cancel, bne_self_eq_false, Bool.false_bne, Bool.bne_false, List.append, pairOk, Bool.or_true, Bool.true_or, Int.toNat_natCast, Option.isSome_some, List.getElem?_cons_zero, List.getElem?_cons_succ, F16o0, F16o1, F16o2, F16o3, F16o4, F16o5, F16o6, F16o7, F16o8, F16o9, F16o11, F16b, F16, Int.zero_mul, Int.toNat_zero, rep, Int.reduceLE, Int.reducePow]
    refine inv_loop H.n H.n .nilSlice [] (Nat.le_refl _) hl hoff 0 0 _ _ [] rfl rfl rfl rfl rfl rfl rfl (by rw [Heap.n_new]; omega) (by rw [Heap.get_new, if_pos rfl]) rfl rfl .nil _ fun H' tm' a1 a2 a3 => ?_
    rw [expl31 tm' a1, a2]
    simp only [W_skip, W_ret, W_exit, W_seq, W_block, W_ops, W_cond, W_segs_cons, W_segs_nil, freeI_s, freeI_f, W_op1, W_op, guardC_t, guardC_f, bb_tf, bb_ft, bb_tt, bb_ff, argC_a, goC_a, seqC_a, pairC_p, eq_self, Nat.left_eq_add, Nat.add_eq_left, Nat.reduceEqDiff, Int.reduceEq, Nat.add_left_cancel_iff, Nat.add_assoc, W_ops_nil, wantedI_n, wantedI_s, wantV_b, wantV_u, evalAll, IA.eval, optC_s, optC_n, nextOf, freeNext, fpOf, lowOf, opW, ev1, opC_a, Fr.put, List.set, List.getD_cons_zero, List.getD_cons_succ, thenC_n, thenC_j, segC_n, blkC_n, blkC_r, blkC_e, condC_t, condC_f, valC_v, W_apply, if_true, if_false, Option.map_some, Option.map_none, Option.bind_some, Option.bind_none, List.nil_append, List.append_nil, List.cons_append, undefs, List.length_cons, List.length_nil, Nat.reduceSub, Nat.reduceAdd, Nat.zero_add, retC_r, retC_n, leaveC_a, valsC_a, unmark, resultsOf, resultOf, tupled, binI, unI, beq_self_eq_true, Bool.false_eq_true, reduceIte, reduceCtorEq, Bool.not_true, Bool.not_false, Option.getD_some, Option.getD_none, mkAgg, IV.cells, Heap.read, Heap.get_new, Heap.n_new, Heap.get_put, Heap.n_put, List.drop_succ_cons, List.drop_zero, List.take_succ_cons, List.take_zero, Nat.add_zero, Nat.reduceLeDiff, Nat.reduceMul, Nat.le_refl, Int.reduceLT, Int.reduceLE, List.drop, List.take, Option.some.injEq, and_true, true_and, and_false, false_and, BEq.rfl, Heap.write, splice, IV.one, List.all_cons, List.all_nil, Bool.and_self, Bool.and_true, Bool.true_and, Nat.le_add_right, eqKs, eqK, Nat.reduceLT, Nat.add_sub_cancel, bne_self_eq_false, Bool.false_bne, Bool.bne_false, List.append, pairOk, Bool.or_true, Bool.true_or, Int.toNat_natCast, Option.isSome_some, List.getElem?_cons_zero, List.getElem?_cons_succ, F16o0, F16o1, F16o2, F16o3, F16o4, F16o5, F16o6, F16o7, F16o8, F16o9, F16o11, F16b, F16]
    exact fun hk => h H' H.n hk (Nat.le_refl _) a3
  | sl vb vo vc vex l hvc hh =>
    simp only [W_skip, W_ret, W_exit, W_seq, W_block, W_ops, W_cond, W_segs_cons, W_segs_nil, freeI_s, freeI_f, W_op1, W_op, guardC_t, guardC_f, bb_tf, bb_ft, bb_tt, bb_ff, argC_a, goC_a, seqC_a, pairC_p, eq_self, Nat.left_eq_add, Nat.add_eq_left, Nat.reduceEqDiff, Int.reduceEq, Nat.add_left_cancel_iff, Nat.add_assoc, W_ops_nil, wantedI_n, wantedI_s, wantV_b, wantV_u, evalAll, IA.eval, optC_s, optC_n, nextOf, freeNext, fpOf, lowOf, opW, ev1, opC_a, Fr.put, List.set, List.getD_cons_zero, List.getD_cons_succ, thenC_n, thenC_j, segC_n, blkC_n, blkC_r, blkC_e, condC_t, condC_f, valC_v, W_apply, if_true, if_false, Option.map_some, Option.map_none, Option.bind_some, Option.bind_none, List.nil_append, List.append_nil, List.cons_append, undefs, List.length_cons, List.length_nil, Nat.reduceSub, Nat.reduceAdd, Nat.zero_add, retC_r, retC_n, leaveC_a, valsC_a, unmark, resultsOf, resultOf, tupled, binI, unI, beq_self_eq_true, Bool.false_eq_true, reduceIte, reduceCtorEq, Bool.not_true, Bool.not_false, Option.getD_some, Option.getD_none, mkAgg, IV.cells, Heap.read, Heap.get_new, Heap.n_new, Heap.get_put, Heap.n_put, List.drop_succ_cons, List.drop_zero, List.take_succ_cons, List.take_zero, Nat.add_zero, Nat.reduceLeDiff, Nat.reduceMul, Nat.le_refl, Int.reduceLT, Int.reduceLE, List.drop, List.take, Option.some.injEq, and_true, true_and, and_false, false_and, BEq.rfl, Heap.write, splice, IV.one, List.all_cons, List.all_nil, Bool.and_self, Bool.and_true, Bool.true_and, Nat.le_add_right, eqKs, eqK, Nat.reduceLT, Nat.add_sub_cancel, bne_self_eq_false, Bool.false_bne, Bool.bne_false, List.append, pairOk, Bool.or_true, Bool.true_or, Int.toNat_natCast, Option.isSome_some, List.getElem?_cons_zero, List.getElem?_cons_succ, F16o0, F16o1, F16o2, F16o3, F16o4, F16o5, F16o6, F16o7, F16o8, F16o9, F16o11, F16b, F16, e1]
    refine inv_loop H.n H.n _ l (Nat.le_refl _) hl hoff l.length 0 _ _ _ (by omega) rfl rfl rfl rfl rfl rfl (by rw [Heap.n_new]; omega) (by rw [Heap.get_new, if_pos rfl]) (by rw [rep_length, Nat.mul_comm]; rfl) ?_ (hv' _) _ fun H' tm' a1 a2 a3 => ?_
    · rw [List.drop_eq_nil_of_le (by rw [rep_length]; simp only [List.length_cons, List.length_nil]; omega)]; rfl
    · rw [expl31 tm' a1, a2]
      simp only [W_skip, W_ret, W_exit, W_seq, W_block, W_ops, W_cond, W_segs_cons, W_segs_nil, freeI_s, freeI_f, W_op1, W_op, guardC_t, guardC_f, bb_tf, bb_ft, bb_tt, bb_ff, argC_a, goC_a, seqC_a, pairC_p, eq_self, Nat.left_eq_add, Nat.add_eq_left, Nat.reduceEqDiff, Int.reduceEq, Nat.add_left_cancel_iff, Nat.add_assoc, W_ops_nil, wantedI_n, wantedI_s, wantV_b, wantV_u, evalAll, IA.eval, optC_s, optC_n, nextOf, freeNext, fpOf, lowOf, opW, ev1, opC_a, Fr.put, List.set, List.getD_cons_zero, List.getD_cons_succ, thenC_n, thenC_j, segC_n, blkC_n, blkC_r, blkC_e, condC_t, condC_f, valC_v, W_apply, if_true, if_false, Option.map_some, Option.map_none, Option.bind_some, Option.bind_none, List.nil_append, List.append_nil, List.cons_append, undefs, List.length_cons, List.length_nil, Nat.reduceSub, Nat.reduceAdd, Nat.zero_add, retC_r, retC_n, leaveC_a, valsC_a, unmark, resultsOf, resultOf, tupled, binI, unI, beq_self_eq_true, Bool.false_eq_true, reduceIte, reduceCtorEq, Bool.not_true, Bool.not_false, Option.getD_some, Option.getD_none, mkAgg, IV.cells, Heap.read, Heap.get_new, Heap.n_new, Heap.get_put, Heap.n_put, List.drop_succ_cons, List.drop_zero, List.take_succ_cons, List.take_zero, Nat.add_zero, Nat.reduceLeDiff, Nat.reduceMul, Nat.le_refl, Int.reduceLT, Int.reduceLE, List.drop, List.take, Option.some.injEq, and_true, true_and, and_false, false_and, BEq.rfl, Heap.write, splice, IV.one, List.all_cons, List.all_nil, Bool.and_self, Bool.and_true, Bool.true_and, Nat.le_add_right, eqKs, eqK, Nat.reduceLT, Nat.add_sub_cancel, bne_self_eq_false, Bool.false_bne, Bool.bne_false, List.append, pairOk, Bool.or_true, Bool.true_or, Int.toNat_natCast, Option.isSome_some, List.getElem?_cons_zero, List.getElem?_cons_succ, F16o0, F16o1, F16o2, F16o3, F16o4, F16o5, F16o6, F16o7, F16o8, F16o9, F16o11, F16b, F16]
      exact fun hk => h H' H.n hk (Nat.le_refl _) a3
end Go.Iso.GenA
end

section
namespace Go.Iso.GenA
open Go.Iso
set_option maxHeartbeats 2000000
set_option maxRecDepth 10000

theorem expl33 (tm : List IV) (h : tm.length = 33) : tm = [tm.getD 0 IV.undef, tm.getD 1 IV.undef, tm.getD 2 IV.undef, tm.getD 3 IV.undef, tm.getD 4 IV.undef, tm.getD 5 IV.undef, tm.getD 6 IV.undef, tm.getD 7 IV.undef, tm.getD 8 IV.undef, tm.getD 9 IV.undef, tm.getD 10 IV.undef, tm.getD 11 IV.undef, tm.getD 12 IV.undef, tm.getD 13 IV.undef, tm.getD 14 IV.undef, tm.getD 15 IV.undef, tm.getD 16 IV.undef, tm.getD 17 IV.undef, tm.getD 18 IV.undef, tm.getD 19 IV.undef, tm.getD 20 IV.undef, tm.getD 21 IV.undef, tm.getD 22 IV.undef, tm.getD 23 IV.undef, tm.getD 24 IV.undef, tm.getD 25 IV.undef, tm.getD 26 IV.undef, tm.getD 27 IV.undef, tm.getD 28 IV.undef, tm.getD 29 IV.undef, tm.getD 30 IV.undef, tm.getD 31 IV.undef, tm.getD 32 IV.undef] := (expl tm 33 h).trans rfl
theorem expl36 (tm : List IV) (h : tm.length = 36) : tm = [tm.getD 0 IV.undef, tm.getD 1 IV.undef, tm.getD 2 IV.undef, tm.getD 3 IV.undef, tm.getD 4 IV.undef, tm.getD 5 IV.undef, tm.getD 6 IV.undef, tm.getD 7 IV.undef, tm.getD 8 IV.undef, tm.getD 9 IV.undef, tm.getD 10 IV.undef, tm.getD 11 IV.undef, tm.getD 12 IV.undef, tm.getD 13 IV.undef, tm.getD 14 IV.undef, tm.getD 15 IV.undef, tm.getD 16 IV.undef, tm.getD 17 IV.undef, tm.getD 18 IV.undef, tm.getD 19 IV.undef, tm.getD 20 IV.undef, tm.getD 21 IV.undef, tm.getD 22 IV.undef, tm.getD 23 IV.undef, tm.getD 24 IV.undef, tm.getD 25 IV.undef, tm.getD 26 IV.undef, tm.getD 27 IV.undef, tm.getD 28 IV.undef, tm.getD 29 IV.undef, tm.getD 30 IV.undef, tm.getD 31 IV.undef, tm.getD 32 IV.undef, tm.getD 33 IV.undef, tm.getD 34 IV.undef, tm.getD 35 IV.undef] := (expl tm 36 h).trans rfl

/-- A slice without spare room. -/
def Tight (v : IV) (n : Nat) : Prop := v = .nilSlice ∧ n = 0 ∨ ∃ b o, v = .slice b o n n true

theorem eqKs_cells (p : Ps) : eqKs [.int, .int, .bool, .int] p.cells p.cells = some true := by
  simp [eqKs, eqK, Ps.cells]

theorem same_loop (lo : Nat) (va vb : IV) (l : List Ps) (hl : l.length ≤ 100000) : ∀ (k i : Nat) (H : Heap) (tm : List IV), i + k = l.length → tm.length = 33 →
    tm.getD 0 IV.undef = va → tm.getD 1 IV.undef = vb → tm.getD 5 IV.undef = .int .i64 i → PL H va l → PL H vb l →
    ∀ Q : Out → Heap → Prop, (∀ tm', tm'.length = 33 → Q (.ex (.jmp (.exit 0)) ⟨tm', []⟩) H) →
    W E0 lo (.code (.loop F13l8) none ⟨tm, []⟩) H Q := by
  intro k
  induction k with
  | zero =>
    intro i H tm hi htm h0 h1 h5 hpa hpb Q hQ
    have hi' : i = l.length := by omega
    subst hi'
    rw [W_loop, expl33 tm htm, h0, h1, h5]
    have e1 : decide ((l.length : Int) < l.length) = false := by simp
    cases hpa with
    | nil =>
      have e0 : decide (((0 : Nat) : Int) < 0) = false := by decide
      simp only [W_skip, W_ret, W_exit, W_seq, W_block, W_ops, W_cond, W_segs_cons, W_segs_nil, freeI_s, freeI_f, W_op1, W_op, guardC_t, guardC_f, bb_tf, bb_ft, bb_tt, bb_ff, argC_a, goC_a, seqC_a, pairC_p, eq_self, Nat.left_eq_add, Nat.add_eq_left, Nat.reduceEqDiff, Int.reduceEq, Nat.add_left_cancel_iff, Nat.add_assoc, W_ops_nil, wantedI_n, wantedI_s, wantV_b, wantV_u, evalAll, IA.eval, optC_s, optC_n, nextOf, freeNext, fpOf, lowOf, opW, ev1, opC_a, Fr.put, List.set, List.getD_cons_zero, List.getD_cons_succ, thenC_n, thenC_j, segC_n, blkC_n, blkC_r, blkC_e, condC_t, condC_f, valC_v, W_apply, if_true, if_false, Option.map_some, Option.map_none, Option.bind_some, Option.bind_none, List.nil_append, List.append_nil, List.cons_append, undefs, List.length_cons, List.length_nil, Nat.reduceSub, Nat.reduceAdd, Nat.zero_add, retC_r, retC_n, leaveC_a, valsC_a, unmark, resultsOf, resultOf, tupled, binI, unI, beq_self_eq_true, Bool.false_eq_true, reduceIte, reduceCtorEq, Bool.not_true, Bool.not_false, Option.getD_some, Option.getD_none, mkAgg, IV.cells, Heap.read, Heap.get_new, Heap.n_new, Heap.get_put, Heap.n_put, List.drop_succ_cons, List.drop_zero, List.take_succ_cons, List.take_zero, Nat.add_zero, Nat.reduceLeDiff, Nat.reduceMul, Nat.le_refl, Int.reduceLT, Int.reduceLE, List.drop, List.take, Option.some.injEq, and_true, true_and, and_false, false_and, BEq.rfl, Heap.write, splice, IV.one, List.all_cons, List.all_nil, Bool.and_self, Bool.and_true, Bool.true_and, Nat.le_add_right, eqKs, eqK, Nat.reduceLT, Nat.add_sub_cancel, bne_self_eq_false, Bool.false_bne, Bool.bne_false, List.append, pairOk, Bool.or_true, Bool.true_or, Int.toNat_natCast, Option.isSome_some, List.getElem?_cons_zero, List.getElem?_cons_succ, F13o0, F13o1, F13o2, F13o3, F13o4, F13o5, F13o6, F13o7, F13l8, F13o9, F13b, F13, e0, List.length_nil]
      exact hQ _ rfl
    | sl ba oa ca xa l hca ha =>
      simp only [W_skip, W_ret, W_exit, W_seq, W_block, W_ops, W_cond, W_segs_cons, W_segs_nil, freeI_s, freeI_f, W_op1, W_op, guardC_t, guardC_f, bb_tf, bb_ft, bb_tt, bb_ff, argC_a, goC_a, seqC_a, pairC_p, eq_self, Nat.left_eq_add, Nat.add_eq_left, Nat.reduceEqDiff, Int.reduceEq, Nat.add_left_cancel_iff, Nat.add_assoc, W_ops_nil, wantedI_n, wantedI_s, wantV_b, wantV_u, evalAll, IA.eval, optC_s, optC_n, nextOf, freeNext, fpOf, lowOf, opW, ev1, opC_a, Fr.put, List.set, List.getD_cons_zero, List.getD_cons_succ, thenC_n, thenC_j, segC_n, blkC_n, blkC_r, blkC_e, condC_t, condC_f, valC_v, W_apply, if_true, if_false, Option.map_some, Option.map_none, Option.bind_some, Option.bind_none, List.nil_append, List.append_nil, List.cons_append, undefs, List.length_cons, List.length_nil, Nat.reduceSub, Nat.reduceAdd, Nat.zero_add, retC_r, retC_n, leaveC_a, valsC_a, unmark, resultsOf, resultOf, tupled, binI, unI, beq_self_eq_true, Bool.false_eq_true, reduceIte, reduceCtorEq, Bool.not_true, Bool.not_false, Option.getD_some, Option.getD_none, mkAgg, IV.cells, Heap.read, Heap.get_new, Heap.n_new, Heap.get_put, Heap.n_put, List.drop_succ_cons, List.drop_zero, List.take_succ_cons, List.take_zero, Nat.add_zero, Nat.reduceLeDiff, Nat.reduceMul, Nat.le_refl, Int.reduceLT, Int.reduceLE, List.drop, List.take, Option.some.injEq, and_true, true_and, and_false, false_and, BEq.rfl, Heap.write, splice, IV.one, List.all_cons, List.all_nil, Bool.and_self, Bool.and_true, Bool.true_and, Nat.le_add_right, eqKs, eqK, Nat.reduceLT, Nat.add_sub_cancel, bne_self_eq_false, Bool.false_bne, Bool.bne_false, List.append, pairOk, Bool.or_true, Bool.true_or, Int.toNat_natCast, Option.isSome_some, List.getElem?_cons_zero, List.getElem?_cons_succ, F13o0, F13o1, F13o2, F13o3, F13o4, F13o5, F13o6, F13o7, F13l8, F13o9, F13b, F13, e1]
      exact hQ _ rfl
  | succ k ih =>
    intro i H tm hi htm h0 h1 h5 hpa hpb Q hQ
    have hil : i < l.length := by omega
    have hne : l ≠ [] := fun e => by rw [e] at hil; simp at hil
    have hpa0 := hpa
    have hpb0 := hpb
    cases hpa with
    | nil => exact absurd rfl hne
    | sl ba oa ca xa l hca ha =>
      generalize hlb : l = l' at hpb
      cases hpb with
      | nil => exact absurd hlb hne
      | sl bb ob cb xb l' hcb hb =>
        subst hlb
        obtain ⟨hba, ra, ea, eza, csa, hga, hcsa⟩ := ha hne
        obtain ⟨hbb, rb, eb, ezb, csb, hgb, hcsb⟩ := hb hne
        have la := congrArg List.length hcsa
        rw [List.length_take, List.length_drop, flat_length] at la
        have lb := congrArg List.length hcsb
        rw [List.length_take, List.length_drop, flat_length] at lb
        have hpa : (csa.drop (oa + i * 4)).take 4 = l[i].cells := by
          rw [← flat_at l i hil, ← hcsa, List.drop_take, List.take_take, List.drop_drop, show min 4 (4 * l.length - i * 4) = 4 from by omega]
        have hpb : (csb.drop (ob + i * 4)).take 4 = l[i].cells := by
          rw [← flat_at l i hil, ← hcsb, List.drop_take, List.take_take, List.drop_drop, show min 4 (4 * l.length - i * 4) = 4 from by omega]
        have e1 : decide ((i : Int) < l.length) = true := by simp; omega
        have e2 : (0 ≤ (i : Int) ∧ (i : Int) < l.length) = True := by simp; omega
        have e3 : (oa + (i * 4 + 4) ≤ csa.length) = True := by simp; omega
        have e4 : (ob + (i * 4 + 4) ≤ csb.length) = True := by simp; omega
        generalize l[i] = p at hpa hpb
        have hw : IntKind.i64.wrap ((i : Int) + 1) = ((i + 1 : Nat) : Int) := IntWalk.i64_in _ (by omega)
        rw [W_loop, expl33 tm htm, h0, h1, h5]
        simp only [W_skip, W_ret, W_exit, W_seq, W_block, W_ops, W_cond, W_segs_cons, W_segs_nil, freeI_s, freeI_f, W_op1, W_op, guardC_t, guardC_f, bb_tf, bb_ft, bb_tt, bb_ff, argC_a, goC_a, seqC_a, pairC_p, eq_self, Nat.left_eq_add, Nat.add_eq_left, Nat.reduceEqDiff, Int.reduceEq, Nat.add_left_cancel_iff, Nat.add_assoc, W_ops_nil, wantedI_n, wantedI_s, wantV_b, wantV_u, evalAll, IA.eval, optC_s, optC_n, nextOf, freeNext, fpOf, lowOf, opW, ev1, opC_a, Fr.put, List.set, List.getD_cons_zero, List.getD_cons_succ, thenC_n, thenC_j, segC_n, blkC_n, blkC_r, blkC_e, condC_t, condC_f, valC_v, W_apply, if_true, if_false, Option.map_some, Option.map_none, Option.bind_some, Option.bind_none, List.nil_append, List.append_nil, List.cons_append, undefs, List.length_cons, List.length_nil, Nat.reduceSub, Nat.reduceAdd, Nat.zero_add, retC_r, retC_n, leaveC_a, valsC_a, unmark, resultsOf, resultOf, tupled, binI, unI, beq_self_eq_true, Bool.false_eq_true, reduceIte, reduceCtorEq, Bool.not_true, Bool.not_false, Option.getD_some, Option.getD_none, mkAgg, IV.cells, Heap.read, Heap.get_new, Heap.n_new, Heap.get_put, Heap.n_put, List.drop_succ_cons, List.drop_zero, List.take_succ_cons, List.take_zero, Nat.add_zero, Nat.reduceLeDiff, Nat.reduceMul, Nat.le_refl, Int.reduceLT, Int.reduceLE, List.drop, List.take, Option.some.injEq, and_true, true_and, and_false, false_and, BEq.rfl, Heap.write, splice, IV.one, List.all_cons, List.all_nil, Bool.and_self, Bool.and_true, Bool.true_and, Nat.le_add_right, eqKs, eqK, Nat.reduceLT, Nat.add_sub_cancel, bne_self_eq_false, Bool.false_bne, Bool.bne_false, List.append, pairOk, Bool.or_true, Bool.true_or, Int.toNat_natCast, Option.isSome_some, List.getElem?_cons_zero, List.getElem?_cons_succ, F13o0, F13o1, F13o2, F13o3, F13o4, F13o5, F13o6, F13o7, F13l8, F13o9, F13b, F13, e1, e2, e3, e4, hga, hgb, hpa, hpb, hw, Ps.cells]
        exact ih (i + 1) H _ (by omega) rfl rfl rfl rfl hpa0 hpb0 Q hQ

theorem same_sp {va vb : IV} {l : List Ps} {H : Heap} {lo : Nat} {Q : Out → Heap → Prop} (ha : PL H va l) (ht : Tight va l.length) (hb : PL H vb l) (hl : l.length ≤ 100000)
    (h : Q (.val (.int .i64 1)) H) : W E0 lo (.call 13 [va, vb]) H Q := by
  rw [c13]
  have ha0 := ha
  have hb0 := hb
  have e1 : ((l.length : Int) != l.length) = false := by simp
  rcases ht with ⟨rfl, h0⟩ | ⟨ba, oa, rfl⟩
  · have hl0 : l = [] := List.length_eq_zero_iff.1 h0
    subst hl0
    have fin : ∀ tm, tm.length = 33 → tm.getD 0 IV.undef = .nilSlice → tm.getD 1 IV.undef = vb → tm.getD 5 IV.undef = .int .i64 ((0 : Nat) : Int) → W E0 lo (.code (.loop F13l8) none ⟨tm, []⟩) H (blkC 0 (thenC E0 lo none (.seq F13o9 .ret) (retC lo F13.results Q))) := by
      intro tm t1 t2 t3 t4
      refine same_loop lo .nilSlice vb [] hl 0 0 H tm rfl t1 t2 t3 t4 ha0 hb0 _ fun tm' a1 => ?_
      rw [expl33 tm' a1]
      simp only [W_skip, W_ret, W_exit, W_seq, W_block, W_ops, W_cond, W_segs_cons, W_segs_nil, freeI_s, freeI_f, W_op1, W_op, guardC_t, guardC_f, bb_tf, bb_ft, bb_tt, bb_ff, argC_a, goC_a, seqC_a, pairC_p, eq_self, Nat.left_eq_add, Nat.add_eq_left, Nat.reduceEqDiff, Int.reduceEq, Nat.add_left_cancel_iff, Nat.add_assoc, W_ops_nil, wantedI_n, wantedI_s, wantV_b, wantV_u, evalAll, IA.eval, optC_s, optC_n, nextOf, freeNext, fpOf, lowOf, opW, ev1, opC_a, Fr.put, List.set, List.getD_cons_zero, List.getD_cons_succ, thenC_n, thenC_j, segC_n, blkC_n, blkC_r, blkC_e, condC_t, condC_f, valC_v, W_apply, if_true, if_false, Option.map_some, Option.map_none, Option.bind_some, Option.bind_none, List.nil_append, List.append_nil, List.cons_append, undefs, List.length_cons, List.length_nil, Nat.reduceSub, Nat.reduceAdd, Nat.zero_add, retC_r, retC_n, leaveC_a, valsC_a, unmark, resultsOf, resultOf, tupled, binI, unI, beq_self_eq_true, Bool.false_eq_true, reduceIte, reduceCtorEq, Bool.not_true, Bool.not_false, Option.getD_some, Option.getD_none, mkAgg, IV.cells, Heap.read, Heap.get_new, Heap.n_new, Heap.get_put, Heap.n_put, List.drop_succ_cons, List.drop_zero, List.take_succ_cons, List.take_zero, Nat.add_zero, Nat.reduceLeDiff, Nat.reduceMul, Nat.le_refl, Int.reduceLT, Int.reduceLE, List.drop, List.take, Option.some.injEq, and_true, true_and, and_false, false_and, BEq.rfl, Heap.write, splice, IV.one, List.all_cons, List.all_nil, Bool.and_self, Bool.and_true, Bool.true_and, Nat.le_add_right, eqKs, eqK, Nat.reduceLT, Nat.add_sub_cancel, bne_self_eq_false, Bool.false_bne, Bool.bne_false, List.append, pairOk, Bool.or_true, Bool.true_or, Int.toNat_natCast, Option.isSome_some, List.getElem?_cons_zero, List.getElem?_cons_succ, F13o0, F13o1, F13o2, F13o3, F13o4, F13o5, F13o6, F13o7, F13o9, F13b, F13]
      exact h
    cases hb with
    | nil =>
      simp only [W_skip, W_ret, W_exit, W_seq, W_block, W_ops, W_cond, W_segs_cons, W_segs_nil, freeI_s, freeI_f, W_op1, W_op, guardC_t, guardC_f, bb_tf, bb_ft, bb_tt, bb_ff, argC_a, goC_a, seqC_a, pairC_p, eq_self, Nat.left_eq_add, Nat.add_eq_left, Nat.reduceEqDiff, Int.reduceEq, Nat.add_left_cancel_iff, Nat.add_assoc, W_ops_nil, wantedI_n, wantedI_s, wantV_b, wantV_u, evalAll, IA.eval, optC_s, optC_n, nextOf, freeNext, fpOf, lowOf, opW, ev1, opC_a, Fr.put, List.set, List.getD_cons_zero, List.getD_cons_succ, thenC_n, thenC_j, segC_n, blkC_n, blkC_r, blkC_e, condC_t, condC_f, valC_v, W_apply, if_true, if_false, Option.map_some, Option.map_none, Option.bind_some, Option.bind_none, List.nil_append, List.append_nil, List.cons_append, undefs, List.length_cons, List.length_nil, Nat.reduceSub, Nat.reduceAdd, Nat.zero_add, retC_r, retC_n, leaveC_a, valsC_a, unmark, resultsOf, resultOf, tupled, binI, unI, beq_self_eq_true, Bool.false_eq_true, reduceIte, reduceCtorEq, Bool.not_true, Bool.not_false, Option.getD_some, Option.getD_none, mkAgg, IV.cells, Heap.read, Heap.get_new, Heap.n_new, Heap.get_put, Heap.n_put, List.drop_succ_cons, List.drop_zero, List.take_succ_cons, List.take_zero, Nat.add_zero, Nat.reduceLeDiff, Nat.reduceMul, Nat.le_refl, Int.reduceLT, Int.reduceLE, List.drop, List.take, Option.some.injEq, and_true, true_and, and_false, false_and, BEq.rfl, Heap.write, splice, IV.one, List.all_cons, List.all_nil, Bool.and_self, Bool.and_true, Bool.true_and, Nat.le_add_right, eqKs, eqK, Nat.reduceLT, Nat.add_sub_cancel, bne_self_eq_false, Bool.false_bne, Bool.bne_false, List.append, pairOk, Bool.or_true, Bool.true_or, Int.toNat_natCast, Option.isSome_some, List.getElem?_cons_zero, List.getElem?_cons_succ, F13o0, F13o1, F13o2, F13o3, F13o4, F13o5, F13o6, F13o7, F13o9, F13b, F13, bne_self_eq_false, ne_eq]
      exact fin _ rfl rfl rfl rfl
    | sl bb ob cb xb l hcb hb =>
      have e2 : ((0 : Int) != ((0 : Nat) : Int)) = false := by decide
      simp only [W_skip, W_ret, W_exit, W_seq, W_block, W_ops, W_cond, W_segs_cons, W_segs_nil, freeI_s, freeI_f, W_op1, W_op, guardC_t, guardC_f, bb_tf, bb_ft, bb_tt, bb_ff, argC_a, goC_a, seqC_a, pairC_p, eq_self, Nat.left_eq_add, Nat.add_eq_left, Nat.reduceEqDiff, Int.reduceEq, Nat.add_left_cancel_iff, Nat.add_assoc, W_ops_nil, wantedI_n, wantedI_s, wantV_b, wantV_u, evalAll, IA.eval, optC_s, optC_n, nextOf, freeNext, fpOf, lowOf, opW, ev1, opC_a, Fr.put, List.set, List.getD_cons_zero, List.getD_cons_succ, thenC_n, thenC_j, segC_n, blkC_n, blkC_r, blkC_e, condC_t, condC_f, valC_v, W_apply, if_true, if_false, Option.map_some, Option.map_none, Option.bind_some, Option.bind_none, List.nil_append, List.append_nil, List.cons_append, undefs, List.length_cons, List.length_nil, Nat.reduceSub, Nat.reduceAdd, Nat.zero_add, retC_r, retC_n, leaveC_a, valsC_a, unmark, resultsOf, resultOf, tupled, binI, unI, beq_self_eq_true, Bool.false_eq_true, reduceIte, reduceCtorEq, Bool.not_true, Bool.not_false, Option.getD_some, Option.getD_none, mkAgg, IV.cells, Heap.read, Heap.get_new, Heap.n_new, Heap.get_put, Heap.n_put, List.drop_succ_cons, List.drop_zero, List.take_succ_cons, List.take_zero, Nat.add_zero, Nat.reduceLeDiff, Nat.reduceMul, Nat.le_refl, Int.reduceLT, Int.reduceLE, List.drop, List.take, Option.some.injEq, and_true, true_and, and_false, false_and, BEq.rfl, Heap.write, splice, IV.one, List.all_cons, List.all_nil, Bool.and_self, Bool.and_true, Bool.true_and, Nat.le_add_right, eqKs, eqK, Nat.reduceLT, Nat.add_sub_cancel, bne_self_eq_false, Bool.false_bne, Bool.bne_false, List.append, pairOk, Bool.or_true, Bool.true_or, Int.toNat_natCast, Option.isSome_some, List.getElem?_cons_zero, List.getElem?_cons_succ, F13o0, F13o1, F13o2, F13o3, F13o4, F13o5, F13o6, F13o7, F13o9, F13b, F13, e2]
      exact fin _ rfl rfl rfl rfl
  · have fin : ∀ tm, tm.length = 33 → tm.getD 0 IV.undef = .slice ba oa l.length l.length true → tm.getD 1 IV.undef = vb → tm.getD 5 IV.undef = .int .i64 ((0 : Nat) : Int) → W E0 lo (.code (.loop F13l8) none ⟨tm, []⟩) H (blkC 0 (thenC E0 lo none (.seq F13o9 .ret) (retC lo F13.results Q))) := by
      intro tm t1 t2 t3 t4
      refine same_loop lo _ vb l hl l.length 0 H tm (by omega) t1 t2 t3 t4 ha0 hb0 _ fun tm' a1 => ?_
      rw [expl33 tm' a1]
      simp only [W_skip, W_ret, W_exit, W_seq, W_block, W_ops, W_cond, W_segs_cons, W_segs_nil, freeI_s, freeI_f, W_op1, W_op, guardC_t, guardC_f, bb_tf, bb_ft, bb_tt, bb_ff, argC_a, goC_a, seqC_a, pairC_p, eq_self, Nat.left_eq_add, Nat.add_eq_left, Nat.reduceEqDiff, Int.reduceEq, Nat.add_left_cancel_iff, Nat.add_assoc, W_ops_nil, wantedI_n, wantedI_s, wantV_b, wantV_u, evalAll, IA.eval, optC_s, optC_n, nextOf, freeNext, fpOf, lowOf, opW, ev1, opC_a, Fr.put, List.set, List.getD_cons_zero, List.getD_cons_succ, thenC_n, thenC_j, segC_n, blkC_n, blkC_r, blkC_e, condC_t, condC_f, valC_v, W_apply, if_true, if_false, Option.map_some, Option.map_none, Option.bind_some, Option.bind_none, List.nil_append, List.append_nil, List.cons_append, undefs, List.length_cons, List.length_nil, Nat.reduceSub, Nat.reduceAdd, Nat.zero_add, retC_r, retC_n, leaveC_a, valsC_a, unmark, resultsOf, resultOf, tupled, binI, unI, beq_self_eq_true, Bool.false_eq_true, reduceIte, reduceCtorEq, Bool.not_true, Bool.not_false, Option.getD_some, Option.getD_none, mkAgg, IV.cells, Heap.read, Heap.get_new, Heap.n_new, Heap.get_put, Heap.n_put, List.drop_succ_cons, List.drop_zero, List.take_succ_cons, List.take_zero, Nat.add_zero, Nat.reduceLeDiff, Nat.reduceMul, Nat.le_refl, Int.reduceLT, Int.reduceLE, List.drop, List.take, Option.some.injEq, and_true, true_and, and_false, false_and, BEq.rfl, Heap.write, splice, IV.one, List.all_cons, List.all_nil, Bool.and_self, Bool.and_true, Bool.true_and, Nat.le_add_right, eqKs, eqK, Nat.reduceLT, Nat.add_sub_cancel, bne_self_eq_false, Bool.false_bne, Bool.bne_false, List.append, pairOk, Bool.or_true, Bool.true_or, Int.toNat_natCast, Option.isSome_some, List.getElem?_cons_zero, List.getElem?_cons_succ, F13o0, F13o1, F13o2, F13o3, F13o4, F13o5, F13o6, F13o7, F13o9, F13b, F13]
      exact h
    cases hb with
    | nil =>
      have e2 : (((0 : Nat) : Int) != 0) = false := by decide
      simp only [W_skip, W_ret, W_exit, W_seq, W_block, W_ops, W_cond, W_segs_cons, W_segs_nil, freeI_s, freeI_f, W_op1, W_op, guardC_t, guardC_f, bb_tf, bb_ft, bb_tt, bb_ff, argC_a, goC_a, seqC_a, pairC_p, eq_self, Nat.left_eq_add, Nat.add_eq_left, Nat.reduceEqDiff, Int.reduceEq, Nat.add_left_cancel_iff, Nat.add_assoc, W_ops_nil, wantedI_n, wantedI_s, wantV_b, wantV_u, evalAll, IA.eval, optC_s, optC_n, nextOf, freeNext, fpOf, lowOf, opW, ev1, opC_a, Fr.put, List.set, List.getD_cons_zero, List.getD_cons_succ, thenC_n, thenC_j, segC_n, blkC_n, blkC_r, blkC_e, condC_t, condC_f, valC_v, W_apply, if_true, if_false, Option.map_some, Option.map_none, Option.bind_some, Option.bind_none, List.nil_append, List.append_nil, List.cons_append, undefs, List.length_cons, List.length_nil, Nat.reduceSub, Nat.reduceAdd, Nat.zero_add, retC_r, retC_n, leaveC_a, valsC_a, unmark, resultsOf, resultOf, tupled, binI, unI, beq_self_eq_true, Bool.false_eq_true, reduceIte, reduceCtorEq, Bool.not_true, Bool.not_false, Option.getD_some, Option.getD_none, mkAgg, IV.cells, Heap.read, Heap.get_new, Heap.n_new, Heap.get_put, Heap.n_put, List.drop_succ_cons, List.drop_zero, List.take_succ_cons, List.take_zero, Nat.add_zero, Nat.reduceLeDiff, Nat.reduceMul, Nat.le_refl, Int.reduceLT, Int.reduceLE, List.drop, List.take, Option.some.injEq, and_true, true_and, and_false, false_and, BEq.rfl, Heap.write, splice, IV.one, List.all_cons, List.all_nil, Bool.and_self, Bool.and_true, Bool.true_and, Nat.le_add_right, eqKs, eqK, Nat.reduceLT, Nat.add_sub_cancel, bne_self_eq_false, Bool.false_bne, Bool.bne_false, List.append, pairOk, Bool.or_true, Bool.true_or, Int.toNat_natCast, Option.isSome_some, List.getElem?_cons_zero, List.getElem?_cons_succ, F13o0, F13o1, F13o2, F13o3, F13o4, F13o5, F13o6, F13o7, F13o9, F13b, F13, e2, e1, bne_self_eq_false]
      exact fin _ rfl rfl rfl rfl
    | sl bb ob cb xb l hcb hb =>
      simp only [W_skip, W_ret, W_exit, W_seq, W_block, W_ops, W_cond, W_segs_cons, W_segs_nil, freeI_s, freeI_f, W_op1, W_op, guardC_t, guardC_f, bb_tf, bb_ft, bb_tt, bb_ff, argC_a, goC_a, seqC_a, pairC_p, eq_self, Nat.left_eq_add, Nat.add_eq_left, Nat.reduceEqDiff, Int.reduceEq, Nat.add_left_cancel_iff, Nat.add_assoc, W_ops_nil, wantedI_n, wantedI_s, wantV_b, wantV_u, evalAll, IA.eval, optC_s, optC_n, nextOf, freeNext, fpOf, lowOf, opW, ev1, opC_a, Fr.put, List.set, List.getD_cons_zero, List.getD_cons_succ, thenC_n, thenC_j, segC_n, blkC_n, blkC_r, blkC_e, condC_t, condC_f, valC_v, W_apply, if_true, if_false, Option.map_some, Option.map_none, Option.bind_some, Option.bind_none, List.nil_append, List.append_nil, List.cons_append, undefs, List.length_cons, List.length_nil, Nat.reduceSub, Nat.reduceAdd, Nat.zero_add, retC_r, retC_n, leaveC_a, valsC_a, unmark, resultsOf, resultOf, tupled, binI, unI, beq_self_eq_true, Bool.false_eq_true, reduceIte, reduceCtorEq, Bool.not_true, Bool.not_false, Option.getD_some, Option.getD_none, mkAgg, IV.cells, Heap.read, Heap.get_new, Heap.n_new, Heap.get_put, Heap.n_put, List.drop_succ_cons, List.drop_zero, List.take_succ_cons, List.take_zero, Nat.add_zero, Nat.reduceLeDiff, Nat.reduceMul, Nat.le_refl, Int.reduceLT, Int.reduceLE, List.drop, List.take, Option.some.injEq, and_true, true_and, and_false, false_and, BEq.rfl, Heap.write, splice, IV.one, List.all_cons, List.all_nil, Bool.and_self, Bool.and_true, Bool.true_and, Nat.le_add_right, eqKs, eqK, Nat.reduceLT, Nat.add_sub_cancel, bne_self_eq_false, Bool.false_bne, Bool.bne_false, List.append, pairOk, Bool.or_true, Bool.true_or, Int.toNat_natCast, Option.isSome_some, List.getElem?_cons_zero, List.getElem?_cons_succ, F13o0, F13o1, F13o2, F13o3, F13o4, F13o5, F13o6, F13o7, F13o9, F13b, F13, e1]
      exact fin _ rfl rfl rfl rfl

/-! Of. -/
/-- A slice of bytes. -/
inductive BL (H : Heap) : IV → List Int → Prop
  | nil : BL H .nilSlice []
  | sl (b o c : Nat) (ex : Bool) (l : List Int) (h : l ≠ [] → b < H.n ∧ ∃ ro e ez cs, H.get b = some (.cells ro e ez cs) ∧ (cs.drop o).take l.length = l.map (IV.int .u8)) : BL H (.slice b o l.length c ex) l

theorem BL.keepLo {H H' : Heap} {v : IV} {l : List Int} {lo : Nat} (h : BL H v l) (hb : ∀ b o n c ex, v = .slice b o n c ex → n ≠ 0 → b < lo) (k : Keep lo H H') : BL H' v l := by
  cases h with
  | nil => exact .nil
  | sl b o c ex l h =>
    refine .sl b o c ex l fun hl => ?_
    obtain ⟨h1, ro, e, ez, cs, hg, hc⟩ := h hl
    have hlt : b < lo := hb b o _ c ex rfl (fun e => hl (List.length_eq_zero_iff.1 e))
    exact ⟨Nat.lt_of_lt_of_le h1 k.1, ro, e, ez, cs, (k.2 b hlt h1).trans hg, hc⟩

def ofP (x : Int) : Ps :=
  { y := IntKind.u8.wrap (1 + (IntKind.u8.wrap (x.tdiv 4)).tmod 2), n := IntKind.i64.wrap ((IntKind.u8.wrap (x.tdiv 8)).tmod 3), f := (IntKind.u8.wrap (x.tdiv 2)).tmod 2 == 1, d := x.tmod 2 }

/-- What grows by append: nil, or a block of the call's own just as long. -/
def Grown (H : Heap) (lo : Nat) (v : IV) (L : List Ps) : Prop :=
  v = .nilSlice ∧ L = [] ∨ ∃ b, lo ≤ b ∧ b < H.n ∧ v = .slice b 0 L.length L.length false ∧ H.get b = some (.cells false 33 4 (flat L))

theorem of_loop (lo : Nat) (v : IV) (l : List Int) (hl : l.length ≤ 100000) (hlow : ∀ b o n c ex, v = .slice b o n c ex → n ≠ 0 → b < lo) : ∀ (k i : Nat) (H : Heap) (tm : List IV) (out : IV), i + k = l.length → tm.length = 36 →
    tm.getD 0 IV.undef = v → tm.getD 3 IV.undef = out → tm.getD 4 IV.undef = .int .i64 i → lo ≤ H.n → BL H v l → Grown H lo out ((l.take i).map ofP) →
    ∀ Q : Out → Heap → Prop, (∀ H' tm' out', tm'.length = 36 → tm'.getD 3 IV.undef = out' → Grown H' lo out' (l.map ofP) → Q (.ex (.jmp (.exit 0)) ⟨tm', []⟩) H') →
    W E0 lo (.code (.loop F10l7) none ⟨tm, []⟩) H Q := by
  intro k
  induction k with
  | zero =>
    intro i H tm out hi htm h0 h3 h4 hlo hbl hgr Q hQ
    have hi' : i = l.length := by omega
    subst hi'
    rw [List.take_length] at hgr
    rw [W_loop, expl36 tm htm, h0, h3, h4]
    cases hbl with
    | nil =>
      have e0 : decide (((0 : Nat) : Int) < 0) = false := by decide
      simp only [W_skip, W_ret, W_exit, W_seq, W_block, W_ops, W_cond, W_segs_cons, W_segs_nil, freeI_s, freeI_f, W_op1, W_op, guardC_t, guardC_f, bb_tf, bb_ft, bb_tt, bb_ff, argC_a, goC_a, seqC_a, pairC_p, eq_self, Nat.left_eq_add, Nat.add_eq_left, Nat.reduceEqDiff, Int.reduceEq, Nat.add_left_cancel_iff, Nat.add_assoc, W_ops_nil, wantedI_n, wantedI_s, wantV_b, wantV_u, evalAll, IA.eval, optC_s, optC_n, nextOf, freeNext, fpOf, lowOf, opW, ev1, opC_a, Fr.put, List.set, List.getD_cons_zero, List.getD_cons_succ, thenC_n, thenC_j, segC_n, blkC_n, blkC_r, blkC_e, condC_t, condC_f, valC_v, W_apply, if_true, if_false, Option.map_some, Option.map_none, Option.bind_some, Option.bind_none, List.nil_append, List.append_nil, List.cons_append, undefs, List.length_cons, List.length_nil, Nat.reduceSub, Nat.reduceAdd, Nat.zero_add, retC_r, retC_n, leaveC_a, valsC_a, unmark, resultsOf, resultOf, tupled, binI, unI, beq_self_eq_true, Bool.false_eq_true, reduceIte, reduceCtorEq, Bool.not_true, Bool.not_false, Option.getD_some, Option.getD_none, mkAgg, IV.cells, Heap.read, Heap.get_new, Heap.n_new, Heap.get_put, Heap.n_put, List.drop_succ_cons, List.drop_zero, List.take_succ_cons, List.take_zero, Nat.add_zero, Nat.reduceLeDiff, Nat.reduceMul, Nat.le_refl, Int.reduceLT, Int.reduceLE, List.drop, List.take, Option.some.injEq, and_true, true_and, and_false, false_and, BEq.rfl, Heap.write, splice, IV.one, List.all_cons, List.all_nil, Bool.and_self, Bool.and_true, Bool.true_and, Nat.le_add_right, eqKs, eqK, Nat.reduceLT, Nat.add_sub_cancel, bne_self_eq_false, Bool.false_bne, Bool.bne_false, List.append, pairOk, Bool.or_true, Bool.true_or, Int.toNat_natCast, Option.isSome_some, List.getElem?_cons_zero, List.getElem?_cons_succ, F10o0, F10o1, F10o2, F10o3, F10o4, F10o5, F10o6, F10l7, F10o8, F10b, F10, e0, List.length_nil]
      exact hQ _ _ _ rfl rfl hgr
    | sl b o c ex l h =>
      have e1 : decide ((l.length : Int) < l.length) = false := by simp
      simp only [W_skip, W_ret, W_exit, W_seq, W_block, W_ops, W_cond, W_segs_cons, W_segs_nil, freeI_s, freeI_f, W_op1, W_op, guardC_t, guardC_f, bb_tf, bb_ft, bb_tt, bb_ff, argC_a, goC_a, seqC_a, pairC_p, eq_self, Nat.left_eq_add, Nat.add_eq_left, Nat.reduceEqDiff, Int.reduceEq, Nat.add_left_cancel_iff, Nat.add_assoc, W_ops_nil, wantedI_n, wantedI_s, wantV_b, wantV_u, evalAll, IA.eval, optC_s, optC_n, nextOf, freeNext, fpOf, lowOf, opW, ev1, opC_a, Fr.put, List.set, List.getD_cons_zero, List.getD_cons_succ, thenC_n, thenC_j, segC_n, blkC_n, blkC_r, blkC_e, condC_t, condC_f, valC_v, W_apply, if_true, if_false, Option.map_some, Option.map_none, Option.bind_some, Option.bind_none, List.nil_append, List.append_nil, List.cons_append, undefs, List.length_cons, List.length_nil, Nat.reduceSub, Nat.reduceAdd, Nat.zero_add, retC_r, retC_n, leaveC_a, valsC_a, unmark, resultsOf, resultOf, tupled, binI, unI, beq_self_eq_true, Bool.false_eq_true, reduceIte, reduceCtorEq, Bool.not_true, Bool.not_false, Option.getD_some, Option.getD_none, mkAgg, IV.cells, Heap.read, Heap.get_new, Heap.n_new, Heap.get_put, Heap.n_put, List.drop_succ_cons, List.drop_zero, List.take_succ_cons, List.take_zero, Nat.add_zero, Nat.reduceLeDiff, Nat.reduceMul, Nat.le_refl, Int.reduceLT, Int.reduceLE, List.drop, List.take, Option.some.injEq, and_true, true_and, and_false, false_and, BEq.rfl, Heap.write, splice, IV.one, List.all_cons, List.all_nil, Bool.and_self, Bool.and_true, Bool.true_and, Nat.le_add_right, eqKs, eqK, Nat.reduceLT, Nat.add_sub_cancel, bne_self_eq_false, Bool.false_bne, Bool.bne_false, List.append, pairOk, Bool.or_true, Bool.true_or, Int.toNat_natCast, Option.isSome_some, List.getElem?_cons_zero, List.getElem?_cons_succ, F10o0, F10o1, F10o2, F10o3, F10o4, F10o5, F10o6, F10l7, F10o8, F10b, F10, e1]
      exact hQ _ _ _ rfl rfl hgr
  | succ k ih =>
    intro i H tm out hi htm h0 h3 h4 hlo hbl hgr Q hQ
    have hil : i < l.length := by omega
    have hne : l ≠ [] := fun e => by rw [e] at hil; simp at hil
    have hbl0 := hbl
    cases hbl with
    | nil => exact absurd rfl hne
    | sl b o c ex l h =>
      obtain ⟨hb, ro, e, ez, cs, hg, hcs⟩ := h hne
      have hlt : b < lo := hlow b o _ c ex rfl (by omega)
      have hlen := congrArg List.length hcs
      rw [List.length_take, List.length_drop, List.length_map] at hlen
      have hp : (cs.drop (o + i)).take 1 = [.int .u8 l[i]] := by
        have := congrArg (fun x => (x.drop i).take 1) hcs
        simp only [List.drop_take, List.take_take, List.drop_drop] at this
        rw [show min 1 (l.length - i) = 1 from by omega] at this
        rw [this, List.drop_eq_getElem_cons (by simpa using hil)]
        simp
      have htake : l.take (i + 1) = l.take i ++ [l[i]] := List.take_succ_eq_append_getElem hil
      generalize l[i] = x at hp htake
      have e1 : decide ((i : Int) < l.length) = true := by simp; omega
      have e2 : (0 ≤ (i : Int) ∧ (i : Int) < l.length) = True := by simp; omega
      have e3 : (o + (i + 1) ≤ cs.length) = True := by simp; omega
      have hw : IntKind.i64.wrap ((i : Int) + 1) = ((i + 1 : Nat) : Int) := IntWalk.i64_in _ (by omega)
      rw [W_loop, expl36 tm htm, h0, h3, h4]
      rcases hgr with ⟨rfl, hL⟩ | ⟨bo, ho1, ho2, rfl, hgo⟩
      · have f0 : (25 ≤ 2 ^ 40) = True := by simp
        simp only [W_skip, W_ret, W_exit, W_seq, W_block, W_ops, W_cond, W_segs_cons, W_segs_nil, freeI_s, freeI_f, W_op1, W_op, guardC_t, guardC_f, bb_tf, bb_ft, bb_tt, bb_ff, argC_a, goC_a, seqC_a, pairC_p, eq_self, Nat.left_eq_add, Nat.add_eq_left, Nat.reduceEqDiff, Int.reduceEq, Nat.add_left_cancel_iff, Nat.add_assoc, W_ops_nil, wantedI_n, wantedI_s, wantV_b, wantV_u, evalAll, IA.eval, optC_s, optC_n, nextOf, freeNext, fpOf, lowOf, opW, ev1, opC_a, Fr.put, List.set, List.getD_cons_zero, List.getD_cons_succ, thenC_n, thenC_j, segC_n, blkC_n, blkC_r, blkC_e, condC_t, condC_f, valC_v, W_apply, if_true, if_false, Option.map_some, Option.map_none, Option.bind_some, Option.bind_none, List.nil_append, List.append_nil, List.cons_append, undefs, List.length_cons, List.length_nil, Nat.reduceSub, Nat.reduceAdd, Nat.zero_add, retC_r, retC_n, leaveC_a, valsC_a, unmark, resultsOf, resultOf, tupled, binI, unI, beq_self_eq_true, Bool.false_eq_true, reduceIte, reduceCtorEq, Bool.not_true, Bool.not_false, Option.getD_some, Option.getD_none, mkAgg, IV.cells, Heap.read, Heap.get_new, Heap.n_new, Heap.get_put, Heap.n_put, List.drop_succ_cons, List.drop_zero, List.take_succ_cons, List.take_zero, Nat.add_zero, Nat.reduceLeDiff, Nat.reduceMul, Nat.le_refl, Int.reduceLT, Int.reduceLE, List.drop, List.take, Option.some.injEq, and_true, true_and, and_false, false_and, BEq.rfl, Heap.write, splice, IV.one, List.all_cons, List.all_nil, Bool.and_self, Bool.and_true, Bool.true_and, Nat.le_add_right, eqKs, eqK, Nat.reduceLT, Nat.add_sub_cancel, bne_self_eq_false, Bool.false_bne, Bool.bne_false, List.append, pairOk, Bool.or_true, Bool.true_or, Int.toNat_natCast, Option.isSome_some, List.getElem?_cons_zero, List.getElem?_cons_succ, F10o0, F10o1, F10o2, F10o3, F10o4, F10o5, F10o6, F10l7, F10o8, F10b, F10, e1, e2, e3, f0, hg, hp, hw, Nat.mul_one, fillI, appendI, lenI, srcI]
        have hL' : (l.take (i + 1)).map ofP = [ofP x] := by rw [htake, List.map_append, hL]; rfl
        refine ih (i + 1) _ _ _ (by omega) rfl rfl rfl rfl (by simp only [Heap.n_new]; omega) (hbl0.keepLo hlow ((Keep.new _ _).trans (.new _ _))) ?_ Q hQ
        rw [hL']
        exact .inr ⟨H.n + 1, by omega, by simp only [Heap.n_new]; omega, rfl, by rw [Heap.get_new, if_pos (by rw [Heap.n_new])]; rfl⟩
      · have hL : ((l.take i).map ofP).length = i := by simp; omega
        generalize hLL : (l.take i).map ofP = L at *
        have f1 : (L.length + 1 ≤ L.length) = False := by simp
        have f2 : ((L.length + 1) * 25 ≤ 2 ^ 40) = True := by simp; omega
        have f3 : (H.n = bo) = False := by simp; omega
        have f4 : (lo ≤ bo ∧ L.length * 4 ≤ (flat L).length) = True := by rw [flat_length]; simp; omega
        simp only [W_skip, W_ret, W_exit, W_seq, W_block, W_ops, W_cond, W_segs_cons, W_segs_nil, freeI_s, freeI_f, W_op1, W_op, guardC_t, guardC_f, bb_tf, bb_ft, bb_tt, bb_ff, argC_a, goC_a, seqC_a, pairC_p, eq_self, Nat.left_eq_add, Nat.add_eq_left, Nat.reduceEqDiff, Int.reduceEq, Nat.add_left_cancel_iff, Nat.add_assoc, W_ops_nil, wantedI_n, wantedI_s, wantV_b, wantV_u, evalAll, IA.eval, optC_s, optC_n, nextOf, freeNext, fpOf, lowOf, opW, ev1, opC_a, Fr.put, List.set, List.getD_cons_zero, List.getD_cons_succ, thenC_n, thenC_j, segC_n, blkC_n, blkC_r, blkC_e, condC_t, condC_f, valC_v, W_apply, if_true, if_false, Option.map_some, Option.map_none, Option.bind_some, Option.bind_none, List.nil_append, List.append_nil, List.cons_append, undefs, List.length_cons, List.length_nil, Nat.reduceSub, Nat.reduceAdd, Nat.zero_add, retC_r, retC_n, leaveC_a, valsC_a, unmark, resultsOf, resultOf, tupled, binI, unI, beq_self_eq_true, Bool.false_eq_true, reduceIte, reduceCtorEq, Bool.not_true, Bool.not_false, Option.getD_some, Option.getD_none, mkAgg, IV.cells, Heap.read, Heap.get_new, Heap.n_new, Heap.get_put, Heap.n_put, List.drop_succ_cons, List.drop_zero, List.take_succ_cons, List.take_zero, Nat.add_zero, Nat.reduceLeDiff, Nat.reduceMul, Nat.le_refl, Int.reduceLT, Int.reduceLE, List.drop, List.take, Option.some.injEq, and_true, true_and, and_false, false_and, BEq.rfl, Heap.write, splice, IV.one, List.all_cons, List.all_nil, Bool.and_self, Bool.and_true, Bool.true_and, Nat.le_add_right, eqKs, eqK, Nat.reduceLT, Nat.add_sub_cancel, bne_self_eq_false, Bool.false_bne, Bool.bne_false, List.append, pairOk, Bool.or_true, Bool.true_or, Int.toNat_natCast, Option.isSome_some, List.getElem?_cons_zero, List.getElem?_cons_succ, F10o0, F10o1, F10o2, F10o3, F10o4, F10o5, F10o6, F10l7, F10o8, F10b, F10, e1, e2, e3, f1, f2, f3, f4, hg, hgo, hp, hw, Nat.mul_one, fillI, appendI, lenI, srcI]
        have hL' : (l.take (i + 1)).map ofP = L ++ [ofP x] := by rw [htake, List.map_append, hLL]; rfl
        refine ih (i + 1) _ _ _ (by omega) rfl rfl rfl rfl (by simp only [Heap.n_put, Heap.n_new]; omega) (hbl0.keepLo hlow (((Keep.new _ _).trans (.put _ _ ho1)).trans (.new _ _))) ?_ Q hQ
        rw [hL']
        refine .inr ⟨H.n + 1, by omega, by simp only [Heap.n_put, Heap.n_new]; omega, by simp, ?_⟩
        rw [Heap.get_new, if_pos (by simp only [Heap.n_put, Heap.n_new]), flat_append, Nat.mul_comm L.length 4, ← flat_length, List.take_length]
        rfl

theorem Grown.pl {H : Heap} {lo : Nat} {v : IV} {L : List Ps} (h : Grown H lo v L) : PL H v L := by
  rcases h with ⟨rfl, rfl⟩ | ⟨b, h1, h2, rfl, hg⟩
  · exact .nil
  · exact .sl b 0 _ false L (Nat.le_refl _) fun _ => ⟨h2, false, 33, 4, flat L, hg, by rw [List.drop_zero, ← flat_length, List.take_length]⟩

theorem of_sp {v : IV} {l : List Int} {H : Heap} {lo : Nat} {Q : Out → Heap → Prop} (hv : BL H v l) (hl : l.length ≤ 100000) (hlo : lo ≤ H.n)
    (h : ∀ H' v', Keep H.n H H' → Grown H' H.n v' (l.map ofP) → Q (.val v') H') : W E0 lo (.call 10 [v]) H Q := by
  refine W.pure plain hlo ?_
  rw [c10]
  have hlow : ∀ b o n c ex, v = .slice b o n c ex → n ≠ 0 → b < H.n := by
    intro b o n c ex e hn
    subst e
    cases hv with
    | sl b o c ex l hh => exact (hh (fun e => hn (by rw [e]; rfl))).1
  simp only [W_skip, W_ret, W_exit, W_seq, W_block, W_ops, W_cond, W_segs_cons, W_segs_nil, freeI_s, freeI_f, W_op1, W_op, guardC_t, guardC_f, bb_tf, bb_ft, bb_tt, bb_ff, argC_a, goC_a, seqC_a, pairC_p, eq_self, Nat.left_eq_add, Nat.add_eq_left, Nat.reduceEqDiff, Int.reduceEq, Nat.add_left_cancel_iff, Nat.add_assoc, W_ops_nil, wantedI_n, wantedI_s, wantV_b, wantV_u, evalAll, IA.eval, optC_s, optC_n, nextOf, freeNext, fpOf, lowOf, opW, ev1, opC_a, Fr.put, List.set, List.getD_cons_zero, List.getD_cons_succ, thenC_n, thenC_j, segC_n, blkC_n, blkC_r, blkC_e, condC_t, condC_f, valC_v, W_apply, if_true, if_false, Option.map_some, Option.map_none, Option.bind_some, Option.bind_none, List.nil_append, List.append_nil, List.cons_append, undefs, List.length_cons, List.length_nil, Nat.reduceSub, Nat.reduceAdd, Nat.zero_add, retC_r, retC_n, leaveC_a, valsC_a, unmark, resultsOf, resultOf, tupled, binI, unI, beq_self_eq_true, Bool.false_eq_true, reduceIte, reduceCtorEq, Bool.not_true, Bool.not_false, Option.getD_some, Option.getD_none, mkAgg, IV.cells, Heap.read, Heap.get_new, Heap.n_new, Heap.get_put, Heap.n_put, List.drop_succ_cons, List.drop_zero, List.take_succ_cons, List.take_zero, Nat.add_zero, Nat.reduceLeDiff, Nat.reduceMul, Nat.le_refl, Int.reduceLT, Int.reduceLE, List.drop, List.take, Option.some.injEq, and_true, true_and, and_false, false_and, BEq.rfl, Heap.write, splice, IV.one, List.all_cons, List.all_nil, Bool.and_self, Bool.and_true, Bool.true_and, Nat.le_add_right, eqKs, eqK, Nat.reduceLT, Nat.add_sub_cancel, bne_self_eq_false, Bool.false_bne, Bool.bne_false, List.append, pairOk, Bool.or_true, Bool.true_or, Int.toNat_natCast, Option.isSome_some, List.getElem?_cons_zero, List.getElem?_cons_succ, F10o0, F10o1, F10o2, F10o3, F10o4, F10o5, F10o6, F10o8, F10b, F10]
  refine of_loop H.n v l hl hlow l.length 0 H _ .nilSlice (by omega) rfl rfl rfl rfl (Nat.le_refl _) hv (.inl ⟨rfl, rfl⟩) _ fun H' tm' out' a1 a2 a3 => ?_
  rw [expl36 tm' a1, a2]
  simp only [W_skip, W_ret, W_exit, W_seq, W_block, W_ops, W_cond, W_segs_cons, W_segs_nil, freeI_s, freeI_f, W_op1, W_op, guardC_t, guardC_f, bb_tf, bb_ft, bb_tt, bb_ff, argC_a, goC_a, seqC_a, pairC_p, eq_self, Nat.left_eq_add, Nat.add_eq_left, Nat.reduceEqDiff, Int.reduceEq, Nat.add_left_cancel_iff, Nat.add_assoc, W_ops_nil, wantedI_n, wantedI_s, wantV_b, wantV_u, evalAll, IA.eval, optC_s, optC_n, nextOf, freeNext, fpOf, lowOf, opW, ev1, opC_a, Fr.put, List.set, List.getD_cons_zero, List.getD_cons_succ, thenC_n, thenC_j, segC_n, blkC_n, blkC_r, blkC_e, condC_t, condC_f, valC_v, W_apply, if_true, if_false, Option.map_some, Option.map_none, Option.bind_some, Option.bind_none, List.nil_append, List.append_nil, List.cons_append, undefs, List.length_cons, List.length_nil, Nat.reduceSub, Nat.reduceAdd, Nat.zero_add, retC_r, retC_n, leaveC_a, valsC_a, unmark, resultsOf, resultOf, tupled, binI, unI, beq_self_eq_true, Bool.false_eq_true, reduceIte, reduceCtorEq, Bool.not_true, Bool.not_false, Option.getD_some, Option.getD_none, mkAgg, IV.cells, Heap.read, Heap.get_new, Heap.n_new, Heap.get_put, Heap.n_put, List.drop_succ_cons, List.drop_zero, List.take_succ_cons, List.take_zero, Nat.add_zero, Nat.reduceLeDiff, Nat.reduceMul, Nat.le_refl, Int.reduceLT, Int.reduceLE, List.drop, List.take, Option.some.injEq, and_true, true_and, and_false, false_and, BEq.rfl, Heap.write, splice, IV.one, List.all_cons, List.all_nil, Bool.and_self, Bool.and_true, Bool.true_and, Nat.le_add_right, eqKs, eqK, Nat.reduceLT, Nat.add_sub_cancel, bne_self_eq_false, Bool.false_bne, Bool.bne_false, List.append, pairOk, Bool.or_true, Bool.true_or, Int.toNat_natCast, Option.isSome_some, List.getElem?_cons_zero, List.getElem?_cons_succ, F10o0, F10o1, F10o2, F10o3, F10o4, F10o5, F10o6, F10o8, F10b, F10]
  exact fun hk => h H' out' hk a3
end Go.Iso.GenA
end

namespace Go.Iso.GenA
open Go.Iso

/-! Plain laws of passes. -/

theorem cancelB_eq {p q : Ps} : cancelB p q = true ↔ (sidedB p.d = true ∧ sidedB q.d = true ∧ p.d ≠ q.d ∧ p.y = q.y ∧ p.n = q.n ∧ p.f = q.f) := by
  simp [cancelB, and_assoc]

theorem sided_iff {d : Int} : sidedB d = true ↔ d = 0 ∨ d = 1 := by simp [sidedB]

theorem cancel_twice {t q p : Ps} (h : cancelB t q = true) (k : cancelB q p = true) : t = p := by
  rw [cancelB_eq] at h k
  obtain ⟨a1, a2, a3, a4, a5, a6⟩ := h
  obtain ⟨b1, b2, b3, b4, b5, b6⟩ := k
  rw [sided_iff] at a1 a2 b2
  cases t; cases p; cases q
  simp only at *
  subst a4 a5 a6 b4 b5 b6
  congr
  omega

/-- No two passes that follow each other cancel. -/
def Red : List Ps → Prop
  | [] => True
  | [_] => True
  | p :: q :: l => cancelB p q = false ∧ Red (q :: l)

theorem red_snoc : ∀ (l : List Ps) (p : Ps), Red (l ++ [p]) ↔ Red l ∧ ∀ q, l.getLast? = some q → cancelB q p = false
  | [], p => by simp [Red]
  | [a], p => by simp [Red]
  | a :: b :: l, p => by
    have := red_snoc (b :: l) p
    simp only [List.cons_append, Red] at this ⊢
    rw [this]
    simp [and_assoc]

theorem red_push1 {S : List Ps} (h : Red S) (p : Ps) : Red (push1 S p) := by
  unfold push1
  split
  · rename_i hl
    have : S = [] := List.getLast?_eq_none_iff.1 hl
    subst this
    exact trivial
  · rename_i q hl
    obtain ⟨S', rfl⟩ := List.getLast?_eq_some_iff.1 hl
    split
    · rw [List.dropLast_concat]
      exact ((red_snoc _ _).1 h).1
    · rename_i hc
      refine (red_snoc _ _).2 ⟨h, fun q' hq' => ?_⟩
      rw [hl] at hq'
      injection hq' with hq'
      subst hq'
      simpa using hc

theorem red_pushL {S : List Ps} (h : Red S) : ∀ l, Red (pushL S l) := by
  intro l
  induction l generalizing S with
  | nil => exact h
  | cons p l ih => exact ih (red_push1 h p)

theorem pushL_append (S a b : List Ps) : pushL S (a ++ b) = pushL (pushL S a) b := by simp [pushL]
theorem pushL_snoc (S a : List Ps) (p : Ps) : pushL S (a ++ [p]) = push1 (pushL S a) p := by simp [pushL]

/-- What is pushed, and then what cancels it. -/
theorem push1_back {T : List Ps} (h : Red T) {q p : Ps} (hc : cancelB q p = true) : push1 (push1 T q) p = T := by
  cases hl : T.getLast? with
  | none =>
    have : T = [] := List.getLast?_eq_none_iff.1 hl
    subst this
    simp [push1, hc]
  | some t =>
    obtain ⟨T', rfl⟩ := List.getLast?_eq_some_iff.1 hl
    cases ht : cancelB t q with
    | false =>
      have e : push1 (T' ++ [t]) q = (T' ++ [t]) ++ [q] := by simp [push1, ht]
      rw [e]
      unfold push1
      rw [List.getLast?_concat]
      simp only [hc, if_true]
      rw [List.dropLast_concat]
    | true =>
      have htp := cancel_twice ht hc
      subst htp
      have e : push1 (T' ++ [t]) q = T' := by simp [push1, ht]
      rw [e]
      have hr := ((red_snoc _ _).1 h).2
      unfold push1
      cases hl' : T'.getLast? with
      | none => rfl
      | some u => simp [hr u hl']

theorem pushL_reduced : ∀ (l S : List Ps), Red S → (∀ q p, S.getLast? = some q → l.head? = some p → cancelB q p = false) → Red l → pushL S l = S ++ l := by
  intro l
  induction l with
  | nil => intro S _ _ _; simp [pushL]
  | cons p l ih =>
    intro S hS hj hl
    have e : push1 S p = S ++ [p] := by
      unfold push1
      cases hq : S.getLast? with
      | none => rfl
      | some q => simp [hj q p hq rfl]
    have hS' : Red (S ++ [p]) := (red_snoc _ _).2 ⟨hS, fun q hq => hj q p hq rfl⟩
    show pushL (push1 S p) l = _
    rw [e, ih (S ++ [p]) hS' (fun q p' hq hp' => by
      rw [List.getLast?_concat] at hq
      injection hq with hq
      subst hq
      cases l with
      | nil => cases hp'
      | cons a l => injection hp' with hp'; subst hp'; exact hl.1) (by cases l with | nil => trivial | cons a l => exact hl.2)]
    simp

theorem pushL_id {l : List Ps} (h : Red l) : pushL [] l = l := by
  have := pushL_reduced l [] trivial (fun q p h => by cases h) h
  simpa using this

theorem pushL_inner (S : List Ps) (hS : Red S) : ∀ b : List Ps, pushL S b = pushL S (pushL [] b) := by
  intro b
  generalize hn : b.length = n
  induction n generalizing b with
  | zero => have : b = [] := List.length_eq_zero_iff.1 hn; subst this; rfl
  | succ n ih =>
    obtain ⟨b', p, rfl⟩ : ∃ b' p, b = b' ++ [p] := by
      refine ⟨b.dropLast, b.getLast (fun e => by rw [e] at hn; simp at hn), ?_⟩
      rw [List.dropLast_concat_getLast]
    have hb' := ih b' (by simpa using hn)
    rw [pushL_snoc, pushL_snoc, hb']
    have hred : Red (pushL [] b') := red_pushL (S := []) trivial b'
    generalize pushL [] b' = r at hred
    cases hl : r.getLast? with
    | none =>
      have : r = [] := List.getLast?_eq_none_iff.1 hl
      subst this
      rfl
    | some q =>
      obtain ⟨r', rfl⟩ := List.getLast?_eq_some_iff.1 hl
      cases hc : cancelB q p with
      | false =>
        have e : push1 (r' ++ [q]) p = r' ++ [q] ++ [p] := by simp [push1, hc]
        rw [e, pushL_snoc S (r' ++ [q]) p]
      | true =>
        have e : push1 (r' ++ [q]) p = r' := by simp [push1, hc]
        rw [e, pushL_snoc]
        exact push1_back (red_pushL hS r') hc

theorem reduce_parts (a b : List Ps) : pushL [] (a ++ b) = pushL [] (pushL [] a ++ pushL [] b) := by
  have ha : Red (pushL [] a) := red_pushL (S := []) trivial a
  rw [pushL_append, pushL_append, pushL_id ha, pushL_inner _ ha b]

def Sided (l : List Ps) : Prop := ∀ p, p ∈ l → sidedB p.d = true

theorem cancel_flip {p : Ps} (h : sidedB p.d = true) : cancelB p (flip p) = true := by
  rw [cancelB_eq]
  rw [sided_iff] at h
  rcases h with h | h <;> simp [flip, h, sidedB]

theorem flip_flip {p : Ps} (h : sidedB p.d = true) : flip (flip p) = p := by
  rw [sided_iff] at h
  cases p
  rcases h with h | h <;> simp only at h <;> subst h <;> rfl

theorem push_inv : ∀ (a S : List Ps), Red S → Sided a → pushL (pushL S a) (inv a) = S := by
  intro a
  induction a with
  | nil => intro S _ _; rfl
  | cons p a ih =>
    intro S hS ha
    have e : inv (p :: a) = inv a ++ [flip p] := by simp [inv]
    rw [e, pushL_snoc]
    show push1 (pushL (pushL (push1 S p) a) (inv a)) (flip p) = S
    rw [ih (push1 S p) (red_push1 hS p) (fun q hq => ha q (by simp [hq]))]
    exact push1_back hS (cancel_flip (ha p (by simp)))

theorem reduce_inv {a : List Ps} (ha : Sided a) : pushL [] (a ++ inv a) = [] := by
  rw [pushL_append]; exact push_inv a [] trivial ha

theorem inv_inv {a : List Ps} (ha : Sided a) : inv (inv a) = a := by
  unfold inv
  rw [List.map_reverse, List.reverse_reverse, List.map_map]
  refine (List.map_congr_left (g := id) fun p hp => ?_).trans (List.map_id _)
  exact flip_flip (ha p hp)

theorem inv_length (a : List Ps) : (inv a).length = a.length := by simp [inv]

theorem ofP_sided {x : Int} (h : 0 ≤ x) : sidedB (ofP x).d = true := by
  rw [sided_iff]
  show x.tmod 2 = 0 ∨ x.tmod 2 = 1
  have := Int.tmod_nonneg 2 h
  have := Int.tmod_lt_of_pos x (show (0 : Int) < 2 from by omega)
  omega

theorem of_sided {l : List Int} (h : ∀ x, x ∈ l → 0 ≤ x) : Sided (l.map ofP) := by
  intro p hp
  obtain ⟨x, hx, rfl⟩ := List.mem_map.1 hp
  exact ofP_sided (h x hx)

end Go.Iso.GenA

section
namespace Go.Iso.GenA
open Go.Iso
set_option maxHeartbeats 2000000
set_option maxRecDepth 10000

/-- What is appended to: empty without room, or a block from base on, just as long. -/
def App (H : Heap) (base : Nat) (s : IV) (L : List Ps) : Prop :=
  ∃ b, base ≤ b ∧ b < H.n ∧ (s = .slice b 0 0 0 true ∧ L = [] ∨ s = .slice b 0 L.length L.length false ∧ H.get b = some (.cells false 33 4 (flat L)))

theorem App.keep {H H' : Heap} {base : Nat} {s : IV} {L : List Ps} (h : App H base s L) (k : Keep H.n H H') : App H' base s L := by
  obtain ⟨b, h1, h2, h3⟩ := h
  refine ⟨b, h1, Nat.lt_of_lt_of_le h2 k.1, h3.imp id fun x => ⟨x.1, (k.2 b h2 h2).trans x.2⟩⟩

theorem App.pl {H : Heap} {base : Nat} {s : IV} {L : List Ps} (h : App H base s L) : PL H s L := by
  obtain ⟨b, h1, h2, ⟨rfl, rfl⟩ | ⟨rfl, hg⟩⟩ := h
  · exact .sl b 0 0 true [] (Nat.le_refl _) fun e => absurd rfl e
  · exact .sl b 0 _ false L (Nat.le_refl _) fun _ => ⟨h2, false, 33, 4, flat L, hg, by rw [List.drop_zero, ← flat_length, List.take_length]⟩

theorem PL.src {H : Heap} {x : IV} {M : List Ps} (h : PL H x M) : lenI x = some M.length ∧ srcI H 4 M.length x = some (flat M) := by
  cases h with
  | nil => exact ⟨rfl, rfl⟩
  | sl b o c ex M hc hh =>
    refine ⟨rfl, ?_⟩
    simp only [srcI]
    by_cases h0 : M = []
    · subst h0; rfl
    · have hpos : 0 < M.length := List.length_pos_iff.2 h0
      rw [if_neg (by omega), Nat.mul_comm]
      exact (hh h0).2.all.resolve_right h0

theorem app_sp {H : Heap} {lo base : Nat} {s x : IV} {L M : List Ps} (hs : App H base s L) (hlo : lo ≤ base) (hx : PL H x M) (hsz : L.length + M.length ≤ 100000) :
    ∃ s' H', ev1 (.append 33 4 24) [s, x] lo H = some (s', H') ∧ App H' base s' (L ++ M) ∧ Keep base H H' := by
  obtain ⟨hl, hsrc⟩ := hx.src
  simp only [ev1, hl, Option.bind_some, hsrc, appendI, flat_all, if_false, Bool.true_eq_false]
  by_cases h0 : M = []
  · subst h0
    obtain ⟨b, h1, h2, ⟨rfl, rfl⟩ | ⟨rfl, hg⟩⟩ := hs
    · exact ⟨_, H, rfl, ⟨b, h1, h2, .inl ⟨rfl, rfl⟩⟩, .refl _ _⟩
    · exact ⟨_, H, rfl, ⟨b, h1, h2, .inr ⟨by simp, by simpa using hg⟩⟩, .refl _ _⟩
  · have hpos : 0 < M.length := List.length_pos_iff.2 h0
    have hM : M.length ≠ 0 := by omega
    obtain ⟨b, h1, h2, ⟨rfl, rfl⟩ | ⟨rfl, hg⟩⟩ := hs
    · simp only [if_neg hM, Nat.zero_add, Nat.not_le_of_lt hpos, if_false]
      rw [if_pos (by simp at hsz; omega)]
      simp only [srcI, if_true, Option.map_some, List.nil_append]
      exact ⟨_, _, rfl, ⟨H.n, by omega, by rw [Heap.n_new]; omega, .inr ⟨rfl, by rw [Heap.get_new, if_pos rfl]⟩⟩, .new _ _⟩
    · simp only [if_neg hM]
      rw [if_neg (by omega), if_pos (by omega)]
      simp only [hg, Bool.false_eq_true, if_false]
      have hfl := flat_length L
      rw [if_pos (by simp; omega)]
      refine ⟨_, _, rfl, ⟨H.n, by omega, by simp only [Heap.n_put, Heap.n_new]; omega, .inr ⟨by simp, ?_⟩⟩, (Keep.put _ _ h1).trans (.new _ _)⟩
      rw [Heap.get_new, if_pos (by rw [Heap.n_put]), flat_append, show L.length * 4 = (flat L).length from by omega, List.take_length]


theorem BL.len {H : Heap} {v : IV} {l : List Int} (h : BL H v l) (lo : Nat) (H' : Heap) : ev1 .lenSl [v] lo H' = some (.int .i64 l.length, H') := by
  cases h <;> rfl

theorem BL.keep {H H' : Heap} {v : IV} {l : List Int} (h : BL H v l) (k : Keep H.n H H') : BL H' v l :=
  h.keepLo (fun b o n c ex e hn => by
    subst e
    cases h with
    | sl b o c ex l hh => exact (hh (fun e => hn (by rw [e]; rfl))).1) k

theorem Own.tight {H : Heap} {b n : Nat} {l : List Ps} (_ : Own H b n l) (hn : n = l.length) : Tight (.slice b 0 n n true) l.length := .inr ⟨b, 0, by rw [hn]⟩

theorem expl108 (tm : List IV) (h : tm.length = 108) : tm = [tm.getD 0 IV.undef, tm.getD 1 IV.undef, tm.getD 2 IV.undef, tm.getD 3 IV.undef, tm.getD 4 IV.undef, tm.getD 5 IV.undef, tm.getD 6 IV.undef, tm.getD 7 IV.undef, tm.getD 8 IV.undef, tm.getD 9 IV.undef, tm.getD 10 IV.undef, tm.getD 11 IV.undef, tm.getD 12 IV.undef, tm.getD 13 IV.undef, tm.getD 14 IV.undef, tm.getD 15 IV.undef, tm.getD 16 IV.undef, tm.getD 17 IV.undef, tm.getD 18 IV.undef, tm.getD 19 IV.undef, tm.getD 20 IV.undef, tm.getD 21 IV.undef, tm.getD 22 IV.undef, tm.getD 23 IV.undef, tm.getD 24 IV.undef, tm.getD 25 IV.undef, tm.getD 26 IV.undef, tm.getD 27 IV.undef, tm.getD 28 IV.undef, tm.getD 29 IV.undef, tm.getD 30 IV.undef, tm.getD 31 IV.undef, tm.getD 32 IV.undef, tm.getD 33 IV.undef, tm.getD 34 IV.undef, tm.getD 35 IV.undef, tm.getD 36 IV.undef, tm.getD 37 IV.undef, tm.getD 38 IV.undef, tm.getD 39 IV.undef, tm.getD 40 IV.undef, tm.getD 41 IV.undef, tm.getD 42 IV.undef, tm.getD 43 IV.undef, tm.getD 44 IV.undef, tm.getD 45 IV.undef, tm.getD 46 IV.undef, tm.getD 47 IV.undef, tm.getD 48 IV.undef, tm.getD 49 IV.undef, tm.getD 50 IV.undef, tm.getD 51 IV.undef, tm.getD 52 IV.undef, tm.getD 53 IV.undef, tm.getD 54 IV.undef, tm.getD 55 IV.undef, tm.getD 56 IV.undef, tm.getD 57 IV.undef, tm.getD 58 IV.undef, tm.getD 59 IV.undef, tm.getD 60 IV.undef, tm.getD 61 IV.undef, tm.getD 62 IV.undef, tm.getD 63 IV.undef, tm.getD 64 IV.undef, tm.getD 65 IV.undef, tm.getD 66 IV.undef, tm.getD 67 IV.undef, tm.getD 68 IV.undef, tm.getD 69 IV.undef, tm.getD 70 IV.undef, tm.getD 71 IV.undef, tm.getD 72 IV.undef, tm.getD 73 IV.undef, tm.getD 74 IV.undef, tm.getD 75 IV.undef, tm.getD 76 IV.undef, tm.getD 77 IV.undef, tm.getD 78 IV.undef, tm.getD 79 IV.undef, tm.getD 80 IV.undef, tm.getD 81 IV.undef, tm.getD 82 IV.undef, tm.getD 83 IV.undef, tm.getD 84 IV.undef, tm.getD 85 IV.undef, tm.getD 86 IV.undef, tm.getD 87 IV.undef, tm.getD 88 IV.undef, tm.getD 89 IV.undef, tm.getD 90 IV.undef, tm.getD 91 IV.undef, tm.getD 92 IV.undef, tm.getD 93 IV.undef, tm.getD 94 IV.undef, tm.getD 95 IV.undef, tm.getD 96 IV.undef, tm.getD 97 IV.undef, tm.getD 98 IV.undef, tm.getD 99 IV.undef, tm.getD 100 IV.undef, tm.getD 101 IV.undef, tm.getD 102 IV.undef, tm.getD 103 IV.undef, tm.getD 104 IV.undef, tm.getD 105 IV.undef, tm.getD 106 IV.undef, tm.getD 107 IV.undef] := (expl tm 108 h).trans rfl

theorem inv_get (l : List Ps) (k : Nat) (h : k < l.length) : (inv l)[k]'(by rw [inv_length]; exact h) = flip (l[l.length - 1 - k]) := by
  simp [inv]

theorem yi_loop (lo : Nat) (vr vj : IV) (raw : List Ps) (hl : raw.length ≤ 20) : ∀ (k i : Nat) (H : Heap) (tm : List IV), i + k = raw.length → tm.length = 108 →
    tm.getD 2 IV.undef = vr → tm.getD 12 IV.undef = vj → tm.getD 13 IV.undef = .int .i64 i → PL H vr raw → PL H vj (inv raw) → lo ≤ H.n →
    ∀ Q : Out → Heap → Prop, (∀ H' tm', tm'.length = 108 → Q (.ex (.jmp (.exit 0)) ⟨tm', []⟩) H') →
    W E0 lo (.code (.loop F4l23) none ⟨tm, []⟩) H Q := by
  intro k
  induction k with
  | zero =>
    intro i H tm hi htm h2 h12 h13 hpr hpj hlo Q hQ
    have hi' : i = raw.length := by omega
    subst hi'
    rw [W_loop, expl108 tm htm, h2, h12, h13]
    have e1 : decide ((raw.length : Int) < raw.length) = false := by simp
    simp only [W_skip, W_ret, W_exit, W_seq, W_block, W_ops, W_cond, W_segs_cons, W_segs_nil, freeI_s, freeI_f, W_op1, W_op, guardC_t, guardC_f, bb_tf, bb_ft, bb_tt, bb_ff, argC_a, goC_a, seqC_a, pairC_p, eq_self, Nat.left_eq_add, Nat.add_eq_left, Nat.reduceEqDiff, Int.reduceEq, Nat.add_left_cancel_iff, Nat.add_assoc, W_ops_nil, wantedI_n, wantedI_s, wantV_b, wantV_u, evalAll, IA.eval, optC_s, optC_n, nextOf, freeNext, fpOf, lowOf, opW, ev1, opC_a, Fr.put, List.set, List.getD_cons_zero, List.getD_cons_succ, thenC_n, thenC_j, segC_n, blkC_n, blkC_r, blkC_e, condC_t, condC_f, valC_v, W_apply, if_true, if_false, Option.map_some, Option.map_none, Option.bind_some, Option.bind_none, List.nil_append, List.append_nil, List.cons_append, undefs, List.length_cons, List.length_nil, Nat.reduceSub, Nat.reduceAdd, Nat.zero_add, retC_r, retC_n, leaveC_a, valsC_a, unmark, resultsOf, resultOf, tupled, binI, unI, beq_self_eq_true, Bool.false_eq_true, reduceIte, reduceCtorEq, Bool.not_true, Bool.not_false, Option.getD_some, Option.getD_none, mkAgg, IV.cells, Heap.read, Heap.get_new, Heap.n_new, Heap.get_put, Heap.n_put, List.drop_succ_cons, List.drop_zero, List.take_succ_cons, List.take_zero, Nat.add_zero, Nat.reduceLeDiff, Nat.reduceMul, Nat.le_refl, Int.reduceLT, Int.reduceLE, List.drop, List.take, Option.some.injEq, and_true, true_and, and_false, false_and, BEq.rfl, Heap.write, splice, IV.one, List.all_cons, List.all_nil, Bool.and_self, Bool.and_true, Bool.true_and, Nat.le_add_right, eqKs, eqK, Nat.reduceLT, Nat.add_sub_cancel, bne_self_eq_false, Bool.false_bne, Bool.bne_false, List.append, pairOk, Bool.or_true, Bool.true_or, Int.toNat_natCast, Option.isSome_some, List.getElem?_cons_zero, List.getElem?_cons_succ, F4o0, F4o1, F4o2, F4o3, F4o4, F4o5, F4o6, F4o7, F4o8, F4o9, F4o10, F4o11, F4o12, F4o13, F4o14, F4o15, F4o16, F4o17, F4o18, F4o19, F4o20, F4o21, F4o22, F4l23, F4o24, F4b, F4, ↓hpr.len, e1]
    exact hQ _ _ rfl
  | succ k ih =>
    intro i H tm hi htm h2 h12 h13 hpr hpj hlo Q hQ
    have hil : i < raw.length := by omega
    have hne : raw ≠ [] := fun e => by rw [e] at hil; simp at hil
    have hpr0 := hpr
    have hpj0 := hpj
    cases hpr with
    | nil => exact absurd rfl hne
    | sl b o c ex raw hc hh =>
      generalize hjl : inv raw = jl at hpj
      have hjn : jl.length = raw.length := by rw [← hjl, inv_length]
      cases hpj with
      | nil => rw [← hjn] at hil; simp at hil
      | sl bj oj cj xj jl hcj hj =>
        obtain ⟨hb, ro, e, ez, cs, hg, hcs⟩ := hh hne
        obtain ⟨hbj, rj, ej, ezj, csj, hgj, hcsj⟩ := hj (fun e => by rw [e] at hjn; simp at hjn; omega)
        have la := congrArg List.length hcs
        rw [List.length_take, List.length_drop, flat_length] at la
        have lb := congrArg List.length hcsj
        rw [List.length_take, List.length_drop, flat_length] at lb
        have hp : (cs.drop (o + k * 4)).take 4 = (raw[k]'(by omega)).cells := by
          rw [← flat_at raw k (by omega), ← hcs, List.drop_take, List.take_take, List.drop_drop, show min 4 (4 * raw.length - k * 4) = 4 from by omega]
        have hpj' : (csj.drop (oj + i * 4)).take 4 = (flip (raw[k]'(by omega))).cells := by
          have hx : jl[i]'(by omega) = flip (raw[k]'(by omega)) := by
            subst hjl
            rw [inv_get raw i hil]
            congr 2
            omega
          rw [← hx, ← flat_at jl i (by omega), ← hcsj, List.drop_take, List.take_take, List.drop_drop, show min 4 (4 * jl.length - i * 4) = 4 from by omega]
        have e1 : decide ((i : Int) < raw.length) = true := by simp; omega
        have e2 : (0 ≤ (k : Int) ∧ (k : Int) < raw.length) = True := by simp; omega
        have e2' : (0 ≤ (i : Int) ∧ (i : Int) < jl.length) = True := by simp; omega
        have e3 : (o + (k * 4 + 4) ≤ cs.length) = True := by simp; omega
        have e4 : (oj + (i * 4 + 4) ≤ csj.length) = True := by simp; omega
        have e5 : (H.n = bj) = False := by simp; omega
        have e6 : (lo ≤ H.n) = True := by simp; omega
        have hw : IntKind.i64.wrap ((i : Int) + 1) = ((i + 1 : Nat) : Int) := IntWalk.i64_in _ (by omega)
        have hw1 : IntKind.i64.wrap ((raw.length : Int) - 1) = (raw.length : Int) - 1 := IntWalk.i64_in _ (by omega)
        have hw2 : IntKind.i64.wrap ((raw.length : Int) - 1 - (i : Int)) = (k : Int) := by rw [IntWalk.i64_in _ (by omega)]; omega
        generalize raw[k]'(by omega) = p at hp hpj'
        rw [W_loop, expl108 tm htm, h2, h12, h13]
        have fin : ∀ (H' : Heap) (tm' : List IV), tm'.length = 108 → tm'.getD 2 IV.undef = .slice b o raw.length c ex → tm'.getD 12 IV.undef = .slice bj oj jl.length cj xj → tm'.getD 13 IV.undef = .int .i64 ((i + 1 : Nat) : Int) → Keep H.n H H' → W E0 lo (.code (.loop F4l23) none ⟨tm', []⟩) H' Q := by
          intro H' tm' t1 t2 t3 t4 hk
          exact ih (i + 1) H' tm' (by omega) t1 t2 t3 t4 (hpr0.keep hk) (hpj0.keep hk) (Nat.le_trans hlo hk.1) Q hQ
        cases ed : (p.d == 1)
        · have hf : (flip p).cells = [.int .u8 p.y, .int .i64 p.n, .bool p.f, .int .u8 1] := by simp [flip, ed, Ps.cells]
          rw [hf] at hpj'
          simp only [W_skip, W_ret, W_exit, W_seq, W_block, W_ops, W_cond, W_segs_cons, W_segs_nil, freeI_s, freeI_f, W_op1, W_op, guardC_t, guardC_f, bb_tf, bb_ft, bb_tt, bb_ff, argC_a, goC_a, seqC_a, pairC_p, eq_self, Nat.left_eq_add, Nat.add_eq_left, Nat.reduceEqDiff, Int.reduceEq, Nat.add_left_cancel_iff, Nat.add_assoc, W_ops_nil, wantedI_n, wantedI_s, wantV_b, wantV_u, evalAll, IA.eval, optC_s, optC_n, nextOf, freeNext, fpOf, lowOf, opW, ev1, opC_a, Fr.put, List.set, List.getD_cons_zero, List.getD_cons_succ, thenC_n, thenC_j, segC_n, blkC_n, blkC_r, blkC_e, condC_t, condC_f, valC_v, W_apply, if_true, if_false, Option.map_some, Option.map_none, Option.bind_some, Option.bind_none, List.nil_append, List.append_nil, List.cons_append, undefs, List.length_cons, List.length_nil, Nat.reduceSub, Nat.reduceAdd, Nat.zero_add, retC_r, retC_n, leaveC_a, valsC_a, unmark, resultsOf, resultOf, tupled, binI, unI, beq_self_eq_true, Bool.false_eq_true, reduceIte, reduceCtorEq, Bool.not_true, Bool.not_false, Option.getD_some, Option.getD_none, mkAgg, IV.cells, Heap.read, Heap.get_new, Heap.n_new, Heap.get_put, Heap.n_put, List.drop_succ_cons, List.drop_zero, List.take_succ_cons, List.take_zero, Nat.add_zero, Nat.reduceLeDiff, Nat.reduceMul, Nat.le_refl, Int.reduceLT, Int.reduceLE, List.drop, List.take, Option.some.injEq, and_true, true_and, and_false, false_and, BEq.rfl, Heap.write, splice, IV.one, List.all_cons, List.all_nil, Bool.and_self, Bool.and_true, Bool.true_and, Nat.le_add_right, eqKs, eqK, Nat.reduceLT, Nat.add_sub_cancel, bne_self_eq_false, Bool.false_bne, Bool.bne_false, List.append, pairOk, Bool.or_true, Bool.true_or, Int.toNat_natCast, Option.isSome_some, List.getElem?_cons_zero, List.getElem?_cons_succ, F4o0, F4o1, F4o2, F4o3, F4o4, F4o5, F4o6, F4o7, F4o8, F4o9, F4o10, F4o11, F4o12, F4o13, F4o14, F4o15, F4o16, F4o17, F4o18, F4o19, F4o20, F4o21, F4o22, F4l23, F4o24, F4b, F4, e1, e2, e2', e3, e4, e5, e6, ed, hg, hgj, hp, hpj', hw, hw1, hw2, Ps.cells]
          exact fin _ _ rfl rfl rfl rfl (((Keep.new _ _).trans (.put _ _ (Nat.le_refl _))).trans (.put _ _ (Nat.le_refl _)))
        · have hf : (flip p).cells = [.int .u8 p.y, .int .i64 p.n, .bool p.f, .int .u8 0] := by simp [flip, ed, Ps.cells]
          rw [hf] at hpj'
          simp only [W_skip, W_ret, W_exit, W_seq, W_block, W_ops, W_cond, W_segs_cons, W_segs_nil, freeI_s, freeI_f, W_op1, W_op, guardC_t, guardC_f, bb_tf, bb_ft, bb_tt, bb_ff, argC_a, goC_a, seqC_a, pairC_p, eq_self, Nat.left_eq_add, Nat.add_eq_left, Nat.reduceEqDiff, Int.reduceEq, Nat.add_left_cancel_iff, Nat.add_assoc, W_ops_nil, wantedI_n, wantedI_s, wantV_b, wantV_u, evalAll, IA.eval, optC_s, optC_n, nextOf, freeNext, fpOf, lowOf, opW, ev1, opC_a, Fr.put, List.set, List.getD_cons_zero, List.getD_cons_succ, thenC_n, thenC_j, segC_n, blkC_n, blkC_r, blkC_e, condC_t, condC_f, valC_v, W_apply, if_true, if_false, Option.map_some, Option.map_none, Option.bind_some, Option.bind_none, List.nil_append, List.append_nil, List.cons_append, undefs, List.length_cons, List.length_nil, Nat.reduceSub, Nat.reduceAdd, Nat.zero_add, retC_r, retC_n, leaveC_a, valsC_a, unmark, resultsOf, resultOf, tupled, binI, unI, beq_self_eq_true, Bool.false_eq_true, reduceIte, reduceCtorEq, Bool.not_true, Bool.not_false, Option.getD_some, Option.getD_none, mkAgg, IV.cells, Heap.read, Heap.get_new, Heap.n_new, Heap.get_put, Heap.n_put, List.drop_succ_cons, List.drop_zero, List.take_succ_cons, List.take_zero, Nat.add_zero, Nat.reduceLeDiff, Nat.reduceMul, Nat.le_refl, Int.reduceLT, Int.reduceLE, List.drop, List.take, Option.some.injEq, and_true, true_and, and_false, false_and, BEq.rfl, Heap.write, splice, IV.one, List.all_cons, List.all_nil, Bool.and_self, Bool.and_true, Bool.true_and, Nat.le_add_right, eqKs, eqK, Nat.reduceLT, Nat.add_sub_cancel, bne_self_eq_false, Bool.false_bne, Bool.bne_false, List.append, pairOk, Bool.or_true, Bool.true_or, Int.toNat_natCast, Option.isSome_some, List.getElem?_cons_zero, List.getElem?_cons_succ, F4o0, F4o1, F4o2, F4o3, F4o4, F4o5, F4o6, F4o7, F4o8, F4o9, F4o10, F4o11, F4o12, F4o13, F4o14, F4o15, F4o16, F4o17, F4o18, F4o19, F4o20, F4o21, F4o22, F4l23, F4o24, F4b, F4, e1, e2, e2', e3, e4, e5, e6, ed, hg, hgj, hp, hpj', hw, hw1, hw2, Ps.cells]
          exact fin _ _ rfl rfl rfl rfl (((Keep.new _ _).trans (.put _ _ (Nat.le_refl _))).trans (.put _ _ (Nat.le_refl _)))

end Go.Iso.GenA
end
