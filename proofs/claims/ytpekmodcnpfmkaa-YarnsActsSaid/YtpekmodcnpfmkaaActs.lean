/-
  ganseylaw02.YarnsActs returns true for every input and leaves its arguments as they were; no condition.
-/
import Derived.Test.YtpekmodcnpfmkaaFnC
import Derived.Test.YtpekmodcnpfmkaaRow
set_option linter.unusedSimpArgs false
set_option linter.unusedVariables false

section
namespace Go.Iso.GenA
open Go.Iso
set_option maxHeartbeats 8000000
set_option maxRecDepth 10000

/-- The law's own test. -/
def lcB (p q : Ps) : Bool := ((p.y == q.y) && (p.n == q.n)) && ((p.f == q.f) && (decide (p.d ≤ 1) && (decide (q.d ≤ 1) && (p.d != q.d))))

theorem lc_sp (p q : Ps) {H : Heap} {lo : Nat} {Q : Out → Heap → Prop} (h : ∀ H', Keep H.n H H' → Q (.val (.int .i64 (if lcB p q = true then 1 else 0))) H') (hlo : lo ≤ H.n) : W E0 lo (.call 15 [.agg p.cells, .agg q.cells]) H Q := by
  refine pureQ _ hlo h fun R hR => ?_
  rw [c15]
  unfold lcB at hR
  cases e0 : ((p.y == q.y) && (p.n == q.n))
  · simp only [e0, Bool.false_and, Bool.false_eq_true, if_false] at hR
    simp only [W_skip, W_ret, W_exit, W_seq, W_block, W_ops, W_cond, W_segs_cons, W_segs_nil, freeI_s, freeI_f, W_op1, W_op, guardC_t, guardC_f, bb_tf, bb_ft, bb_tt, bb_ff, argC_a, goC_a, seqC_a, pairC_p, eq_self, Nat.left_eq_add, Nat.add_eq_left, Nat.reduceEqDiff, Int.reduceEq, Nat.add_left_cancel_iff, Nat.add_assoc, W_ops_nil, wantedI_n, wantedI_s, wantV_b, wantV_u, evalAll, IA.eval, optC_s, optC_n, nextOf, freeNext, fpOf, lowOf, opW, ev1, opC_a, Fr.put, List.set, List.getD_cons_zero, List.getD_cons_succ, thenC_n, thenC_j, segC_n, blkC_n, blkC_r, blkC_e, condC_t, condC_f, valC_v, W_apply, if_true, if_false, Option.map_some, Option.map_none, Option.bind_some, Option.bind_none, List.nil_append, List.append_nil, List.cons_append, undefs, List.length_cons, List.length_nil, Nat.reduceSub, Nat.reduceAdd, Nat.zero_add, retC_r, retC_n, leaveC_a, valsC_a, unmark, resultsOf, resultOf, tupled, binI, unI, beq_self_eq_true, Bool.false_eq_true, reduceIte, reduceCtorEq, Bool.not_true, Bool.not_false, Option.getD_some, Option.getD_none, mkAgg, IV.cells, Heap.read, Heap.get_new, Heap.n_new, Heap.get_put, Heap.n_put, List.drop_succ_cons, List.drop_zero, List.take_succ_cons, List.take_zero, Nat.add_zero, Nat.reduceLeDiff, Nat.reduceMul, Nat.le_refl, Int.reduceLT, Int.reduceLE, List.drop, List.take, Option.some.injEq, and_true, true_and, and_false, false_and, BEq.rfl, Heap.write, splice, IV.one, List.all_cons, List.all_nil, Bool.and_self, Bool.and_true, Bool.true_and, Nat.le_add_right, eqKs, eqK, Nat.reduceLT, Nat.add_sub_cancel, bne_self_eq_false, Bool.false_bne, Bool.bne_false, List.append, pairOk, Bool.or_true, Bool.true_or, Int.toNat_natCast, Option.isSome_some, List.getElem?_cons_zero, List.getElem?_cons_succ, F15o0, F15o1, F15o2, F15o3, F15b, F15, Ps.cells, e0]
    exact hR _
  cases e1 : (p.f == q.f)
  · simp only [e0, e1, Bool.true_and, Bool.false_and, Bool.false_eq_true, if_false] at hR
    simp only [W_skip, W_ret, W_exit, W_seq, W_block, W_ops, W_cond, W_segs_cons, W_segs_nil, freeI_s, freeI_f, W_op1, W_op, guardC_t, guardC_f, bb_tf, bb_ft, bb_tt, bb_ff, argC_a, goC_a, seqC_a, pairC_p, eq_self, Nat.left_eq_add, Nat.add_eq_left, Nat.reduceEqDiff, Int.reduceEq, Nat.add_left_cancel_iff, Nat.add_assoc, W_ops_nil, wantedI_n, wantedI_s, wantV_b, wantV_u, evalAll, IA.eval, optC_s, optC_n, nextOf, freeNext, fpOf, lowOf, opW, ev1, opC_a, Fr.put, List.set, List.getD_cons_zero, List.getD_cons_succ, thenC_n, thenC_j, segC_n, blkC_n, blkC_r, blkC_e, condC_t, condC_f, valC_v, W_apply, if_true, if_false, Option.map_some, Option.map_none, Option.bind_some, Option.bind_none, List.nil_append, List.append_nil, List.cons_append, undefs, List.length_cons, List.length_nil, Nat.reduceSub, Nat.reduceAdd, Nat.zero_add, retC_r, retC_n, leaveC_a, valsC_a, unmark, resultsOf, resultOf, tupled, binI, unI, beq_self_eq_true, Bool.false_eq_true, reduceIte, reduceCtorEq, Bool.not_true, Bool.not_false, Option.getD_some, Option.getD_none, mkAgg, IV.cells, Heap.read, Heap.get_new, Heap.n_new, Heap.get_put, Heap.n_put, List.drop_succ_cons, List.drop_zero, List.take_succ_cons, List.take_zero, Nat.add_zero, Nat.reduceLeDiff, Nat.reduceMul, Nat.le_refl, Int.reduceLT, Int.reduceLE, List.drop, List.take, Option.some.injEq, and_true, true_and, and_false, false_and, BEq.rfl, Heap.write, splice, IV.one, List.all_cons, List.all_nil, Bool.and_self, Bool.and_true, Bool.true_and, Nat.le_add_right, eqKs, eqK, Nat.reduceLT, Nat.add_sub_cancel, bne_self_eq_false, Bool.false_bne, Bool.bne_false, List.append, pairOk, Bool.or_true, Bool.true_or, Int.toNat_natCast, Option.isSome_some, List.getElem?_cons_zero, List.getElem?_cons_succ, F15o0, F15o1, F15o2, F15o3, F15b, F15, Ps.cells, e0, e1]
    exact hR _
  cases e2 : decide (p.d ≤ 1)
  · simp only [e0, e1, e2, Bool.true_and, Bool.false_and, Bool.false_eq_true, if_false] at hR
    simp only [W_skip, W_ret, W_exit, W_seq, W_block, W_ops, W_cond, W_segs_cons, W_segs_nil, freeI_s, freeI_f, W_op1, W_op, guardC_t, guardC_f, bb_tf, bb_ft, bb_tt, bb_ff, argC_a, goC_a, seqC_a, pairC_p, eq_self, Nat.left_eq_add, Nat.add_eq_left, Nat.reduceEqDiff, Int.reduceEq, Nat.add_left_cancel_iff, Nat.add_assoc, W_ops_nil, wantedI_n, wantedI_s, wantV_b, wantV_u, evalAll, IA.eval, optC_s, optC_n, nextOf, freeNext, fpOf, lowOf, opW, ev1, opC_a, Fr.put, List.set, List.getD_cons_zero, List.getD_cons_succ, thenC_n, thenC_j, segC_n, blkC_n, blkC_r, blkC_e, condC_t, condC_f, valC_v, W_apply, if_true, if_false, Option.map_some, Option.map_none, Option.bind_some, Option.bind_none, List.nil_append, List.append_nil, List.cons_append, undefs, List.length_cons, List.length_nil, Nat.reduceSub, Nat.reduceAdd, Nat.zero_add, retC_r, retC_n, leaveC_a, valsC_a, unmark, resultsOf, resultOf, tupled, binI, unI, beq_self_eq_true, Bool.false_eq_true, reduceIte, reduceCtorEq, Bool.not_true, Bool.not_false, Option.getD_some, Option.getD_none, mkAgg, IV.cells, Heap.read, Heap.get_new, Heap.n_new, Heap.get_put, Heap.n_put, List.drop_succ_cons, List.drop_zero, List.take_succ_cons, List.take_zero, Nat.add_zero, Nat.reduceLeDiff, Nat.reduceMul, Nat.le_refl, Int.reduceLT, Int.reduceLE, List.drop, List.take, Option.some.injEq, and_true, true_and, and_false, false_and, BEq.rfl, Heap.write, splice, IV.one, List.all_cons, List.all_nil, Bool.and_self, Bool.and_true, Bool.true_and, Nat.le_add_right, eqKs, eqK, Nat.reduceLT, Nat.add_sub_cancel, bne_self_eq_false, Bool.false_bne, Bool.bne_false, List.append, pairOk, Bool.or_true, Bool.true_or, Int.toNat_natCast, Option.isSome_some, List.getElem?_cons_zero, List.getElem?_cons_succ, F15o0, F15o1, F15o2, F15o3, F15b, F15, Ps.cells, e0, e1, e2]
    exact hR _
  cases e3 : decide (q.d ≤ 1)
  · simp only [e0, e1, e2, e3, Bool.true_and, Bool.false_and, Bool.false_eq_true, if_false] at hR
    simp only [W_skip, W_ret, W_exit, W_seq, W_block, W_ops, W_cond, W_segs_cons, W_segs_nil, freeI_s, freeI_f, W_op1, W_op, guardC_t, guardC_f, bb_tf, bb_ft, bb_tt, bb_ff, argC_a, goC_a, seqC_a, pairC_p, eq_self, Nat.left_eq_add, Nat.add_eq_left, Nat.reduceEqDiff, Int.reduceEq, Nat.add_left_cancel_iff, Nat.add_assoc, W_ops_nil, wantedI_n, wantedI_s, wantV_b, wantV_u, evalAll, IA.eval, optC_s, optC_n, nextOf, freeNext, fpOf, lowOf, opW, ev1, opC_a, Fr.put, List.set, List.getD_cons_zero, List.getD_cons_succ, thenC_n, thenC_j, segC_n, blkC_n, blkC_r, blkC_e, condC_t, condC_f, valC_v, W_apply, if_true, if_false, Option.map_some, Option.map_none, Option.bind_some, Option.bind_none, List.nil_append, List.append_nil, List.cons_append, undefs, List.length_cons, List.length_nil, Nat.reduceSub, Nat.reduceAdd, Nat.zero_add, retC_r, retC_n, leaveC_a, valsC_a, unmark, resultsOf, resultOf, tupled, binI, unI, beq_self_eq_true, Bool.false_eq_true, reduceIte, reduceCtorEq, Bool.not_true, Bool.not_false, Option.getD_some, Option.getD_none, mkAgg, IV.cells, Heap.read, Heap.get_new, Heap.n_new, Heap.get_put, Heap.n_put, List.drop_succ_cons, List.drop_zero, List.take_succ_cons, List.take_zero, Nat.add_zero, Nat.reduceLeDiff, Nat.reduceMul, Nat.le_refl, Int.reduceLT, Int.reduceLE, List.drop, List.take, Option.some.injEq, and_true, true_and, and_false, false_and, BEq.rfl, Heap.write, splice, IV.one, List.all_cons, List.all_nil, Bool.and_self, Bool.and_true, Bool.true_and, Nat.le_add_right, eqKs, eqK, Nat.reduceLT, Nat.add_sub_cancel, bne_self_eq_false, Bool.false_bne, Bool.bne_false, List.append, pairOk, Bool.or_true, Bool.true_or, Int.toNat_natCast, Option.isSome_some, List.getElem?_cons_zero, List.getElem?_cons_succ, F15o0, F15o1, F15o2, F15o3, F15b, F15, Ps.cells, e0, e1, e2, e3]
    exact hR _
  cases e4 : (p.d != q.d)
  · simp only [e0, e1, e2, e3, e4, Bool.true_and, Bool.false_eq_true, if_false] at hR
    simp only [W_skip, W_ret, W_exit, W_seq, W_block, W_ops, W_cond, W_segs_cons, W_segs_nil, freeI_s, freeI_f, W_op1, W_op, guardC_t, guardC_f, bb_tf, bb_ft, bb_tt, bb_ff, argC_a, goC_a, seqC_a, pairC_p, eq_self, Nat.left_eq_add, Nat.add_eq_left, Nat.reduceEqDiff, Int.reduceEq, Nat.add_left_cancel_iff, Nat.add_assoc, W_ops_nil, wantedI_n, wantedI_s, wantV_b, wantV_u, evalAll, IA.eval, optC_s, optC_n, nextOf, freeNext, fpOf, lowOf, opW, ev1, opC_a, Fr.put, List.set, List.getD_cons_zero, List.getD_cons_succ, thenC_n, thenC_j, segC_n, blkC_n, blkC_r, blkC_e, condC_t, condC_f, valC_v, W_apply, if_true, if_false, Option.map_some, Option.map_none, Option.bind_some, Option.bind_none, List.nil_append, List.append_nil, List.cons_append, undefs, List.length_cons, List.length_nil, Nat.reduceSub, Nat.reduceAdd, Nat.zero_add, retC_r, retC_n, leaveC_a, valsC_a, unmark, resultsOf, resultOf, tupled, binI, unI, beq_self_eq_true, Bool.false_eq_true, reduceIte, reduceCtorEq, Bool.not_true, Bool.not_false, Option.getD_some, Option.getD_none, mkAgg, IV.cells, Heap.read, Heap.get_new, Heap.n_new, Heap.get_put, Heap.n_put, List.drop_succ_cons, List.drop_zero, List.take_succ_cons, List.take_zero, Nat.add_zero, Nat.reduceLeDiff, Nat.reduceMul, Nat.le_refl, Int.reduceLT, Int.reduceLE, List.drop, List.take, Option.some.injEq, and_true, true_and, and_false, false_and, BEq.rfl, Heap.write, splice, IV.one, List.all_cons, List.all_nil, Bool.and_self, Bool.and_true, Bool.true_and, Nat.le_add_right, eqKs, eqK, Nat.reduceLT, Nat.add_sub_cancel, bne_self_eq_false, Bool.false_bne, Bool.bne_false, List.append, pairOk, Bool.or_true, Bool.true_or, Int.toNat_natCast, Option.isSome_some, List.getElem?_cons_zero, List.getElem?_cons_succ, F15o0, F15o1, F15o2, F15o3, F15b, F15, Ps.cells, e0, e1, e2, e3, e4]
    exact hR _
  · simp only [e0, e1, e2, e3, e4, Bool.true_and, if_true] at hR
    simp only [W_skip, W_ret, W_exit, W_seq, W_block, W_ops, W_cond, W_segs_cons, W_segs_nil, freeI_s, freeI_f, W_op1, W_op, guardC_t, guardC_f, bb_tf, bb_ft, bb_tt, bb_ff, argC_a, goC_a, seqC_a, pairC_p, eq_self, Nat.left_eq_add, Nat.add_eq_left, Nat.reduceEqDiff, Int.reduceEq, Nat.add_left_cancel_iff, Nat.add_assoc, W_ops_nil, wantedI_n, wantedI_s, wantV_b, wantV_u, evalAll, IA.eval, optC_s, optC_n, nextOf, freeNext, fpOf, lowOf, opW, ev1, opC_a, Fr.put, List.set, List.getD_cons_zero, List.getD_cons_succ, thenC_n, thenC_j, segC_n, blkC_n, blkC_r, blkC_e, condC_t, condC_f, valC_v, W_apply, if_true, if_false, Option.map_some, Option.map_none, Option.bind_some, Option.bind_none, List.nil_append, List.append_nil, List.cons_append, undefs, List.length_cons, List.length_nil, Nat.reduceSub, Nat.reduceAdd, Nat.zero_add, retC_r, retC_n, leaveC_a, valsC_a, unmark, resultsOf, resultOf, tupled, binI, unI, beq_self_eq_true, Bool.false_eq_true, reduceIte, reduceCtorEq, Bool.not_true, Bool.not_false, Option.getD_some, Option.getD_none, mkAgg, IV.cells, Heap.read, Heap.get_new, Heap.n_new, Heap.get_put, Heap.n_put, List.drop_succ_cons, List.drop_zero, List.take_succ_cons, List.take_zero, Nat.add_zero, Nat.reduceLeDiff, Nat.reduceMul, Nat.le_refl, Int.reduceLT, Int.reduceLE, List.drop, List.take, Option.some.injEq, and_true, true_and, and_false, false_and, BEq.rfl, Heap.write, splice, IV.one, List.all_cons, List.all_nil, Bool.and_self, Bool.and_true, Bool.true_and, Nat.le_add_right, eqKs, eqK, Nat.reduceLT, Nat.add_sub_cancel, bne_self_eq_false, Bool.false_bne, Bool.bne_false, List.append, pairOk, Bool.or_true, Bool.true_or, Int.toNat_natCast, Option.isSome_some, List.getElem?_cons_zero, List.getElem?_cons_succ, F15o0, F15o1, F15o2, F15o3, F15b, F15, Ps.cells, e0, e1, e2, e3, e4]
    exact hR _

theorem lc_cancel {p q : Ps} (hp : 0 ≤ p.d) (hq : 0 ≤ q.d) : lcB p q = cancelB p q := by
  rw [Bool.eq_iff_iff, cancelB_eq]
  simp only [lcB, Bool.and_eq_true, beq_iff_eq, decide_eq_true_eq, bne_iff_ne, ne_eq, sided_iff]
  constructor
  · rintro ⟨⟨a, b⟩, c, d, e, f⟩
    exact ⟨by omega, by omega, f, a, b, c⟩
  · rintro ⟨a, b, c, d, e, f⟩
    exact ⟨⟨d, e⟩, f, by omega, by omega, c⟩

end Go.Iso.GenA
end

section
namespace Go.Iso.GenA
open Go.Iso
set_option maxHeartbeats 8000000
set_option maxRecDepth 10000

theorem pushL_cut (A B : List Ps) {p q : Ps} (h : cancelB p q = true) : pushL [] (A ++ p :: q :: B) = pushL [] (A ++ B) := by
  rw [pushL_append, pushL_append]
  show pushL (push1 (push1 (pushL [] A) p) q) B = _
  rw [push1_back (red_pushL (S := []) trivial A) h]

theorem cut_at (L : List Ps) (i : Nat) (h : i + 1 < L.length) : L = L.take i ++ L[i] :: L[i + 1] :: L.drop (i + 2) := by
  rw [← List.drop_eq_getElem_cons (i := i + 1) h, ← List.drop_eq_getElem_cons (by omega), List.take_append_drop]

theorem red_take {L : List Ps} {i : Nat} (h : i + 1 < L.length) (hr : Red (L.take (i + 1))) (hc : cancelB L[i] L[i + 1] = false) : Red (L.take (i + 1 + 1)) := by
  rw [List.take_succ_eq_append_getElem h, red_snoc]
  refine ⟨hr, fun q hq => ?_⟩
  have : (L.take (i + 1)).getLast? = some L[i] := by
    rw [List.take_succ_eq_append_getElem (show i < L.length by omega)]
    exact List.getLast?_concat
  rw [this] at hq
  injection hq with hq
  rw [← hq]; exact hc

theorem slc_to {H : Heap} {b i : Nat} {L : List Ps} (hg : H.get b = some (.cells false 33 4 (flat L))) (hi : i ≤ L.length) (lo : Nat) : ev1 (.slc 4 false true false) [.slice b 0 L.length L.length false, .int .i64 i] lo H = some (.slice b 0 i L.length false, H) := by
  have h1 : (0 ≤ (i : Int) ∧ (i : Int) ≤ L.length) := by omega
  simp [ev1, ezAt, hg, boundsI, boundI, h1, hi]
theorem slc_from {H : Heap} {b i : Nat} {L : List Ps} (hg : H.get b = some (.cells false 33 4 (flat L))) (hi : i ≤ L.length) (lo : Nat) : ev1 (.slc 4 true false false) [.slice b 0 L.length L.length false, .int .i64 i] lo H = some (.slice b (i * 4) (L.length - i) (L.length - i) false, H) := by
  have h1 : (0 ≤ (i : Int) ∧ (i : Int) ≤ L.length) := by omega
  simp [ev1, ezAt, hg, boundsI, boundI, h1, hi]
theorem pl_to {H : Heap} {b i : Nat} {L : List Ps} (hb : b < H.n) (hg : H.get b = some (.cells false 33 4 (flat L))) (hi : i ≤ L.length) : PL H (.slice b 0 i L.length false) (L.take i) := by
  have hl : (L.take i).length = i := by rw [List.length_take]; omega
  have := PL.sl (H := H) b 0 L.length false (L.take i) (by omega) fun _ => ⟨hb, false, 33, 4, _, hg, by rw [hl, List.drop_zero, flat_take]⟩
  rwa [hl] at this
theorem pl_from {H : Heap} {b i : Nat} {L : List Ps} (hb : b < H.n) (hg : H.get b = some (.cells false 33 4 (flat L))) : PL H (.slice b (i * 4) (L.length - i) (L.length - i) false) (L.drop i) := by
  have hl : (L.drop i).length = L.length - i := List.length_drop
  have := PL.sl (H := H) b (i * 4) (L.length - i) false (L.drop i) (by omega) fun _ => ⟨hb, false, 33, 4, _, hg, by
    rw [Nat.mul_comm i 4, flat_drop, ← flat_length, List.take_length]⟩
  rwa [hl] at this

theorem app0_lo {H : Heap} {b lo lo' : Nat} {x : IV} : ev1 (.append 33 4 24) [.slice b 0 0 0 true, x] lo H = ev1 (.append 33 4 24) [.slice b 0 0 0 true, x] lo' H := by
  simp only [ev1]
  congr 1
  funext n
  congr 1
  funext xs
  unfold appendI
  by_cases h0 : n = 0
  · simp only [h0, if_true]
  · simp only [h0, if_false, Nat.zero_add, Nat.le_zero, if_true]

def NN (l : List Ps) : Prop := ∀ p, p ∈ l → 0 ≤ p.d

theorem expl41 (tm : List IV) (h : tm.length = 41) : tm = [tm.getD 0 IV.undef, tm.getD 1 IV.undef, tm.getD 2 IV.undef, tm.getD 3 IV.undef, tm.getD 4 IV.undef, tm.getD 5 IV.undef, tm.getD 6 IV.undef, tm.getD 7 IV.undef, tm.getD 8 IV.undef, tm.getD 9 IV.undef, tm.getD 10 IV.undef, tm.getD 11 IV.undef, tm.getD 12 IV.undef, tm.getD 13 IV.undef, tm.getD 14 IV.undef, tm.getD 15 IV.undef, tm.getD 16 IV.undef, tm.getD 17 IV.undef, tm.getD 18 IV.undef, tm.getD 19 IV.undef, tm.getD 20 IV.undef, tm.getD 21 IV.undef, tm.getD 22 IV.undef, tm.getD 23 IV.undef, tm.getD 24 IV.undef, tm.getD 25 IV.undef, tm.getD 26 IV.undef, tm.getD 27 IV.undef, tm.getD 28 IV.undef, tm.getD 29 IV.undef, tm.getD 30 IV.undef, tm.getD 31 IV.undef, tm.getD 32 IV.undef, tm.getD 33 IV.undef, tm.getD 34 IV.undef, tm.getD 35 IV.undef, tm.getD 36 IV.undef, tm.getD 37 IV.undef, tm.getD 38 IV.undef, tm.getD 39 IV.undef, tm.getD 40 IV.undef] := (expl tm 41 h).trans rfl

theorem rd_loop (lo : Nat) : ∀ (n : Nat) (k i : Nat) (L : List Ps) (s : IV) (base : Nat) (H : Heap) (tm : List IV), L.length = n → i + k = n → n ≤ 1000 → NN L → Red (L.take (i + 1)) → tm.length = 41 → lo ≤ base → App H base s L →
    tm.getD 3 IV.undef = s → tm.getD 4 IV.undef = .int .i64 i →
    ∀ Q : Out → Heap → Prop, (∀ H' tm' s' base', tm'.length = 41 → tm'.getD 3 IV.undef = s' → lo ≤ base' → App H' base' s' (pushL [] L) → H.n ≤ H'.n → Q (.ex (.jmp (.exit 0)) ⟨tm', []⟩) H') →
    W E0 lo (.code (.loop F12l8) none ⟨tm, []⟩) H Q := by
  intro n
  induction n using Nat.strongRecOn with
  | ind n ihn =>
  intro k
  induction k with
  | zero =>
    intro i L s base H tm hn hi hmax hd hr htm hlo hs h3 h4 Q hQ
    rw [List.take_of_length_le (by omega)] at hr
    rw [pushL_id hr] at hQ
    have e1 : decide (((i + 1 : Nat) : Int) < L.length) = false := by simp; omega
    have hw : IntKind.i64.wrap ((i : Int) + 1) = ((i + 1 : Nat) : Int) := IntWalk.i64_in _ (by omega)
    rw [W_loop, expl41 tm htm, h3, h4]
    simp only [W_skip, W_ret, W_exit, W_seq, W_block, W_ops, W_cond, W_segs_cons, W_segs_nil, freeI_s, freeI_f, W_op1, W_op, guardC_t, guardC_f, bb_tf, bb_ft, bb_tt, bb_ff, argC_a, goC_a, seqC_a, pairC_p, eq_self, Nat.left_eq_add, Nat.add_eq_left, Nat.reduceEqDiff, Int.reduceEq, Nat.add_left_cancel_iff, Nat.add_assoc, W_ops_nil, wantedI_n, wantedI_s, wantV_b, wantV_u, evalAll, IA.eval, optC_s, optC_n, nextOf, freeNext, fpOf, lowOf, opW, ev1, opC_a, Fr.put, List.set, List.getD_cons_zero, List.getD_cons_succ, thenC_n, thenC_j, segC_n, blkC_n, blkC_r, blkC_e, condC_t, condC_f, valC_v, W_apply, if_true, if_false, Option.map_some, Option.map_none, Option.bind_some, Option.bind_none, List.nil_append, List.append_nil, List.cons_append, undefs, List.length_cons, List.length_nil, Nat.reduceSub, Nat.reduceAdd, Nat.zero_add, retC_r, retC_n, leaveC_a, valsC_a, unmark, resultsOf, resultOf, tupled, binI, unI, beq_self_eq_true, Bool.false_eq_true, reduceIte, reduceCtorEq, Bool.not_true, Bool.not_false, Option.getD_some, Option.getD_none, mkAgg, IV.cells, Heap.read, Heap.get_new, Heap.n_new, Heap.get_put, Heap.n_put, List.drop_succ_cons, List.drop_zero, List.take_succ_cons, List.take_zero, Nat.add_zero, Nat.reduceLeDiff, Nat.reduceMul, Nat.le_refl, Int.reduceLT, Int.reduceLE, List.drop, List.take, Option.some.injEq, and_true, true_and, and_false, false_and, BEq.rfl, Heap.write, splice, IV.one, List.all_cons, List.all_nil, Bool.and_self, Bool.and_true, Bool.true_and, Nat.le_add_right, eqKs, eqK, Nat.reduceLT, Nat.add_sub_cancel, bne_self_eq_false, Bool.false_bne, Bool.bne_false, List.append, pairOk, Bool.or_true, Bool.true_or, Int.toNat_natCast, Option.isSome_some, List.getElem?_cons_zero, List.getElem?_cons_succ, F12o0, F12o1, F12o2, F12o3, F12o4, F12o5, F12o6, F12o7, F12l8, F12o9, F12b, F12, ↓hs.pl.len, e1, hw]
    exact hQ _ _ s base rfl rfl hlo hs (Nat.le_refl _)
  | succ k ih =>
    intro i L s base H tm hn hi hmax hd hr htm hlo hs h3 h4 Q hQ
    have hw : IntKind.i64.wrap ((i : Int) + 1) = ((i + 1 : Nat) : Int) := IntWalk.i64_in _ (by omega)
    by_cases hil : i + 1 < L.length
    · have hs0 := hs
      have hlen := hs.pl.len
      obtain ⟨b, hb1, hb2, ⟨rfl, rfl⟩ | ⟨rfl, hg⟩⟩ := hs
      · simp at hil
      have e1 : decide (((i + 1 : Nat) : Int) < L.length) = true := by simp; omega
      have e2 : (0 ≤ (i : Int) ∧ (i : Int) < L.length) = True := by simp; omega
      have e3 : (0 ≤ ((i + 1 : Nat) : Int) ∧ ((i + 1 : Nat) : Int) < L.length) = True := by simp; omega
      have hfl := flat_length L
      have e4 : (i * 4 + 4 ≤ (flat L).length) = True := by simp; omega
      have e5 : ((i + 1) * 4 + 4 ≤ (flat L).length) = True := by simp; omega
      have hp := flat_at L i (by omega)
      have hq := flat_at L (i + 1) hil
      rw [W_loop, expl41 tm htm, h3, h4]
      simp only [W_skip, W_ret, W_exit, W_seq, W_block, W_ops, W_cond, W_segs_cons, W_segs_nil, freeI_s, freeI_f, W_op1, W_op, guardC_t, guardC_f, bb_tf, bb_ft, bb_tt, bb_ff, argC_a, goC_a, seqC_a, pairC_p, eq_self, Nat.left_eq_add, Nat.add_eq_left, Nat.reduceEqDiff, Int.reduceEq, Nat.add_left_cancel_iff, Nat.add_assoc, W_ops_nil, wantedI_n, wantedI_s, wantV_b, wantV_u, evalAll, IA.eval, optC_s, optC_n, nextOf, freeNext, fpOf, lowOf, opW, ev1, opC_a, Fr.put, List.set, List.getD_cons_zero, List.getD_cons_succ, thenC_n, thenC_j, segC_n, blkC_n, blkC_r, blkC_e, condC_t, condC_f, valC_v, W_apply, if_true, if_false, Option.map_some, Option.map_none, Option.bind_some, Option.bind_none, List.nil_append, List.append_nil, List.cons_append, undefs, List.length_cons, List.length_nil, Nat.reduceSub, Nat.reduceAdd, Nat.zero_add, retC_r, retC_n, leaveC_a, valsC_a, unmark, resultsOf, resultOf, tupled, binI, unI, beq_self_eq_true, Bool.false_eq_true, reduceIte, reduceCtorEq, Bool.not_true, Bool.not_false, Option.getD_some, Option.getD_none, mkAgg, IV.cells, Heap.read, Heap.get_new, Heap.n_new, Heap.get_put, Heap.n_put, List.drop_succ_cons, List.drop_zero, List.take_succ_cons, List.take_zero, Nat.add_zero, Nat.reduceLeDiff, Nat.reduceMul, Nat.le_refl, Int.reduceLT, Int.reduceLE, List.drop, List.take, Option.some.injEq, and_true, true_and, and_false, false_and, BEq.rfl, Heap.write, splice, IV.one, List.all_cons, List.all_nil, Bool.and_self, Bool.and_true, Bool.true_and, Nat.le_add_right, eqKs, eqK, Nat.reduceLT, Nat.add_sub_cancel, bne_self_eq_false, Bool.false_bne, Bool.bne_false, List.append, pairOk, Bool.or_true, Bool.true_or, Int.toNat_natCast, Option.isSome_some, List.getElem?_cons_zero, List.getElem?_cons_succ, F12o0, F12o1, F12o2, F12o3, F12o4, F12o5, F12o6, F12o7, F12l8, F12o9, F12b, F12, ↓hlen, e1, e2, e3, e4, e5, hw, hg, hp, hq, Ps.cells]
      refine lc_sp (L[i]'(by omega)) L[i + 1] (fun H1 k1 => ?_) (by omega)
      rw [lc_cancel (hd _ (List.getElem_mem _)) (hd _ (List.getElem_mem _))]
      have o1 : ((1 : Int) == 0) = false := by decide
      have o0 : ((0 : Int) == 0) = true := by decide
      cases ec : cancelB (L[i]'(by omega)) L[i + 1]
      · simp only [W_skip, W_ret, W_exit, W_seq, W_block, W_ops, W_cond, W_segs_cons, W_segs_nil, freeI_s, freeI_f, W_op1, W_op, guardC_t, guardC_f, bb_tf, bb_ft, bb_tt, bb_ff, argC_a, goC_a, seqC_a, pairC_p, eq_self, Nat.left_eq_add, Nat.add_eq_left, Nat.reduceEqDiff, Int.reduceEq, Nat.add_left_cancel_iff, Nat.add_assoc, W_ops_nil, wantedI_n, wantedI_s, wantV_b, wantV_u, evalAll, IA.eval, optC_s, optC_n, nextOf, freeNext, fpOf, lowOf, opW, ev1, opC_a, Fr.put, List.set, List.getD_cons_zero, List.getD_cons_succ, thenC_n, thenC_j, segC_n, blkC_n, blkC_r, blkC_e, condC_t, condC_f, valC_v, W_apply, if_true, if_false, Option.map_some, Option.map_none, Option.bind_some, Option.bind_none, List.nil_append, List.append_nil, List.cons_append, undefs, List.length_cons, List.length_nil, Nat.reduceSub, Nat.reduceAdd, Nat.zero_add, retC_r, retC_n, leaveC_a, valsC_a, unmark, resultsOf, resultOf, tupled, binI, unI, beq_self_eq_true, Bool.false_eq_true, reduceIte, reduceCtorEq, Bool.not_true, Bool.not_false, Option.getD_some, Option.getD_none, mkAgg, IV.cells, Heap.read, Heap.get_new, Heap.n_new, Heap.get_put, Heap.n_put, List.drop_succ_cons, List.drop_zero, List.take_succ_cons, List.take_zero, Nat.add_zero, Nat.reduceLeDiff, Nat.reduceMul, Nat.le_refl, Int.reduceLT, Int.reduceLE, List.drop, List.take, Option.some.injEq, and_true, true_and, and_false, false_and, BEq.rfl, Heap.write, splice, IV.one, List.all_cons, List.all_nil, Bool.and_self, Bool.and_true, Bool.true_and, Nat.le_add_right, eqKs, eqK, Nat.reduceLT, Nat.add_sub_cancel, bne_self_eq_false, Bool.false_bne, Bool.bne_false, List.append, pairOk, Bool.or_true, Bool.true_or, Int.toNat_natCast, Option.isSome_some, List.getElem?_cons_zero, List.getElem?_cons_succ, F12o0, F12o1, F12o2, F12o3, F12o4, F12o5, F12o6, F12o7, F12l8, F12o9, F12b, F12, o0, hw]
        exact ih (i + 1) L _ base H1 _ hn (by omega) hmax hd (red_take hil hr ec) rfl hlo (hs0.keep k1) rfl rfl Q fun H' tm' s' base' a1 a2 a3 a4 a5 => hQ H' tm' s' base' a1 a2 a3 a4 (Nat.le_trans k1.1 a5)
      · have hw2 : IntKind.i64.wrap ((i : Int) + 2) = ((i + 2 : Nat) : Int) := IntWalk.i64_in _ (by omega)
        have hn1 := k1.1
        have g1 : (H1.new (.cells false 33 4 [])).get b = some (.cells false 33 4 (flat L)) := by
          rw [Heap.get_new, if_neg (by omega)]; exact (k1.2 b hb2 hb2).trans hg
        have s1 := slc_to g1 (show i ≤ L.length by omega)
        have p1 := pl_to (i := i) (by rw [Heap.n_new]; omega) g1 (by omega)
        obtain ⟨x1, H2, ev1', hs1, k2⟩ := app_sp (H := H1.new (.cells false 33 4 [])) (lo := lo) (base := H1.n) (s := .slice H1.n 0 0 0 true) (L := []) ⟨H1.n, Nat.le_refl _, by rw [Heap.n_new]; omega, .inl ⟨rfl, rfl⟩⟩ (by omega) p1 (by rw [List.length_take]; simp; omega)
        have hn2 := k2.1
        rw [Heap.n_new] at hn2
        have g2 : H2.get b = some (.cells false 33 4 (flat L)) := (k2.2 b (by omega) (by rw [Heap.n_new]; omega)).trans g1
        have s2 := slc_from g2 (show i + 2 ≤ L.length by omega)
        have p2 := pl_from (i := i + 2) (by omega) g2
        obtain ⟨x2, H3, ev2', hs2, k3⟩ := app_sp (lo := lo) hs1 (by omega) p2 (by rw [List.length_append, List.length_take, List.length_drop]; simp; omega)
        have hn3 := k3.1
        have ev3' := fun lo' => (app0_lo (lo := lo') (lo' := lo)).trans ev1'
        clear ev1'
        simp only [W_skip, W_ret, W_exit, W_seq, W_block, W_ops, W_cond, W_segs_cons, W_segs_nil, freeI_s, freeI_f, W_op1, W_op, guardC_t, guardC_f, bb_tf, bb_ft, bb_tt, bb_ff, argC_a, goC_a, seqC_a, pairC_p, eq_self, Nat.left_eq_add, Nat.add_eq_left, Nat.reduceEqDiff, Int.reduceEq, Nat.add_left_cancel_iff, Nat.add_assoc, W_ops_nil, wantedI_n, wantedI_s, wantV_b, wantV_u, evalAll, IA.eval, optC_s, optC_n, nextOf, freeNext, fpOf, lowOf, opW, ev1, opC_a, Fr.put, List.set, List.getD_cons_zero, List.getD_cons_succ, thenC_n, thenC_j, segC_n, blkC_n, blkC_r, blkC_e, condC_t, condC_f, valC_v, W_apply, if_true, if_false, Option.map_some, Option.map_none, Option.bind_some, Option.bind_none, List.nil_append, List.append_nil, List.cons_append, undefs, List.length_cons, List.length_nil, Nat.reduceSub, Nat.reduceAdd, Nat.zero_add, retC_r, retC_n, leaveC_a, valsC_a, unmark, resultsOf, resultOf, tupled, binI, unI, beq_self_eq_true, Bool.false_eq_true, reduceIte, reduceCtorEq, Bool.not_true, Bool.not_false, Option.getD_some, Option.getD_none, mkAgg, IV.cells, Heap.read, Heap.get_new, Heap.n_new, Heap.get_put, Heap.n_put, List.drop_succ_cons, List.drop_zero, List.take_succ_cons, List.take_zero, Nat.add_zero, Nat.reduceLeDiff, Nat.reduceMul, Nat.le_refl, Int.reduceLT, Int.reduceLE, List.drop, List.take, Option.some.injEq, and_true, true_and, and_false, false_and, BEq.rfl, Heap.write, splice, IV.one, List.all_cons, List.all_nil, Bool.and_self, Bool.and_true, Bool.true_and, Nat.le_add_right, eqKs, eqK, Nat.reduceLT, Nat.add_sub_cancel, bne_self_eq_false, Bool.false_bne, Bool.bne_false, List.append, pairOk, Bool.or_true, Bool.true_or, Int.toNat_natCast, Option.isSome_some, List.getElem?_cons_zero, List.getElem?_cons_succ, F12o0, F12o1, F12o2, F12o3, F12o4, F12o5, F12o6, F12o7, F12l8, F12o9, F12b, F12, o1, hw, hw2, fillI, ↓s1, ↓s2, ↓ev3', ↓ev2']
        rw [List.nil_append] at hs2
        have hcut := cut_at L i hil
        have hlen' : (L.take i ++ L.drop (i + 2)).length = n - 2 := by rw [List.length_append, List.length_take, List.length_drop]; omega
        have hpush : pushL [] L = pushL [] (L.take i ++ L.drop (i + 2)) := by
          rw [← pushL_cut _ _ ec, ← hcut]
        rw [hpush] at hQ
        refine ihn (n - 2) (by omega) (n - 2) 0 _ x2 H1.n H3 _ hlen' (by omega) (by omega) (fun p hp => ?_) ?_ rfl (by omega) hs2 rfl rfl Q fun H' tm' s' base' a1 a2 a3 a4 a5 => hQ H' tm' s' base' a1 a2 a3 a4 (by omega)
        · rcases List.mem_append.1 hp with hp | hp
          · exact hd p (List.mem_of_mem_take hp)
          · exact hd p (List.mem_of_mem_drop hp)
        · cases L.take i ++ L.drop (i + 2) with
          | nil => trivial
          | cons a t => simp [Red]
    · have e1 : decide (((i + 1 : Nat) : Int) < L.length) = false := by simp; omega
      rw [List.take_of_length_le (by omega)] at hr
      rw [pushL_id hr] at hQ
      rw [W_loop, expl41 tm htm, h3, h4]
      simp only [W_skip, W_ret, W_exit, W_seq, W_block, W_ops, W_cond, W_segs_cons, W_segs_nil, freeI_s, freeI_f, W_op1, W_op, guardC_t, guardC_f, bb_tf, bb_ft, bb_tt, bb_ff, argC_a, goC_a, seqC_a, pairC_p, eq_self, Nat.left_eq_add, Nat.add_eq_left, Nat.reduceEqDiff, Int.reduceEq, Nat.add_left_cancel_iff, Nat.add_assoc, W_ops_nil, wantedI_n, wantedI_s, wantV_b, wantV_u, evalAll, IA.eval, optC_s, optC_n, nextOf, freeNext, fpOf, lowOf, opW, ev1, opC_a, Fr.put, List.set, List.getD_cons_zero, List.getD_cons_succ, thenC_n, thenC_j, segC_n, blkC_n, blkC_r, blkC_e, condC_t, condC_f, valC_v, W_apply, if_true, if_false, Option.map_some, Option.map_none, Option.bind_some, Option.bind_none, List.nil_append, List.append_nil, List.cons_append, undefs, List.length_cons, List.length_nil, Nat.reduceSub, Nat.reduceAdd, Nat.zero_add, retC_r, retC_n, leaveC_a, valsC_a, unmark, resultsOf, resultOf, tupled, binI, unI, beq_self_eq_true, Bool.false_eq_true, reduceIte, reduceCtorEq, Bool.not_true, Bool.not_false, Option.getD_some, Option.getD_none, mkAgg, IV.cells, Heap.read, Heap.get_new, Heap.n_new, Heap.get_put, Heap.n_put, List.drop_succ_cons, List.drop_zero, List.take_succ_cons, List.take_zero, Nat.add_zero, Nat.reduceLeDiff, Nat.reduceMul, Nat.le_refl, Int.reduceLT, Int.reduceLE, List.drop, List.take, Option.some.injEq, and_true, true_and, and_false, false_and, BEq.rfl, Heap.write, splice, IV.one, List.all_cons, List.all_nil, Bool.and_self, Bool.and_true, Bool.true_and, Nat.le_add_right, eqKs, eqK, Nat.reduceLT, Nat.add_sub_cancel, bne_self_eq_false, Bool.false_bne, Bool.bne_false, List.append, pairOk, Bool.or_true, Bool.true_or, Int.toNat_natCast, Option.isSome_some, List.getElem?_cons_zero, List.getElem?_cons_succ, F12o0, F12o1, F12o2, F12o3, F12o4, F12o5, F12o6, F12o7, F12l8, F12o9, F12b, F12, ↓hs.pl.len, e1, hw]
      exact hQ _ _ s base rfl rfl hlo hs (Nat.le_refl _)
end Go.Iso.GenA
end

section
namespace Go.Iso.GenA
open Go.Iso
set_option maxHeartbeats 8000000
set_option maxRecDepth 10000

theorem nn_push1 {S : List Ps} (h : NN S) {p : Ps} (hp : 0 ≤ p.d) : NN (push1 S p) := by
  intro x hx
  unfold push1 at hx
  have app : x ∈ S ++ [p] → 0 ≤ x.d := fun hx => by
    rcases List.mem_append.1 hx with hx | hx
    · exact h x hx
    · have : x = p := by simpa using hx
      subst this; exact hp
  split at hx
  · exact app hx
  · split at hx
    · exact h x ((List.dropLast_subset S) hx)
    · exact app hx
theorem nn_pushL : ∀ (l S : List Ps), NN S → NN l → NN (pushL S l) := by
  intro l
  induction l with
  | nil => intro S h _; exact h
  | cons p l ih => intro S h hl; exact ih (push1 S p) (nn_push1 h (hl p (by simp))) (fun x hx => hl x (by simp [hx]))
theorem push1_len (S : List Ps) (p : Ps) : (push1 S p).length ≤ S.length + 1 := by
  unfold push1
  split
  · simp
  · split
    · rw [List.length_dropLast]; omega
    · simp
theorem pushL_len : ∀ (l S : List Ps), (pushL S l).length ≤ S.length + l.length := by
  intro l
  induction l with
  | nil => intro S; exact Nat.le_refl _
  | cons p l ih => intro S; have := ih (push1 S p); have := push1_len S p; simp only [pushL, List.foldl, List.length_cons] at *; omega

theorem reduced_sp {v : IV} {L : List Ps} {H : Heap} {lo : Nat} {Q : Out → Heap → Prop} (hv : PL H v L) (hL : L.length ≤ 1000) (hd : NN L) (hlo : lo ≤ H.n)
    (h : ∀ H' b, Keep H.n H H' → H.n ≤ b → Own H' b (pushL [] L).length (pushL [] L) → Q (.val (.slice b 0 (pushL [] L).length (pushL [] L).length true)) H') : W E0 lo (.call 12 [v]) H Q := by
  refine W.pure plain hlo ?_
  rw [c12]
  have hs0 : App (H.new (.cells false 33 4 [])) H.n (.slice H.n 0 0 0 true) [] := ⟨H.n, Nat.le_refl _, by rw [Heap.n_new]; omega, .inl ⟨rfl, rfl⟩⟩
  obtain ⟨x1, H1, ev1', hs1, k1⟩ := app_sp (lo := H.n) hs0 (Nat.le_refl _) (hv.keep (Keep.new _ _)) (by simp; omega)
  simp only [W_skip, W_ret, W_exit, W_seq, W_block, W_ops, W_cond, W_segs_cons, W_segs_nil, freeI_s, freeI_f, W_op1, W_op, guardC_t, guardC_f, bb_tf, bb_ft, bb_tt, bb_ff, argC_a, goC_a, seqC_a, pairC_p, eq_self, Nat.left_eq_add, Nat.add_eq_left, Nat.reduceEqDiff, Int.reduceEq, Nat.add_left_cancel_iff, Nat.add_assoc, W_ops_nil, wantedI_n, wantedI_s, wantV_b, wantV_u, evalAll, IA.eval, optC_s, optC_n, nextOf, freeNext, fpOf, lowOf, opW, ev1, opC_a, Fr.put, List.set, List.getD_cons_zero, List.getD_cons_succ, thenC_n, thenC_j, segC_n, blkC_n, blkC_r, blkC_e, condC_t, condC_f, valC_v, W_apply, if_true, if_false, Option.map_some, Option.map_none, Option.bind_some, Option.bind_none, List.nil_append, List.append_nil, List.cons_append, undefs, List.length_cons, List.length_nil, Nat.reduceSub, Nat.reduceAdd, Nat.zero_add, retC_r, retC_n, leaveC_a, valsC_a, unmark, resultsOf, resultOf, tupled, binI, unI, beq_self_eq_true, Bool.false_eq_true, reduceIte, reduceCtorEq, Bool.not_true, Bool.not_false, Option.getD_some, Option.getD_none, mkAgg, IV.cells, Heap.read, Heap.get_new, Heap.n_new, Heap.get_put, Heap.n_put, List.drop_succ_cons, List.drop_zero, List.take_succ_cons, List.take_zero, Nat.add_zero, Nat.reduceLeDiff, Nat.reduceMul, Nat.le_refl, Int.reduceLT, Int.reduceLE, List.drop, List.take, Option.some.injEq, and_true, true_and, and_false, false_and, BEq.rfl, Heap.write, splice, IV.one, List.all_cons, List.all_nil, Bool.and_self, Bool.and_true, Bool.true_and, Nat.le_add_right, eqKs, eqK, Nat.reduceLT, Nat.add_sub_cancel, bne_self_eq_false, Bool.false_bne, Bool.bne_false, List.append, pairOk, Bool.or_true, Bool.true_or, Int.toNat_natCast, Option.isSome_some, List.getElem?_cons_zero, List.getElem?_cons_succ, F12o0, F12o1, F12o2, F12o3, F12o4, F12o5, F12o6, F12o7, F12o9, F12b, F12, fillI, ↓ev1']
  rw [List.nil_append] at hs1
  have hn1 := k1.1
  rw [Heap.n_new] at hn1
  refine rd_loop H.n L.length L.length 0 L x1 H.n H1 _ rfl (by omega) hL hd ?_ rfl (Nat.le_refl _) hs1 rfl rfl _ fun H2 tm2 s2 base2 t0 t3 hb2 hs2 hn2 => ?_
  · cases L with
    | nil => trivial
    | cons a t => simp [Red]
  have hpl := pushL_len L []
  simp only [List.length_nil, Nat.zero_add] at hpl
  generalize pushL [] L = R at *
  rw [expl41 tm2 t0, t3]
  have e1 : (0 ≤ (R.length : Int) ∧ (R.length : Int) * (((24 : Nat) : Int) + 1) ≤ 2 ^ 40) = True := by simp; omega
  have hrl : (rep R.length [IV.int .u8 0, .int .i64 0, .bool false, .int .u8 0]).length = R.length * 4 := rep_length _ _
  have ho : Own (H2.new (.cells false 33 4 (rep R.length [.int .u8 0, .int .i64 0, .bool false, .int .u8 0]))) H2.n R.length [] := ⟨Nat.zero_le _, by rw [Heap.n_new]; omega, _, by rw [Heap.get_new, if_pos rfl], by rw [hrl]; omega, rfl⟩
  obtain ⟨H4, ev4, hown4, kb4⟩ := own_append (lo := H.n) ho (by omega) (hs2.pl.keep (Keep.new _ _)) (by simp)
  rw [List.nil_append, List.length_nil] at ev4
  rw [List.nil_append] at hown4
  simp only [W_skip, W_ret, W_exit, W_seq, W_block, W_ops, W_cond, W_segs_cons, W_segs_nil, freeI_s, freeI_f, W_op1, W_op, guardC_t, guardC_f, bb_tf, bb_ft, bb_tt, bb_ff, argC_a, goC_a, seqC_a, pairC_p, eq_self, Nat.left_eq_add, Nat.add_eq_left, Nat.reduceEqDiff, Int.reduceEq, Nat.add_left_cancel_iff, Nat.add_assoc, W_ops_nil, wantedI_n, wantedI_s, wantV_b, wantV_u, evalAll, IA.eval, optC_s, optC_n, nextOf, freeNext, fpOf, lowOf, opW, ev1, opC_a, Fr.put, List.set, List.getD_cons_zero, List.getD_cons_succ, thenC_n, thenC_j, segC_n, blkC_n, blkC_r, blkC_e, condC_t, condC_f, valC_v, W_apply, if_true, if_false, Option.map_some, Option.map_none, Option.bind_some, Option.bind_none, List.nil_append, List.append_nil, List.cons_append, undefs, List.length_cons, List.length_nil, Nat.reduceSub, Nat.reduceAdd, Nat.zero_add, retC_r, retC_n, leaveC_a, valsC_a, unmark, resultsOf, resultOf, tupled, binI, unI, beq_self_eq_true, Bool.false_eq_true, reduceIte, reduceCtorEq, Bool.not_true, Bool.not_false, Option.getD_some, Option.getD_none, mkAgg, IV.cells, Heap.read, Heap.get_new, Heap.n_new, Heap.get_put, Heap.n_put, List.drop_succ_cons, List.drop_zero, List.take_succ_cons, List.take_zero, Nat.add_zero, Nat.reduceLeDiff, Nat.reduceMul, Nat.le_refl, Int.reduceLT, Int.reduceLE, List.drop, List.take, Option.some.injEq, and_true, true_and, and_false, false_and, BEq.rfl, Heap.write, splice, IV.one, List.all_cons, List.all_nil, Bool.and_self, Bool.and_true, Bool.true_and, Nat.le_add_right, eqKs, eqK, Nat.reduceLT, Nat.add_sub_cancel, bne_self_eq_false, Bool.false_bne, Bool.bne_false, List.append, pairOk, Bool.or_true, Bool.true_or, Int.toNat_natCast, Option.isSome_some, List.getElem?_cons_zero, List.getElem?_cons_succ, F12o0, F12o1, F12o2, F12o3, F12o4, F12o5, F12o6, F12o7, F12o9, F12b, F12, ↓hs2.pl.len, e1, Int.toNat_zero, ↓ev4]
  exact fun hk => h _ _ hk (by omega) hown4

theorem red_drop {L : List Ps} {i : Nat} (h : i + 1 < L.length) (hr : Red (L.drop (i + 1))) (hc : cancelB (L[i]'(by omega)) L[i + 1] = false) : Red (L.drop i) := by
  rw [List.drop_eq_getElem_cons (show i < L.length by omega)]
  rw [List.drop_eq_getElem_cons h] at hr ⊢
  exact ⟨hc, hr⟩

theorem expl40 (tm : List IV) (h : tm.length = 40) : tm = [tm.getD 0 IV.undef, tm.getD 1 IV.undef, tm.getD 2 IV.undef, tm.getD 3 IV.undef, tm.getD 4 IV.undef, tm.getD 5 IV.undef, tm.getD 6 IV.undef, tm.getD 7 IV.undef, tm.getD 8 IV.undef, tm.getD 9 IV.undef, tm.getD 10 IV.undef, tm.getD 11 IV.undef, tm.getD 12 IV.undef, tm.getD 13 IV.undef, tm.getD 14 IV.undef, tm.getD 15 IV.undef, tm.getD 16 IV.undef, tm.getD 17 IV.undef, tm.getD 18 IV.undef, tm.getD 19 IV.undef, tm.getD 20 IV.undef, tm.getD 21 IV.undef, tm.getD 22 IV.undef, tm.getD 23 IV.undef, tm.getD 24 IV.undef, tm.getD 25 IV.undef, tm.getD 26 IV.undef, tm.getD 27 IV.undef, tm.getD 28 IV.undef, tm.getD 29 IV.undef, tm.getD 30 IV.undef, tm.getD 31 IV.undef, tm.getD 32 IV.undef, tm.getD 33 IV.undef, tm.getD 34 IV.undef, tm.getD 35 IV.undef, tm.getD 36 IV.undef, tm.getD 37 IV.undef, tm.getD 38 IV.undef, tm.getD 39 IV.undef] := (expl tm 40 h).trans rfl

/-- j is what is left of the way down, one more than the place. -/
theorem bw_loop (lo : Nat) : ∀ (n : Nat) (j : Nat) (L : List Ps) (s : IV) (base : Nat) (H : Heap) (tm : List IV), L.length = n → (j = 0 ∨ j + 1 ≤ n) → n ≤ 1000 → NN L → Red (L.drop j) → tm.length = 40 → lo ≤ base → App H base s L →
    tm.getD 3 IV.undef = s → (tm.getD 4 IV.undef = .int .i64 ((j : Int) - 1) ∨ j = 0 ∧ ∃ x : Int, x < 0 ∧ tm.getD 4 IV.undef = .int .i64 x) →
    ∀ Q : Out → Heap → Prop, (∀ H' tm' s' base', tm'.length = 40 → tm'.getD 3 IV.undef = s' → lo ≤ base' → App H' base' s' (pushL [] L) → H.n ≤ H'.n → Q (.ex (.jmp (.exit 0)) ⟨tm', []⟩) H') →
    W E0 lo (.code (.loop F14l8) none ⟨tm, []⟩) H Q := by
  intro n
  induction n using Nat.strongRecOn with
  | ind n ihn =>
  intro j
  induction j with
  | zero =>
    intro L s base H tm hn hj hmax hd hr htm hlo hs h3 h4 Q hQ
    rw [List.drop_zero] at hr
    rw [pushL_id hr] at hQ
    obtain ⟨x, hx, h4⟩ : ∃ x : Int, x < 0 ∧ tm.getD 4 IV.undef = .int .i64 x := by
      rcases h4 with h4 | h4
      · exact ⟨_, by omega, h4⟩
      · exact h4.2
    have e1 : decide (x ≥ 0) = false := by simp; omega
    rw [W_loop, expl40 tm htm, h3, h4]
    simp only [W_skip, W_ret, W_exit, W_seq, W_block, W_ops, W_cond, W_segs_cons, W_segs_nil, freeI_s, freeI_f, W_op1, W_op, guardC_t, guardC_f, bb_tf, bb_ft, bb_tt, bb_ff, argC_a, goC_a, seqC_a, pairC_p, eq_self, Nat.left_eq_add, Nat.add_eq_left, Nat.reduceEqDiff, Int.reduceEq, Nat.add_left_cancel_iff, Nat.add_assoc, W_ops_nil, wantedI_n, wantedI_s, wantV_b, wantV_u, evalAll, IA.eval, optC_s, optC_n, nextOf, freeNext, fpOf, lowOf, opW, ev1, opC_a, Fr.put, List.set, List.getD_cons_zero, List.getD_cons_succ, thenC_n, thenC_j, segC_n, blkC_n, blkC_r, blkC_e, condC_t, condC_f, valC_v, W_apply, if_true, if_false, Option.map_some, Option.map_none, Option.bind_some, Option.bind_none, List.nil_append, List.append_nil, List.cons_append, undefs, List.length_cons, List.length_nil, Nat.reduceSub, Nat.reduceAdd, Nat.zero_add, retC_r, retC_n, leaveC_a, valsC_a, unmark, resultsOf, resultOf, tupled, binI, unI, beq_self_eq_true, Bool.false_eq_true, reduceIte, reduceCtorEq, Bool.not_true, Bool.not_false, Option.getD_some, Option.getD_none, mkAgg, IV.cells, Heap.read, Heap.get_new, Heap.n_new, Heap.get_put, Heap.n_put, List.drop_succ_cons, List.drop_zero, List.take_succ_cons, List.take_zero, Nat.add_zero, Nat.reduceLeDiff, Nat.reduceMul, Nat.le_refl, Int.reduceLT, Int.reduceLE, List.drop, List.take, Option.some.injEq, and_true, true_and, and_false, false_and, BEq.rfl, Heap.write, splice, IV.one, List.all_cons, List.all_nil, Bool.and_self, Bool.and_true, Bool.true_and, Nat.le_add_right, eqKs, eqK, Nat.reduceLT, Nat.add_sub_cancel, bne_self_eq_false, Bool.false_bne, Bool.bne_false, List.append, pairOk, Bool.or_true, Bool.true_or, Int.toNat_natCast, Option.isSome_some, List.getElem?_cons_zero, List.getElem?_cons_succ, F14o0, F14o1, F14o2, F14o3, F14o4, F14o5, F14o6, F14o7, F14l8, F14o9, F14b, F14, e1]
    exact hQ _ _ s base rfl rfl hlo hs (Nat.le_refl _)
  | succ i ih =>
    intro L s base H tm hn hj hmax hd hr htm hlo hs h3 h4 Q hQ
    have h4 : tm.getD 4 IV.undef = .int .i64 (i : Int) := by
      rcases h4 with h4 | h4
      · rw [h4]; congr 1; omega
      · omega
    have hw : IntKind.i64.wrap ((i : Int) + 1) = ((i + 1 : Nat) : Int) := IntWalk.i64_in _ (by omega)
    have hwm : IntKind.i64.wrap ((i : Int) - 1) = (i : Int) - 1 := IntWalk.i64_in _ (by omega)
    have hil : i + 1 < L.length := by omega
    have hs0 := hs
    have hlen := hs.pl.len
    obtain ⟨b, hb1, hb2, ⟨rfl, rfl⟩ | ⟨rfl, hg⟩⟩ := hs
    · simp at hil
    have e1 : decide ((i : Int) ≥ 0) = true := by simp
    have e2 : (0 ≤ (i : Int) ∧ (i : Int) < L.length) = True := by simp; omega
    have e3 : (0 ≤ ((i + 1 : Nat) : Int) ∧ ((i + 1 : Nat) : Int) < L.length) = True := by simp; omega
    have hfl := flat_length L
    have e4 : (i * 4 + 4 ≤ (flat L).length) = True := by simp; omega
    have e5 : ((i + 1) * 4 + 4 ≤ (flat L).length) = True := by simp; omega
    have hp := flat_at L i (by omega)
    have hq := flat_at L (i + 1) hil
    rw [W_loop, expl40 tm htm, h3, h4]
    simp only [W_skip, W_ret, W_exit, W_seq, W_block, W_ops, W_cond, W_segs_cons, W_segs_nil, freeI_s, freeI_f, W_op1, W_op, guardC_t, guardC_f, bb_tf, bb_ft, bb_tt, bb_ff, argC_a, goC_a, seqC_a, pairC_p, eq_self, Nat.left_eq_add, Nat.add_eq_left, Nat.reduceEqDiff, Int.reduceEq, Nat.add_left_cancel_iff, Nat.add_assoc, W_ops_nil, wantedI_n, wantedI_s, wantV_b, wantV_u, evalAll, IA.eval, optC_s, optC_n, nextOf, freeNext, fpOf, lowOf, opW, ev1, opC_a, Fr.put, List.set, List.getD_cons_zero, List.getD_cons_succ, thenC_n, thenC_j, segC_n, blkC_n, blkC_r, blkC_e, condC_t, condC_f, valC_v, W_apply, if_true, if_false, Option.map_some, Option.map_none, Option.bind_some, Option.bind_none, List.nil_append, List.append_nil, List.cons_append, undefs, List.length_cons, List.length_nil, Nat.reduceSub, Nat.reduceAdd, Nat.zero_add, retC_r, retC_n, leaveC_a, valsC_a, unmark, resultsOf, resultOf, tupled, binI, unI, beq_self_eq_true, Bool.false_eq_true, reduceIte, reduceCtorEq, Bool.not_true, Bool.not_false, Option.getD_some, Option.getD_none, mkAgg, IV.cells, Heap.read, Heap.get_new, Heap.n_new, Heap.get_put, Heap.n_put, List.drop_succ_cons, List.drop_zero, List.take_succ_cons, List.take_zero, Nat.add_zero, Nat.reduceLeDiff, Nat.reduceMul, Nat.le_refl, Int.reduceLT, Int.reduceLE, List.drop, List.take, Option.some.injEq, and_true, true_and, and_false, false_and, BEq.rfl, Heap.write, splice, IV.one, List.all_cons, List.all_nil, Bool.and_self, Bool.and_true, Bool.true_and, Nat.le_add_right, eqKs, eqK, Nat.reduceLT, Nat.add_sub_cancel, bne_self_eq_false, Bool.false_bne, Bool.bne_false, List.append, pairOk, Bool.or_true, Bool.true_or, Int.toNat_natCast, Option.isSome_some, List.getElem?_cons_zero, List.getElem?_cons_succ, F14o0, F14o1, F14o2, F14o3, F14o4, F14o5, F14o6, F14o7, F14l8, F14o9, F14b, F14, e1, e2, e3, e4, e5, hw, hg, hp, hq, Ps.cells]
    refine lc_sp (L[i]'(by omega)) L[i + 1] (fun H1 k1 => ?_) (by omega)
    rw [lc_cancel (hd _ (List.getElem_mem _)) (hd _ (List.getElem_mem _))]
    have o1 : ((1 : Int) == 0) = false := by decide
    have o0 : ((0 : Int) == 0) = true := by decide
    cases ec : cancelB (L[i]'(by omega)) L[i + 1]
    · simp only [W_skip, W_ret, W_exit, W_seq, W_block, W_ops, W_cond, W_segs_cons, W_segs_nil, freeI_s, freeI_f, W_op1, W_op, guardC_t, guardC_f, bb_tf, bb_ft, bb_tt, bb_ff, argC_a, goC_a, seqC_a, pairC_p, eq_self, Nat.left_eq_add, Nat.add_eq_left, Nat.reduceEqDiff, Int.reduceEq, Nat.add_left_cancel_iff, Nat.add_assoc, W_ops_nil, wantedI_n, wantedI_s, wantV_b, wantV_u, evalAll, IA.eval, optC_s, optC_n, nextOf, freeNext, fpOf, lowOf, opW, ev1, opC_a, Fr.put, List.set, List.getD_cons_zero, List.getD_cons_succ, thenC_n, thenC_j, segC_n, blkC_n, blkC_r, blkC_e, condC_t, condC_f, valC_v, W_apply, if_true, if_false, Option.map_some, Option.map_none, Option.bind_some, Option.bind_none, List.nil_append, List.append_nil, List.cons_append, undefs, List.length_cons, List.length_nil, Nat.reduceSub, Nat.reduceAdd, Nat.zero_add, retC_r, retC_n, leaveC_a, valsC_a, unmark, resultsOf, resultOf, tupled, binI, unI, beq_self_eq_true, Bool.false_eq_true, reduceIte, reduceCtorEq, Bool.not_true, Bool.not_false, Option.getD_some, Option.getD_none, mkAgg, IV.cells, Heap.read, Heap.get_new, Heap.n_new, Heap.get_put, Heap.n_put, List.drop_succ_cons, List.drop_zero, List.take_succ_cons, List.take_zero, Nat.add_zero, Nat.reduceLeDiff, Nat.reduceMul, Nat.le_refl, Int.reduceLT, Int.reduceLE, List.drop, List.take, Option.some.injEq, and_true, true_and, and_false, false_and, BEq.rfl, Heap.write, splice, IV.one, List.all_cons, List.all_nil, Bool.and_self, Bool.and_true, Bool.true_and, Nat.le_add_right, eqKs, eqK, Nat.reduceLT, Nat.add_sub_cancel, bne_self_eq_false, Bool.false_bne, Bool.bne_false, List.append, pairOk, Bool.or_true, Bool.true_or, Int.toNat_natCast, Option.isSome_some, List.getElem?_cons_zero, List.getElem?_cons_succ, F14o0, F14o1, F14o2, F14o3, F14o4, F14o5, F14o6, F14o7, F14l8, F14o9, F14b, F14, o0, hwm]
      exact ih L _ base H1 _ hn (.inr (by omega)) hmax hd (red_drop hil hr ec) rfl hlo (hs0.keep k1) rfl (.inl rfl) Q fun H' tm' s' base' a1 a2 a3 a4 a5 => hQ H' tm' s' base' a1 a2 a3 a4 (Nat.le_trans k1.1 a5)
    · have hw2 : IntKind.i64.wrap ((i : Int) + 2) = ((i + 2 : Nat) : Int) := IntWalk.i64_in _ (by omega)
      have hn1 := k1.1
      have g1 : (H1.new (.cells false 33 4 [])).get b = some (.cells false 33 4 (flat L)) := by
        rw [Heap.get_new, if_neg (by omega)]; exact (k1.2 b hb2 hb2).trans hg
      have s1 := slc_to g1 (show i ≤ L.length by omega)
      have p1 := pl_to (i := i) (by rw [Heap.n_new]; omega) g1 (by omega)
      obtain ⟨x1, H2, ev1', hs1, k2⟩ := app_sp (H := H1.new (.cells false 33 4 [])) (lo := lo) (base := H1.n) (s := .slice H1.n 0 0 0 true) (L := []) ⟨H1.n, Nat.le_refl _, by rw [Heap.n_new]; omega, .inl ⟨rfl, rfl⟩⟩ (by omega) p1 (by rw [List.length_take]; simp; omega)
      have hn2 := k2.1
      rw [Heap.n_new] at hn2
      have g2 : H2.get b = some (.cells false 33 4 (flat L)) := (k2.2 b (by omega) (by rw [Heap.n_new]; omega)).trans g1
      have s2 := slc_from g2 (show i + 2 ≤ L.length by omega)
      have p2 := pl_from (i := i + 2) (by omega) g2
      obtain ⟨x2, H3, ev2', hs2, k3⟩ := app_sp (lo := lo) hs1 (by omega) p2 (by rw [List.length_append, List.length_take, List.length_drop]; simp; omega)
      have hn3 := k3.1
      have ev3' := fun lo' => (app0_lo (lo := lo') (lo' := lo)).trans ev1'
      clear ev1'
      rw [List.nil_append] at hs2
      have hcut := cut_at L i hil
      have hlen' : (L.take i ++ L.drop (i + 2)).length = n - 2 := by rw [List.length_append, List.length_take, List.length_drop]; omega
      have hpush : pushL [] L = pushL [] (L.take i ++ L.drop (i + 2)) := by
        rw [← pushL_cut _ _ ec, ← hcut]
      rw [hpush] at hQ
      have hl2 := hs2.pl.len
      have hnn : NN (L.take i ++ L.drop (i + 2)) := fun p hp => by
        rcases List.mem_append.1 hp with hp | hp
        · exact hd p (List.mem_of_mem_take hp)
        · exact hd p (List.mem_of_mem_drop hp)
      generalize L.take i ++ L.drop (i + 2) = L2 at *
      have hw3 : IntKind.i64.wrap ((L2.length : Int) - 2) = (L2.length : Int) - 2 := IntWalk.i64_in _ (by omega)
      simp only [W_skip, W_ret, W_exit, W_seq, W_block, W_ops, W_cond, W_segs_cons, W_segs_nil, freeI_s, freeI_f, W_op1, W_op, guardC_t, guardC_f, bb_tf, bb_ft, bb_tt, bb_ff, argC_a, goC_a, seqC_a, pairC_p, eq_self, Nat.left_eq_add, Nat.add_eq_left, Nat.reduceEqDiff, Int.reduceEq, Nat.add_left_cancel_iff, Nat.add_assoc, W_ops_nil, wantedI_n, wantedI_s, wantV_b, wantV_u, evalAll, IA.eval, optC_s, optC_n, nextOf, freeNext, fpOf, lowOf, opW, ev1, opC_a, Fr.put, List.set, List.getD_cons_zero, List.getD_cons_succ, thenC_n, thenC_j, segC_n, blkC_n, blkC_r, blkC_e, condC_t, condC_f, valC_v, W_apply, if_true, if_false, Option.map_some, Option.map_none, Option.bind_some, Option.bind_none, List.nil_append, List.append_nil, List.cons_append, undefs, List.length_cons, List.length_nil, Nat.reduceSub, Nat.reduceAdd, Nat.zero_add, retC_r, retC_n, leaveC_a, valsC_a, unmark, resultsOf, resultOf, tupled, binI, unI, beq_self_eq_true, Bool.false_eq_true, reduceIte, reduceCtorEq, Bool.not_true, Bool.not_false, Option.getD_some, Option.getD_none, mkAgg, IV.cells, Heap.read, Heap.get_new, Heap.n_new, Heap.get_put, Heap.n_put, List.drop_succ_cons, List.drop_zero, List.take_succ_cons, List.take_zero, Nat.add_zero, Nat.reduceLeDiff, Nat.reduceMul, Nat.le_refl, Int.reduceLT, Int.reduceLE, List.drop, List.take, Option.some.injEq, and_true, true_and, and_false, false_and, BEq.rfl, Heap.write, splice, IV.one, List.all_cons, List.all_nil, Bool.and_self, Bool.and_true, Bool.true_and, Nat.le_add_right, eqKs, eqK, Nat.reduceLT, Nat.add_sub_cancel, bne_self_eq_false, Bool.false_bne, Bool.bne_false, List.append, pairOk, Bool.or_true, Bool.true_or, Int.toNat_natCast, Option.isSome_some, List.getElem?_cons_zero, List.getElem?_cons_succ, F14o0, F14o1, F14o2, F14o3, F14o4, F14o5, F14o6, F14o7, F14l8, F14o9, F14b, F14, o1, hw, hw2, fillI, ↓s1, ↓s2, ↓ev3', ↓ev2', ↓hl2, hw3]
      refine ihn (n - 2) (by omega) (n - 2 - 1) L2 x2 H1.n H3 _ hlen' (by omega) (by omega) hnn ?_ rfl (by omega) hs2 rfl ?_ Q fun H' tm' s' base' a1 a2 a3 a4 a5 => hQ H' tm' s' base' a1 a2 a3 a4 (by omega)
      · have hle : (L2.drop (n - 2 - 1)).length ≤ 1 := by rw [List.length_drop]; omega
        cases hq : L2.drop (n - 2 - 1) with
        | nil => trivial
        | cons a t =>
          cases t with
          | nil => trivial
          | cons c t => rw [hq] at hle; simp at hle
      · by_cases h0 : n - 2 - 1 = 0
        · exact .inr ⟨h0, (L2.length : Int) - 2, by omega, rfl⟩
        · refine .inl ?_
          show IV.int .i64 ((L2.length : Int) - 2) = _
          congr 1
          omega

theorem backwards_sp {v : IV} {L : List Ps} {H : Heap} {lo : Nat} {Q : Out → Heap → Prop} (hv : PL H v L) (hL : L.length ≤ 1000) (hd : NN L) (hlo : lo ≤ H.n)
    (h : ∀ H' s, Keep H.n H H' → PL H' s (pushL [] L) → Q (.val s) H') : W E0 lo (.call 14 [v]) H Q := by
  refine W.pure plain hlo ?_
  rw [c14]
  have hs0 : App (H.new (.cells false 33 4 [])) H.n (.slice H.n 0 0 0 true) [] := ⟨H.n, Nat.le_refl _, by rw [Heap.n_new]; omega, .inl ⟨rfl, rfl⟩⟩
  obtain ⟨x1, H1, ev1', hs1, k1⟩ := app_sp (lo := H.n) hs0 (Nat.le_refl _) (hv.keep (Keep.new _ _)) (by simp; omega)
  rw [List.nil_append] at hs1
  have hw3 : IntKind.i64.wrap ((L.length : Int) - 2) = (L.length : Int) - 2 := IntWalk.i64_in _ (by omega)
  simp only [W_skip, W_ret, W_exit, W_seq, W_block, W_ops, W_cond, W_segs_cons, W_segs_nil, freeI_s, freeI_f, W_op1, W_op, guardC_t, guardC_f, bb_tf, bb_ft, bb_tt, bb_ff, argC_a, goC_a, seqC_a, pairC_p, eq_self, Nat.left_eq_add, Nat.add_eq_left, Nat.reduceEqDiff, Int.reduceEq, Nat.add_left_cancel_iff, Nat.add_assoc, W_ops_nil, wantedI_n, wantedI_s, wantV_b, wantV_u, evalAll, IA.eval, optC_s, optC_n, nextOf, freeNext, fpOf, lowOf, opW, ev1, opC_a, Fr.put, List.set, List.getD_cons_zero, List.getD_cons_succ, thenC_n, thenC_j, segC_n, blkC_n, blkC_r, blkC_e, condC_t, condC_f, valC_v, W_apply, if_true, if_false, Option.map_some, Option.map_none, Option.bind_some, Option.bind_none, List.nil_append, List.append_nil, List.cons_append, undefs, List.length_cons, List.length_nil, Nat.reduceSub, Nat.reduceAdd, Nat.zero_add, retC_r, retC_n, leaveC_a, valsC_a, unmark, resultsOf, resultOf, tupled, binI, unI, beq_self_eq_true, Bool.false_eq_true, reduceIte, reduceCtorEq, Bool.not_true, Bool.not_false, Option.getD_some, Option.getD_none, mkAgg, IV.cells, Heap.read, Heap.get_new, Heap.n_new, Heap.get_put, Heap.n_put, List.drop_succ_cons, List.drop_zero, List.take_succ_cons, List.take_zero, Nat.add_zero, Nat.reduceLeDiff, Nat.reduceMul, Nat.le_refl, Int.reduceLT, Int.reduceLE, List.drop, List.take, Option.some.injEq, and_true, true_and, and_false, false_and, BEq.rfl, Heap.write, splice, IV.one, List.all_cons, List.all_nil, Bool.and_self, Bool.and_true, Bool.true_and, Nat.le_add_right, eqKs, eqK, Nat.reduceLT, Nat.add_sub_cancel, bne_self_eq_false, Bool.false_bne, Bool.bne_false, List.append, pairOk, Bool.or_true, Bool.true_or, Int.toNat_natCast, Option.isSome_some, List.getElem?_cons_zero, List.getElem?_cons_succ, F14o0, F14o1, F14o2, F14o3, F14o4, F14o5, F14o6, F14o7, F14o9, F14b, F14, fillI, ↓ev1', ↓hs1.pl.len, hw3]
  have hn1 := k1.1
  rw [Heap.n_new] at hn1
  refine bw_loop H.n L.length (L.length - 1) L x1 H.n H1 _ rfl (by omega) hL hd ?_ rfl (Nat.le_refl _) hs1 rfl ?_ _ fun H2 tm2 s2 base2 t0 t3 hb2 hs2 hn2 => ?_
  · have hle : (L.drop (L.length - 1)).length ≤ 1 := by rw [List.length_drop]; omega
    cases hq : L.drop (L.length - 1) with
    | nil => trivial
    | cons a t =>
      cases t with
      | nil => trivial
      | cons c t => rw [hq] at hle; simp at hle
  · by_cases h0 : L.length - 1 = 0
    · exact .inr ⟨h0, (L.length : Int) - 2, by omega, rfl⟩
    · refine .inl ?_
      show IV.int .i64 ((L.length : Int) - 2) = _
      congr 1
      omega
  rw [expl40 tm2 t0, t3]
  simp only [W_skip, W_ret, W_exit, W_seq, W_block, W_ops, W_cond, W_segs_cons, W_segs_nil, freeI_s, freeI_f, W_op1, W_op, guardC_t, guardC_f, bb_tf, bb_ft, bb_tt, bb_ff, argC_a, goC_a, seqC_a, pairC_p, eq_self, Nat.left_eq_add, Nat.add_eq_left, Nat.reduceEqDiff, Int.reduceEq, Nat.add_left_cancel_iff, Nat.add_assoc, W_ops_nil, wantedI_n, wantedI_s, wantV_b, wantV_u, evalAll, IA.eval, optC_s, optC_n, nextOf, freeNext, fpOf, lowOf, opW, ev1, opC_a, Fr.put, List.set, List.getD_cons_zero, List.getD_cons_succ, thenC_n, thenC_j, segC_n, blkC_n, blkC_r, blkC_e, condC_t, condC_f, valC_v, W_apply, if_true, if_false, Option.map_some, Option.map_none, Option.bind_some, Option.bind_none, List.nil_append, List.append_nil, List.cons_append, undefs, List.length_cons, List.length_nil, Nat.reduceSub, Nat.reduceAdd, Nat.zero_add, retC_r, retC_n, leaveC_a, valsC_a, unmark, resultsOf, resultOf, tupled, binI, unI, beq_self_eq_true, Bool.false_eq_true, reduceIte, reduceCtorEq, Bool.not_true, Bool.not_false, Option.getD_some, Option.getD_none, mkAgg, IV.cells, Heap.read, Heap.get_new, Heap.n_new, Heap.get_put, Heap.n_put, List.drop_succ_cons, List.drop_zero, List.take_succ_cons, List.take_zero, Nat.add_zero, Nat.reduceLeDiff, Nat.reduceMul, Nat.le_refl, Int.reduceLT, Int.reduceLE, List.drop, List.take, Option.some.injEq, and_true, true_and, and_false, false_and, BEq.rfl, Heap.write, splice, IV.one, List.all_cons, List.all_nil, Bool.and_self, Bool.and_true, Bool.true_and, Nat.le_add_right, eqKs, eqK, Nat.reduceLT, Nat.add_sub_cancel, bne_self_eq_false, Bool.false_bne, Bool.bne_false, List.append, pairOk, Bool.or_true, Bool.true_or, Int.toNat_natCast, Option.isSome_some, List.getElem?_cons_zero, List.getElem?_cons_succ, F14o0, F14o1, F14o2, F14o3, F14o4, F14o5, F14o6, F14o7, F14o9, F14b, F14]
  exact fun hk => h _ _ hk hs2.pl
end Go.Iso.GenA
end

section
namespace Go.Iso.GenA
open Go.Iso
set_option maxHeartbeats 8000000
set_option maxRecDepth 10000

theorem expl232 (tm : List IV) (h : tm.length = 232) : tm = [tm.getD 0 IV.undef, tm.getD 1 IV.undef, tm.getD 2 IV.undef, tm.getD 3 IV.undef, tm.getD 4 IV.undef, tm.getD 5 IV.undef, tm.getD 6 IV.undef, tm.getD 7 IV.undef, tm.getD 8 IV.undef, tm.getD 9 IV.undef, tm.getD 10 IV.undef, tm.getD 11 IV.undef, tm.getD 12 IV.undef, tm.getD 13 IV.undef, tm.getD 14 IV.undef, tm.getD 15 IV.undef, tm.getD 16 IV.undef, tm.getD 17 IV.undef, tm.getD 18 IV.undef, tm.getD 19 IV.undef, tm.getD 20 IV.undef, tm.getD 21 IV.undef, tm.getD 22 IV.undef, tm.getD 23 IV.undef, tm.getD 24 IV.undef, tm.getD 25 IV.undef, tm.getD 26 IV.undef, tm.getD 27 IV.undef, tm.getD 28 IV.undef, tm.getD 29 IV.undef, tm.getD 30 IV.undef, tm.getD 31 IV.undef, tm.getD 32 IV.undef, tm.getD 33 IV.undef, tm.getD 34 IV.undef, tm.getD 35 IV.undef, tm.getD 36 IV.undef, tm.getD 37 IV.undef, tm.getD 38 IV.undef, tm.getD 39 IV.undef, tm.getD 40 IV.undef, tm.getD 41 IV.undef, tm.getD 42 IV.undef, tm.getD 43 IV.undef, tm.getD 44 IV.undef, tm.getD 45 IV.undef, tm.getD 46 IV.undef, tm.getD 47 IV.undef, tm.getD 48 IV.undef, tm.getD 49 IV.undef, tm.getD 50 IV.undef, tm.getD 51 IV.undef, tm.getD 52 IV.undef, tm.getD 53 IV.undef, tm.getD 54 IV.undef, tm.getD 55 IV.undef, tm.getD 56 IV.undef, tm.getD 57 IV.undef, tm.getD 58 IV.undef, tm.getD 59 IV.undef, tm.getD 60 IV.undef, tm.getD 61 IV.undef, tm.getD 62 IV.undef, tm.getD 63 IV.undef, tm.getD 64 IV.undef, tm.getD 65 IV.undef, tm.getD 66 IV.undef, tm.getD 67 IV.undef, tm.getD 68 IV.undef, tm.getD 69 IV.undef, tm.getD 70 IV.undef, tm.getD 71 IV.undef, tm.getD 72 IV.undef, tm.getD 73 IV.undef, tm.getD 74 IV.undef, tm.getD 75 IV.undef, tm.getD 76 IV.undef, tm.getD 77 IV.undef, tm.getD 78 IV.undef, tm.getD 79 IV.undef, tm.getD 80 IV.undef, tm.getD 81 IV.undef, tm.getD 82 IV.undef, tm.getD 83 IV.undef, tm.getD 84 IV.undef, tm.getD 85 IV.undef, tm.getD 86 IV.undef, tm.getD 87 IV.undef, tm.getD 88 IV.undef, tm.getD 89 IV.undef, tm.getD 90 IV.undef, tm.getD 91 IV.undef, tm.getD 92 IV.undef, tm.getD 93 IV.undef, tm.getD 94 IV.undef, tm.getD 95 IV.undef, tm.getD 96 IV.undef, tm.getD 97 IV.undef, tm.getD 98 IV.undef, tm.getD 99 IV.undef, tm.getD 100 IV.undef, tm.getD 101 IV.undef, tm.getD 102 IV.undef, tm.getD 103 IV.undef, tm.getD 104 IV.undef, tm.getD 105 IV.undef, tm.getD 106 IV.undef, tm.getD 107 IV.undef, tm.getD 108 IV.undef, tm.getD 109 IV.undef, tm.getD 110 IV.undef, tm.getD 111 IV.undef, tm.getD 112 IV.undef, tm.getD 113 IV.undef, tm.getD 114 IV.undef, tm.getD 115 IV.undef, tm.getD 116 IV.undef, tm.getD 117 IV.undef, tm.getD 118 IV.undef, tm.getD 119 IV.undef, tm.getD 120 IV.undef, tm.getD 121 IV.undef, tm.getD 122 IV.undef, tm.getD 123 IV.undef, tm.getD 124 IV.undef, tm.getD 125 IV.undef, tm.getD 126 IV.undef, tm.getD 127 IV.undef, tm.getD 128 IV.undef, tm.getD 129 IV.undef, tm.getD 130 IV.undef, tm.getD 131 IV.undef, tm.getD 132 IV.undef, tm.getD 133 IV.undef, tm.getD 134 IV.undef, tm.getD 135 IV.undef, tm.getD 136 IV.undef, tm.getD 137 IV.undef, tm.getD 138 IV.undef, tm.getD 139 IV.undef, tm.getD 140 IV.undef, tm.getD 141 IV.undef, tm.getD 142 IV.undef, tm.getD 143 IV.undef, tm.getD 144 IV.undef, tm.getD 145 IV.undef, tm.getD 146 IV.undef, tm.getD 147 IV.undef, tm.getD 148 IV.undef, tm.getD 149 IV.undef, tm.getD 150 IV.undef, tm.getD 151 IV.undef, tm.getD 152 IV.undef, tm.getD 153 IV.undef, tm.getD 154 IV.undef, tm.getD 155 IV.undef, tm.getD 156 IV.undef, tm.getD 157 IV.undef, tm.getD 158 IV.undef, tm.getD 159 IV.undef, tm.getD 160 IV.undef, tm.getD 161 IV.undef, tm.getD 162 IV.undef, tm.getD 163 IV.undef, tm.getD 164 IV.undef, tm.getD 165 IV.undef, tm.getD 166 IV.undef, tm.getD 167 IV.undef, tm.getD 168 IV.undef, tm.getD 169 IV.undef, tm.getD 170 IV.undef, tm.getD 171 IV.undef, tm.getD 172 IV.undef, tm.getD 173 IV.undef, tm.getD 174 IV.undef, tm.getD 175 IV.undef, tm.getD 176 IV.undef, tm.getD 177 IV.undef, tm.getD 178 IV.undef, tm.getD 179 IV.undef, tm.getD 180 IV.undef, tm.getD 181 IV.undef, tm.getD 182 IV.undef, tm.getD 183 IV.undef, tm.getD 184 IV.undef, tm.getD 185 IV.undef, tm.getD 186 IV.undef, tm.getD 187 IV.undef, tm.getD 188 IV.undef, tm.getD 189 IV.undef, tm.getD 190 IV.undef, tm.getD 191 IV.undef, tm.getD 192 IV.undef, tm.getD 193 IV.undef, tm.getD 194 IV.undef, tm.getD 195 IV.undef, tm.getD 196 IV.undef, tm.getD 197 IV.undef, tm.getD 198 IV.undef, tm.getD 199 IV.undef, tm.getD 200 IV.undef, tm.getD 201 IV.undef, tm.getD 202 IV.undef, tm.getD 203 IV.undef, tm.getD 204 IV.undef, tm.getD 205 IV.undef, tm.getD 206 IV.undef, tm.getD 207 IV.undef, tm.getD 208 IV.undef, tm.getD 209 IV.undef, tm.getD 210 IV.undef, tm.getD 211 IV.undef, tm.getD 212 IV.undef, tm.getD 213 IV.undef, tm.getD 214 IV.undef, tm.getD 215 IV.undef, tm.getD 216 IV.undef, tm.getD 217 IV.undef, tm.getD 218 IV.undef, tm.getD 219 IV.undef, tm.getD 220 IV.undef, tm.getD 221 IV.undef, tm.getD 222 IV.undef, tm.getD 223 IV.undef, tm.getD 224 IV.undef, tm.getD 225 IV.undef, tm.getD 226 IV.undef, tm.getD 227 IV.undef, tm.getD 228 IV.undef, tm.getD 229 IV.undef, tm.getD 230 IV.undef, tm.getD 231 IV.undef] := (expl tm 232 h).trans rfl

def F7z : IC := .seq (.seq (F7o48) (.cond (.tmp 177) (.seq (F7o49) (.ret)) (.skip))) (.seq (.seq (F7o50) (.cond (.tmp 179) (.seq (.seq (F7o51) (.cond (.tmp 191) (.seq (F7o52) (.ret)) (.skip))) (.exit 1)) (.skip))) (.seq (F7o53) (.seq (F7o54) (.cond (.tmp 230) (.seq (F7o55) (.ret)) (.skip)))))

/-- What the loop's frame holds. -/
def Fr7 (tm : List IV) (va : IV) (yb : Nat) (inn : Bool) (place count : Int) (new : Bool) (vp : IV) (i : Nat) : Prop :=
  tm.length = 232 ∧ tm.getD 0 IV.undef = va ∧ tm.getD 3 IV.undef = .ptr yb 0 ∧ tm.getD 4 IV.undef = .bool inn ∧ tm.getD 5 IV.undef = .int .i64 place ∧ tm.getD 6 IV.undef = .int .i64 count ∧ tm.getD 7 IV.undef = .bool new ∧ tm.getD 8 IV.undef = vp ∧ tm.getD 9 IV.undef = .int .i64 i

theorem ya_skip (va : IV) (yb nb : Nat) (inn new : Bool) (place count e : Int) (vp : IV) (i lo : Nat) {H : Heap} {tm : List IV} (hf : Fr7 tm va yb inn place count new vp i) (he : e ≠ 0) (h10 : tm.getD 10 IV.undef = .int .i64 e) (h11 : tm.getD 11 IV.undef = .ptr nb 0) (h12 : tm.getD 12 IV.undef = .int .i64 e)
    (hg : H.get nb = some (.cells false 38 5 (yc false 0 0 false .nilSlice))) :
    ∀ Q : Out → Heap → Prop, (∀ tm', Fr7 tm' va yb inn place count new vp i → Q (.ex (.jmp (.exit 1)) ⟨tm', []⟩) H) → W E0 lo (.code F7z none ⟨tm, []⟩) H Q := by
  intro Q hQ
  obtain ⟨t, t0, t3, t4, t5, t6, t7, t8, t9⟩ := hf
  rw [expl232 tm t, t0, t3, t4, t5, t6, t7, t8, t9, h10, h11, h12]
  unfold yc at hg
  have e1 : (e != e) = false := by simp
  have e2 : (e != 0) = true := by simpa using he
  have z0 : ((0 : Int) != 0) = false := by decide
  simp only [W_skip, W_ret, W_exit, W_seq, W_block, W_ops, W_cond, W_segs_cons, W_segs_nil, freeI_s, freeI_f, W_op1, W_op, guardC_t, guardC_f, bb_tf, bb_ft, bb_tt, bb_ff, argC_a, goC_a, seqC_a, pairC_p, eq_self, Nat.left_eq_add, Nat.add_eq_left, Nat.reduceEqDiff, Int.reduceEq, Nat.add_left_cancel_iff, Nat.add_assoc, W_ops_nil, wantedI_n, wantedI_s, wantV_b, wantV_u, evalAll, IA.eval, optC_s, optC_n, nextOf, freeNext, fpOf, lowOf, opW, ev1, opC_a, Fr.put, List.set, List.getD_cons_zero, List.getD_cons_succ, thenC_n, thenC_j, segC_n, blkC_n, blkC_r, blkC_e, condC_t, condC_f, valC_v, W_apply, if_true, if_false, Option.map_some, Option.map_none, Option.bind_some, Option.bind_none, List.nil_append, List.append_nil, List.cons_append, undefs, List.length_cons, List.length_nil, Nat.reduceSub, Nat.reduceAdd, Nat.zero_add, retC_r, retC_n, leaveC_a, valsC_a, unmark, resultsOf, resultOf, tupled, binI, unI, beq_self_eq_true, Bool.false_eq_true, reduceIte, reduceCtorEq, Bool.not_true, Bool.not_false, Option.getD_some, Option.getD_none, mkAgg, IV.cells, Heap.read, Heap.get_new, Heap.n_new, Heap.get_put, Heap.n_put, List.drop_succ_cons, List.drop_zero, List.take_succ_cons, List.take_zero, Nat.add_zero, Nat.reduceLeDiff, Nat.reduceMul, Nat.le_refl, Int.reduceLT, Int.reduceLE, List.drop, List.take, Option.some.injEq, and_true, true_and, and_false, false_and, BEq.rfl, Heap.write, splice, IV.one, List.all_cons, List.all_nil, Bool.and_self, Bool.and_true, Bool.true_and, Nat.le_add_right, eqKs, eqK, Nat.reduceLT, Nat.add_sub_cancel, bne_self_eq_false, Bool.false_bne, Bool.bne_false, List.append, pairOk, Bool.or_true, Bool.true_or, Int.toNat_natCast, Option.isSome_some, List.getElem?_cons_zero, List.getElem?_cons_succ, F7o0, F7o1, F7o2, F7o3, F7o4, F7o5, F7o6, F7o7, F7o8, F7o9, F7o10, F7o11, F7o12, F7o13, F7o14, F7o15, F7o16, F7o17, F7o18, F7o19, F7o20, F7o21, F7o22, F7o23, F7o24, F7o25, F7o26, F7o27, F7o28, F7o29, F7o30, F7o31, F7o32, F7o33, F7o34, F7o35, F7o36, F7o37, F7o38, F7o39, F7o40, F7o41, F7o42, F7o43, F7o44, F7o45, F7o46, F7o47, F7o48, F7o49, F7o50, F7o51, F7o52, F7o53, F7o54, F7o55, F7o56, F7o58, F7b, F7, F7z, e1, e2, z0, hg]
  exact hQ _ ⟨rfl, rfl, rfl, rfl, rfl, rfl, rfl, rfl, rfl⟩

theorem ya_step (va : IV) (yb nb : Nat) (inn new : Bool) (place count : Int) (v vp : IV) (P : List Ps) (i lo : Nat) (y0 : List IV) {H : Heap} {tm : List IV} (hf : Fr7 tm va yb inn place count new vp i) (h10 : tm.getD 10 IV.undef = .int .i64 0) (h11 : tm.getD 11 IV.undef = .ptr nb 0) (h12 : tm.getD 12 IV.undef = .int .i64 0)
    (hg : H.get nb = some (.cells false 38 5 (yc inn place count new v))) (hy : H.get yb = some (.cells false 38 5 y0)) (hy0 : y0.length = 5) (hne : yb ≠ nb) (hyl : lo ≤ yb) (hyn : yb < H.n) (hnn : nb < H.n)
    (hv : PL H v P) (hvp : PL H vp P) (ht : Tight v P.length) (ho : offB v yb) (hop : offB vp yb) (hP : P.length ≤ 1000) (hc : checkE inn place count new P = 0) :
    ∀ Q : Out → Heap → Prop, (∀ H' tm', Fr7 tm' va yb inn place count new vp i → KeepBut yb H H' → H'.get yb = some (.cells false 38 5 (yc inn place count new v)) → Q (.ex .normal ⟨tm', []⟩) H') → W E0 lo (.code F7z none ⟨tm, []⟩) H Q := by
  intro Q hQ
  obtain ⟨t, t0, t3, t4, t5, t6, t7, t8, t9⟩ := hf
  rw [expl232 tm t, t0, t3, t4, t5, t6, t7, t8, t9, h10, h11, h12]
  unfold yc at hg hQ
  have z0 : ((0 : Int) != 0) = false := by decide
  obtain ⟨a0, a1, a2, a3, a4, rfl⟩ : ∃ a0 a1 a2 a3 a4, y0 = [a0, a1, a2, a3, a4] := by
    match y0, hy0 with
    | [a0, a1, a2, a3, a4], _ => exact ⟨_, _, _, _, _, rfl⟩
  have q1 : (lo ≤ yb) = True := by simp [hyl]
  have q2 : (yb = nb) = False := by simp [hne]
  have hone : IV.one v = true := by
    rcases ht with ⟨rfl, _⟩ | ⟨b, o, rfl⟩ <;> rfl
  simp only [W_skip, W_ret, W_exit, W_seq, W_block, W_ops, W_cond, W_segs_cons, W_segs_nil, freeI_s, freeI_f, W_op1, W_op, guardC_t, guardC_f, bb_tf, bb_ft, bb_tt, bb_ff, argC_a, goC_a, seqC_a, pairC_p, eq_self, Nat.left_eq_add, Nat.add_eq_left, Nat.reduceEqDiff, Int.reduceEq, Nat.add_left_cancel_iff, Nat.add_assoc, W_ops_nil, wantedI_n, wantedI_s, wantV_b, wantV_u, evalAll, IA.eval, optC_s, optC_n, nextOf, freeNext, fpOf, lowOf, opW, ev1, opC_a, Fr.put, List.set, List.getD_cons_zero, List.getD_cons_succ, thenC_n, thenC_j, segC_n, blkC_n, blkC_r, blkC_e, condC_t, condC_f, valC_v, W_apply, if_true, if_false, Option.map_some, Option.map_none, Option.bind_some, Option.bind_none, List.nil_append, List.append_nil, List.cons_append, undefs, List.length_cons, List.length_nil, Nat.reduceSub, Nat.reduceAdd, Nat.zero_add, retC_r, retC_n, leaveC_a, valsC_a, unmark, resultsOf, resultOf, tupled, binI, unI, beq_self_eq_true, Bool.false_eq_true, reduceIte, reduceCtorEq, Bool.not_true, Bool.not_false, Option.getD_some, Option.getD_none, mkAgg, IV.cells, Heap.read, Heap.get_new, Heap.n_new, Heap.get_put, Heap.n_put, List.drop_succ_cons, List.drop_zero, List.take_succ_cons, List.take_zero, Nat.add_zero, Nat.reduceLeDiff, Nat.reduceMul, Nat.le_refl, Int.reduceLT, Int.reduceLE, List.drop, List.take, Option.some.injEq, and_true, true_and, and_false, false_and, BEq.rfl, Heap.write, splice, IV.one, List.all_cons, List.all_nil, Bool.and_self, Bool.and_true, Bool.true_and, Nat.le_add_right, eqKs, eqK, Nat.reduceLT, Nat.add_sub_cancel, bne_self_eq_false, Bool.false_bne, Bool.bne_false, List.append, pairOk, Bool.or_true, Bool.true_or, Int.toNat_natCast, Option.isSome_some, List.getElem?_cons_zero, List.getElem?_cons_succ, F7o0, F7o1, F7o2, F7o3, F7o4, F7o5, F7o6, F7o7, F7o8, F7o9, F7o10, F7o11, F7o12, F7o13, F7o14, F7o15, F7o16, F7o17, F7o18, F7o19, F7o20, F7o21, F7o22, F7o23, F7o24, F7o25, F7o26, F7o27, F7o28, F7o29, F7o30, F7o31, F7o32, F7o33, F7o34, F7o35, F7o36, F7o37, F7o38, F7o39, F7o40, F7o41, F7o42, F7o43, F7o44, F7o45, F7o46, F7o47, F7o48, F7o49, F7o50, F7o51, F7o52, F7o53, F7o54, F7o55, F7o56, F7o58, F7b, F7, F7z, z0, hg, hy, q1, q2, ↓hone]
  generalize hH1 : H.put yb _ = H1
  have kb1 : KeepBut yb H H1 := by
    rw [← hH1]
    exact ⟨by rw [Heap.n_put]; exact Nat.le_refl _, fun b' _ h => by rw [Heap.get_put, if_neg (Ne.symm h)]⟩
  have hn1 : H1.n = H.n := by rw [← hH1, Heap.n_put]
  have gy1 : H1.get yb = some (.cells false 38 5 [.bool inn, .int .i64 place, .int .i64 count, .bool new, v]) := by rw [← hH1, Heap.get_put, if_pos rfl]
  clear hH1
  have hv1 := hv.keepBut ho kb1
  have hvp1 := hvp.keepBut hop kb1
  refine check_sp inn new place count hv1 (by omega) (fun H2 k2 => ?_) (by omega)
  rw [hc]
  have hn2 := k2.1
  have gy2 := (k2.2 yb (by omega) (by omega)).trans gy1
  have hv2 := hv1.keep k2
  have hvp2 := hvp1.keep k2
  have b1 : (inn != inn) = false := by simp
  have b2 : (place != place) = false := by simp
  have b3 : (count != count) = false := by simp
  have b4 : (new != new) = false := by simp
  have e2 : (0 ≤ (P.length : Int) ∧ (P.length : Int) * (((24 : Nat) : Int) + 1) ≤ 2 ^ 40) = True := by simp; omega
  have hrl : (rep P.length [IV.int .u8 0, .int .i64 0, .bool false, .int .u8 0]).length = P.length * 4 := rep_length _ _
  have ho3 : Own (H2.new (.cells false 33 4 (rep P.length [.int .u8 0, .int .i64 0, .bool false, .int .u8 0]))) H2.n P.length [] := ⟨Nat.zero_le _, by rw [Heap.n_new]; omega, _, by rw [Heap.get_new, if_pos rfl], by rw [hrl]; omega, rfl⟩
  obtain ⟨H4, ev4, ho4, kb4⟩ := own_append (lo := lo) ho3 (by omega) (hvp2.keep (Keep.new _ _)) (by simp)
  rw [List.nil_append, List.length_nil] at ev4
  rw [List.nil_append] at ho4
  have dn : decide (H2.n ≠ yb) = true := by simp; omega
  have k4 : Keep H2.n H2 H4 := ⟨by have := kb4.1; rw [Heap.n_new] at this; omega, fun b' h1 h2 => by
    rw [kb4.2 b' (by rw [Heap.n_new]; omega) (by omega), Heap.get_new, if_neg (by omega)]⟩
  have z1 : ((1 : Int) == 0) = false := by decide
  simp only [W_skip, W_ret, W_exit, W_seq, W_block, W_ops, W_cond, W_segs_cons, W_segs_nil, freeI_s, freeI_f, W_op1, W_op, guardC_t, guardC_f, bb_tf, bb_ft, bb_tt, bb_ff, argC_a, goC_a, seqC_a, pairC_p, eq_self, Nat.left_eq_add, Nat.add_eq_left, Nat.reduceEqDiff, Int.reduceEq, Nat.add_left_cancel_iff, Nat.add_assoc, W_ops_nil, wantedI_n, wantedI_s, wantV_b, wantV_u, evalAll, IA.eval, optC_s, optC_n, nextOf, freeNext, fpOf, lowOf, opW, ev1, opC_a, Fr.put, List.set, List.getD_cons_zero, List.getD_cons_succ, thenC_n, thenC_j, segC_n, blkC_n, blkC_r, blkC_e, condC_t, condC_f, valC_v, W_apply, if_true, if_false, Option.map_some, Option.map_none, Option.bind_some, Option.bind_none, List.nil_append, List.append_nil, List.cons_append, undefs, List.length_cons, List.length_nil, Nat.reduceSub, Nat.reduceAdd, Nat.zero_add, retC_r, retC_n, leaveC_a, valsC_a, unmark, resultsOf, resultOf, tupled, binI, unI, beq_self_eq_true, Bool.false_eq_true, reduceIte, reduceCtorEq, Bool.not_true, Bool.not_false, Option.getD_some, Option.getD_none, mkAgg, IV.cells, Heap.read, Heap.get_new, Heap.n_new, Heap.get_put, Heap.n_put, List.drop_succ_cons, List.drop_zero, List.take_succ_cons, List.take_zero, Nat.add_zero, Nat.reduceLeDiff, Nat.reduceMul, Nat.le_refl, Int.reduceLT, Int.reduceLE, List.drop, List.take, Option.some.injEq, and_true, true_and, and_false, false_and, BEq.rfl, Heap.write, splice, IV.one, List.all_cons, List.all_nil, Bool.and_self, Bool.and_true, Bool.true_and, Nat.le_add_right, eqKs, eqK, Nat.reduceLT, Nat.add_sub_cancel, bne_self_eq_false, Bool.false_bne, Bool.bne_false, List.append, pairOk, Bool.or_true, Bool.true_or, Int.toNat_natCast, Option.isSome_some, List.getElem?_cons_zero, List.getElem?_cons_succ, F7o0, F7o1, F7o2, F7o3, F7o4, F7o5, F7o6, F7o7, F7o8, F7o9, F7o10, F7o11, F7o12, F7o13, F7o14, F7o15, F7o16, F7o17, F7o18, F7o19, F7o20, F7o21, F7o22, F7o23, F7o24, F7o25, F7o26, F7o27, F7o28, F7o29, F7o30, F7o31, F7o32, F7o33, F7o34, F7o35, F7o36, F7o37, F7o38, F7o39, F7o40, F7o41, F7o42, F7o43, F7o44, F7o45, F7o46, F7o47, F7o48, F7o49, F7o50, F7o51, F7o52, F7o53, F7o54, F7o55, F7o56, F7o58, F7b, F7, z0, gy2, b1, b2, b3, b4, ↓hvp2.len, e2, Int.toNat_zero, ↓ev4, ↓dn]
  refine same_sp (l := P) (hv2.keep k4) ht (ho4.pl true) (by omega) ?_
  simp only [W_skip, W_ret, W_exit, W_seq, W_block, W_ops, W_cond, W_segs_cons, W_segs_nil, freeI_s, freeI_f, W_op1, W_op, guardC_t, guardC_f, bb_tf, bb_ft, bb_tt, bb_ff, argC_a, goC_a, seqC_a, pairC_p, eq_self, Nat.left_eq_add, Nat.add_eq_left, Nat.reduceEqDiff, Int.reduceEq, Nat.add_left_cancel_iff, Nat.add_assoc, W_ops_nil, wantedI_n, wantedI_s, wantV_b, wantV_u, evalAll, IA.eval, optC_s, optC_n, nextOf, freeNext, fpOf, lowOf, opW, ev1, opC_a, Fr.put, List.set, List.getD_cons_zero, List.getD_cons_succ, thenC_n, thenC_j, segC_n, blkC_n, blkC_r, blkC_e, condC_t, condC_f, valC_v, W_apply, if_true, if_false, Option.map_some, Option.map_none, Option.bind_some, Option.bind_none, List.nil_append, List.append_nil, List.cons_append, undefs, List.length_cons, List.length_nil, Nat.reduceSub, Nat.reduceAdd, Nat.zero_add, retC_r, retC_n, leaveC_a, valsC_a, unmark, resultsOf, resultOf, tupled, binI, unI, beq_self_eq_true, Bool.false_eq_true, reduceIte, reduceCtorEq, Bool.not_true, Bool.not_false, Option.getD_some, Option.getD_none, mkAgg, IV.cells, Heap.read, Heap.get_new, Heap.n_new, Heap.get_put, Heap.n_put, List.drop_succ_cons, List.drop_zero, List.take_succ_cons, List.take_zero, Nat.add_zero, Nat.reduceLeDiff, Nat.reduceMul, Nat.le_refl, Int.reduceLT, Int.reduceLE, List.drop, List.take, Option.some.injEq, and_true, true_and, and_false, false_and, BEq.rfl, Heap.write, splice, IV.one, List.all_cons, List.all_nil, Bool.and_self, Bool.and_true, Bool.true_and, Nat.le_add_right, eqKs, eqK, Nat.reduceLT, Nat.add_sub_cancel, bne_self_eq_false, Bool.false_bne, Bool.bne_false, List.append, pairOk, Bool.or_true, Bool.true_or, Int.toNat_natCast, Option.isSome_some, List.getElem?_cons_zero, List.getElem?_cons_succ, F7o0, F7o1, F7o2, F7o3, F7o4, F7o5, F7o6, F7o7, F7o8, F7o9, F7o10, F7o11, F7o12, F7o13, F7o14, F7o15, F7o16, F7o17, F7o18, F7o19, F7o20, F7o21, F7o22, F7o23, F7o24, F7o25, F7o26, F7o27, F7o28, F7o29, F7o30, F7o31, F7o32, F7o33, F7o34, F7o35, F7o36, F7o37, F7o38, F7o39, F7o40, F7o41, F7o42, F7o43, F7o44, F7o45, F7o46, F7o47, F7o48, F7o49, F7o50, F7o51, F7o52, F7o53, F7o54, F7o55, F7o56, F7o58, F7b, F7, z1]
  refine hQ H4 _ ⟨rfl, rfl, rfl, rfl, rfl, rfl, rfl, rfl, rfl⟩ ⟨by have := k4.1; omega, fun b' h1 h2 => ?_⟩ ((k4.2 yb (by omega) (by omega)).trans gy2)
  rw [k4.2 b' (by omega) (by omega), k2.2 b' (by omega) (by omega), kb1.2 b' h1 h2]
end Go.Iso.GenA
end

section
namespace Go.Iso.GenA
open Go.Iso
set_option maxHeartbeats 8000000
set_option maxRecDepth 10000

def F7s : IC := .seq (F7o13) (.block 2 (.seq (F7o14) (.cond (.tmp 83) (.seq (F7o15) (.block 3 (.seq (F7o16) (.cond (.tmp 101) (F7o17) (.seq (F7o18) (.cond (.tmp 108) (F7o19) (.seq (F7o20) (.seq (F7o21) (.seq (F7o22) (.cond (.tmp 100) (F7o23) (.skip))))))))))) (.seq (F7o24) (.cond (.tmp 110) (.seq (F7o25) (.seq (F7o26) (.cond (.tmp 117) (F7o27) (F7o28)))) (.seq (F7o29) (.cond (.tmp 118) (.seq (F7o30) (.seq (F7o31) (.block 4 (.seq (F7o32) (.cond (.tmp 148) (F7o33) (.seq (F7o34) (.cond (.tmp 172) (F7o35) (.seq (F7o36) (F7o37))))))))) (.seq (F7o38) (.seq (F7o39) (.seq (.seq (F7o40) (.cond (.tmp 46) (.seq (F7o41) (.seq (.seq (F7o42) (.cond (.tmp 59) (.seq (F7o43) (.ret)) (.skip))) (.exit 2))) (.skip))) (.seq (.seq (F7o44) (.cond (.tmp 80) (.seq (F7o45) (.ret)) (.skip))) (.seq (F7o46) (F7o47)))))))))))))

theorem body7 : F7l57 = .seq (.seq (F7o7) (.cond (.tmp 22) (.skip) (.exit 0))) (.seq (.block 1 (.seq (.seq (F7o8) (.cond (.tmp 31) (.seq (F7o9) (.ret)) (.skip))) (.seq (F7o10) (.seq (F7o11) (.seq (F7o12) (.seq F7s F7z)))))) (F7o56)) := rfl

/-- One act, as the input holds it. -/
structure ActAt (H : Heap) (va : IV) (i : Nat) (w pl sd : Int) (pv : IV) (ps : List Int) (lo : Nat) : Prop where
  ex : ∃ ba oa n c x ro ea ez cs, va = .slice ba oa n c x ∧ i < n ∧ ba < lo ∧ H.get ba = some (.cells ro ea ez cs) ∧ oa + (i * 4 + 4) ≤ cs.length ∧ (cs.drop (oa + i * 4)).take 4 = [.int .u8 w, .int .i64 pl, .int .u8 sd, pv]
  bl : BL H pv ps
  by' : ∀ x, x ∈ ps → 0 ≤ x ∧ x ≤ 255
  w0 : 0 ≤ w
  s0 : 0 ≤ sd

theorem cell_at {cs : List IV} {o : Nat} {a b c d : IV} (h : (cs.drop o).take 4 = [a, b, c, d]) : (cs.drop o).take 1 = [a] ∧ (cs.drop (o + 1)).take 1 = [b] ∧ (cs.drop (o + 2)).take 1 = [c] ∧ (cs.drop (o + 3)).take 1 = [d] := by
  have key : ∀ k, k < 4 → (cs.drop (o + k)).take 1 = (([a, b, c, d] : List IV).drop k).take 1 := fun k hk => by
    rw [← h, List.drop_take, List.take_take, List.drop_drop, show min 1 (4 - k) = 1 from by omega]
  exact ⟨key 0 (by omega), key 1 (by omega), key 2 (by omega), key 3 (by omega)⟩

/-- What the switch leaves behind. -/
def After (H : Heap) (va : IV) (yb nb i : Nat) (inn new : Bool) (place count : Int) (vp : IV) (P : List Ps) (Q : Out → Heap → Prop) : Prop :=
  (∀ H' tm' e, e ≠ 0 → Fr7 tm' va yb inn place count new vp i → tm'.getD 10 IV.undef = .int .i64 e → tm'.getD 11 IV.undef = .ptr nb 0 → tm'.getD 12 IV.undef = .int .i64 e →
    H'.get nb = some (.cells false 38 5 (yc false 0 0 false .nilSlice)) → KeepBut nb H H' → Q (.ex .normal ⟨tm', []⟩) H') ∧
  (∀ H' tm' inn' place' count' new' v' vp' P', Fr7 tm' va yb inn' place' count' new' vp' i → tm'.getD 10 IV.undef = .int .i64 0 → tm'.getD 11 IV.undef = .ptr nb 0 → tm'.getD 12 IV.undef = .int .i64 0 →
    H'.get nb = some (.cells false 38 5 (yc inn' place' count' new' v')) → PL H' v' P' → PL H' vp' P' → Tight v' P'.length → offB v' yb → offB vp' yb → checkE inn' place' count' new' P' = 0 → NN P' → P'.length ≤ P.length + 10 → 0 ≤ count' ∧ count' ≤ count + 1 →
    KeepBut nb H H' → Q (.ex .normal ⟨tm', []⟩) H')

theorem ya_enter (va : IV) (yb nb : Nat) (inn new : Bool) (place count : Int) (v vp : IV) (P : List Ps) (i lo : Nat) (w pl sd : Int) (pv : IV) (ps : List Int) {H : Heap} {tm : List IV} (hf : Fr7 tm va yb inn place count new vp i) (h10 : tm.getD 10 IV.undef = .int .i64 0) (h11 : tm.getD 11 IV.undef = .ptr nb 0) (h12 : tm.getD 12 IV.undef = .int .i64 0)
    (ha : ActAt H va i w pl sd pv ps lo) (hw : w.tmod 4 = 0) (hi : i ≤ 100)
    (hg : H.get nb = some (.cells false 38 5 (yc false 0 0 false .nilSlice))) (hy : H.get yb = some (.cells false 38 5 (yc inn place count new v))) (hyl : lo ≤ yb) (hyn : yb < nb) (hnn : nb < H.n)
    (hv : PL H v P) (hP : P.length ≤ 1000) (hc : checkE inn place count new P = 0) (hcount : 0 ≤ count ∧ count ≤ 100)
    (Q : Out → Heap → Prop) (hQ : After H va yb nb i inn new place count vp P Q) : W E0 lo (.code F7s none ⟨tm, []⟩) H Q := by
  obtain ⟨t, t0, t3, t4, t5, t6, t7, t8, t9⟩ := hf
  obtain ⟨⟨ba, oa, n, c, x, ro, ea, ez, cs, rfl, hin, hba, hga, hla, hca⟩, hbl, hby, hw0, hs0⟩ := ha
  obtain ⟨r0, r1, r2, r3⟩ := cell_at hca
  rw [Nat.add_assoc] at r1 r2 r3
  rw [expl232 tm t, t0, t3, t4, t5, t6, t7, t8, t9, h10, h11, h12]
  unfold yc at hg hy
  have a1 : (0 ≤ (i : Int) ∧ (i : Int) < n) = True := by simp; omega
  have a2 : ((4 : Int) = 0) = False := by simp
  have a3 : (w.tmod 4 == 0) = true := by simp [hw]
  have l0 : (oa + (i * 4 + 1) ≤ cs.length) = True := by simp; omega
  have l2 : (oa + (i * 4 + 3) ≤ cs.length) = True := by simp; omega
  simp only [W_skip, W_ret, W_exit, W_seq, W_block, W_ops, W_cond, W_segs_cons, W_segs_nil, freeI_s, freeI_f, W_op1, W_op, guardC_t, guardC_f, bb_tf, bb_ft, bb_tt, bb_ff, argC_a, goC_a, seqC_a, pairC_p, eq_self, Nat.left_eq_add, Nat.add_eq_left, Nat.reduceEqDiff, Int.reduceEq, Nat.add_left_cancel_iff, Nat.add_assoc, W_ops_nil, wantedI_n, wantedI_s, wantV_b, wantV_u, evalAll, IA.eval, optC_s, optC_n, nextOf, freeNext, fpOf, lowOf, opW, ev1, opC_a, Fr.put, List.set, List.getD_cons_zero, List.getD_cons_succ, thenC_n, thenC_j, segC_n, blkC_n, blkC_r, blkC_e, condC_t, condC_f, valC_v, W_apply, if_true, if_false, Option.map_some, Option.map_none, Option.bind_some, Option.bind_none, List.nil_append, List.append_nil, List.cons_append, undefs, List.length_cons, List.length_nil, Nat.reduceSub, Nat.reduceAdd, Nat.zero_add, retC_r, retC_n, leaveC_a, valsC_a, unmark, resultsOf, resultOf, tupled, binI, unI, beq_self_eq_true, Bool.false_eq_true, reduceIte, reduceCtorEq, Bool.not_true, Bool.not_false, Option.getD_some, Option.getD_none, mkAgg, IV.cells, Heap.read, Heap.get_new, Heap.n_new, Heap.get_put, Heap.n_put, List.drop_succ_cons, List.drop_zero, List.take_succ_cons, List.take_zero, Nat.add_zero, Nat.reduceLeDiff, Nat.reduceMul, Nat.le_refl, Int.reduceLT, Int.reduceLE, List.drop, List.take, Option.some.injEq, and_true, true_and, and_false, false_and, BEq.rfl, Heap.write, splice, IV.one, List.all_cons, List.all_nil, Bool.and_self, Bool.and_true, Bool.true_and, Nat.le_add_right, eqKs, eqK, Nat.reduceLT, Nat.add_sub_cancel, bne_self_eq_false, Bool.false_bne, Bool.bne_false, List.append, pairOk, Bool.or_true, Bool.true_or, Int.toNat_natCast, Option.isSome_some, List.getElem?_cons_zero, List.getElem?_cons_succ, F7o0, F7o1, F7o2, F7o3, F7o4, F7o5, F7o6, F7o7, F7o8, F7o9, F7o10, F7o11, F7o12, F7o13, F7o14, F7o15, F7o16, F7o17, F7o18, F7o19, F7o20, F7o21, F7o22, F7o23, F7o24, F7o25, F7o26, F7o27, F7o28, F7o29, F7o30, F7o31, F7o32, F7o33, F7o34, F7o35, F7o36, F7o37, F7o38, F7o39, F7o40, F7o41, F7o42, F7o43, F7o44, F7o45, F7o46, F7o47, F7o48, F7o49, F7o50, F7o51, F7o52, F7o53, F7o54, F7o55, F7o56, F7o58, F7b, F7, F7s, a1, a2, a3, l0, l2, hga, hy, r0, r2]
  refine enter_sp inn new place count sd hv (by omega) (by omega) fun H1 k1 => ?_
  have hn1 := k1.1
  have gn1 := (k1.2 nb (by omega) (by omega)).trans hg
  have ga1 := (k1.2 ba (by omega) (by omega)).trans hga
  have b1 : (lo ≤ nb) = True := by simp; omega
  have b2 : (nb = ba) = False := by simp; omega
  rw [if_neg (by rw [hc]; simp)]
  have kb : ∀ X, KeepBut nb H (H1.put nb X) := fun X => ⟨by rw [Heap.n_put]; omega, fun b' h1 h2 => by
    rw [Heap.get_put, if_neg (Ne.symm h2)]; exact k1.2 b' (by omega) (by omega)⟩
  have gp : ∀ X, (H1.put nb X).get nb = some X := fun X => by rw [Heap.get_put, if_pos rfl]
  cases e1 : sidedB sd
  · have e2 : decide (sd > 1) = true := by
      have : ¬ (sd = 0 ∨ sd = 1) := fun h => by rw [sided_iff.2 h] at e1; cases e1
      simp; omega
    rw [if_pos rfl]
    simp only [W_skip, W_ret, W_exit, W_seq, W_block, W_ops, W_cond, W_segs_cons, W_segs_nil, freeI_s, freeI_f, W_op1, W_op, guardC_t, guardC_f, bb_tf, bb_ft, bb_tt, bb_ff, argC_a, goC_a, seqC_a, pairC_p, eq_self, Nat.left_eq_add, Nat.add_eq_left, Nat.reduceEqDiff, Int.reduceEq, Nat.add_left_cancel_iff, Nat.add_assoc, W_ops_nil, wantedI_n, wantedI_s, wantV_b, wantV_u, evalAll, IA.eval, optC_s, optC_n, nextOf, freeNext, fpOf, lowOf, opW, ev1, opC_a, Fr.put, List.set, List.getD_cons_zero, List.getD_cons_succ, thenC_n, thenC_j, segC_n, blkC_n, blkC_r, blkC_e, condC_t, condC_f, valC_v, W_apply, if_true, if_false, Option.map_some, Option.map_none, Option.bind_some, Option.bind_none, List.nil_append, List.append_nil, List.cons_append, undefs, List.length_cons, List.length_nil, Nat.reduceSub, Nat.reduceAdd, Nat.zero_add, retC_r, retC_n, leaveC_a, valsC_a, unmark, resultsOf, resultOf, tupled, binI, unI, beq_self_eq_true, Bool.false_eq_true, reduceIte, reduceCtorEq, Bool.not_true, Bool.not_false, Option.getD_some, Option.getD_none, mkAgg, IV.cells, Heap.read, Heap.get_new, Heap.n_new, Heap.get_put, Heap.n_put, List.drop_succ_cons, List.drop_zero, List.take_succ_cons, List.take_zero, Nat.add_zero, Nat.reduceLeDiff, Nat.reduceMul, Nat.le_refl, Int.reduceLT, Int.reduceLE, List.drop, List.take, Option.some.injEq, and_true, true_and, and_false, false_and, BEq.rfl, Heap.write, splice, IV.one, List.all_cons, List.all_nil, Bool.and_self, Bool.and_true, Bool.true_and, Nat.le_add_right, eqKs, eqK, Nat.reduceLT, Nat.add_sub_cancel, bne_self_eq_false, Bool.false_bne, Bool.bne_false, List.append, pairOk, Bool.or_true, Bool.true_or, Int.toNat_natCast, Option.isSome_some, List.getElem?_cons_zero, List.getElem?_cons_succ, F7o0, F7o1, F7o2, F7o3, F7o4, F7o5, F7o6, F7o7, F7o8, F7o9, F7o10, F7o11, F7o12, F7o13, F7o14, F7o15, F7o16, F7o17, F7o18, F7o19, F7o20, F7o21, F7o22, F7o23, F7o24, F7o25, F7o26, F7o27, F7o28, F7o29, F7o30, F7o31, F7o32, F7o33, F7o34, F7o35, F7o36, F7o37, F7o38, F7o39, F7o40, F7o41, F7o42, F7o43, F7o44, F7o45, F7o46, F7o47, F7o48, F7o49, F7o50, F7o51, F7o52, F7o53, F7o54, F7o55, F7o56, F7o58, F7b, F7, yc, gn1, ga1, b1, b2, a1, l2, r2, e2]
    exact hQ.1 _ _ 1 (by decide) ⟨rfl, rfl, rfl, rfl, rfl, rfl, rfl, rfl, rfl⟩ rfl rfl rfl (gp _) (kb _)
  · have hsd := sided_iff.1 e1
    have e2 : decide (sd > 1) = false := by simp; omega
    rw [if_neg (by simp)]
    cases inn with
    | true =>
      rw [if_pos rfl]
      simp only [W_skip, W_ret, W_exit, W_seq, W_block, W_ops, W_cond, W_segs_cons, W_segs_nil, freeI_s, freeI_f, W_op1, W_op, guardC_t, guardC_f, bb_tf, bb_ft, bb_tt, bb_ff, argC_a, goC_a, seqC_a, pairC_p, eq_self, Nat.left_eq_add, Nat.add_eq_left, Nat.reduceEqDiff, Int.reduceEq, Nat.add_left_cancel_iff, Nat.add_assoc, W_ops_nil, wantedI_n, wantedI_s, wantV_b, wantV_u, evalAll, IA.eval, optC_s, optC_n, nextOf, freeNext, fpOf, lowOf, opW, ev1, opC_a, Fr.put, List.set, List.getD_cons_zero, List.getD_cons_succ, thenC_n, thenC_j, segC_n, blkC_n, blkC_r, blkC_e, condC_t, condC_f, valC_v, W_apply, if_true, if_false, Option.map_some, Option.map_none, Option.bind_some, Option.bind_none, List.nil_append, List.append_nil, List.cons_append, undefs, List.length_cons, List.length_nil, Nat.reduceSub, Nat.reduceAdd, Nat.zero_add, retC_r, retC_n, leaveC_a, valsC_a, unmark, resultsOf, resultOf, tupled, binI, unI, beq_self_eq_true, Bool.false_eq_true, reduceIte, reduceCtorEq, Bool.not_true, Bool.not_false, Option.getD_some, Option.getD_none, mkAgg, IV.cells, Heap.read, Heap.get_new, Heap.n_new, Heap.get_put, Heap.n_put, List.drop_succ_cons, List.drop_zero, List.take_succ_cons, List.take_zero, Nat.add_zero, Nat.reduceLeDiff, Nat.reduceMul, Nat.le_refl, Int.reduceLT, Int.reduceLE, List.drop, List.take, Option.some.injEq, and_true, true_and, and_false, false_and, BEq.rfl, Heap.write, splice, IV.one, List.all_cons, List.all_nil, Bool.and_self, Bool.and_true, Bool.true_and, Nat.le_add_right, eqKs, eqK, Nat.reduceLT, Nat.add_sub_cancel, bne_self_eq_false, Bool.false_bne, Bool.bne_false, List.append, pairOk, Bool.or_true, Bool.true_or, Int.toNat_natCast, Option.isSome_some, List.getElem?_cons_zero, List.getElem?_cons_succ, F7o0, F7o1, F7o2, F7o3, F7o4, F7o5, F7o6, F7o7, F7o8, F7o9, F7o10, F7o11, F7o12, F7o13, F7o14, F7o15, F7o16, F7o17, F7o18, F7o19, F7o20, F7o21, F7o22, F7o23, F7o24, F7o25, F7o26, F7o27, F7o28, F7o29, F7o30, F7o31, F7o32, F7o33, F7o34, F7o35, F7o36, F7o37, F7o38, F7o39, F7o40, F7o41, F7o42, F7o43, F7o44, F7o45, F7o46, F7o47, F7o48, F7o49, F7o50, F7o51, F7o52, F7o53, F7o54, F7o55, F7o56, F7o58, F7b, F7, yc, gn1, ga1, b1, b2, a1, l2, r2, e2]
      exact hQ.1 _ _ 12 (by decide) ⟨rfl, rfl, rfl, rfl, rfl, rfl, rfl, rfl, rfl⟩ rfl rfl rfl (gp _) (kb _)
    | false =>
      rw [if_neg (by simp)]
      have hp1 : placeB 179 = true := by decide
      have hp2 : placeB (-13) = true := by decide
      rcases hsd with h | h
      · have e3 : (sd == 1) = false := by simp [h]
        rw [if_neg (by omega)]
        simp only [W_skip, W_ret, W_exit, W_seq, W_block, W_ops, W_cond, W_segs_cons, W_segs_nil, freeI_s, freeI_f, W_op1, W_op, guardC_t, guardC_f, bb_tf, bb_ft, bb_tt, bb_ff, argC_a, goC_a, seqC_a, pairC_p, eq_self, Nat.left_eq_add, Nat.add_eq_left, Nat.reduceEqDiff, Int.reduceEq, Nat.add_left_cancel_iff, Nat.add_assoc, W_ops_nil, wantedI_n, wantedI_s, wantV_b, wantV_u, evalAll, IA.eval, optC_s, optC_n, nextOf, freeNext, fpOf, lowOf, opW, ev1, opC_a, Fr.put, List.set, List.getD_cons_zero, List.getD_cons_succ, thenC_n, thenC_j, segC_n, blkC_n, blkC_r, blkC_e, condC_t, condC_f, valC_v, W_apply, if_true, if_false, Option.map_some, Option.map_none, Option.bind_some, Option.bind_none, List.nil_append, List.append_nil, List.cons_append, undefs, List.length_cons, List.length_nil, Nat.reduceSub, Nat.reduceAdd, Nat.zero_add, retC_r, retC_n, leaveC_a, valsC_a, unmark, resultsOf, resultOf, tupled, binI, unI, beq_self_eq_true, Bool.false_eq_true, reduceIte, reduceCtorEq, Bool.not_true, Bool.not_false, Option.getD_some, Option.getD_none, mkAgg, IV.cells, Heap.read, Heap.get_new, Heap.n_new, Heap.get_put, Heap.n_put, List.drop_succ_cons, List.drop_zero, List.take_succ_cons, List.take_zero, Nat.add_zero, Nat.reduceLeDiff, Nat.reduceMul, Nat.le_refl, Int.reduceLT, Int.reduceLE, List.drop, List.take, Option.some.injEq, and_true, true_and, and_false, false_and, BEq.rfl, Heap.write, splice, IV.one, List.all_cons, List.all_nil, Bool.and_self, Bool.and_true, Bool.true_and, Nat.le_add_right, eqKs, eqK, Nat.reduceLT, Nat.add_sub_cancel, bne_self_eq_false, Bool.false_bne, Bool.bne_false, List.append, pairOk, Bool.or_true, Bool.true_or, Int.toNat_natCast, Option.isSome_some, List.getElem?_cons_zero, List.getElem?_cons_succ, F7o0, F7o1, F7o2, F7o3, F7o4, F7o5, F7o6, F7o7, F7o8, F7o9, F7o10, F7o11, F7o12, F7o13, F7o14, F7o15, F7o16, F7o17, F7o18, F7o19, F7o20, F7o21, F7o22, F7o23, F7o24, F7o25, F7o26, F7o27, F7o28, F7o29, F7o30, F7o31, F7o32, F7o33, F7o34, F7o35, F7o36, F7o37, F7o38, F7o39, F7o40, F7o41, F7o42, F7o43, F7o44, F7o45, F7o46, F7o47, F7o48, F7o49, F7o50, F7o51, F7o52, F7o53, F7o54, F7o55, F7o56, F7o58, F7b, F7, yc, gn1, ga1, b1, b2, a1, l2, r2, e2, e3]
        refine hQ.2 _ _ true (-13) count true .nilSlice .nilSlice [] ⟨rfl, rfl, rfl, rfl, rfl, rfl, rfl, rfl, rfl⟩ rfl rfl rfl (gp _) .nil .nil (.inl ⟨rfl, rfl⟩) (fun _ _ _ _ _ h => by cases h) (fun _ _ _ _ _ h => by cases h) ?_ (fun p hp => by cases hp) (by simp) (by omega) (kb _)
        exact check_in hp2 (by omega) (by simp) (fun p hp => by cases hp) trivial
      · have e3 : (sd == 1) = true := by simp [h]
        rw [if_pos h]
        simp only [W_skip, W_ret, W_exit, W_seq, W_block, W_ops, W_cond, W_segs_cons, W_segs_nil, freeI_s, freeI_f, W_op1, W_op, guardC_t, guardC_f, bb_tf, bb_ft, bb_tt, bb_ff, argC_a, goC_a, seqC_a, pairC_p, eq_self, Nat.left_eq_add, Nat.add_eq_left, Nat.reduceEqDiff, Int.reduceEq, Nat.add_left_cancel_iff, Nat.add_assoc, W_ops_nil, wantedI_n, wantedI_s, wantV_b, wantV_u, evalAll, IA.eval, optC_s, optC_n, nextOf, freeNext, fpOf, lowOf, opW, ev1, opC_a, Fr.put, List.set, List.getD_cons_zero, List.getD_cons_succ, thenC_n, thenC_j, segC_n, blkC_n, blkC_r, blkC_e, condC_t, condC_f, valC_v, W_apply, if_true, if_false, Option.map_some, Option.map_none, Option.bind_some, Option.bind_none, List.nil_append, List.append_nil, List.cons_append, undefs, List.length_cons, List.length_nil, Nat.reduceSub, Nat.reduceAdd, Nat.zero_add, retC_r, retC_n, leaveC_a, valsC_a, unmark, resultsOf, resultOf, tupled, binI, unI, beq_self_eq_true, Bool.false_eq_true, reduceIte, reduceCtorEq, Bool.not_true, Bool.not_false, Option.getD_some, Option.getD_none, mkAgg, IV.cells, Heap.read, Heap.get_new, Heap.n_new, Heap.get_put, Heap.n_put, List.drop_succ_cons, List.drop_zero, List.take_succ_cons, List.take_zero, Nat.add_zero, Nat.reduceLeDiff, Nat.reduceMul, Nat.le_refl, Int.reduceLT, Int.reduceLE, List.drop, List.take, Option.some.injEq, and_true, true_and, and_false, false_and, BEq.rfl, Heap.write, splice, IV.one, List.all_cons, List.all_nil, Bool.and_self, Bool.and_true, Bool.true_and, Nat.le_add_right, eqKs, eqK, Nat.reduceLT, Nat.add_sub_cancel, bne_self_eq_false, Bool.false_bne, Bool.bne_false, List.append, pairOk, Bool.or_true, Bool.true_or, Int.toNat_natCast, Option.isSome_some, List.getElem?_cons_zero, List.getElem?_cons_succ, F7o0, F7o1, F7o2, F7o3, F7o4, F7o5, F7o6, F7o7, F7o8, F7o9, F7o10, F7o11, F7o12, F7o13, F7o14, F7o15, F7o16, F7o17, F7o18, F7o19, F7o20, F7o21, F7o22, F7o23, F7o24, F7o25, F7o26, F7o27, F7o28, F7o29, F7o30, F7o31, F7o32, F7o33, F7o34, F7o35, F7o36, F7o37, F7o38, F7o39, F7o40, F7o41, F7o42, F7o43, F7o44, F7o45, F7o46, F7o47, F7o48, F7o49, F7o50, F7o51, F7o52, F7o53, F7o54, F7o55, F7o56, F7o58, F7b, F7, yc, gn1, ga1, b1, b2, a1, l2, r2, e2, e3]
        refine hQ.2 _ _ true 179 count true .nilSlice .nilSlice [] ⟨rfl, rfl, rfl, rfl, rfl, rfl, rfl, rfl, rfl⟩ rfl rfl rfl (gp _) .nil .nil (.inl ⟨rfl, rfl⟩) (fun _ _ _ _ _ h => by cases h) (fun _ _ _ _ _ h => by cases h) ?_ (fun p hp => by cases hp) (by simp) (by omega) (kb _)
        exact check_in hp1 (by omega) (by simp) (fun p hp => by cases hp) trivial

theorem ya_leave (va : IV) (yb nb : Nat) (inn new : Bool) (place count : Int) (v vp : IV) (P : List Ps) (i lo : Nat) (w pl sd : Int) (pv : IV) (ps : List Int) {H : Heap} {tm : List IV} (hf : Fr7 tm va yb inn place count new vp i) (h10 : tm.getD 10 IV.undef = .int .i64 0) (h11 : tm.getD 11 IV.undef = .ptr nb 0) (h12 : tm.getD 12 IV.undef = .int .i64 0)
    (ha : ActAt H va i w pl sd pv ps lo) (hw : w.tmod 4 = 1) (hi : i ≤ 100)
    (hg : H.get nb = some (.cells false 38 5 (yc false 0 0 false .nilSlice))) (hy : H.get yb = some (.cells false 38 5 (yc inn place count new v))) (hyl : lo ≤ yb) (hyn : yb < nb) (hnn : nb < H.n)
    (hv : PL H v P) (hP : P.length ≤ 1000) (hc : checkE inn place count new P = 0) (hcount : 0 ≤ count ∧ count ≤ 100)
    (Q : Out → Heap → Prop) (hQ : After H va yb nb i inn new place count vp P Q) : W E0 lo (.code F7s none ⟨tm, []⟩) H Q := by
  obtain ⟨t, t0, t3, t4, t5, t6, t7, t8, t9⟩ := hf
  obtain ⟨⟨ba, oa, n, c, x, ro, ea, ez, cs, rfl, hin, hba, hga, hla, hca⟩, hbl, hby, hw0, hs0⟩ := ha
  obtain ⟨r0, r1, r2, r3⟩ := cell_at hca
  rw [Nat.add_assoc] at r1 r2 r3
  rw [expl232 tm t, t0, t3, t4, t5, t6, t7, t8, t9, h10, h11, h12]
  unfold yc at hg hy
  have a1 : (0 ≤ (i : Int) ∧ (i : Int) < n) = True := by simp; omega
  have a2 : ((4 : Int) = 0) = False := by simp
  have a3 : (w.tmod 4 == 0) = false := by simp [hw]
  have a4 : (w.tmod 4 == 1) = true := by simp [hw]
  have l0 : (oa + (i * 4 + 1) ≤ cs.length) = True := by simp; omega
  have l2 : (oa + (i * 4 + 3) ≤ cs.length) = True := by simp; omega
  simp only [W_skip, W_ret, W_exit, W_seq, W_block, W_ops, W_cond, W_segs_cons, W_segs_nil, freeI_s, freeI_f, W_op1, W_op, guardC_t, guardC_f, bb_tf, bb_ft, bb_tt, bb_ff, argC_a, goC_a, seqC_a, pairC_p, eq_self, Nat.left_eq_add, Nat.add_eq_left, Nat.reduceEqDiff, Int.reduceEq, Nat.add_left_cancel_iff, Nat.add_assoc, W_ops_nil, wantedI_n, wantedI_s, wantV_b, wantV_u, evalAll, IA.eval, optC_s, optC_n, nextOf, freeNext, fpOf, lowOf, opW, ev1, opC_a, Fr.put, List.set, List.getD_cons_zero, List.getD_cons_succ, thenC_n, thenC_j, segC_n, blkC_n, blkC_r, blkC_e, condC_t, condC_f, valC_v, W_apply, if_true, if_false, Option.map_some, Option.map_none, Option.bind_some, Option.bind_none, List.nil_append, List.append_nil, List.cons_append, undefs, List.length_cons, List.length_nil, Nat.reduceSub, Nat.reduceAdd, Nat.zero_add, retC_r, retC_n, leaveC_a, valsC_a, unmark, resultsOf, resultOf, tupled, binI, unI, beq_self_eq_true, Bool.false_eq_true, reduceIte, reduceCtorEq, Bool.not_true, Bool.not_false, Option.getD_some, Option.getD_none, mkAgg, IV.cells, Heap.read, Heap.get_new, Heap.n_new, Heap.get_put, Heap.n_put, List.drop_succ_cons, List.drop_zero, List.take_succ_cons, List.take_zero, Nat.add_zero, Nat.reduceLeDiff, Nat.reduceMul, Nat.le_refl, Int.reduceLT, Int.reduceLE, List.drop, List.take, Option.some.injEq, and_true, true_and, and_false, false_and, BEq.rfl, Heap.write, splice, IV.one, List.all_cons, List.all_nil, Bool.and_self, Bool.and_true, Bool.true_and, Nat.le_add_right, eqKs, eqK, Nat.reduceLT, Nat.add_sub_cancel, bne_self_eq_false, Bool.false_bne, Bool.bne_false, List.append, pairOk, Bool.or_true, Bool.true_or, Int.toNat_natCast, Option.isSome_some, List.getElem?_cons_zero, List.getElem?_cons_succ, F7o0, F7o1, F7o2, F7o3, F7o4, F7o5, F7o6, F7o7, F7o8, F7o9, F7o10, F7o11, F7o12, F7o13, F7o14, F7o15, F7o16, F7o17, F7o18, F7o19, F7o20, F7o21, F7o22, F7o23, F7o24, F7o25, F7o26, F7o27, F7o28, F7o29, F7o30, F7o31, F7o32, F7o33, F7o34, F7o35, F7o36, F7o37, F7o38, F7o39, F7o40, F7o41, F7o42, F7o43, F7o44, F7o45, F7o46, F7o47, F7o48, F7o49, F7o50, F7o51, F7o52, F7o53, F7o54, F7o55, F7o56, F7o58, F7b, F7, F7s, a1, a2, a3, a4, l0, hga, hy, r0]
  refine leave_sp inn new place count hv (by omega) (by omega) fun H1 k1 => ?_
  have hn1 := k1.1
  have gn1 := (k1.2 nb (by omega) (by omega)).trans hg
  have b1 : (lo ≤ nb) = True := by simp; omega
  rw [if_neg (by rw [hc]; simp)]
  have kb : ∀ X, KeepBut nb H (H1.put nb X) := fun X => ⟨by rw [Heap.n_put]; omega, fun b' h1 h2 => by
    rw [Heap.get_put, if_neg (Ne.symm h2)]; exact k1.2 b' (by omega) (by omega)⟩
  have gp : ∀ X, (H1.put nb X).get nb = some X := fun X => by rw [Heap.get_put, if_pos rfl]
  cases inn with
  | false =>
    rw [if_pos rfl]
    simp only [W_skip, W_ret, W_exit, W_seq, W_block, W_ops, W_cond, W_segs_cons, W_segs_nil, freeI_s, freeI_f, W_op1, W_op, guardC_t, guardC_f, bb_tf, bb_ft, bb_tt, bb_ff, argC_a, goC_a, seqC_a, pairC_p, eq_self, Nat.left_eq_add, Nat.add_eq_left, Nat.reduceEqDiff, Int.reduceEq, Nat.add_left_cancel_iff, Nat.add_assoc, W_ops_nil, wantedI_n, wantedI_s, wantV_b, wantV_u, evalAll, IA.eval, optC_s, optC_n, nextOf, freeNext, fpOf, lowOf, opW, ev1, opC_a, Fr.put, List.set, List.getD_cons_zero, List.getD_cons_succ, thenC_n, thenC_j, segC_n, blkC_n, blkC_r, blkC_e, condC_t, condC_f, valC_v, W_apply, if_true, if_false, Option.map_some, Option.map_none, Option.bind_some, Option.bind_none, List.nil_append, List.append_nil, List.cons_append, undefs, List.length_cons, List.length_nil, Nat.reduceSub, Nat.reduceAdd, Nat.zero_add, retC_r, retC_n, leaveC_a, valsC_a, unmark, resultsOf, resultOf, tupled, binI, unI, beq_self_eq_true, Bool.false_eq_true, reduceIte, reduceCtorEq, Bool.not_true, Bool.not_false, Option.getD_some, Option.getD_none, mkAgg, IV.cells, Heap.read, Heap.get_new, Heap.n_new, Heap.get_put, Heap.n_put, List.drop_succ_cons, List.drop_zero, List.take_succ_cons, List.take_zero, Nat.add_zero, Nat.reduceLeDiff, Nat.reduceMul, Nat.le_refl, Int.reduceLT, Int.reduceLE, List.drop, List.take, Option.some.injEq, and_true, true_and, and_false, false_and, BEq.rfl, Heap.write, splice, IV.one, List.all_cons, List.all_nil, Bool.and_self, Bool.and_true, Bool.true_and, Nat.le_add_right, eqKs, eqK, Nat.reduceLT, Nat.add_sub_cancel, bne_self_eq_false, Bool.false_bne, Bool.bne_false, List.append, pairOk, Bool.or_true, Bool.true_or, Int.toNat_natCast, Option.isSome_some, List.getElem?_cons_zero, List.getElem?_cons_succ, F7o0, F7o1, F7o2, F7o3, F7o4, F7o5, F7o6, F7o7, F7o8, F7o9, F7o10, F7o11, F7o12, F7o13, F7o14, F7o15, F7o16, F7o17, F7o18, F7o19, F7o20, F7o21, F7o22, F7o23, F7o24, F7o25, F7o26, F7o27, F7o28, F7o29, F7o30, F7o31, F7o32, F7o33, F7o34, F7o35, F7o36, F7o37, F7o38, F7o39, F7o40, F7o41, F7o42, F7o43, F7o44, F7o45, F7o46, F7o47, F7o48, F7o49, F7o50, F7o51, F7o52, F7o53, F7o54, F7o55, F7o56, F7o58, F7b, F7, yc, gn1, b1]
    exact hQ.1 _ _ 12 (by decide) ⟨rfl, rfl, rfl, rfl, rfl, rfl, rfl, rfl, rfl⟩ rfl rfl rfl (gp _) (kb _)
  | true =>
    rw [if_neg (by simp)]
    simp only [W_skip, W_ret, W_exit, W_seq, W_block, W_ops, W_cond, W_segs_cons, W_segs_nil, freeI_s, freeI_f, W_op1, W_op, guardC_t, guardC_f, bb_tf, bb_ft, bb_tt, bb_ff, argC_a, goC_a, seqC_a, pairC_p, eq_self, Nat.left_eq_add, Nat.add_eq_left, Nat.reduceEqDiff, Int.reduceEq, Nat.add_left_cancel_iff, Nat.add_assoc, W_ops_nil, wantedI_n, wantedI_s, wantV_b, wantV_u, evalAll, IA.eval, optC_s, optC_n, nextOf, freeNext, fpOf, lowOf, opW, ev1, opC_a, Fr.put, List.set, List.getD_cons_zero, List.getD_cons_succ, thenC_n, thenC_j, segC_n, blkC_n, blkC_r, blkC_e, condC_t, condC_f, valC_v, W_apply, if_true, if_false, Option.map_some, Option.map_none, Option.bind_some, Option.bind_none, List.nil_append, List.append_nil, List.cons_append, undefs, List.length_cons, List.length_nil, Nat.reduceSub, Nat.reduceAdd, Nat.zero_add, retC_r, retC_n, leaveC_a, valsC_a, unmark, resultsOf, resultOf, tupled, binI, unI, beq_self_eq_true, Bool.false_eq_true, reduceIte, reduceCtorEq, Bool.not_true, Bool.not_false, Option.getD_some, Option.getD_none, mkAgg, IV.cells, Heap.read, Heap.get_new, Heap.n_new, Heap.get_put, Heap.n_put, List.drop_succ_cons, List.drop_zero, List.take_succ_cons, List.take_zero, Nat.add_zero, Nat.reduceLeDiff, Nat.reduceMul, Nat.le_refl, Int.reduceLT, Int.reduceLE, List.drop, List.take, Option.some.injEq, and_true, true_and, and_false, false_and, BEq.rfl, Heap.write, splice, IV.one, List.all_cons, List.all_nil, Bool.and_self, Bool.and_true, Bool.true_and, Nat.le_add_right, eqKs, eqK, Nat.reduceLT, Nat.add_sub_cancel, bne_self_eq_false, Bool.false_bne, Bool.bne_false, List.append, pairOk, Bool.or_true, Bool.true_or, Int.toNat_natCast, Option.isSome_some, List.getElem?_cons_zero, List.getElem?_cons_succ, F7o0, F7o1, F7o2, F7o3, F7o4, F7o5, F7o6, F7o7, F7o8, F7o9, F7o10, F7o11, F7o12, F7o13, F7o14, F7o15, F7o16, F7o17, F7o18, F7o19, F7o20, F7o21, F7o22, F7o23, F7o24, F7o25, F7o26, F7o27, F7o28, F7o29, F7o30, F7o31, F7o32, F7o33, F7o34, F7o35, F7o36, F7o37, F7o38, F7o39, F7o40, F7o41, F7o42, F7o43, F7o44, F7o45, F7o46, F7o47, F7o48, F7o49, F7o50, F7o51, F7o52, F7o53, F7o54, F7o55, F7o56, F7o58, F7b, F7, yc, gn1, b1]
    refine hQ.2 _ _ false 0 count false .nilSlice .nilSlice [] ⟨rfl, rfl, rfl, rfl, rfl, rfl, rfl, rfl, rfl⟩ rfl rfl rfl (gp _) .nil .nil (.inl ⟨rfl, rfl⟩) (fun _ _ _ _ _ h => by cases h) (fun _ _ _ _ _ h => by cases h) ?_ (fun p hp => by cases hp) (by simp) (by omega) (kb _)
    unfold checkE
    rw [if_neg (by omega), if_pos rfl, if_neg (by simp)]
end Go.Iso.GenA
end

section
namespace Go.Iso.GenA
open Go.Iso
set_option maxHeartbeats 8000000
set_option maxRecDepth 10000

theorem check_P {inn : Bool} {place count : Int} {new : Bool} {l : List Ps} (h : checkE inn place count new l = 0) : Red l ∧ Valids l := by
  have key : chk none l = true → Red l ∧ Valids l := fun hk => ⟨((chk_iff none l).1 hk).2.1, ((chk_iff none l).1 hk).1⟩
  unfold checkE at h
  split at h
  · omega
  · split at h
    · split at h
      · omega
      · rename_i h2
        have : l = [] := List.length_eq_zero_iff.1 (by
          have : ¬ l.length > 0 := fun h => h2 (.inr (.inr h))
          omega)
        subst this
        exact key rfl
    · split at h
      · omega
      · split at h
        · rename_i hk; exact key hk
        · omega

theorem ya_go (va : IV) (yb nb : Nat) (inn new : Bool) (place count : Int) (v vp : IV) (P : List Ps) (i lo : Nat) (w pl sd : Int) (pv : IV) (ps : List Int) {H : Heap} {tm : List IV} (hf : Fr7 tm va yb inn place count new vp i) (h10 : tm.getD 10 IV.undef = .int .i64 0) (h11 : tm.getD 11 IV.undef = .ptr nb 0) (h12 : tm.getD 12 IV.undef = .int .i64 0)
    (ha : ActAt H va i w pl sd pv ps lo) (hw : w.tmod 4 = 2) (hps : ps.length ≤ 10) (hi : i ≤ 100)
    (hg : H.get nb = some (.cells false 38 5 (yc false 0 0 false .nilSlice))) (hy : H.get yb = some (.cells false 38 5 (yc inn place count new v))) (hyl : lo ≤ yb) (hyn : yb < nb) (hnn : nb < H.n)
    (hv : PL H v P) (hvp : PL H vp P) (hop : offB vp yb) (hopn : offB vp nb) (hNP : NN P) (hP : P.length ≤ 900) (hc : checkE inn place count new P = 0) (hcount : 0 ≤ count ∧ count ≤ 100)
    (Q : Out → Heap → Prop) (hQ : After H va yb nb i inn new place count vp P Q) : W E0 lo (.code F7s none ⟨tm, []⟩) H Q := by
  obtain ⟨t, t0, t3, t4, t5, t6, t7, t8, t9⟩ := hf
  obtain ⟨⟨ba, oa, n, c, x, ro, ea, ez, cs, rfl, hin, hba, hga, hla, hca⟩, hbl, hby, hw0, hs0⟩ := ha
  obtain ⟨r0, r1, r2, r3⟩ := cell_at hca
  rw [Nat.add_assoc] at r1 r2 r3
  rw [expl232 tm t, t0, t3, t4, t5, t6, t7, t8, t9, h10, h11, h12]
  unfold yc at hg hy
  have a1 : (0 ≤ (i : Int) ∧ (i : Int) < n) = True := by simp; omega
  have a2 : ((4 : Int) = 0) = False := by simp
  have a3 : (w.tmod 4 == 0) = false := by simp [hw]
  have a4 : (w.tmod 4 == 1) = false := by simp [hw]
  have a5 : (w.tmod 4 == 2) = true := by simp [hw]
  have a6 : ((2 : Int) = 0) = False := by simp
  have l0 : (oa + (i * 4 + 1) ≤ cs.length) = True := by simp; omega
  have l1 : (oa + (i * 4 + 2) ≤ cs.length) = True := by simp; omega
  have l3 : (oa + (i * 4 + 4) ≤ cs.length) = True := by simp; omega
  simp only [W_skip, W_ret, W_exit, W_seq, W_block, W_ops, W_cond, W_segs_cons, W_segs_nil, freeI_s, freeI_f, W_op1, W_op, guardC_t, guardC_f, bb_tf, bb_ft, bb_tt, bb_ff, argC_a, goC_a, seqC_a, pairC_p, eq_self, Nat.left_eq_add, Nat.add_eq_left, Nat.reduceEqDiff, Int.reduceEq, Nat.add_left_cancel_iff, Nat.add_assoc, W_ops_nil, wantedI_n, wantedI_s, wantV_b, wantV_u, evalAll, IA.eval, optC_s, optC_n, nextOf, freeNext, fpOf, lowOf, opW, ev1, opC_a, Fr.put, List.set, List.getD_cons_zero, List.getD_cons_succ, thenC_n, thenC_j, segC_n, blkC_n, blkC_r, blkC_e, condC_t, condC_f, valC_v, W_apply, if_true, if_false, Option.map_some, Option.map_none, Option.bind_some, Option.bind_none, List.nil_append, List.append_nil, List.cons_append, undefs, List.length_cons, List.length_nil, Nat.reduceSub, Nat.reduceAdd, Nat.zero_add, retC_r, retC_n, leaveC_a, valsC_a, unmark, resultsOf, resultOf, tupled, binI, unI, beq_self_eq_true, Bool.false_eq_true, reduceIte, reduceCtorEq, Bool.not_true, Bool.not_false, Option.getD_some, Option.getD_none, mkAgg, IV.cells, Heap.read, Heap.get_new, Heap.n_new, Heap.get_put, Heap.n_put, List.drop_succ_cons, List.drop_zero, List.take_succ_cons, List.take_zero, Nat.add_zero, Nat.reduceLeDiff, Nat.reduceMul, Nat.le_refl, Int.reduceLT, Int.reduceLE, List.drop, List.take, Option.some.injEq, and_true, true_and, and_false, false_and, BEq.rfl, Heap.write, splice, IV.one, List.all_cons, List.all_nil, Bool.and_self, Bool.and_true, Bool.true_and, Nat.le_add_right, eqKs, eqK, Nat.reduceLT, Nat.add_sub_cancel, bne_self_eq_false, Bool.false_bne, Bool.bne_false, List.append, pairOk, Bool.or_true, Bool.true_or, Int.toNat_natCast, Option.isSome_some, List.getElem?_cons_zero, List.getElem?_cons_succ, F7o0, F7o1, F7o2, F7o3, F7o4, F7o5, F7o6, F7o7, F7o8, F7o9, F7o10, F7o11, F7o12, F7o13, F7o14, F7o15, F7o16, F7o17, F7o18, F7o19, F7o20, F7o21, F7o22, F7o23, F7o24, F7o25, F7o26, F7o27, F7o28, F7o29, F7o30, F7o31, F7o32, F7o33, F7o34, F7o35, F7o36, F7o37, F7o38, F7o39, F7o40, F7o41, F7o42, F7o43, F7o44, F7o45, F7o46, F7o47, F7o48, F7o49, F7o50, F7o51, F7o52, F7o53, F7o54, F7o55, F7o56, F7o58, F7b, F7, F7s, a1, a2, a3, a4, a5, l0, l3, hga, r0, r3]
  refine of_sp hbl (by omega) (by omega) fun H1 u k1 hg1 => ?_
  have hu1 := hg1.pl
  have hn1 := k1.1
  have hM : (ps.map ofP).length ≤ 10 := by rw [List.length_map]; omega
  have hMv := of_valids hby
  have hMn : NN (ps.map ofP) := fun p hp => by
    obtain ⟨x, hx', rfl⟩ := List.mem_map.1 hp
    rcases sided_iff.1 (ofP_sided (hby x hx').1) with h | h <;> omega
  have hoff1 : offB u nb := by
    intro vb vo n' vc vex hu _
    rcases hg1 with ⟨rfl, _⟩ | ⟨b, q1, q2, rfl, _⟩
    · cases hu
    · injection hu with hu; omega
  have gn1 := (k1.2 nb (by omega) (by omega)).trans hg
  have gy1 := (k1.2 yb (by omega) (by omega)).trans hy
  have ga1 := (k1.2 ba (by omega) (by omega)).trans hga
  have hv1 := hv.keep k1
  have hvp1 := hvp.keep k1
  generalize ps.map ofP = M at *
  simp only [W_skip, W_ret, W_exit, W_seq, W_block, W_ops, W_cond, W_segs_cons, W_segs_nil, freeI_s, freeI_f, W_op1, W_op, guardC_t, guardC_f, bb_tf, bb_ft, bb_tt, bb_ff, argC_a, goC_a, seqC_a, pairC_p, eq_self, Nat.left_eq_add, Nat.add_eq_left, Nat.reduceEqDiff, Int.reduceEq, Nat.add_left_cancel_iff, Nat.add_assoc, W_ops_nil, wantedI_n, wantedI_s, wantV_b, wantV_u, evalAll, IA.eval, optC_s, optC_n, nextOf, freeNext, fpOf, lowOf, opW, ev1, opC_a, Fr.put, List.set, List.getD_cons_zero, List.getD_cons_succ, thenC_n, thenC_j, segC_n, blkC_n, blkC_r, blkC_e, condC_t, condC_f, valC_v, W_apply, if_true, if_false, Option.map_some, Option.map_none, Option.bind_some, Option.bind_none, List.nil_append, List.append_nil, List.cons_append, undefs, List.length_cons, List.length_nil, Nat.reduceSub, Nat.reduceAdd, Nat.zero_add, retC_r, retC_n, leaveC_a, valsC_a, unmark, resultsOf, resultOf, tupled, binI, unI, beq_self_eq_true, Bool.false_eq_true, reduceIte, reduceCtorEq, Bool.not_true, Bool.not_false, Option.getD_some, Option.getD_none, mkAgg, IV.cells, Heap.read, Heap.get_new, Heap.n_new, Heap.get_put, Heap.n_put, List.drop_succ_cons, List.drop_zero, List.take_succ_cons, List.take_zero, Nat.add_zero, Nat.reduceLeDiff, Nat.reduceMul, Nat.le_refl, Int.reduceLT, Int.reduceLE, List.drop, List.take, Option.some.injEq, and_true, true_and, and_false, false_and, BEq.rfl, Heap.write, splice, IV.one, List.all_cons, List.all_nil, Bool.and_self, Bool.and_true, Bool.true_and, Nat.le_add_right, eqKs, eqK, Nat.reduceLT, Nat.add_sub_cancel, bne_self_eq_false, Bool.false_bne, Bool.bne_false, List.append, pairOk, Bool.or_true, Bool.true_or, Int.toNat_natCast, Option.isSome_some, List.getElem?_cons_zero, List.getElem?_cons_succ, F7o0, F7o1, F7o2, F7o3, F7o4, F7o5, F7o6, F7o7, F7o8, F7o9, F7o10, F7o11, F7o12, F7o13, F7o14, F7o15, F7o16, F7o17, F7o18, F7o19, F7o20, F7o21, F7o22, F7o23, F7o24, F7o25, F7o26, F7o27, F7o28, F7o29, F7o30, F7o31, F7o32, F7o33, F7o34, F7o35, F7o36, F7o37, F7o38, F7o39, F7o40, F7o41, F7o42, F7o43, F7o44, F7o45, F7o46, F7o47, F7o48, F7o49, F7o50, F7o51, F7o52, F7o53, F7o54, F7o55, F7o56, F7o58, F7b, F7, a1, l1, ga1, gy1, r1]
  have hR := valids_all hMv
  have hPR := check_P hc
  have hplen := pushL_len M P
  have b1 : (lo ≤ nb) = True := by simp; omega
  have hpb : placeB pl = ((pl.tmod 2 != 0) && (decide (pl ≥ -13) && decide (pl ≤ 179))) := rfl
  refine go_sp inn new place count pl (l := P) (m := M) hv1 hu1 (by omega) (by omega) (by omega) (fun H2 e k2 hcase => ?_) (fun H2 b k2 _ hpl _ hin _ hb ho => ?_)
  · have hn2 := k2.1
    have gn2 := (k2.2 nb (by omega) (by omega)).trans gn1
    have ga2 := (k2.2 ba (by omega) (by omega)).trans ga1
    have b2 : (nb = ba) = False := by simp; omega
    have kb : ∀ X, KeepBut nb H (H2.put nb X) := fun X => ⟨by rw [Heap.n_put]; omega, fun b' h1 h2 => by
      rw [Heap.get_put, if_neg (Ne.symm h2), k2.2 b' (by omega) (by omega)]; exact k1.2 b' (by omega) (by omega)⟩
    have gp : ∀ X, (H2.put nb X).get nb = some X := fun X => by rw [Heap.get_put, if_pos rfl]
    rcases hcase with h | h | h | h | h
    · exact absurd hc h.1
    · obtain ⟨_, hpf, he⟩ := h
      subst he
      have fin : ∀ tm', Fr7 tm' (.slice ba oa n c x) yb inn place count new vp i → tm'.getD 10 IV.undef = .int .i64 1 → tm'.getD 11 IV.undef = .ptr nb 0 → tm'.getD 12 IV.undef = .int .i64 1 → Q (.ex .normal ⟨tm', []⟩) (H2.put nb (.cells false 38 5 [.bool false, .int .i64 0, .int .i64 0, .bool false, .nilSlice])) :=
        fun tm' f1 f2 f3 f4 => hQ.1 _ _ 1 (by decide) f1 f2 f3 f4 (gp _) (kb _)
      cases c1 : decide (pl < -13)
      case true =>
        simp only [W_skip, W_ret, W_exit, W_seq, W_block, W_ops, W_cond, W_segs_cons, W_segs_nil, freeI_s, freeI_f, W_op1, W_op, guardC_t, guardC_f, bb_tf, bb_ft, bb_tt, bb_ff, argC_a, goC_a, seqC_a, pairC_p, eq_self, Nat.left_eq_add, Nat.add_eq_left, Nat.reduceEqDiff, Int.reduceEq, Nat.add_left_cancel_iff, Nat.add_assoc, W_ops_nil, wantedI_n, wantedI_s, wantV_b, wantV_u, evalAll, IA.eval, optC_s, optC_n, nextOf, freeNext, fpOf, lowOf, opW, ev1, opC_a, Fr.put, List.set, List.getD_cons_zero, List.getD_cons_succ, thenC_n, thenC_j, segC_n, blkC_n, blkC_r, blkC_e, condC_t, condC_f, valC_v, W_apply, if_true, if_false, Option.map_some, Option.map_none, Option.bind_some, Option.bind_none, List.nil_append, List.append_nil, List.cons_append, undefs, List.length_cons, List.length_nil, Nat.reduceSub, Nat.reduceAdd, Nat.zero_add, retC_r, retC_n, leaveC_a, valsC_a, unmark, resultsOf, resultOf, tupled, binI, unI, beq_self_eq_true, Bool.false_eq_true, reduceIte, reduceCtorEq, Bool.not_true, Bool.not_false, Option.getD_some, Option.getD_none, mkAgg, IV.cells, Heap.read, Heap.get_new, Heap.n_new, Heap.get_put, Heap.n_put, List.drop_succ_cons, List.drop_zero, List.take_succ_cons, List.take_zero, Nat.add_zero, Nat.reduceLeDiff, Nat.reduceMul, Nat.le_refl, Int.reduceLT, Int.reduceLE, List.drop, List.take, Option.some.injEq, and_true, true_and, and_false, false_and, BEq.rfl, Heap.write, splice, IV.one, List.all_cons, List.all_nil, Bool.and_self, Bool.and_true, Bool.true_and, Nat.le_add_right, eqKs, eqK, Nat.reduceLT, Nat.add_sub_cancel, bne_self_eq_false, Bool.false_bne, Bool.bne_false, List.append, pairOk, Bool.or_true, Bool.true_or, Int.toNat_natCast, Option.isSome_some, List.getElem?_cons_zero, List.getElem?_cons_succ, F7o0, F7o1, F7o2, F7o3, F7o4, F7o5, F7o6, F7o7, F7o8, F7o9, F7o10, F7o11, F7o12, F7o13, F7o14, F7o15, F7o16, F7o17, F7o18, F7o19, F7o20, F7o21, F7o22, F7o23, F7o24, F7o25, F7o26, F7o27, F7o28, F7o29, F7o30, F7o31, F7o32, F7o33, F7o34, F7o35, F7o36, F7o37, F7o38, F7o39, F7o40, F7o41, F7o42, F7o43, F7o44, F7o45, F7o46, F7o47, F7o48, F7o49, F7o50, F7o51, F7o52, F7o53, F7o54, F7o55, F7o56, F7o58, F7b, F7, yc, gn2, ga2, b1, b2, a1, l1, r1, c1]
        exact fin _ ⟨rfl, rfl, rfl, rfl, rfl, rfl, rfl, rfl, rfl⟩ rfl rfl rfl
      cases c2 : decide (pl > 179)
      case true =>
        simp only [W_skip, W_ret, W_exit, W_seq, W_block, W_ops, W_cond, W_segs_cons, W_segs_nil, freeI_s, freeI_f, W_op1, W_op, guardC_t, guardC_f, bb_tf, bb_ft, bb_tt, bb_ff, argC_a, goC_a, seqC_a, pairC_p, eq_self, Nat.left_eq_add, Nat.add_eq_left, Nat.reduceEqDiff, Int.reduceEq, Nat.add_left_cancel_iff, Nat.add_assoc, W_ops_nil, wantedI_n, wantedI_s, wantV_b, wantV_u, evalAll, IA.eval, optC_s, optC_n, nextOf, freeNext, fpOf, lowOf, opW, ev1, opC_a, Fr.put, List.set, List.getD_cons_zero, List.getD_cons_succ, thenC_n, thenC_j, segC_n, blkC_n, blkC_r, blkC_e, condC_t, condC_f, valC_v, W_apply, if_true, if_false, Option.map_some, Option.map_none, Option.bind_some, Option.bind_none, List.nil_append, List.append_nil, List.cons_append, undefs, List.length_cons, List.length_nil, Nat.reduceSub, Nat.reduceAdd, Nat.zero_add, retC_r, retC_n, leaveC_a, valsC_a, unmark, resultsOf, resultOf, tupled, binI, unI, beq_self_eq_true, Bool.false_eq_true, reduceIte, reduceCtorEq, Bool.not_true, Bool.not_false, Option.getD_some, Option.getD_none, mkAgg, IV.cells, Heap.read, Heap.get_new, Heap.n_new, Heap.get_put, Heap.n_put, List.drop_succ_cons, List.drop_zero, List.take_succ_cons, List.take_zero, Nat.add_zero, Nat.reduceLeDiff, Nat.reduceMul, Nat.le_refl, Int.reduceLT, Int.reduceLE, List.drop, List.take, Option.some.injEq, and_true, true_and, and_false, false_and, BEq.rfl, Heap.write, splice, IV.one, List.all_cons, List.all_nil, Bool.and_self, Bool.and_true, Bool.true_and, Nat.le_add_right, eqKs, eqK, Nat.reduceLT, Nat.add_sub_cancel, bne_self_eq_false, Bool.false_bne, Bool.bne_false, List.append, pairOk, Bool.or_true, Bool.true_or, Int.toNat_natCast, Option.isSome_some, List.getElem?_cons_zero, List.getElem?_cons_succ, F7o0, F7o1, F7o2, F7o3, F7o4, F7o5, F7o6, F7o7, F7o8, F7o9, F7o10, F7o11, F7o12, F7o13, F7o14, F7o15, F7o16, F7o17, F7o18, F7o19, F7o20, F7o21, F7o22, F7o23, F7o24, F7o25, F7o26, F7o27, F7o28, F7o29, F7o30, F7o31, F7o32, F7o33, F7o34, F7o35, F7o36, F7o37, F7o38, F7o39, F7o40, F7o41, F7o42, F7o43, F7o44, F7o45, F7o46, F7o47, F7o48, F7o49, F7o50, F7o51, F7o52, F7o53, F7o54, F7o55, F7o56, F7o58, F7b, F7, yc, gn2, ga2, b1, b2, a1, l1, r1, c1, c2]
        exact fin _ ⟨rfl, rfl, rfl, rfl, rfl, rfl, rfl, rfl, rfl⟩ rfl rfl rfl
      cases c3 : (pl.tmod 2 == 0)
      case true =>
        simp only [W_skip, W_ret, W_exit, W_seq, W_block, W_ops, W_cond, W_segs_cons, W_segs_nil, freeI_s, freeI_f, W_op1, W_op, guardC_t, guardC_f, bb_tf, bb_ft, bb_tt, bb_ff, argC_a, goC_a, seqC_a, pairC_p, eq_self, Nat.left_eq_add, Nat.add_eq_left, Nat.reduceEqDiff, Int.reduceEq, Nat.add_left_cancel_iff, Nat.add_assoc, W_ops_nil, wantedI_n, wantedI_s, wantV_b, wantV_u, evalAll, IA.eval, optC_s, optC_n, nextOf, freeNext, fpOf, lowOf, opW, ev1, opC_a, Fr.put, List.set, List.getD_cons_zero, List.getD_cons_succ, thenC_n, thenC_j, segC_n, blkC_n, blkC_r, blkC_e, condC_t, condC_f, valC_v, W_apply, if_true, if_false, Option.map_some, Option.map_none, Option.bind_some, Option.bind_none, List.nil_append, List.append_nil, List.cons_append, undefs, List.length_cons, List.length_nil, Nat.reduceSub, Nat.reduceAdd, Nat.zero_add, retC_r, retC_n, leaveC_a, valsC_a, unmark, resultsOf, resultOf, tupled, binI, unI, beq_self_eq_true, Bool.false_eq_true, reduceIte, reduceCtorEq, Bool.not_true, Bool.not_false, Option.getD_some, Option.getD_none, mkAgg, IV.cells, Heap.read, Heap.get_new, Heap.n_new, Heap.get_put, Heap.n_put, List.drop_succ_cons, List.drop_zero, List.take_succ_cons, List.take_zero, Nat.add_zero, Nat.reduceLeDiff, Nat.reduceMul, Nat.le_refl, Int.reduceLT, Int.reduceLE, List.drop, List.take, Option.some.injEq, and_true, true_and, and_false, false_and, BEq.rfl, Heap.write, splice, IV.one, List.all_cons, List.all_nil, Bool.and_self, Bool.and_true, Bool.true_and, Nat.le_add_right, eqKs, eqK, Nat.reduceLT, Nat.add_sub_cancel, bne_self_eq_false, Bool.false_bne, Bool.bne_false, List.append, pairOk, Bool.or_true, Bool.true_or, Int.toNat_natCast, Option.isSome_some, List.getElem?_cons_zero, List.getElem?_cons_succ, F7o0, F7o1, F7o2, F7o3, F7o4, F7o5, F7o6, F7o7, F7o8, F7o9, F7o10, F7o11, F7o12, F7o13, F7o14, F7o15, F7o16, F7o17, F7o18, F7o19, F7o20, F7o21, F7o22, F7o23, F7o24, F7o25, F7o26, F7o27, F7o28, F7o29, F7o30, F7o31, F7o32, F7o33, F7o34, F7o35, F7o36, F7o37, F7o38, F7o39, F7o40, F7o41, F7o42, F7o43, F7o44, F7o45, F7o46, F7o47, F7o48, F7o49, F7o50, F7o51, F7o52, F7o53, F7o54, F7o55, F7o56, F7o58, F7b, F7, yc, gn2, ga2, b1, b2, a1, a6, l1, r1, c1, c2, c3]
        exact fin _ ⟨rfl, rfl, rfl, rfl, rfl, rfl, rfl, rfl, rfl⟩ rfl rfl rfl
      exfalso
      rw [hpb] at hpf
      simp only [decide_eq_false_iff_not, beq_eq_false_iff_ne, ne_eq] at c1 c2 c3
      have : ((pl.tmod 2 != 0) && (decide (pl ≥ -13) && decide (pl ≤ 179))) = true := by
        simp only [Bool.and_eq_true, bne_iff_ne, ne_eq, decide_eq_true_eq]
        exact ⟨c3, by omega, by omega⟩
      rw [this] at hpf; cases hpf
    · rw [hR] at h; exact absurd h.2.2.1 (by simp)
    · obtain ⟨_, hpt, _, hi0, he⟩ := h
      subst he; subst hi0
      rw [hpb] at hpt
      simp only [Bool.and_eq_true, bne_iff_ne, ne_eq, decide_eq_true_eq] at hpt
      have c1 : decide (pl < -13) = false := by simp; omega
      have c2 : decide (pl > 179) = false := by simp; omega
      have c3 : (pl.tmod 2 == 0) = false := by simp; exact hpt.1
      simp only [W_skip, W_ret, W_exit, W_seq, W_block, W_ops, W_cond, W_segs_cons, W_segs_nil, freeI_s, freeI_f, W_op1, W_op, guardC_t, guardC_f, bb_tf, bb_ft, bb_tt, bb_ff, argC_a, goC_a, seqC_a, pairC_p, eq_self, Nat.left_eq_add, Nat.add_eq_left, Nat.reduceEqDiff, Int.reduceEq, Nat.add_left_cancel_iff, Nat.add_assoc, W_ops_nil, wantedI_n, wantedI_s, wantV_b, wantV_u, evalAll, IA.eval, optC_s, optC_n, nextOf, freeNext, fpOf, lowOf, opW, ev1, opC_a, Fr.put, List.set, List.getD_cons_zero, List.getD_cons_succ, thenC_n, thenC_j, segC_n, blkC_n, blkC_r, blkC_e, condC_t, condC_f, valC_v, W_apply, if_true, if_false, Option.map_some, Option.map_none, Option.bind_some, Option.bind_none, List.nil_append, List.append_nil, List.cons_append, undefs, List.length_cons, List.length_nil, Nat.reduceSub, Nat.reduceAdd, Nat.zero_add, retC_r, retC_n, leaveC_a, valsC_a, unmark, resultsOf, resultOf, tupled, binI, unI, beq_self_eq_true, Bool.false_eq_true, reduceIte, reduceCtorEq, Bool.not_true, Bool.not_false, Option.getD_some, Option.getD_none, mkAgg, IV.cells, Heap.read, Heap.get_new, Heap.n_new, Heap.get_put, Heap.n_put, List.drop_succ_cons, List.drop_zero, List.take_succ_cons, List.take_zero, Nat.add_zero, Nat.reduceLeDiff, Nat.reduceMul, Nat.le_refl, Int.reduceLT, Int.reduceLE, List.drop, List.take, Option.some.injEq, and_true, true_and, and_false, false_and, BEq.rfl, Heap.write, splice, IV.one, List.all_cons, List.all_nil, Bool.and_self, Bool.and_true, Bool.true_and, Nat.le_add_right, eqKs, eqK, Nat.reduceLT, Nat.add_sub_cancel, bne_self_eq_false, Bool.false_bne, Bool.bne_false, List.append, pairOk, Bool.or_true, Bool.true_or, Int.toNat_natCast, Option.isSome_some, List.getElem?_cons_zero, List.getElem?_cons_succ, F7o0, F7o1, F7o2, F7o3, F7o4, F7o5, F7o6, F7o7, F7o8, F7o9, F7o10, F7o11, F7o12, F7o13, F7o14, F7o15, F7o16, F7o17, F7o18, F7o19, F7o20, F7o21, F7o22, F7o23, F7o24, F7o25, F7o26, F7o27, F7o28, F7o29, F7o30, F7o31, F7o32, F7o33, F7o34, F7o35, F7o36, F7o37, F7o38, F7o39, F7o40, F7o41, F7o42, F7o43, F7o44, F7o45, F7o46, F7o47, F7o48, F7o49, F7o50, F7o51, F7o52, F7o53, F7o54, F7o55, F7o56, F7o58, F7b, F7, yc, gn2, ga2, b1, b2, a1, a6, l1, r1, c1, c2, c3]
      exact hQ.1 _ _ 12 (by decide) ⟨rfl, rfl, rfl, rfl, rfl, rfl, rfl, rfl, rfl⟩ rfl rfl rfl (gp _) (kb _)
    · omega
  · subst hin
    have hn2 := k2.1
    have gn2 := (k2.2 nb (by omega) (by omega)).trans gn1
    have ga2 := (k2.2 ba (by omega) (by omega)).trans ga1
    have b2 : (nb = ba) = False := by simp; omega
    have hpt := hpl
    rw [hpb] at hpt
    simp only [Bool.and_eq_true, bne_iff_ne, ne_eq, decide_eq_true_eq] at hpt
    have c1 : decide (pl < -13) = false := by simp; omega
    have c2 : decide (pl > 179) = false := by simp; omega
    have c3 : (pl.tmod 2 == 0) = false := by simp; exact hpt.1
    have hu2 := hu1.keep k2
    have hvp2 := hvp1.keep k2
    have hpp : pushL [] (P ++ M) = pushL P M := by rw [pushL_append, pushL_id hPR.1]
    have hRR : Red (pushL P M) := red_pushL hPR.1 M
    have hRV : Valids (pushL P M) := valids_pushL M P hPR.2 hMv
    have hRN : NN (pushL P M) := nn_pushL M P hNP hMn
    generalize hRe : pushL P M = R at *
    generalize hH3 : H2.put nb (.cells false 38 5 [.bool true, .int .i64 pl, .int .i64 count, .bool new, .slice b 0 R.length R.length true]) = H3
    have hn3 : H3.n = H2.n := by rw [← hH3, Heap.n_put]
    have kb3 : KeepBut nb H2 H3 := by
      rw [← hH3]
      exact ⟨by rw [Heap.n_put]; exact Nat.le_refl _, fun b' _ h => by rw [Heap.get_put, if_neg (Ne.symm h)]⟩
    have gn3 : H3.get nb = some (.cells false 38 5 [.bool true, .int .i64 pl, .int .i64 count, .bool new, .slice b 0 R.length R.length true]) := by rw [← hH3, Heap.get_put, if_pos rfl]
    have hu3 := hu2.keepBut hoff1 kb3
    have hvp3 := hvp2.keepBut hopn kb3
    have hpl2 := ho.pl true
    have hR3 := hpl2.keepBut (b := nb) (fun vb vo n' vc vex h _ => by injection h with h; omega) kb3
    have hs0' : App (H3.new (.cells false 33 4 [])) H3.n (.slice H3.n 0 0 0 true) [] := ⟨H3.n, Nat.le_refl _, by rw [Heap.n_new]; omega, .inl ⟨rfl, rfl⟩⟩
    obtain ⟨x1, H4, ev1', hs1, k4⟩ := app_sp (lo := lo) hs0' (by omega) (hvp3.keep (Keep.new _ _)) (by simp; omega)
    rw [List.nil_append] at hs1
    have kk4 : Keep H3.n H3 H4 := (Keep.new _ _).trans k4
    have hn4 := kk4.1
    obtain ⟨x2, H5, ev2', hs2, k5⟩ := app_sp (lo := lo) hs1 (by omega) (hu3.keep kk4) (by omega)
    have kk5 : Keep H3.n H3 H5 := kk4.trans k5
    have hn5 := kk5.1
    have ga3 := (kb3.2 ba (by omega) (by omega)).trans ga2
    have hNPM : NN (P ++ M) := fun p hp => (List.mem_append.1 hp).elim (hNP p) (hMn p)
    simp only [W_skip, W_ret, W_exit, W_seq, W_block, W_ops, W_cond, W_segs_cons, W_segs_nil, freeI_s, freeI_f, W_op1, W_op, guardC_t, guardC_f, bb_tf, bb_ft, bb_tt, bb_ff, argC_a, goC_a, seqC_a, pairC_p, eq_self, Nat.left_eq_add, Nat.add_eq_left, Nat.reduceEqDiff, Int.reduceEq, Nat.add_left_cancel_iff, Nat.add_assoc, W_ops_nil, wantedI_n, wantedI_s, wantV_b, wantV_u, evalAll, IA.eval, optC_s, optC_n, nextOf, freeNext, fpOf, lowOf, opW, ev1, opC_a, Fr.put, List.set, List.getD_cons_zero, List.getD_cons_succ, thenC_n, thenC_j, segC_n, blkC_n, blkC_r, blkC_e, condC_t, condC_f, valC_v, W_apply, if_true, if_false, Option.map_some, Option.map_none, Option.bind_some, Option.bind_none, List.nil_append, List.append_nil, List.cons_append, undefs, List.length_cons, List.length_nil, Nat.reduceSub, Nat.reduceAdd, Nat.zero_add, retC_r, retC_n, leaveC_a, valsC_a, unmark, resultsOf, resultOf, tupled, binI, unI, beq_self_eq_true, Bool.false_eq_true, reduceIte, reduceCtorEq, Bool.not_true, Bool.not_false, Option.getD_some, Option.getD_none, mkAgg, IV.cells, Heap.read, Heap.get_new, Heap.n_new, Heap.get_put, Heap.n_put, List.drop_succ_cons, List.drop_zero, List.take_succ_cons, List.take_zero, Nat.add_zero, Nat.reduceLeDiff, Nat.reduceMul, Nat.le_refl, Int.reduceLT, Int.reduceLE, List.drop, List.take, Option.some.injEq, and_true, true_and, and_false, false_and, BEq.rfl, Heap.write, splice, IV.one, List.all_cons, List.all_nil, Bool.and_self, Bool.and_true, Bool.true_and, Nat.le_add_right, eqKs, eqK, Nat.reduceLT, Nat.add_sub_cancel, bne_self_eq_false, Bool.false_bne, Bool.bne_false, List.append, pairOk, Bool.or_true, Bool.true_or, Int.toNat_natCast, Option.isSome_some, List.getElem?_cons_zero, List.getElem?_cons_succ, F7o0, F7o1, F7o2, F7o3, F7o4, F7o5, F7o6, F7o7, F7o8, F7o9, F7o10, F7o11, F7o12, F7o13, F7o14, F7o15, F7o16, F7o17, F7o18, F7o19, F7o20, F7o21, F7o22, F7o23, F7o24, F7o25, F7o26, F7o27, F7o28, F7o29, F7o30, F7o31, F7o32, F7o33, F7o34, F7o35, F7o36, F7o37, F7o38, F7o39, F7o40, F7o41, F7o42, F7o43, F7o44, F7o45, F7o46, F7o47, F7o48, F7o49, F7o50, F7o51, F7o52, F7o53, F7o54, F7o55, F7o56, F7o58, F7b, F7, yc, gn2, ga2, b1, b2, a1, a6, l1, r1, c1, c2, c3, hH3, ga3, fillI, ↓ev1', ↓ev2']
    refine reduced_sp hs2.pl (by rw [List.length_append]; omega) hNPM (by omega) fun H6 b6 k6 hb6 ho6 => ?_
    rw [hpp] at ho6 ⊢
    have hn6 := k6.1
    simp only [W_skip, W_ret, W_exit, W_seq, W_block, W_ops, W_cond, W_segs_cons, W_segs_nil, freeI_s, freeI_f, W_op1, W_op, guardC_t, guardC_f, bb_tf, bb_ft, bb_tt, bb_ff, argC_a, goC_a, seqC_a, pairC_p, eq_self, Nat.left_eq_add, Nat.add_eq_left, Nat.reduceEqDiff, Int.reduceEq, Nat.add_left_cancel_iff, Nat.add_assoc, W_ops_nil, wantedI_n, wantedI_s, wantV_b, wantV_u, evalAll, IA.eval, optC_s, optC_n, nextOf, freeNext, fpOf, lowOf, opW, ev1, opC_a, Fr.put, List.set, List.getD_cons_zero, List.getD_cons_succ, thenC_n, thenC_j, segC_n, blkC_n, blkC_r, blkC_e, condC_t, condC_f, valC_v, W_apply, if_true, if_false, Option.map_some, Option.map_none, Option.bind_some, Option.bind_none, List.nil_append, List.append_nil, List.cons_append, undefs, List.length_cons, List.length_nil, Nat.reduceSub, Nat.reduceAdd, Nat.zero_add, retC_r, retC_n, leaveC_a, valsC_a, unmark, resultsOf, resultOf, tupled, binI, unI, beq_self_eq_true, Bool.false_eq_true, reduceIte, reduceCtorEq, Bool.not_true, Bool.not_false, Option.getD_some, Option.getD_none, mkAgg, IV.cells, Heap.read, Heap.get_new, Heap.n_new, Heap.get_put, Heap.n_put, List.drop_succ_cons, List.drop_zero, List.take_succ_cons, List.take_zero, Nat.add_zero, Nat.reduceLeDiff, Nat.reduceMul, Nat.le_refl, Int.reduceLT, Int.reduceLE, List.drop, List.take, Option.some.injEq, and_true, true_and, and_false, false_and, BEq.rfl, Heap.write, splice, IV.one, List.all_cons, List.all_nil, Bool.and_self, Bool.and_true, Bool.true_and, Nat.le_add_right, eqKs, eqK, Nat.reduceLT, Nat.add_sub_cancel, bne_self_eq_false, Bool.false_bne, Bool.bne_false, List.append, pairOk, Bool.or_true, Bool.true_or, Int.toNat_natCast, Option.isSome_some, List.getElem?_cons_zero, List.getElem?_cons_succ, F7o0, F7o1, F7o2, F7o3, F7o4, F7o5, F7o6, F7o7, F7o8, F7o9, F7o10, F7o11, F7o12, F7o13, F7o14, F7o15, F7o16, F7o17, F7o18, F7o19, F7o20, F7o21, F7o22, F7o23, F7o24, F7o25, F7o26, F7o27, F7o28, F7o29, F7o30, F7o31, F7o32, F7o33, F7o34, F7o35, F7o36, F7o37, F7o38, F7o39, F7o40, F7o41, F7o42, F7o43, F7o44, F7o45, F7o46, F7o47, F7o48, F7o49, F7o50, F7o51, F7o52, F7o53, F7o54, F7o55, F7o56, F7o58, F7b, F7]
    have kk6 : Keep H3.n H3 H6 := kk5.trans (k6.lower (by omega))
    refine hQ.2 H6 _ true pl count new (.slice b 0 R.length R.length true) (.slice b6 0 R.length R.length true) R ⟨rfl, rfl, rfl, rfl, rfl, rfl, rfl, rfl, rfl⟩ rfl rfl rfl ((kk6.2 nb (by omega) (by omega)).trans gn3) (hR3.keep kk6) (ho6.pl true) (.inr ⟨b, 0, rfl⟩)
      (fun vb vo n' vc vex h _ => by injection h with h; omega) (fun vb vo n' vc vex h _ => by injection h with h; omega) (check_in hpl (by omega) (by omega) hRV hRR) hRN (by omega) (by omega) ⟨by omega, fun b' h1 h2 => ?_⟩
    rw [kk6.2 b' (by omega) (by omega), kb3.2 b' (by omega) h2, k2.2 b' (by omega) (by omega)]
    exact k1.2 b' (by omega) (by omega)
end Go.Iso.GenA
end

section
namespace Go.Iso.GenA
open Go.Iso
set_option maxHeartbeats 8000000
set_option maxRecDepth 10000

theorem kb_put (H : Heap) (b : Nat) (X : IObj) : KeepBut b H (H.put b X) := ⟨by rw [Heap.n_put]; exact Nat.le_refl _, fun b' _ h => by rw [Heap.get_put, if_neg (Ne.symm h)]⟩

theorem off_n {H : Heap} {v : IV} {l : List Ps} {b : Nat} (h : PL H v l) (hb : H.n ≤ b) : offB v b := by
  intro vb vo n vc vex e hn
  cases h with
  | nil => cases e
  | sl b' o c ex l hc hh =>
    injection e with e1 e2 e3
    have := (hh (fun e => hn (by rw [← e3, e]; rfl))).1
    omega

theorem ya_make (va : IV) (yb nb : Nat) (inn new : Bool) (place count : Int) (v vp : IV) (P : List Ps) (i lo : Nat) (w pl sd : Int) (pv : IV) (ps : List Int) {H : Heap} {tm : List IV} (hf : Fr7 tm va yb inn place count new vp i) (h10 : tm.getD 10 IV.undef = .int .i64 0) (h11 : tm.getD 11 IV.undef = .ptr nb 0) (h12 : tm.getD 12 IV.undef = .int .i64 0)
    (ha : ActAt H va i w pl sd pv ps lo) (hw : w.tmod 4 = 3) (hi : i ≤ 100)
    (hg : H.get nb = some (.cells false 38 5 (yc false 0 0 false .nilSlice))) (hy : H.get yb = some (.cells false 38 5 (yc inn place count new v))) (hyl : lo ≤ yb) (hyn : yb < nb) (hnn : nb < H.n)
    (hv : PL H v P) (hvp : PL H vp P) (hop : offB vp yb) (hopn : offB vp nb) (hNP : NN P) (hP : P.length ≤ 900) (hc : checkE inn place count new P = 0) (hcount : 0 ≤ count ∧ count ≤ 100)
    (Q : Out → Heap → Prop) (hQ : After H va yb nb i inn new place count vp P Q) : W E0 lo (.code F7s none ⟨tm, []⟩) H Q := by
  obtain ⟨t, t0, t3, t4, t5, t6, t7, t8, t9⟩ := hf
  obtain ⟨⟨ba, oa, n, c, x, ro, ea, ez, cs, rfl, hin, hba, hga, hla, hca⟩, hbl, hby, hw0, hs0⟩ := ha
  obtain ⟨r0, r1, r2, r3⟩ := cell_at hca
  rw [Nat.add_assoc] at r1 r2 r3
  rw [expl232 tm t, t0, t3, t4, t5, t6, t7, t8, t9, h10, h11, h12]
  unfold yc at hg hy
  have a1 : (0 ≤ (i : Int) ∧ (i : Int) < n) = True := by simp; omega
  have a2 : ((4 : Int) = 0) = False := by simp
  have a3 : (w.tmod 4 == 0) = false := by simp [hw]
  have a4 : (w.tmod 4 == 1) = false := by simp [hw]
  have a5 : (w.tmod 4 == 2) = false := by simp [hw]
  have l0 : (oa + (i * 4 + 1) ≤ cs.length) = True := by simp; omega
  have s1 : (H.n = yb) = False := by simp; omega
  have z0 : ((0 : Int) != 0) = false := by decide
  simp only [W_skip, W_ret, W_exit, W_seq, W_block, W_ops, W_cond, W_segs_cons, W_segs_nil, freeI_s, freeI_f, W_op1, W_op, guardC_t, guardC_f, bb_tf, bb_ft, bb_tt, bb_ff, argC_a, goC_a, seqC_a, pairC_p, eq_self, Nat.left_eq_add, Nat.add_eq_left, Nat.reduceEqDiff, Int.reduceEq, Nat.add_left_cancel_iff, Nat.add_assoc, W_ops_nil, wantedI_n, wantedI_s, wantV_b, wantV_u, evalAll, IA.eval, optC_s, optC_n, nextOf, freeNext, fpOf, lowOf, opW, ev1, opC_a, Fr.put, List.set, List.getD_cons_zero, List.getD_cons_succ, thenC_n, thenC_j, segC_n, blkC_n, blkC_r, blkC_e, condC_t, condC_f, valC_v, W_apply, if_true, if_false, Option.map_some, Option.map_none, Option.bind_some, Option.bind_none, List.nil_append, List.append_nil, List.cons_append, undefs, List.length_cons, List.length_nil, Nat.reduceSub, Nat.reduceAdd, Nat.zero_add, retC_r, retC_n, leaveC_a, valsC_a, unmark, resultsOf, resultOf, tupled, binI, unI, beq_self_eq_true, Bool.false_eq_true, reduceIte, reduceCtorEq, Bool.not_true, Bool.not_false, Option.getD_some, Option.getD_none, mkAgg, IV.cells, Heap.read, Heap.get_new, Heap.n_new, Heap.get_put, Heap.n_put, List.drop_succ_cons, List.drop_zero, List.take_succ_cons, List.take_zero, Nat.add_zero, Nat.reduceLeDiff, Nat.reduceMul, Nat.le_refl, Int.reduceLT, Int.reduceLE, List.drop, List.take, Option.some.injEq, and_true, true_and, and_false, false_and, BEq.rfl, Heap.write, splice, IV.one, List.all_cons, List.all_nil, Bool.and_self, Bool.and_true, Bool.true_and, Nat.le_add_right, eqKs, eqK, Nat.reduceLT, Nat.add_sub_cancel, bne_self_eq_false, Bool.false_bne, Bool.bne_false, List.append, pairOk, Bool.or_true, Bool.true_or, Int.toNat_natCast, Option.isSome_some, List.getElem?_cons_zero, List.getElem?_cons_succ, F7o0, F7o1, F7o2, F7o3, F7o4, F7o5, F7o6, F7o7, F7o8, F7o9, F7o10, F7o11, F7o12, F7o13, F7o14, F7o15, F7o16, F7o17, F7o18, F7o19, F7o20, F7o21, F7o22, F7o23, F7o24, F7o25, F7o26, F7o27, F7o28, F7o29, F7o30, F7o31, F7o32, F7o33, F7o34, F7o35, F7o36, F7o37, F7o38, F7o39, F7o40, F7o41, F7o42, F7o43, F7o44, F7o45, F7o46, F7o47, F7o48, F7o49, F7o50, F7o51, F7o52, F7o53, F7o54, F7o55, F7o56, F7o58, F7b, F7, F7s, a1, a2, a3, a4, a5, l0, hga, r0, s1, hy]
  have k0 : Keep H.n H (H.new (.cells false 50 3 [.int .i64 0, .bool false, .nilSlice])) := .new _ _
  have g0 : (H.new (.cells false 50 3 [.int .i64 0, .bool false, .nilSlice])).get H.n = some (.cells false 50 3 [.int .i64 0, .bool false, .nilSlice]) := by rw [Heap.get_new, if_pos rfl]
  have hn0 : (H.new (.cells false 50 3 [.int .i64 0, .bool false, .nilSlice])).n = H.n + 1 := Heap.n_new _ _
  generalize H.new (.cells false 50 3 [.int .i64 0, .bool false, .nilSlice]) = H0 at *
  have b1 : (lo ≤ nb) = True := by simp; omega
  have b2 : (lo ≤ H.n) = True := by simp; omega
  have s2 : (nb = H.n) = False := by simp; omega
  have s3 : (H.n = nb) = False := by simp; omega
  have gn0 := (k0.2 nb (by omega) (by omega)).trans hg
  refine make_sp inn new place count (hv.keep k0) (by omega) (by omega) (fun H1 e k1 hcase => ?_) (fun H1 b k1 _ hin _ hb ho => ?_)
  · obtain ⟨hi0, he⟩ : inn = false ∧ e = 12 := by
      rcases hcase with h | h | h
      · exact absurd hc h.1
      · exact h.2
      · omega
    subst hi0; subst he
    have hn1 := k1.1
    have gn1 := (k1.2 nb (by omega) (by omega)).trans gn0
    have gm1 := (k1.2 H.n (by omega) (by omega)).trans g0
    simp only [W_skip, W_ret, W_exit, W_seq, W_block, W_ops, W_cond, W_segs_cons, W_segs_nil, freeI_s, freeI_f, W_op1, W_op, guardC_t, guardC_f, bb_tf, bb_ft, bb_tt, bb_ff, argC_a, goC_a, seqC_a, pairC_p, eq_self, Nat.left_eq_add, Nat.add_eq_left, Nat.reduceEqDiff, Int.reduceEq, Nat.add_left_cancel_iff, Nat.add_assoc, W_ops_nil, wantedI_n, wantedI_s, wantV_b, wantV_u, evalAll, IA.eval, optC_s, optC_n, nextOf, freeNext, fpOf, lowOf, opW, ev1, opC_a, Fr.put, List.set, List.getD_cons_zero, List.getD_cons_succ, thenC_n, thenC_j, segC_n, blkC_n, blkC_r, blkC_e, condC_t, condC_f, valC_v, W_apply, if_true, if_false, Option.map_some, Option.map_none, Option.bind_some, Option.bind_none, List.nil_append, List.append_nil, List.cons_append, undefs, List.length_cons, List.length_nil, Nat.reduceSub, Nat.reduceAdd, Nat.zero_add, retC_r, retC_n, leaveC_a, valsC_a, unmark, resultsOf, resultOf, tupled, binI, unI, beq_self_eq_true, Bool.false_eq_true, reduceIte, reduceCtorEq, Bool.not_true, Bool.not_false, Option.getD_some, Option.getD_none, mkAgg, IV.cells, Heap.read, Heap.get_new, Heap.n_new, Heap.get_put, Heap.n_put, List.drop_succ_cons, List.drop_zero, List.take_succ_cons, List.take_zero, Nat.add_zero, Nat.reduceLeDiff, Nat.reduceMul, Nat.le_refl, Int.reduceLT, Int.reduceLE, List.drop, List.take, Option.some.injEq, and_true, true_and, and_false, false_and, BEq.rfl, Heap.write, splice, IV.one, List.all_cons, List.all_nil, Bool.and_self, Bool.and_true, Bool.true_and, Nat.le_add_right, eqKs, eqK, Nat.reduceLT, Nat.add_sub_cancel, bne_self_eq_false, Bool.false_bne, Bool.bne_false, List.append, pairOk, Bool.or_true, Bool.true_or, Int.toNat_natCast, Option.isSome_some, List.getElem?_cons_zero, List.getElem?_cons_succ, F7o0, F7o1, F7o2, F7o3, F7o4, F7o5, F7o6, F7o7, F7o8, F7o9, F7o10, F7o11, F7o12, F7o13, F7o14, F7o15, F7o16, F7o17, F7o18, F7o19, F7o20, F7o21, F7o22, F7o23, F7o24, F7o25, F7o26, F7o27, F7o28, F7o29, F7o30, F7o31, F7o32, F7o33, F7o34, F7o35, F7o36, F7o37, F7o38, F7o39, F7o40, F7o41, F7o42, F7o43, F7o44, F7o45, F7o46, F7o47, F7o48, F7o49, F7o50, F7o51, F7o52, F7o53, F7o54, F7o55, F7o56, F7o58, F7b, F7, yc, mc, gn1, gm1, b1, b2, s2, s3, z0, Int.natCast_zero]
    refine hQ.1 _ _ 12 (by decide) ⟨rfl, rfl, rfl, rfl, rfl, rfl, rfl, rfl, rfl⟩ rfl rfl rfl (by rw [Heap.get_put, if_neg (by omega), Heap.get_put, if_pos rfl]; rfl) ⟨by simp only [Heap.n_put]; omega, fun b' h1 h2 => ?_⟩
    rw [Heap.get_put, if_neg (by omega), Heap.get_put, if_neg (by omega), k1.2 b' (by omega) (by omega), k0.2 b' (by omega) (by omega)]
  · subst hin
    have hn1 := k1.1
    have gn1 := (k1.2 nb (by omega) (by omega)).trans gn0
    have gm1 := (k1.2 H.n (by omega) (by omega)).trans g0
    have hwc : IntKind.i64.wrap (count + 1) = count + 1 := IntWalk.i64_in _ (by omega)
    have hvp1 := (hvp.keep k0).keep k1
    have hpl1 := ho.pl true
    generalize hH2 : (H1.put nb (.cells false 38 5 [.bool true, .int .i64 place, .int .i64 (count + 1), .bool false, .nilSlice])).put H.n (.cells false 50 3 [.int .i64 count, .bool new, .slice b 0 P.length P.length true]) = H2
    have hn2 : H2.n = H1.n := by rw [← hH2, Heap.n_put, Heap.n_put]
    have gn2 : H2.get nb = some (.cells false 38 5 [.bool true, .int .i64 place, .int .i64 (count + 1), .bool false, .nilSlice]) := by rw [← hH2, Heap.get_put, if_neg (by omega), Heap.get_put, if_pos rfl]
    have gm2 : H2.get H.n = some (.cells false 50 3 [.int .i64 count, .bool new, .slice b 0 P.length P.length true]) := by rw [← hH2, Heap.get_put, if_pos rfl]
    have hvp2 : PL H2 vp P := by
      have hoH : offB vp H.n := off_n hvp (Nat.le_refl _)
      rw [← hH2]
      refine PL.keepBut (b := H.n) (PL.keepBut (b := nb) hvp1 hopn (kb_put _ _ _)) hoH (kb_put _ _ _)
    have hob1 : offB (.slice b 0 P.length P.length true) nb := fun vb vo n' vc vex h _ => by injection h with h; omega
    have hob2 : offB (.slice b 0 P.length P.length true) H.n := fun vb vo n' vc vex h _ => by injection h with h; omega
    have hpl2 : PL H2 (.slice b 0 P.length P.length true) P := by
      rw [← hH2]
      refine PL.keepBut (b := H.n) (PL.keepBut (b := nb) hpl1 hob1 (kb_put _ _ _)) hob2 (kb_put _ _ _)
    have c1 : (count != count) = false := by simp
    have c2 : (new != new) = false := by simp
    have z1 : ((1 : Int) == 0) = false := by decide
    have e2 : (0 ≤ (P.length : Int) ∧ (P.length : Int) * (((24 : Nat) : Int) + 1) ≤ 2 ^ 40) = True := by simp; omega
    have hrl : (rep P.length [IV.int .u8 0, .int .i64 0, .bool false, .int .u8 0]).length = P.length * 4 := rep_length _ _
    have ho3 : Own (H2.new (.cells false 33 4 (rep P.length [.int .u8 0, .int .i64 0, .bool false, .int .u8 0]))) H2.n P.length [] := ⟨Nat.zero_le _, by rw [Heap.n_new]; omega, _, by rw [Heap.get_new, if_pos rfl], by rw [hrl]; omega, rfl⟩
    obtain ⟨H4, ev4, ho4, kb4⟩ := own_append (lo := lo) ho3 (by omega) (hvp2.keep (Keep.new _ _)) (by simp)
    rw [List.nil_append, List.length_nil] at ev4
    rw [List.nil_append] at ho4
    have dn : decide (H2.n ≠ H.n) = true := by simp; omega
    have k4 : Keep H2.n H2 H4 := ⟨by have := kb4.1; rw [Heap.n_new] at this; omega, fun b' h1 h2 => by
      rw [kb4.2 b' (by rw [Heap.n_new]; omega) (by omega), Heap.get_new, if_neg (by omega)]⟩
    simp only [W_skip, W_ret, W_exit, W_seq, W_block, W_ops, W_cond, W_segs_cons, W_segs_nil, freeI_s, freeI_f, W_op1, W_op, guardC_t, guardC_f, bb_tf, bb_ft, bb_tt, bb_ff, argC_a, goC_a, seqC_a, pairC_p, eq_self, Nat.left_eq_add, Nat.add_eq_left, Nat.reduceEqDiff, Int.reduceEq, Nat.add_left_cancel_iff, Nat.add_assoc, W_ops_nil, wantedI_n, wantedI_s, wantV_b, wantV_u, evalAll, IA.eval, optC_s, optC_n, nextOf, freeNext, fpOf, lowOf, opW, ev1, opC_a, Fr.put, List.set, List.getD_cons_zero, List.getD_cons_succ, thenC_n, thenC_j, segC_n, blkC_n, blkC_r, blkC_e, condC_t, condC_f, valC_v, W_apply, if_true, if_false, Option.map_some, Option.map_none, Option.bind_some, Option.bind_none, List.nil_append, List.append_nil, List.cons_append, undefs, List.length_cons, List.length_nil, Nat.reduceSub, Nat.reduceAdd, Nat.zero_add, retC_r, retC_n, leaveC_a, valsC_a, unmark, resultsOf, resultOf, tupled, binI, unI, beq_self_eq_true, Bool.false_eq_true, reduceIte, reduceCtorEq, Bool.not_true, Bool.not_false, Option.getD_some, Option.getD_none, mkAgg, IV.cells, Heap.read, Heap.get_new, Heap.n_new, Heap.get_put, Heap.n_put, List.drop_succ_cons, List.drop_zero, List.take_succ_cons, List.take_zero, Nat.add_zero, Nat.reduceLeDiff, Nat.reduceMul, Nat.le_refl, Int.reduceLT, Int.reduceLE, List.drop, List.take, Option.some.injEq, and_true, true_and, and_false, false_and, BEq.rfl, Heap.write, splice, IV.one, List.all_cons, List.all_nil, Bool.and_self, Bool.and_true, Bool.true_and, Nat.le_add_right, eqKs, eqK, Nat.reduceLT, Nat.add_sub_cancel, bne_self_eq_false, Bool.false_bne, Bool.bne_false, List.append, pairOk, Bool.or_true, Bool.true_or, Int.toNat_natCast, Option.isSome_some, List.getElem?_cons_zero, List.getElem?_cons_succ, F7o0, F7o1, F7o2, F7o3, F7o4, F7o5, F7o6, F7o7, F7o8, F7o9, F7o10, F7o11, F7o12, F7o13, F7o14, F7o15, F7o16, F7o17, F7o18, F7o19, F7o20, F7o21, F7o22, F7o23, F7o24, F7o25, F7o26, F7o27, F7o28, F7o29, F7o30, F7o31, F7o32, F7o33, F7o34, F7o35, F7o36, F7o37, F7o38, F7o39, F7o40, F7o41, F7o42, F7o43, F7o44, F7o45, F7o46, F7o47, F7o48, F7o49, F7o50, F7o51, F7o52, F7o53, F7o54, F7o55, F7o56, F7o58, F7b, F7, yc, mc, hwc, gn1, gm1, b1, b2, s2, s3, hH2]
    simp only [W_skip, W_ret, W_exit, W_seq, W_block, W_ops, W_cond, W_segs_cons, W_segs_nil, freeI_s, freeI_f, W_op1, W_op, guardC_t, guardC_f, bb_tf, bb_ft, bb_tt, bb_ff, argC_a, goC_a, seqC_a, pairC_p, eq_self, Nat.left_eq_add, Nat.add_eq_left, Nat.reduceEqDiff, Int.reduceEq, Nat.add_left_cancel_iff, Nat.add_assoc, W_ops_nil, wantedI_n, wantedI_s, wantV_b, wantV_u, evalAll, IA.eval, optC_s, optC_n, nextOf, freeNext, fpOf, lowOf, opW, ev1, opC_a, Fr.put, List.set, List.getD_cons_zero, List.getD_cons_succ, thenC_n, thenC_j, segC_n, blkC_n, blkC_r, blkC_e, condC_t, condC_f, valC_v, W_apply, if_true, if_false, Option.map_some, Option.map_none, Option.bind_some, Option.bind_none, List.nil_append, List.append_nil, List.cons_append, undefs, List.length_cons, List.length_nil, Nat.reduceSub, Nat.reduceAdd, Nat.zero_add, retC_r, retC_n, leaveC_a, valsC_a, unmark, resultsOf, resultOf, tupled, binI, unI, beq_self_eq_true, Bool.false_eq_true, reduceIte, reduceCtorEq, Bool.not_true, Bool.not_false, Option.getD_some, Option.getD_none, mkAgg, IV.cells, Heap.read, Heap.get_new, Heap.n_new, Heap.get_put, Heap.n_put, List.drop_succ_cons, List.drop_zero, List.take_succ_cons, List.take_zero, Nat.add_zero, Nat.reduceLeDiff, Nat.reduceMul, Nat.le_refl, Int.reduceLT, Int.reduceLE, List.drop, List.take, Option.some.injEq, and_true, true_and, and_false, false_and, BEq.rfl, Heap.write, splice, IV.one, List.all_cons, List.all_nil, Bool.and_self, Bool.and_true, Bool.true_and, Nat.le_add_right, eqKs, eqK, Nat.reduceLT, Nat.add_sub_cancel, bne_self_eq_false, Bool.false_bne, Bool.bne_false, List.append, pairOk, Bool.or_true, Bool.true_or, Int.toNat_natCast, Option.isSome_some, List.getElem?_cons_zero, List.getElem?_cons_succ, F7o0, F7o1, F7o2, F7o3, F7o4, F7o5, F7o6, F7o7, F7o8, F7o9, F7o10, F7o11, F7o12, F7o13, F7o14, F7o15, F7o16, F7o17, F7o18, F7o19, F7o20, F7o21, F7o22, F7o23, F7o24, F7o25, F7o26, F7o27, F7o28, F7o29, F7o30, F7o31, F7o32, F7o33, F7o34, F7o35, F7o36, F7o37, F7o38, F7o39, F7o40, F7o41, F7o42, F7o43, F7o44, F7o45, F7o46, F7o47, F7o48, F7o49, F7o50, F7o51, F7o52, F7o53, F7o54, F7o55, F7o56, F7o58, F7b, F7, gm2, c1, c2, ↓hvp2.len, e2, Int.toNat_zero, ↓ev4, ↓dn]
    refine same_sp (l := P) (hpl2.keep k4) (.inr ⟨b, 0, rfl⟩) (ho4.pl true) (by omega) ?_
    simp only [W_skip, W_ret, W_exit, W_seq, W_block, W_ops, W_cond, W_segs_cons, W_segs_nil, freeI_s, freeI_f, W_op1, W_op, guardC_t, guardC_f, bb_tf, bb_ft, bb_tt, bb_ff, argC_a, goC_a, seqC_a, pairC_p, eq_self, Nat.left_eq_add, Nat.add_eq_left, Nat.reduceEqDiff, Int.reduceEq, Nat.add_left_cancel_iff, Nat.add_assoc, W_ops_nil, wantedI_n, wantedI_s, wantV_b, wantV_u, evalAll, IA.eval, optC_s, optC_n, nextOf, freeNext, fpOf, lowOf, opW, ev1, opC_a, Fr.put, List.set, List.getD_cons_zero, List.getD_cons_succ, thenC_n, thenC_j, segC_n, blkC_n, blkC_r, blkC_e, condC_t, condC_f, valC_v, W_apply, if_true, if_false, Option.map_some, Option.map_none, Option.bind_some, Option.bind_none, List.nil_append, List.append_nil, List.cons_append, undefs, List.length_cons, List.length_nil, Nat.reduceSub, Nat.reduceAdd, Nat.zero_add, retC_r, retC_n, leaveC_a, valsC_a, unmark, resultsOf, resultOf, tupled, binI, unI, beq_self_eq_true, Bool.false_eq_true, reduceIte, reduceCtorEq, Bool.not_true, Bool.not_false, Option.getD_some, Option.getD_none, mkAgg, IV.cells, Heap.read, Heap.get_new, Heap.n_new, Heap.get_put, Heap.n_put, List.drop_succ_cons, List.drop_zero, List.take_succ_cons, List.take_zero, Nat.add_zero, Nat.reduceLeDiff, Nat.reduceMul, Nat.le_refl, Int.reduceLT, Int.reduceLE, List.drop, List.take, Option.some.injEq, and_true, true_and, and_false, false_and, BEq.rfl, Heap.write, splice, IV.one, List.all_cons, List.all_nil, Bool.and_self, Bool.and_true, Bool.true_and, Nat.le_add_right, eqKs, eqK, Nat.reduceLT, Nat.add_sub_cancel, bne_self_eq_false, Bool.false_bne, Bool.bne_false, List.append, pairOk, Bool.or_true, Bool.true_or, Int.toNat_natCast, Option.isSome_some, List.getElem?_cons_zero, List.getElem?_cons_succ, F7o0, F7o1, F7o2, F7o3, F7o4, F7o5, F7o6, F7o7, F7o8, F7o9, F7o10, F7o11, F7o12, F7o13, F7o14, F7o15, F7o16, F7o17, F7o18, F7o19, F7o20, F7o21, F7o22, F7o23, F7o24, F7o25, F7o26, F7o27, F7o28, F7o29, F7o30, F7o31, F7o32, F7o33, F7o34, F7o35, F7o36, F7o37, F7o38, F7o39, F7o40, F7o41, F7o42, F7o43, F7o44, F7o45, F7o46, F7o47, F7o48, F7o49, F7o50, F7o51, F7o52, F7o53, F7o54, F7o55, F7o56, F7o58, F7b, F7, z1, hwc]
    have hpl3 : placeB place = true := by
      cases hq : placeB place with
      | true => rfl
      | false =>
        exfalso
        unfold checkE at hc
        rw [if_neg (by omega), if_neg (by simp), if_pos (.inl hq)] at hc
        omega
    refine hQ.2 H4 _ true place (count + 1) false .nilSlice .nilSlice [] ⟨rfl, rfl, rfl, rfl, rfl, rfl, rfl, rfl, rfl⟩ rfl rfl rfl ((k4.2 nb (by omega) (by omega)).trans gn2) .nil .nil (.inl ⟨rfl, rfl⟩) (fun _ _ _ _ _ h => by cases h) (fun _ _ _ _ _ h => by cases h)
      (check_in hpl3 (by omega) (by simp) (fun p hp => by cases hp) trivial) (fun p hp => by cases hp) (by simp) (by omega) ⟨by have := k4.1; omega, fun b' h1 h2 => ?_⟩
    rw [k4.2 b' (by omega) (by omega), ← hH2, Heap.get_put, if_neg (by omega), Heap.get_put, if_neg (by omega), k1.2 b' (by omega) (by omega), k0.2 b' (by omega) (by omega)]
end Go.Iso.GenA
end

section
namespace Go.Iso.GenA
open Go.Iso
set_option maxHeartbeats 8000000
set_option maxRecDepth 10000

theorem ActAt.keep {H0 H : Heap} {va : IV} {i : Nat} {w pl sd : Int} {pv : IV} {ps : List Int} (h : ActAt H0 va i w pl sd pv ps H0.n) (k : Keep H0.n H0 H) : ActAt H va i w pl sd pv ps H0.n := by
  obtain ⟨⟨ba, oa, n, c, x, ro, ea, ez, cs, h1, h2, h3, h4, h5, h6⟩, hbl, hby, hw0, hs0⟩ := h
  exact ⟨⟨ba, oa, n, c, x, ro, ea, ez, cs, h1, h2, h3, (k.2 ba h3 h3).trans h4, h5, h6⟩, hbl.keep k, hby, hw0, hs0⟩

theorem ya_loop (H0 : Heap) (va : IV) (n : Nat) (hlen : ∀ lo H', ev1 .lenSl [va] lo H' = some (.int .i64 n, H')) (hn : n ≤ 30) (hA : ∀ i, i < n → ∃ w pl sd pv ps, ActAt H0 va i w pl sd pv ps H0.n) :
    ∀ (k i : Nat) (H : Heap) (tm : List IV) (inn : Bool) (place count : Int) (new : Bool) (v vp : IV) (P : List Ps), i + k = n → Fr7 tm va H0.n inn place count new vp i → Keep H0.n H0 H → H0.n < H.n → H.get H0.n = some (.cells false 38 5 (yc inn place count new v)) →
    PL H v P → PL H vp P → Tight v P.length → offB v H0.n → offB vp H0.n → checkE inn place count new P = 0 → NN P → P.length ≤ 10 * i → 0 ≤ count ∧ count ≤ i →
    ∀ Q : Out → Heap → Prop, (∀ H' tm', tm'.length = 232 → Q (.ex (.jmp (.exit 0)) ⟨tm', []⟩) H') → (∀ H' tm', tm'.length = 232 → tm'.getD 2 IV.undef = .bool true → Q (.ex (.jmp .ret) ⟨tm', []⟩) H') →
    W E0 H0.n (.code (.loop F7l57) none ⟨tm, []⟩) H Q := by
  intro k
  induction k with
  | zero =>
    intro i H tm inn place count new v vp P hi hf _ _ _ _ _ _ _ _ _ _ _ _ Q hQ _
    obtain ⟨t, t0, t3, t4, t5, t6, t7, t8, t9⟩ := hf
    have e1 : decide ((i : Int) < n) = false := by simp; omega
    rw [W_loop, expl232 tm t, t0, t9]
    simp only [W_skip, W_ret, W_exit, W_seq, W_block, W_ops, W_cond, W_segs_cons, W_segs_nil, freeI_s, freeI_f, W_op1, W_op, guardC_t, guardC_f, bb_tf, bb_ft, bb_tt, bb_ff, argC_a, goC_a, seqC_a, pairC_p, eq_self, Nat.left_eq_add, Nat.add_eq_left, Nat.reduceEqDiff, Int.reduceEq, Nat.add_left_cancel_iff, Nat.add_assoc, W_ops_nil, wantedI_n, wantedI_s, wantV_b, wantV_u, evalAll, IA.eval, optC_s, optC_n, nextOf, freeNext, fpOf, lowOf, opW, ev1, opC_a, Fr.put, List.set, List.getD_cons_zero, List.getD_cons_succ, thenC_n, thenC_j, segC_n, blkC_n, blkC_r, blkC_e, condC_t, condC_f, valC_v, W_apply, if_true, if_false, Option.map_some, Option.map_none, Option.bind_some, Option.bind_none, List.nil_append, List.append_nil, List.cons_append, undefs, List.length_cons, List.length_nil, Nat.reduceSub, Nat.reduceAdd, Nat.zero_add, retC_r, retC_n, leaveC_a, valsC_a, unmark, resultsOf, resultOf, tupled, binI, unI, beq_self_eq_true, Bool.false_eq_true, reduceIte, reduceCtorEq, Bool.not_true, Bool.not_false, Option.getD_some, Option.getD_none, mkAgg, IV.cells, Heap.read, Heap.get_new, Heap.n_new, Heap.get_put, Heap.n_put, List.drop_succ_cons, List.drop_zero, List.take_succ_cons, List.take_zero, Nat.add_zero, Nat.reduceLeDiff, Nat.reduceMul, Nat.le_refl, Int.reduceLT, Int.reduceLE, List.drop, List.take, Option.some.injEq, and_true, true_and, and_false, false_and, BEq.rfl, Heap.write, splice, IV.one, List.all_cons, List.all_nil, Bool.and_self, Bool.and_true, Bool.true_and, Nat.le_add_right, eqKs, eqK, Nat.reduceLT, Nat.add_sub_cancel, bne_self_eq_false, Bool.false_bne, Bool.bne_false, List.append, pairOk, Bool.or_true, Bool.true_or, Int.toNat_natCast, Option.isSome_some, List.getElem?_cons_zero, List.getElem?_cons_succ, F7o0, F7o1, F7o2, F7o3, F7o4, F7o5, F7o6, F7o7, F7o8, F7o9, F7o10, F7o11, F7o12, F7o13, F7o14, F7o15, F7o16, F7o17, F7o18, F7o19, F7o20, F7o21, F7o22, F7o23, F7o24, F7o25, F7o26, F7o27, F7o28, F7o29, F7o30, F7o31, F7o32, F7o33, F7o34, F7o35, F7o36, F7o37, F7o38, F7o39, F7o40, F7o41, F7o42, F7o43, F7o44, F7o45, F7o46, F7o47, F7o48, F7o49, F7o50, F7o51, F7o52, F7o53, F7o54, F7o55, F7o56, F7l57, F7o58, F7b, F7, ↓hlen, e1]
    exact hQ _ _ rfl
  | succ k ih =>
    intro i H tm inn place count new v vp P hi hf hk hyn hy hv hvp ht ho hop hc hNP hP hcount Q hQ hR
    obtain ⟨w, pl, sd, pv, ps, hact0⟩ := hA i (by omega)
    have hact := hact0.keep hk
    have e1 : decide ((i : Int) < n) = true := by simp; omega
    have hw : IntKind.i64.wrap ((i : Int) + 1) = ((i + 1 : Nat) : Int) := IntWalk.i64_in _ (by omega)
    have hskip := fun nb e H tm => @ya_skip va H0.n nb inn new place count e vp i H0.n H tm
    have hstep := fun nb inn new place count v vp P y0 H tm => @ya_step va H0.n nb inn new place count v vp P i H0.n y0 H tm
    have key : ∀ tm', Fr7 tm' va H0.n inn place count new vp i → tm'.getD 10 IV.undef = .int .i64 0 → tm'.getD 11 IV.undef = .ptr H.n 0 → tm'.getD 12 IV.undef = .int .i64 0 → ps.length ≤ 10 → ∀ Q', After (H.new (.cells false 38 5 (yc false 0 0 false .nilSlice))) va H0.n H.n i inn new place count vp P Q' →
        W E0 H0.n (.code F7s none ⟨tm', []⟩) (H.new (.cells false 38 5 (yc false 0 0 false .nilSlice))) Q' := by
      intro tm' hf' f10 f11 f12 hps Q' hq
      have kn : Keep H.n H (H.new (.cells false 38 5 (yc false 0 0 false .nilSlice))) := .new _ _
      have gn : (H.new (.cells false 38 5 (yc false 0 0 false .nilSlice))).get H.n = some (.cells false 38 5 (yc false 0 0 false .nilSlice)) := by rw [Heap.get_new, if_pos rfl]
      have hnn : (H.new (.cells false 38 5 (yc false 0 0 false .nilSlice))).n = H.n + 1 := Heap.n_new _ _
      have hact' := hact0.keep (hk.trans (kn.lower (by omega)))
      have gy' := (kn.2 H0.n (by omega) (by omega)).trans hy
      have m1 := Int.tmod_nonneg 4 hact0.w0
      have m2 := Int.tmod_lt_of_pos w (show (0 : Int) < 4 from by omega)
      have hm : w.tmod 4 = 0 ∨ w.tmod 4 = 1 ∨ w.tmod 4 = 2 ∨ w.tmod 4 = 3 := by omega
      rcases hm with h | h | h | h
      · exact ya_enter va H0.n H.n inn new place count v vp P i H0.n w pl sd pv ps hf' f10 f11 f12 hact' h (by omega) gn gy' (Nat.le_refl _) hyn (by omega) (hv.keep kn) (by omega) hc (by omega) Q' hq
      · exact ya_leave va H0.n H.n inn new place count v vp P i H0.n w pl sd pv ps hf' f10 f11 f12 hact' h (by omega) gn gy' (Nat.le_refl _) hyn (by omega) (hv.keep kn) (by omega) hc (by omega) Q' hq
      · exact ya_go va H0.n H.n inn new place count v vp P i H0.n w pl sd pv ps hf' f10 f11 f12 hact' h hps (by omega) gn gy' (Nat.le_refl _) hyn (by omega) (hv.keep kn) (hvp.keep kn) hop (off_n hvp (Nat.le_refl _)) hNP (by omega) hc (by omega) Q' hq
      · exact ya_make va H0.n H.n inn new place count v vp P i H0.n w pl sd pv ps hf' f10 f11 f12 hact' h (by omega) gn gy' (Nat.le_refl _) hyn (by omega) (hv.keep kn) (hvp.keep kn) hop (off_n hvp (Nat.le_refl _)) hNP (by omega) hc (by omega) Q' hq
    rw [W_loop]
    generalize hL : IC.loop F7l57 = L at *
    rw [body7]
    generalize F7s = S at *
    generalize F7z = Z at *
    obtain ⟨⟨ba, oa, m, c, x, ro, ea, ez, cs, hvae, hin, hba, hga, hla, hca⟩, hbl, hby, hw0, hs0⟩ := hact
    obtain ⟨r0, r1, r2, r3⟩ := cell_at hca
    rw [Nat.add_assoc] at r3
    obtain ⟨t, t0, t3, t4, t5, t6, t7, t8, t9⟩ := hf
    have a1 : (0 ≤ (i : Int) ∧ (i : Int) < m) = True := by simp; omega
    have l3 : (oa + (i * 4 + 4) ≤ cs.length) = True := by simp; omega
    have hpone : IV.one pv = true := by cases hbl <;> rfl
    rw [expl232 tm t, t0, t3, t4, t5, t6, t7, t8, t9]
    subst hvae
    cases e2 : decide ((ps.length : Int) > 10)
    case true =>
      simp only [W_skip, W_ret, W_exit, W_seq, W_block, W_ops, W_cond, W_segs_cons, W_segs_nil, freeI_s, freeI_f, W_op1, W_op, guardC_t, guardC_f, bb_tf, bb_ft, bb_tt, bb_ff, argC_a, goC_a, seqC_a, pairC_p, eq_self, Nat.left_eq_add, Nat.add_eq_left, Nat.reduceEqDiff, Int.reduceEq, Nat.add_left_cancel_iff, Nat.add_assoc, W_ops_nil, wantedI_n, wantedI_s, wantV_b, wantV_u, evalAll, IA.eval, optC_s, optC_n, nextOf, freeNext, fpOf, lowOf, opW, ev1, opC_a, Fr.put, List.set, List.getD_cons_zero, List.getD_cons_succ, thenC_n, thenC_j, segC_n, blkC_n, blkC_r, blkC_e, condC_t, condC_f, valC_v, W_apply, if_true, if_false, Option.map_some, Option.map_none, Option.bind_some, Option.bind_none, List.nil_append, List.append_nil, List.cons_append, undefs, List.length_cons, List.length_nil, Nat.reduceSub, Nat.reduceAdd, Nat.zero_add, retC_r, retC_n, leaveC_a, valsC_a, unmark, resultsOf, resultOf, tupled, binI, unI, beq_self_eq_true, Bool.false_eq_true, reduceIte, reduceCtorEq, Bool.not_true, Bool.not_false, Option.getD_some, Option.getD_none, mkAgg, IV.cells, Heap.read, Heap.get_new, Heap.n_new, Heap.get_put, Heap.n_put, List.drop_succ_cons, List.drop_zero, List.take_succ_cons, List.take_zero, Nat.add_zero, Nat.reduceLeDiff, Nat.reduceMul, Nat.le_refl, Int.reduceLT, Int.reduceLE, List.drop, List.take, Option.some.injEq, and_true, true_and, and_false, false_and, BEq.rfl, Heap.write, splice, IV.one, List.all_cons, List.all_nil, Bool.and_self, Bool.and_true, Bool.true_and, Nat.le_add_right, eqKs, eqK, Nat.reduceLT, Nat.add_sub_cancel, bne_self_eq_false, Bool.false_bne, Bool.bne_false, List.append, pairOk, Bool.or_true, Bool.true_or, Int.toNat_natCast, Option.isSome_some, List.getElem?_cons_zero, List.getElem?_cons_succ, F7o0, F7o1, F7o2, F7o3, F7o4, F7o5, F7o6, F7o7, F7o8, F7o9, F7o10, F7o11, F7o12, F7o13, F7o14, F7o15, F7o16, F7o17, F7o18, F7o19, F7o20, F7o21, F7o22, F7o23, F7o24, F7o25, F7o26, F7o27, F7o28, F7o29, F7o30, F7o31, F7o32, F7o33, F7o34, F7o35, F7o36, F7o37, F7o38, F7o39, F7o40, F7o41, F7o42, F7o43, F7o44, F7o45, F7o46, F7o47, F7o48, F7o49, F7o50, F7o51, F7o52, F7o53, F7o54, F7o55, F7o56, F7o58, F7b, F7, ↓hlen, e1, a1, l3, hga, r3, ↓hbl.len, e2]
      refine c9 ?_
      simp only [W_skip, W_ret, W_exit, W_seq, W_block, W_ops, W_cond, W_segs_cons, W_segs_nil, freeI_s, freeI_f, W_op1, W_op, guardC_t, guardC_f, bb_tf, bb_ft, bb_tt, bb_ff, argC_a, goC_a, seqC_a, pairC_p, eq_self, Nat.left_eq_add, Nat.add_eq_left, Nat.reduceEqDiff, Int.reduceEq, Nat.add_left_cancel_iff, Nat.add_assoc, W_ops_nil, wantedI_n, wantedI_s, wantV_b, wantV_u, evalAll, IA.eval, optC_s, optC_n, nextOf, freeNext, fpOf, lowOf, opW, ev1, opC_a, Fr.put, List.set, List.getD_cons_zero, List.getD_cons_succ, thenC_n, thenC_j, segC_n, blkC_n, blkC_r, blkC_e, condC_t, condC_f, valC_v, W_apply, if_true, if_false, Option.map_some, Option.map_none, Option.bind_some, Option.bind_none, List.nil_append, List.append_nil, List.cons_append, undefs, List.length_cons, List.length_nil, Nat.reduceSub, Nat.reduceAdd, Nat.zero_add, retC_r, retC_n, leaveC_a, valsC_a, unmark, resultsOf, resultOf, tupled, binI, unI, beq_self_eq_true, Bool.false_eq_true, reduceIte, reduceCtorEq, Bool.not_true, Bool.not_false, Option.getD_some, Option.getD_none, mkAgg, IV.cells, Heap.read, Heap.get_new, Heap.n_new, Heap.get_put, Heap.n_put, List.drop_succ_cons, List.drop_zero, List.take_succ_cons, List.take_zero, Nat.add_zero, Nat.reduceLeDiff, Nat.reduceMul, Nat.le_refl, Int.reduceLT, Int.reduceLE, List.drop, List.take, Option.some.injEq, and_true, true_and, and_false, false_and, BEq.rfl, Heap.write, splice, IV.one, List.all_cons, List.all_nil, Bool.and_self, Bool.and_true, Bool.true_and, Nat.le_add_right, eqKs, eqK, Nat.reduceLT, Nat.add_sub_cancel, bne_self_eq_false, Bool.false_bne, Bool.bne_false, List.append, pairOk, Bool.or_true, Bool.true_or, Int.toNat_natCast, Option.isSome_some, List.getElem?_cons_zero, List.getElem?_cons_succ, F7o0, F7o1, F7o2, F7o3, F7o4, F7o5, F7o6, F7o7, F7o8, F7o9, F7o10, F7o11, F7o12, F7o13, F7o14, F7o15, F7o16, F7o17, F7o18, F7o19, F7o20, F7o21, F7o22, F7o23, F7o24, F7o25, F7o26, F7o27, F7o28, F7o29, F7o30, F7o31, F7o32, F7o33, F7o34, F7o35, F7o36, F7o37, F7o38, F7o39, F7o40, F7o41, F7o42, F7o43, F7o44, F7o45, F7o46, F7o47, F7o48, F7o49, F7o50, F7o51, F7o52, F7o53, F7o54, F7o55, F7o56, F7o58, F7b, F7]
      exact hR _ _ rfl rfl
    have hps : ps.length ≤ 10 := by simp at e2; omega
    simp only [W_skip, W_ret, W_exit, W_seq, W_block, W_ops, W_cond, W_segs_cons, W_segs_nil, freeI_s, freeI_f, W_op1, W_op, guardC_t, guardC_f, bb_tf, bb_ft, bb_tt, bb_ff, argC_a, goC_a, seqC_a, pairC_p, eq_self, Nat.left_eq_add, Nat.add_eq_left, Nat.reduceEqDiff, Int.reduceEq, Nat.add_left_cancel_iff, Nat.add_assoc, W_ops_nil, wantedI_n, wantedI_s, wantV_b, wantV_u, evalAll, IA.eval, optC_s, optC_n, nextOf, freeNext, fpOf, lowOf, opW, ev1, opC_a, Fr.put, List.set, List.getD_cons_zero, List.getD_cons_succ, thenC_n, thenC_j, segC_n, blkC_n, blkC_r, blkC_e, condC_t, condC_f, valC_v, W_apply, if_true, if_false, Option.map_some, Option.map_none, Option.bind_some, Option.bind_none, List.nil_append, List.append_nil, List.cons_append, undefs, List.length_cons, List.length_nil, Nat.reduceSub, Nat.reduceAdd, Nat.zero_add, retC_r, retC_n, leaveC_a, valsC_a, unmark, resultsOf, resultOf, tupled, binI, unI, beq_self_eq_true, Bool.false_eq_true, reduceIte, reduceCtorEq, Bool.not_true, Bool.not_false, Option.getD_some, Option.getD_none, mkAgg, IV.cells, Heap.read, Heap.get_new, Heap.n_new, Heap.get_put, Heap.n_put, List.drop_succ_cons, List.drop_zero, List.take_succ_cons, List.take_zero, Nat.add_zero, Nat.reduceLeDiff, Nat.reduceMul, Nat.le_refl, Int.reduceLT, Int.reduceLE, List.drop, List.take, Option.some.injEq, and_true, true_and, and_false, false_and, BEq.rfl, Heap.write, splice, IV.one, List.all_cons, List.all_nil, Bool.and_self, Bool.and_true, Bool.true_and, Nat.le_add_right, eqKs, eqK, Nat.reduceLT, Nat.add_sub_cancel, bne_self_eq_false, Bool.false_bne, Bool.bne_false, List.append, pairOk, Bool.or_true, Bool.true_or, Int.toNat_natCast, Option.isSome_some, List.getElem?_cons_zero, List.getElem?_cons_succ, F7o0, F7o1, F7o2, F7o3, F7o4, F7o5, F7o6, F7o7, F7o8, F7o9, F7o10, F7o11, F7o12, F7o13, F7o14, F7o15, F7o16, F7o17, F7o18, F7o19, F7o20, F7o21, F7o22, F7o23, F7o24, F7o25, F7o26, F7o27, F7o28, F7o29, F7o30, F7o31, F7o32, F7o33, F7o34, F7o35, F7o36, F7o37, F7o38, F7o39, F7o40, F7o41, F7o42, F7o43, F7o44, F7o45, F7o46, F7o47, F7o48, F7o49, F7o50, F7o51, F7o52, F7o53, F7o54, F7o55, F7o56, F7o58, F7b, F7, ↓hlen, e1, a1, l3, hga, r3, ↓hbl.len, e2]
    refine key _ ⟨rfl, rfl, rfl, rfl, rfl, rfl, rfl, rfl, rfl⟩ rfl rfl rfl hps _ ⟨fun H' tm' e he hf' f10 f11 f12 hg' kb => ?_, fun H' tm' inn' place' count' new' v' vp' P' hf' f10 f11 f12 hg' hv' hvp' ht' ho' hop' hc' hN' hP' hcount' kb => ?_⟩
    · have kn := kb.1
      rw [Heap.n_new] at kn
      have kk : Keep H.n H H' := ⟨by omega, fun b' h1 h2 => by rw [kb.2 b' (by rw [Heap.n_new]; omega) (by omega), Heap.get_new, if_neg (by omega)]⟩
      simp only [W_skip, W_ret, W_exit, W_seq, W_block, W_ops, W_cond, W_segs_cons, W_segs_nil, freeI_s, freeI_f, W_op1, W_op, guardC_t, guardC_f, bb_tf, bb_ft, bb_tt, bb_ff, argC_a, goC_a, seqC_a, pairC_p, eq_self, Nat.left_eq_add, Nat.add_eq_left, Nat.reduceEqDiff, Int.reduceEq, Nat.add_left_cancel_iff, Nat.add_assoc, W_ops_nil, wantedI_n, wantedI_s, wantV_b, wantV_u, evalAll, IA.eval, optC_s, optC_n, nextOf, freeNext, fpOf, lowOf, opW, ev1, opC_a, Fr.put, List.set, List.getD_cons_zero, List.getD_cons_succ, thenC_n, thenC_j, segC_n, blkC_n, blkC_r, blkC_e, condC_t, condC_f, valC_v, W_apply, if_true, if_false, Option.map_some, Option.map_none, Option.bind_some, Option.bind_none, List.nil_append, List.append_nil, List.cons_append, undefs, List.length_cons, List.length_nil, Nat.reduceSub, Nat.reduceAdd, Nat.zero_add, retC_r, retC_n, leaveC_a, valsC_a, unmark, resultsOf, resultOf, tupled, binI, unI, beq_self_eq_true, Bool.false_eq_true, reduceIte, reduceCtorEq, Bool.not_true, Bool.not_false, Option.getD_some, Option.getD_none, mkAgg, IV.cells, Heap.read, Heap.get_new, Heap.n_new, Heap.get_put, Heap.n_put, List.drop_succ_cons, List.drop_zero, List.take_succ_cons, List.take_zero, Nat.add_zero, Nat.reduceLeDiff, Nat.reduceMul, Nat.le_refl, Int.reduceLT, Int.reduceLE, List.drop, List.take, Option.some.injEq, and_true, true_and, and_false, false_and, BEq.rfl, Heap.write, splice, IV.one, List.all_cons, List.all_nil, Bool.and_self, Bool.and_true, Bool.true_and, Nat.le_add_right, eqKs, eqK, Nat.reduceLT, Nat.add_sub_cancel, bne_self_eq_false, Bool.false_bne, Bool.bne_false, List.append, pairOk, Bool.or_true, Bool.true_or, Int.toNat_natCast, Option.isSome_some, List.getElem?_cons_zero, List.getElem?_cons_succ, F7o0, F7o1, F7o2, F7o3, F7o4, F7o5, F7o6, F7o7, F7o8, F7o9, F7o10, F7o11, F7o12, F7o13, F7o14, F7o15, F7o16, F7o17, F7o18, F7o19, F7o20, F7o21, F7o22, F7o23, F7o24, F7o25, F7o26, F7o27, F7o28, F7o29, F7o30, F7o31, F7o32, F7o33, F7o34, F7o35, F7o36, F7o37, F7o38, F7o39, F7o40, F7o41, F7o42, F7o43, F7o44, F7o45, F7o46, F7o47, F7o48, F7o49, F7o50, F7o51, F7o52, F7o53, F7o54, F7o55, F7o56, F7o58, F7b, F7]
      refine hskip H.n e H' tm' hf' he f10 f11 f12 hg' _ fun tm2 hf2 => ?_
      obtain ⟨t, t0, t3, t4, t5, t6, t7, t8, t9⟩ := hf2
      rw [expl232 tm2 t, t0, t3, t4, t5, t6, t7, t8, t9]
      simp only [W_skip, W_ret, W_exit, W_seq, W_block, W_ops, W_cond, W_segs_cons, W_segs_nil, freeI_s, freeI_f, W_op1, W_op, guardC_t, guardC_f, bb_tf, bb_ft, bb_tt, bb_ff, argC_a, goC_a, seqC_a, pairC_p, eq_self, Nat.left_eq_add, Nat.add_eq_left, Nat.reduceEqDiff, Int.reduceEq, Nat.add_left_cancel_iff, Nat.add_assoc, W_ops_nil, wantedI_n, wantedI_s, wantV_b, wantV_u, evalAll, IA.eval, optC_s, optC_n, nextOf, freeNext, fpOf, lowOf, opW, ev1, opC_a, Fr.put, List.set, List.getD_cons_zero, List.getD_cons_succ, thenC_n, thenC_j, segC_n, blkC_n, blkC_r, blkC_e, condC_t, condC_f, valC_v, W_apply, if_true, if_false, Option.map_some, Option.map_none, Option.bind_some, Option.bind_none, List.nil_append, List.append_nil, List.cons_append, undefs, List.length_cons, List.length_nil, Nat.reduceSub, Nat.reduceAdd, Nat.zero_add, retC_r, retC_n, leaveC_a, valsC_a, unmark, resultsOf, resultOf, tupled, binI, unI, beq_self_eq_true, Bool.false_eq_true, reduceIte, reduceCtorEq, Bool.not_true, Bool.not_false, Option.getD_some, Option.getD_none, mkAgg, IV.cells, Heap.read, Heap.get_new, Heap.n_new, Heap.get_put, Heap.n_put, List.drop_succ_cons, List.drop_zero, List.take_succ_cons, List.take_zero, Nat.add_zero, Nat.reduceLeDiff, Nat.reduceMul, Nat.le_refl, Int.reduceLT, Int.reduceLE, List.drop, List.take, Option.some.injEq, and_true, true_and, and_false, false_and, BEq.rfl, Heap.write, splice, IV.one, List.all_cons, List.all_nil, Bool.and_self, Bool.and_true, Bool.true_and, Nat.le_add_right, eqKs, eqK, Nat.reduceLT, Nat.add_sub_cancel, bne_self_eq_false, Bool.false_bne, Bool.bne_false, List.append, pairOk, Bool.or_true, Bool.true_or, Int.toNat_natCast, Option.isSome_some, List.getElem?_cons_zero, List.getElem?_cons_succ, F7o0, F7o1, F7o2, F7o3, F7o4, F7o5, F7o6, F7o7, F7o8, F7o9, F7o10, F7o11, F7o12, F7o13, F7o14, F7o15, F7o16, F7o17, F7o18, F7o19, F7o20, F7o21, F7o22, F7o23, F7o24, F7o25, F7o26, F7o27, F7o28, F7o29, F7o30, F7o31, F7o32, F7o33, F7o34, F7o35, F7o36, F7o37, F7o38, F7o39, F7o40, F7o41, F7o42, F7o43, F7o44, F7o45, F7o46, F7o47, F7o48, F7o49, F7o50, F7o51, F7o52, F7o53, F7o54, F7o55, F7o56, F7o58, F7b, F7, hw]
      exact ih (i + 1) H' _ inn place count new v vp P (by omega) ⟨rfl, rfl, rfl, rfl, rfl, rfl, rfl, rfl, rfl⟩ (hk.trans (kk.lower (by omega))) (by omega) ((kk.2 H0.n (by omega) (by omega)).trans hy) (hv.keep kk) (hvp.keep kk) ht ho hop hc hNP (by omega) (by omega) Q hQ hR
    · have kn := kb.1
      rw [Heap.n_new] at kn
      have kk : Keep H.n H H' := ⟨by omega, fun b' h1 h2 => by rw [kb.2 b' (by rw [Heap.n_new]; omega) (by omega), Heap.get_new, if_neg (by omega)]⟩
      simp only [W_skip, W_ret, W_exit, W_seq, W_block, W_ops, W_cond, W_segs_cons, W_segs_nil, freeI_s, freeI_f, W_op1, W_op, guardC_t, guardC_f, bb_tf, bb_ft, bb_tt, bb_ff, argC_a, goC_a, seqC_a, pairC_p, eq_self, Nat.left_eq_add, Nat.add_eq_left, Nat.reduceEqDiff, Int.reduceEq, Nat.add_left_cancel_iff, Nat.add_assoc, W_ops_nil, wantedI_n, wantedI_s, wantV_b, wantV_u, evalAll, IA.eval, optC_s, optC_n, nextOf, freeNext, fpOf, lowOf, opW, ev1, opC_a, Fr.put, List.set, List.getD_cons_zero, List.getD_cons_succ, thenC_n, thenC_j, segC_n, blkC_n, blkC_r, blkC_e, condC_t, condC_f, valC_v, W_apply, if_true, if_false, Option.map_some, Option.map_none, Option.bind_some, Option.bind_none, List.nil_append, List.append_nil, List.cons_append, undefs, List.length_cons, List.length_nil, Nat.reduceSub, Nat.reduceAdd, Nat.zero_add, retC_r, retC_n, leaveC_a, valsC_a, unmark, resultsOf, resultOf, tupled, binI, unI, beq_self_eq_true, Bool.false_eq_true, reduceIte, reduceCtorEq, Bool.not_true, Bool.not_false, Option.getD_some, Option.getD_none, mkAgg, IV.cells, Heap.read, Heap.get_new, Heap.n_new, Heap.get_put, Heap.n_put, List.drop_succ_cons, List.drop_zero, List.take_succ_cons, List.take_zero, Nat.add_zero, Nat.reduceLeDiff, Nat.reduceMul, Nat.le_refl, Int.reduceLT, Int.reduceLE, List.drop, List.take, Option.some.injEq, and_true, true_and, and_false, false_and, BEq.rfl, Heap.write, splice, IV.one, List.all_cons, List.all_nil, Bool.and_self, Bool.and_true, Bool.true_and, Nat.le_add_right, eqKs, eqK, Nat.reduceLT, Nat.add_sub_cancel, bne_self_eq_false, Bool.false_bne, Bool.bne_false, List.append, pairOk, Bool.or_true, Bool.true_or, Int.toNat_natCast, Option.isSome_some, List.getElem?_cons_zero, List.getElem?_cons_succ, F7o0, F7o1, F7o2, F7o3, F7o4, F7o5, F7o6, F7o7, F7o8, F7o9, F7o10, F7o11, F7o12, F7o13, F7o14, F7o15, F7o16, F7o17, F7o18, F7o19, F7o20, F7o21, F7o22, F7o23, F7o24, F7o25, F7o26, F7o27, F7o28, F7o29, F7o30, F7o31, F7o32, F7o33, F7o34, F7o35, F7o36, F7o37, F7o38, F7o39, F7o40, F7o41, F7o42, F7o43, F7o44, F7o45, F7o46, F7o47, F7o48, F7o49, F7o50, F7o51, F7o52, F7o53, F7o54, F7o55, F7o56, F7o58, F7b, F7]
      refine hstep H.n inn' new' place' count' v' vp' P' _ H' tm' hf' f10 f11 f12 hg' ((kk.2 H0.n (by omega) (by omega)).trans hy) rfl (by omega) (Nat.le_refl _) (by omega) (by omega) hv' hvp' ht' ho' hop' (by omega) hc' _ fun H2 tm2 hf2 kb2 gy2 => ?_
      obtain ⟨t, t0, t3, t4, t5, t6, t7, t8, t9⟩ := hf2
      have kn2 := kb2.1
      rw [expl232 tm2 t, t0, t3, t4, t5, t6, t7, t8, t9]
      simp only [W_skip, W_ret, W_exit, W_seq, W_block, W_ops, W_cond, W_segs_cons, W_segs_nil, freeI_s, freeI_f, W_op1, W_op, guardC_t, guardC_f, bb_tf, bb_ft, bb_tt, bb_ff, argC_a, goC_a, seqC_a, pairC_p, eq_self, Nat.left_eq_add, Nat.add_eq_left, Nat.reduceEqDiff, Int.reduceEq, Nat.add_left_cancel_iff, Nat.add_assoc, W_ops_nil, wantedI_n, wantedI_s, wantV_b, wantV_u, evalAll, IA.eval, optC_s, optC_n, nextOf, freeNext, fpOf, lowOf, opW, ev1, opC_a, Fr.put, List.set, List.getD_cons_zero, List.getD_cons_succ, thenC_n, thenC_j, segC_n, blkC_n, blkC_r, blkC_e, condC_t, condC_f, valC_v, W_apply, if_true, if_false, Option.map_some, Option.map_none, Option.bind_some, Option.bind_none, List.nil_append, List.append_nil, List.cons_append, undefs, List.length_cons, List.length_nil, Nat.reduceSub, Nat.reduceAdd, Nat.zero_add, retC_r, retC_n, leaveC_a, valsC_a, unmark, resultsOf, resultOf, tupled, binI, unI, beq_self_eq_true, Bool.false_eq_true, reduceIte, reduceCtorEq, Bool.not_true, Bool.not_false, Option.getD_some, Option.getD_none, mkAgg, IV.cells, Heap.read, Heap.get_new, Heap.n_new, Heap.get_put, Heap.n_put, List.drop_succ_cons, List.drop_zero, List.take_succ_cons, List.take_zero, Nat.add_zero, Nat.reduceLeDiff, Nat.reduceMul, Nat.le_refl, Int.reduceLT, Int.reduceLE, List.drop, List.take, Option.some.injEq, and_true, true_and, and_false, false_and, BEq.rfl, Heap.write, splice, IV.one, List.all_cons, List.all_nil, Bool.and_self, Bool.and_true, Bool.true_and, Nat.le_add_right, eqKs, eqK, Nat.reduceLT, Nat.add_sub_cancel, bne_self_eq_false, Bool.false_bne, Bool.bne_false, List.append, pairOk, Bool.or_true, Bool.true_or, Int.toNat_natCast, Option.isSome_some, List.getElem?_cons_zero, List.getElem?_cons_succ, F7o0, F7o1, F7o2, F7o3, F7o4, F7o5, F7o6, F7o7, F7o8, F7o9, F7o10, F7o11, F7o12, F7o13, F7o14, F7o15, F7o16, F7o17, F7o18, F7o19, F7o20, F7o21, F7o22, F7o23, F7o24, F7o25, F7o26, F7o27, F7o28, F7o29, F7o30, F7o31, F7o32, F7o33, F7o34, F7o35, F7o36, F7o37, F7o38, F7o39, F7o40, F7o41, F7o42, F7o43, F7o44, F7o45, F7o46, F7o47, F7o48, F7o49, F7o50, F7o51, F7o52, F7o53, F7o54, F7o55, F7o56, F7o58, F7b, F7, hw]
      refine ih (i + 1) H2 _ inn' place' count' new' v' vp' P' (by omega) ⟨rfl, rfl, rfl, rfl, rfl, rfl, rfl, rfl, rfl⟩ ⟨by omega, fun b' h1 h2 => ?_⟩ (by omega) gy2 (hv'.keepBut ho' kb2) (hvp'.keepBut hop' kb2) ht' ho' hop' hc' hN' (by omega) (by omega) Q hQ hR
      rw [kb2.2 b' (by omega) (by omega), kk.2 b' (by omega) (by omega)]
      exact hk.2 b' h1 h2

theorem ya_run (H : Heap) (va : IV) (n : Nat) (hlen : ∀ lo H', ev1 .lenSl [va] lo H' = some (.int .i64 n, H')) (hA : ∀ i, i < n → ∃ w pl sd pv ps, ActAt H va i w pl sd pv ps H.n) :
    W E0 H.n (.call 7 [va]) H fun o _ => o = .val (.bool true) := by
  rw [c7]
  cases e0 : decide ((n : Int) > 30)
  case true =>
    simp only [W_skip, W_ret, W_exit, W_seq, W_block, W_ops, W_cond, W_segs_cons, W_segs_nil, freeI_s, freeI_f, W_op1, W_op, guardC_t, guardC_f, bb_tf, bb_ft, bb_tt, bb_ff, argC_a, goC_a, seqC_a, pairC_p, eq_self, Nat.left_eq_add, Nat.add_eq_left, Nat.reduceEqDiff, Int.reduceEq, Nat.add_left_cancel_iff, Nat.add_assoc, W_ops_nil, wantedI_n, wantedI_s, wantV_b, wantV_u, evalAll, IA.eval, optC_s, optC_n, nextOf, freeNext, fpOf, lowOf, opW, ev1, opC_a, Fr.put, List.set, List.getD_cons_zero, List.getD_cons_succ, thenC_n, thenC_j, segC_n, blkC_n, blkC_r, blkC_e, condC_t, condC_f, valC_v, W_apply, if_true, if_false, Option.map_some, Option.map_none, Option.bind_some, Option.bind_none, List.nil_append, List.append_nil, List.cons_append, undefs, List.length_cons, List.length_nil, Nat.reduceSub, Nat.reduceAdd, Nat.zero_add, retC_r, retC_n, leaveC_a, valsC_a, unmark, resultsOf, resultOf, tupled, binI, unI, beq_self_eq_true, Bool.false_eq_true, reduceIte, reduceCtorEq, Bool.not_true, Bool.not_false, Option.getD_some, Option.getD_none, mkAgg, IV.cells, Heap.read, Heap.get_new, Heap.n_new, Heap.get_put, Heap.n_put, List.drop_succ_cons, List.drop_zero, List.take_succ_cons, List.take_zero, Nat.add_zero, Nat.reduceLeDiff, Nat.reduceMul, Nat.le_refl, Int.reduceLT, Int.reduceLE, List.drop, List.take, Option.some.injEq, and_true, true_and, and_false, false_and, BEq.rfl, Heap.write, splice, IV.one, List.all_cons, List.all_nil, Bool.and_self, Bool.and_true, Bool.true_and, Nat.le_add_right, eqKs, eqK, Nat.reduceLT, Nat.add_sub_cancel, bne_self_eq_false, Bool.false_bne, Bool.bne_false, List.append, pairOk, Bool.or_true, Bool.true_or, Int.toNat_natCast, Option.isSome_some, List.getElem?_cons_zero, List.getElem?_cons_succ, F7o0, F7o1, F7o2, F7o3, F7o4, F7o5, F7o6, F7o7, F7o8, F7o9, F7o10, F7o11, F7o12, F7o13, F7o14, F7o15, F7o16, F7o17, F7o18, F7o19, F7o20, F7o21, F7o22, F7o23, F7o24, F7o25, F7o26, F7o27, F7o28, F7o29, F7o30, F7o31, F7o32, F7o33, F7o34, F7o35, F7o36, F7o37, F7o38, F7o39, F7o40, F7o41, F7o42, F7o43, F7o44, F7o45, F7o46, F7o47, F7o48, F7o49, F7o50, F7o51, F7o52, F7o53, F7o54, F7o55, F7o56, F7o58, F7b, F7, ↓hlen, e0]
    refine c9 ?_
    simp only [W_skip, W_ret, W_exit, W_seq, W_block, W_ops, W_cond, W_segs_cons, W_segs_nil, freeI_s, freeI_f, W_op1, W_op, guardC_t, guardC_f, bb_tf, bb_ft, bb_tt, bb_ff, argC_a, goC_a, seqC_a, pairC_p, eq_self, Nat.left_eq_add, Nat.add_eq_left, Nat.reduceEqDiff, Int.reduceEq, Nat.add_left_cancel_iff, Nat.add_assoc, W_ops_nil, wantedI_n, wantedI_s, wantV_b, wantV_u, evalAll, IA.eval, optC_s, optC_n, nextOf, freeNext, fpOf, lowOf, opW, ev1, opC_a, Fr.put, List.set, List.getD_cons_zero, List.getD_cons_succ, thenC_n, thenC_j, segC_n, blkC_n, blkC_r, blkC_e, condC_t, condC_f, valC_v, W_apply, if_true, if_false, Option.map_some, Option.map_none, Option.bind_some, Option.bind_none, List.nil_append, List.append_nil, List.cons_append, undefs, List.length_cons, List.length_nil, Nat.reduceSub, Nat.reduceAdd, Nat.zero_add, retC_r, retC_n, leaveC_a, valsC_a, unmark, resultsOf, resultOf, tupled, binI, unI, beq_self_eq_true, Bool.false_eq_true, reduceIte, reduceCtorEq, Bool.not_true, Bool.not_false, Option.getD_some, Option.getD_none, mkAgg, IV.cells, Heap.read, Heap.get_new, Heap.n_new, Heap.get_put, Heap.n_put, List.drop_succ_cons, List.drop_zero, List.take_succ_cons, List.take_zero, Nat.add_zero, Nat.reduceLeDiff, Nat.reduceMul, Nat.le_refl, Int.reduceLT, Int.reduceLE, List.drop, List.take, Option.some.injEq, and_true, true_and, and_false, false_and, BEq.rfl, Heap.write, splice, IV.one, List.all_cons, List.all_nil, Bool.and_self, Bool.and_true, Bool.true_and, Nat.le_add_right, eqKs, eqK, Nat.reduceLT, Nat.add_sub_cancel, bne_self_eq_false, Bool.false_bne, Bool.bne_false, List.append, pairOk, Bool.or_true, Bool.true_or, Int.toNat_natCast, Option.isSome_some, List.getElem?_cons_zero, List.getElem?_cons_succ, F7o0, F7o1, F7o2, F7o3, F7o4, F7o5, F7o6, F7o7, F7o8, F7o9, F7o10, F7o11, F7o12, F7o13, F7o14, F7o15, F7o16, F7o17, F7o18, F7o19, F7o20, F7o21, F7o22, F7o23, F7o24, F7o25, F7o26, F7o27, F7o28, F7o29, F7o30, F7o31, F7o32, F7o33, F7o34, F7o35, F7o36, F7o37, F7o38, F7o39, F7o40, F7o41, F7o42, F7o43, F7o44, F7o45, F7o46, F7o47, F7o48, F7o49, F7o50, F7o51, F7o52, F7o53, F7o54, F7o55, F7o56, F7o58, F7b, F7]
  have hn : n ≤ 30 := by simp at e0; omega
  simp only [W_skip, W_ret, W_exit, W_seq, W_block, W_ops, W_cond, W_segs_cons, W_segs_nil, freeI_s, freeI_f, W_op1, W_op, guardC_t, guardC_f, bb_tf, bb_ft, bb_tt, bb_ff, argC_a, goC_a, seqC_a, pairC_p, eq_self, Nat.left_eq_add, Nat.add_eq_left, Nat.reduceEqDiff, Int.reduceEq, Nat.add_left_cancel_iff, Nat.add_assoc, W_ops_nil, wantedI_n, wantedI_s, wantV_b, wantV_u, evalAll, IA.eval, optC_s, optC_n, nextOf, freeNext, fpOf, lowOf, opW, ev1, opC_a, Fr.put, List.set, List.getD_cons_zero, List.getD_cons_succ, thenC_n, thenC_j, segC_n, blkC_n, blkC_r, blkC_e, condC_t, condC_f, valC_v, W_apply, if_true, if_false, Option.map_some, Option.map_none, Option.bind_some, Option.bind_none, List.nil_append, List.append_nil, List.cons_append, undefs, List.length_cons, List.length_nil, Nat.reduceSub, Nat.reduceAdd, Nat.zero_add, retC_r, retC_n, leaveC_a, valsC_a, unmark, resultsOf, resultOf, tupled, binI, unI, beq_self_eq_true, Bool.false_eq_true, reduceIte, reduceCtorEq, Bool.not_true, Bool.not_false, Option.getD_some, Option.getD_none, mkAgg, IV.cells, Heap.read, Heap.get_new, Heap.n_new, Heap.get_put, Heap.n_put, List.drop_succ_cons, List.drop_zero, List.take_succ_cons, List.take_zero, Nat.add_zero, Nat.reduceLeDiff, Nat.reduceMul, Nat.le_refl, Int.reduceLT, Int.reduceLE, List.drop, List.take, Option.some.injEq, and_true, true_and, and_false, false_and, BEq.rfl, Heap.write, splice, IV.one, List.all_cons, List.all_nil, Bool.and_self, Bool.and_true, Bool.true_and, Nat.le_add_right, eqKs, eqK, Nat.reduceLT, Nat.add_sub_cancel, bne_self_eq_false, Bool.false_bne, Bool.bne_false, List.append, pairOk, Bool.or_true, Bool.true_or, Int.toNat_natCast, Option.isSome_some, List.getElem?_cons_zero, List.getElem?_cons_succ, F7o0, F7o1, F7o2, F7o3, F7o4, F7o5, F7o6, F7o7, F7o8, F7o9, F7o10, F7o11, F7o12, F7o13, F7o14, F7o15, F7o16, F7o17, F7o18, F7o19, F7o20, F7o21, F7o22, F7o23, F7o24, F7o25, F7o26, F7o27, F7o28, F7o29, F7o30, F7o31, F7o32, F7o33, F7o34, F7o35, F7o36, F7o37, F7o38, F7o39, F7o40, F7o41, F7o42, F7o43, F7o44, F7o45, F7o46, F7o47, F7o48, F7o49, F7o50, F7o51, F7o52, F7o53, F7o54, F7o55, F7o56, F7o58, F7b, F7, ↓hlen, e0]
  have hc0 : checkE false 0 0 false [] = 0 := by decide
  refine ya_loop H va n hlen hn hA n 0 _ _ false 0 0 false .nilSlice .nilSlice [] (by omega) ⟨rfl, rfl, rfl, rfl, rfl, rfl, rfl, rfl, rfl⟩ (.new _ _) (by rw [Heap.n_new]; omega) (by rw [Heap.get_new, if_pos rfl]; rfl) .nil .nil (.inl ⟨rfl, rfl⟩) (fun _ _ _ _ _ h => by cases h) (fun _ _ _ _ _ h => by cases h) hc0 (fun p hp => by cases hp) (by simp) (by omega) _ (fun H' tm' t => ?_) (fun H' tm' t t2 => ?_)
  · rw [expl232 tm' t]
    simp only [W_skip, W_ret, W_exit, W_seq, W_block, W_ops, W_cond, W_segs_cons, W_segs_nil, freeI_s, freeI_f, W_op1, W_op, guardC_t, guardC_f, bb_tf, bb_ft, bb_tt, bb_ff, argC_a, goC_a, seqC_a, pairC_p, eq_self, Nat.left_eq_add, Nat.add_eq_left, Nat.reduceEqDiff, Int.reduceEq, Nat.add_left_cancel_iff, Nat.add_assoc, W_ops_nil, wantedI_n, wantedI_s, wantV_b, wantV_u, evalAll, IA.eval, optC_s, optC_n, nextOf, freeNext, fpOf, lowOf, opW, ev1, opC_a, Fr.put, List.set, List.getD_cons_zero, List.getD_cons_succ, thenC_n, thenC_j, segC_n, blkC_n, blkC_r, blkC_e, condC_t, condC_f, valC_v, W_apply, if_true, if_false, Option.map_some, Option.map_none, Option.bind_some, Option.bind_none, List.nil_append, List.append_nil, List.cons_append, undefs, List.length_cons, List.length_nil, Nat.reduceSub, Nat.reduceAdd, Nat.zero_add, retC_r, retC_n, leaveC_a, valsC_a, unmark, resultsOf, resultOf, tupled, binI, unI, beq_self_eq_true, Bool.false_eq_true, reduceIte, reduceCtorEq, Bool.not_true, Bool.not_false, Option.getD_some, Option.getD_none, mkAgg, IV.cells, Heap.read, Heap.get_new, Heap.n_new, Heap.get_put, Heap.n_put, List.drop_succ_cons, List.drop_zero, List.take_succ_cons, List.take_zero, Nat.add_zero, Nat.reduceLeDiff, Nat.reduceMul, Nat.le_refl, Int.reduceLT, Int.reduceLE, List.drop, List.take, Option.some.injEq, and_true, true_and, and_false, false_and, BEq.rfl, Heap.write, splice, IV.one, List.all_cons, List.all_nil, Bool.and_self, Bool.and_true, Bool.true_and, Nat.le_add_right, eqKs, eqK, Nat.reduceLT, Nat.add_sub_cancel, bne_self_eq_false, Bool.false_bne, Bool.bne_false, List.append, pairOk, Bool.or_true, Bool.true_or, Int.toNat_natCast, Option.isSome_some, List.getElem?_cons_zero, List.getElem?_cons_succ, F7o0, F7o1, F7o2, F7o3, F7o4, F7o5, F7o6, F7o7, F7o8, F7o9, F7o10, F7o11, F7o12, F7o13, F7o14, F7o15, F7o16, F7o17, F7o18, F7o19, F7o20, F7o21, F7o22, F7o23, F7o24, F7o25, F7o26, F7o27, F7o28, F7o29, F7o30, F7o31, F7o32, F7o33, F7o34, F7o35, F7o36, F7o37, F7o38, F7o39, F7o40, F7o41, F7o42, F7o43, F7o44, F7o45, F7o46, F7o47, F7o48, F7o49, F7o50, F7o51, F7o52, F7o53, F7o54, F7o55, F7o56, F7o58, F7b, F7]
    refine c9 ?_
    simp only [W_skip, W_ret, W_exit, W_seq, W_block, W_ops, W_cond, W_segs_cons, W_segs_nil, freeI_s, freeI_f, W_op1, W_op, guardC_t, guardC_f, bb_tf, bb_ft, bb_tt, bb_ff, argC_a, goC_a, seqC_a, pairC_p, eq_self, Nat.left_eq_add, Nat.add_eq_left, Nat.reduceEqDiff, Int.reduceEq, Nat.add_left_cancel_iff, Nat.add_assoc, W_ops_nil, wantedI_n, wantedI_s, wantV_b, wantV_u, evalAll, IA.eval, optC_s, optC_n, nextOf, freeNext, fpOf, lowOf, opW, ev1, opC_a, Fr.put, List.set, List.getD_cons_zero, List.getD_cons_succ, thenC_n, thenC_j, segC_n, blkC_n, blkC_r, blkC_e, condC_t, condC_f, valC_v, W_apply, if_true, if_false, Option.map_some, Option.map_none, Option.bind_some, Option.bind_none, List.nil_append, List.append_nil, List.cons_append, undefs, List.length_cons, List.length_nil, Nat.reduceSub, Nat.reduceAdd, Nat.zero_add, retC_r, retC_n, leaveC_a, valsC_a, unmark, resultsOf, resultOf, tupled, binI, unI, beq_self_eq_true, Bool.false_eq_true, reduceIte, reduceCtorEq, Bool.not_true, Bool.not_false, Option.getD_some, Option.getD_none, mkAgg, IV.cells, Heap.read, Heap.get_new, Heap.n_new, Heap.get_put, Heap.n_put, List.drop_succ_cons, List.drop_zero, List.take_succ_cons, List.take_zero, Nat.add_zero, Nat.reduceLeDiff, Nat.reduceMul, Nat.le_refl, Int.reduceLT, Int.reduceLE, List.drop, List.take, Option.some.injEq, and_true, true_and, and_false, false_and, BEq.rfl, Heap.write, splice, IV.one, List.all_cons, List.all_nil, Bool.and_self, Bool.and_true, Bool.true_and, Nat.le_add_right, eqKs, eqK, Nat.reduceLT, Nat.add_sub_cancel, bne_self_eq_false, Bool.false_bne, Bool.bne_false, List.append, pairOk, Bool.or_true, Bool.true_or, Int.toNat_natCast, Option.isSome_some, List.getElem?_cons_zero, List.getElem?_cons_succ, F7o0, F7o1, F7o2, F7o3, F7o4, F7o5, F7o6, F7o7, F7o8, F7o9, F7o10, F7o11, F7o12, F7o13, F7o14, F7o15, F7o16, F7o17, F7o18, F7o19, F7o20, F7o21, F7o22, F7o23, F7o24, F7o25, F7o26, F7o27, F7o28, F7o29, F7o30, F7o31, F7o32, F7o33, F7o34, F7o35, F7o36, F7o37, F7o38, F7o39, F7o40, F7o41, F7o42, F7o43, F7o44, F7o45, F7o46, F7o47, F7o48, F7o49, F7o50, F7o51, F7o52, F7o53, F7o54, F7o55, F7o56, F7o58, F7b, F7]
  · rw [expl232 tm' t, t2]
    simp only [W_skip, W_ret, W_exit, W_seq, W_block, W_ops, W_cond, W_segs_cons, W_segs_nil, freeI_s, freeI_f, W_op1, W_op, guardC_t, guardC_f, bb_tf, bb_ft, bb_tt, bb_ff, argC_a, goC_a, seqC_a, pairC_p, eq_self, Nat.left_eq_add, Nat.add_eq_left, Nat.reduceEqDiff, Int.reduceEq, Nat.add_left_cancel_iff, Nat.add_assoc, W_ops_nil, wantedI_n, wantedI_s, wantV_b, wantV_u, evalAll, IA.eval, optC_s, optC_n, nextOf, freeNext, fpOf, lowOf, opW, ev1, opC_a, Fr.put, List.set, List.getD_cons_zero, List.getD_cons_succ, thenC_n, thenC_j, segC_n, blkC_n, blkC_r, blkC_e, condC_t, condC_f, valC_v, W_apply, if_true, if_false, Option.map_some, Option.map_none, Option.bind_some, Option.bind_none, List.nil_append, List.append_nil, List.cons_append, undefs, List.length_cons, List.length_nil, Nat.reduceSub, Nat.reduceAdd, Nat.zero_add, retC_r, retC_n, leaveC_a, valsC_a, unmark, resultsOf, resultOf, tupled, binI, unI, beq_self_eq_true, Bool.false_eq_true, reduceIte, reduceCtorEq, Bool.not_true, Bool.not_false, Option.getD_some, Option.getD_none, mkAgg, IV.cells, Heap.read, Heap.get_new, Heap.n_new, Heap.get_put, Heap.n_put, List.drop_succ_cons, List.drop_zero, List.take_succ_cons, List.take_zero, Nat.add_zero, Nat.reduceLeDiff, Nat.reduceMul, Nat.le_refl, Int.reduceLT, Int.reduceLE, List.drop, List.take, Option.some.injEq, and_true, true_and, and_false, false_and, BEq.rfl, Heap.write, splice, IV.one, List.all_cons, List.all_nil, Bool.and_self, Bool.and_true, Bool.true_and, Nat.le_add_right, eqKs, eqK, Nat.reduceLT, Nat.add_sub_cancel, bne_self_eq_false, Bool.false_bne, Bool.bne_false, List.append, pairOk, Bool.or_true, Bool.true_or, Int.toNat_natCast, Option.isSome_some, List.getElem?_cons_zero, List.getElem?_cons_succ, F7o0, F7o1, F7o2, F7o3, F7o4, F7o5, F7o6, F7o7, F7o8, F7o9, F7o10, F7o11, F7o12, F7o13, F7o14, F7o15, F7o16, F7o17, F7o18, F7o19, F7o20, F7o21, F7o22, F7o23, F7o24, F7o25, F7o26, F7o27, F7o28, F7o29, F7o30, F7o31, F7o32, F7o33, F7o34, F7o35, F7o36, F7o37, F7o38, F7o39, F7o40, F7o41, F7o42, F7o43, F7o44, F7o45, F7o46, F7o47, F7o48, F7o49, F7o50, F7o51, F7o52, F7o53, F7o54, F7o55, F7o56, F7o58, F7b, F7]
end Go.Iso.GenA
end

section
namespace Go.Iso.GenA
open Go.Iso Go.Proofs
set_option maxRecDepth 100000
set_option maxHeartbeats 4000000

def actT : Ty := .struct [.int .u8, .int .i64, .int .u8, .slice (.int .u8)]

theorem rd_act {H : Heap} (hro : Ro H) {c : List IV} {d : PD} (h : Rd H actT c d) : ∃ w pl sd pv ps, c = [.int .u8 w, .int .i64 pl, .int .u8 sd, pv] ∧ BL H pv ps ∧ (∀ x, x ∈ ps → 0 ≤ x ∧ x ≤ 255) ∧ 0 ≤ w ∧ 0 ≤ sd := by
  cases h with
  | struct ts css l he =>
    cases he with
    | cons h1 he =>
      cases he with
      | cons h2 he =>
        cases he with
        | cons h3 he =>
          cases he with
          | cons h4 he =>
            cases he
            obtain ⟨pv, ps, rfl, hb, hx⟩ := rd_bytes hro h4
            cases h1 with
            | int k w hw =>
              cases h2 with
              | int k pl hp =>
                cases h3 with
                | int k sd hs => exact ⟨w, pl, sd, pv, ps, rfl, hb, hx, hw.1, hs.1⟩

theorem rd_acts {H : Heap} (hro : Ro H) {c : List IV} {d : PD} (h : Rd H (.slice actT) c d) : ∃ va n, c = [va] ∧ (∀ lo H', ev1 .lenSl [va] lo H' = some (.int .i64 (n : Nat), H')) ∧ ∀ i, i < n → ∃ w pl sd pv ps, ActAt H va i w pl sd pv ps H.n := by
  cases h with
  | nil => exact ⟨.nilSlice, 0, rfl, fun _ _ => rfl, fun i hi => absurd hi (by omega)⟩
  | slice e b cap l css h1 h2 hb he =>
    have key : ∀ (n : Nat) (css : List (List IV)) (l : List PD), Rds H (List.replicate n actT) css l → css.flatten.length = n * 4 ∧ ∀ i, i < n → ∃ w pl sd pv ps, (css.flatten.drop (i * 4)).take 4 = [.int .u8 w, .int .i64 pl, .int .u8 sd, pv] ∧ BL H pv ps ∧ (∀ x, x ∈ ps → 0 ≤ x ∧ x ≤ 255) ∧ 0 ≤ w ∧ 0 ≤ sd := by
      intro n
      induction n with
      | zero => intro css l h; cases h; exact ⟨rfl, fun i hi => absurd hi (by omega)⟩
      | succ n ih =>
        intro css l h
        cases h with
        | cons h hs =>
          obtain ⟨a1, a2⟩ := ih _ _ hs
          obtain ⟨w, pl, sd, pv, ps, rfl, q1, q2, q3, q4⟩ := rd_act hro h
          refine ⟨by rw [List.flatten_cons, List.length_append, a1]; simp; omega, fun i hi => ?_⟩
          cases i with
          | zero => exact ⟨w, pl, sd, pv, ps, by simp, q1, q2, q3, q4⟩
          | succ i =>
            obtain ⟨w', pl', sd', pv', ps', p0, p1, p2, p3, p4⟩ := a2 i (by omega)
            refine ⟨w', pl', sd', pv', ps', ?_, p1, p2, p3, p4⟩
            rw [List.flatten_cons, show (i + 1) * 4 = ([IV.int .u8 w, .int .i64 pl, .int .u8 sd, pv] : List IV).length + i * 4 from by simp; omega, List.drop_length_add_append]
            exact p0
    obtain ⟨a1, a2⟩ := key _ _ _ he
    refine ⟨_, l.length, rfl, fun _ _ => rfl, fun i hi => ?_⟩
    obtain ⟨w, pl, sd, pv, ps, p0, p1, p2, p3, p4⟩ := a2 i hi
    have hpos : 0 < l.length := by omega
    exact ⟨w, pl, sd, pv, ps, ⟨b, 0, l.length, cap, true, true, 0, 0, css.flatten, rfl, hi, (hro b _ (hb hpos)).1, hb hpos, by omega, by rw [Nat.zero_add]; exact p0⟩, p1, p2, p3, p4⟩

theorem params7 : Try.f7.params.toList.mapM (tyOf Try.prog 8) = some [.slice actT] := by kernel_rfl
theorem types7 : typesOk Try.prog Try.f7 = true := by kernel_rfl

theorem acts_lifted (os : Os) (started : os.Started) (T : Type) (enc : TypeId × Value → T) :
    ReturnsInHanded {} Try.checked os 7 .any (Ytpekmodcnpfmkaa.Rows.yarnsActsSpec.pre6 enc Try.prog Try.f7 [] false) (Ytpekmodcnpfmkaa.Rows.yarnsActsSpec.post enc Try.prog Try.f7 false true false false) := by
  refine returnsInHanded_of_change (C := Try.checked) own_knob started (by kernel_rfl) Try.func7
    (ChangeSpec.witness6 (enc := enc) (C := Try.checked) false ⟨#[], #[.slice none 0 0], []⟩ 8 (by kernel_rfl) (by kernel_rfl) (by kernel_rfl) (by kernel_rfl)) ?_
  intro W base args ds gs before hval hW _ _
  refine law_calls (P := Try.prog) (tb := 4) (s := Ytpekmodcnpfmkaa.Rows.yarnsActsSpec) env0 rfl params7 (by kernel_rfl) (by kernel_rfl) types7 rfl ?_ (fun _ => True) ?_ W base args ds gs before hval hW trivial
  · intro T ds hd
    match ds, hd with
    | [a], _ => rfl
  · intro H css ds hro hrd _
    cases hrd with
    | cons h1 hrd =>
      cases hrd
      obtain ⟨va, n, rfl, hlen, hA⟩ := rd_acts hro h1
      obtain ⟨n, o, H', h, rfl⟩ := ya_run H va n hlen hA
      exact ⟨n, H', h⟩

theorem acts_holds : Ytpekmodcnpfmkaa.Rows.YarnsActsSaid :=
  OpenClaim.holds_of_wide 7 Try.f7 rfl rfl rfl rfl rfl rfl rfl ⟨rfl, rfl, rfl, rfl, rfl⟩ rfl rfl rfl rfl rfl (by kernel_rfl) Try.func7 (by kernel_rfl)
    (of_decide_eq_true (by kernel_rfl)) (by unfold Func.isWrapper; first | (rw [if_pos (by decide +kernel)]; kernel_rfl) | (rw [if_neg (by decide +kernel)]; exact ⟨rfl, rfl⟩))
    (fun os started H enc _ => acts_lifted os started H enc)
end Go.Iso.GenA

namespace Go.Proofs.Ytpekmodcnpfmkaa
theorem yarnsActs_holds : Rows.YarnsActsSaid := Go.Iso.GenA.acts_holds
end Go.Proofs.Ytpekmodcnpfmkaa
end
