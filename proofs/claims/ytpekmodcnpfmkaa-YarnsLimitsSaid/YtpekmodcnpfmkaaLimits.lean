/-
  ganseylaw02.YarnsLimits returns true for every input and leaves its arguments as they were; no condition.
-/
import Derived.Test.YtpekmodcnpfmkaaFnC
import Derived.Test.YtpekmodcnpfmkaaRow
set_option linter.unusedSimpArgs false
set_option linter.unusedVariables false

section
namespace Go.Iso.GenA
open Go.Iso
set_option maxHeartbeats 8000000
set_option maxRecDepth 10000

def lp (i : Nat) : Ps := ⟨1, (i : Int).tmod 2, false, 1⟩
def fl (i : Nat) : List Ps := (List.range i).map lp
theorem fl_length (i : Nat) : (fl i).length = i := by simp [fl]
theorem fl_succ (i : Nat) : fl (i + 1) = fl i ++ [lp i] := by simp [fl, List.range_succ]
theorem lp_valid (i : Nat) : validB (lp i) = true := by
  have a1 := Int.tmod_nonneg 2 (show (0 : Int) ≤ i from by omega)
  have a2 := Int.tmod_lt_of_pos (i : Int) (show (0 : Int) < 2 from by omega)
  show (namedB 1 ((i : Int).tmod 2) && sidedB 1) = true
  generalize (i : Int).tmod 2 = x at *
  simp only [namedB, sidedB, Bool.and_eq_true, decide_eq_true_eq]
  exact ⟨⟨by omega, by omega, by omega, by omega⟩, rfl⟩
theorem lp_cancel (q : Ps) (i : Nat) (h : q.d = 1) : cancelB q (lp i) = false := by
  cases hc : cancelB q (lp i) with
  | false => rfl
  | true => exact absurd h (cancelB_eq.1 hc).2.2.1
theorem fl_d {i : Nat} {p : Ps} (h : p ∈ fl i) : p.d = 1 := by
  obtain ⟨j, _, rfl⟩ := List.mem_map.1 h
  rfl
theorem fl_red : ∀ i, Red (fl i)
  | 0 => trivial
  | i + 1 => by
    rw [fl_succ, red_snoc]
    exact ⟨fl_red i, fun q hq => lp_cancel q i (fl_d (List.mem_of_getLast? hq))⟩
theorem fl_valids (i : Nat) : Valids (fl i) := fun p h => by
  obtain ⟨j, _, rfl⟩ := List.mem_map.1 h
  exact lp_valid j

theorem expl111 (tm : List IV) (h : tm.length = 111) : tm = [tm.getD 0 IV.undef, tm.getD 1 IV.undef, tm.getD 2 IV.undef, tm.getD 3 IV.undef, tm.getD 4 IV.undef, tm.getD 5 IV.undef, tm.getD 6 IV.undef, tm.getD 7 IV.undef, tm.getD 8 IV.undef, tm.getD 9 IV.undef, tm.getD 10 IV.undef, tm.getD 11 IV.undef, tm.getD 12 IV.undef, tm.getD 13 IV.undef, tm.getD 14 IV.undef, tm.getD 15 IV.undef, tm.getD 16 IV.undef, tm.getD 17 IV.undef, tm.getD 18 IV.undef, tm.getD 19 IV.undef, tm.getD 20 IV.undef, tm.getD 21 IV.undef, tm.getD 22 IV.undef, tm.getD 23 IV.undef, tm.getD 24 IV.undef, tm.getD 25 IV.undef, tm.getD 26 IV.undef, tm.getD 27 IV.undef, tm.getD 28 IV.undef, tm.getD 29 IV.undef, tm.getD 30 IV.undef, tm.getD 31 IV.undef, tm.getD 32 IV.undef, tm.getD 33 IV.undef, tm.getD 34 IV.undef, tm.getD 35 IV.undef, tm.getD 36 IV.undef, tm.getD 37 IV.undef, tm.getD 38 IV.undef, tm.getD 39 IV.undef, tm.getD 40 IV.undef, tm.getD 41 IV.undef, tm.getD 42 IV.undef, tm.getD 43 IV.undef, tm.getD 44 IV.undef, tm.getD 45 IV.undef, tm.getD 46 IV.undef, tm.getD 47 IV.undef, tm.getD 48 IV.undef, tm.getD 49 IV.undef, tm.getD 50 IV.undef, tm.getD 51 IV.undef, tm.getD 52 IV.undef, tm.getD 53 IV.undef, tm.getD 54 IV.undef, tm.getD 55 IV.undef, tm.getD 56 IV.undef, tm.getD 57 IV.undef, tm.getD 58 IV.undef, tm.getD 59 IV.undef, tm.getD 60 IV.undef, tm.getD 61 IV.undef, tm.getD 62 IV.undef, tm.getD 63 IV.undef, tm.getD 64 IV.undef, tm.getD 65 IV.undef, tm.getD 66 IV.undef, tm.getD 67 IV.undef, tm.getD 68 IV.undef, tm.getD 69 IV.undef, tm.getD 70 IV.undef, tm.getD 71 IV.undef, tm.getD 72 IV.undef, tm.getD 73 IV.undef, tm.getD 74 IV.undef, tm.getD 75 IV.undef, tm.getD 76 IV.undef, tm.getD 77 IV.undef, tm.getD 78 IV.undef, tm.getD 79 IV.undef, tm.getD 80 IV.undef, tm.getD 81 IV.undef, tm.getD 82 IV.undef, tm.getD 83 IV.undef, tm.getD 84 IV.undef, tm.getD 85 IV.undef, tm.getD 86 IV.undef, tm.getD 87 IV.undef, tm.getD 88 IV.undef, tm.getD 89 IV.undef, tm.getD 90 IV.undef, tm.getD 91 IV.undef, tm.getD 92 IV.undef, tm.getD 93 IV.undef, tm.getD 94 IV.undef, tm.getD 95 IV.undef, tm.getD 96 IV.undef, tm.getD 97 IV.undef, tm.getD 98 IV.undef, tm.getD 99 IV.undef, tm.getD 100 IV.undef, tm.getD 101 IV.undef, tm.getD 102 IV.undef, tm.getD 103 IV.undef, tm.getD 104 IV.undef, tm.getD 105 IV.undef, tm.getD 106 IV.undef, tm.getD 107 IV.undef, tm.getD 108 IV.undef, tm.getD 109 IV.undef, tm.getD 110 IV.undef] := (expl tm 111 h).trans rfl

theorem yl_loop (lo b pb n : Nat) (po : IObj) (hlo : lo ≤ b) (hpb : pb ≠ b) (hn : n ≤ 5000) : ∀ (k i : Nat) (H : Heap) (tm : List IV), i + k = n → tm.length = 111 →
    tm.getD 3 IV.undef = .ptr pb 0 → tm.getD 5 IV.undef = .int .i64 n → tm.getD 6 IV.undef = .slice b 0 n n true → tm.getD 7 IV.undef = .int .i64 i → Own H b n (fl i) → pb < H.n → H.get pb = some po →
    ∀ Q : Out → Heap → Prop, (∀ H' tm', tm'.length = 111 → tm'.getD 3 IV.undef = .ptr pb 0 → tm'.getD 5 IV.undef = .int .i64 n → tm'.getD 6 IV.undef = .slice b 0 n n true → Own H' b n (fl n) → pb < H'.n → H'.get pb = some po → Q (.ex (.jmp (.exit 0)) ⟨tm', []⟩) H') →
    W E0 lo (.code (.loop F6l7) none ⟨tm, []⟩) H Q := by
  intro k
  induction k with
  | zero =>
    intro i H tm hi htm h3 h5 h6 h7 ho hp hg Q hQ
    have hi' : i = n := by omega
    subst hi'
    rw [W_loop, expl111 tm htm, h3, h5, h6, h7]
    have e1 : decide ((i : Int) < i) = false := by simp
    simp only [W_skip, W_ret, W_exit, W_seq, W_block, W_ops, W_cond, W_segs_cons, W_segs_nil, freeI_s, freeI_f, W_op1, W_op, guardC_t, guardC_f, bb_tf, bb_ft, bb_tt, bb_ff, argC_a, goC_a, seqC_a, pairC_p, eq_self, Nat.left_eq_add, Nat.add_eq_left, Nat.reduceEqDiff, Int.reduceEq, Nat.add_left_cancel_iff, Nat.add_assoc, W_ops_nil, wantedI_n, wantedI_s, wantV_b, wantV_u, evalAll, IA.eval, optC_s, optC_n, nextOf, freeNext, fpOf, lowOf, opW, ev1, opC_a, Fr.put, List.set, List.getD_cons_zero, List.getD_cons_succ, thenC_n, thenC_j, segC_n, blkC_n, blkC_r, blkC_e, condC_t, condC_f, valC_v, W_apply, if_true, if_false, Option.map_some, Option.map_none, Option.bind_some, Option.bind_none, List.nil_append, List.append_nil, List.cons_append, undefs, List.length_cons, List.length_nil, Nat.reduceSub, Nat.reduceAdd, Nat.zero_add, retC_r, retC_n, leaveC_a, valsC_a, unmark, resultsOf, resultOf, tupled, binI, unI, beq_self_eq_true, Bool.false_eq_true, reduceIte, reduceCtorEq, Bool.not_true, Bool.not_false, Option.getD_some, Option.getD_none, mkAgg, IV.cells, Heap.read, Heap.get_new, Heap.n_new, Heap.get_put, Heap.n_put, List.drop_succ_cons, List.drop_zero, List.take_succ_cons, List.take_zero, Nat.add_zero, Nat.reduceLeDiff, Nat.reduceMul, Nat.le_refl, Int.reduceLT, Int.reduceLE, List.drop, List.take, Option.some.injEq, and_true, true_and, and_false, false_and, BEq.rfl, Heap.write, splice, IV.one, List.all_cons, List.all_nil, Bool.and_self, Bool.and_true, Bool.true_and, Nat.le_add_right, eqKs, eqK, Nat.reduceLT, Nat.add_sub_cancel, bne_self_eq_false, Bool.false_bne, Bool.bne_false, List.append, pairOk, Bool.or_true, Bool.true_or, Int.toNat_natCast, Option.isSome_some, List.getElem?_cons_zero, List.getElem?_cons_succ, F6o0, F6o1, F6o2, F6o3, F6o4, F6o5, F6o6, F6l7, F6o8, F6o9, F6o10, F6o11, F6o12, F6o13, F6o14, F6o15, F6o16, F6o17, F6o18, F6o19, F6b, F6, e1]
    exact hQ _ _ rfl rfl rfl rfl ho hp hg
  | succ k ih =>
    intro i H tm hi htm h3 h5 h6 h7 ho hp hg Q hQ
    have e1 : decide ((i : Int) < n) = true := by simp; omega
    have e2 : (0 ≤ (i : Int) ∧ (i : Int) < n) = True := by simp; omega
    have hw : IntKind.i64.wrap ((i : Int) + 1) = ((i + 1 : Nat) : Int) := IntWalk.i64_in _ (by omega)
    obtain ⟨o1, o2, cs, o3, o4, o5⟩ := ho
    have e3 : (i * 4 + 4 ≤ cs.length) = True := by simp; omega
    have e4 : (lo ≤ b) = True := by simp [hlo]
    have e5 : ((2 : Int) = 0) = False := by simp
    rw [W_loop, expl111 tm htm, h3, h5, h6, h7]
    simp only [W_skip, W_ret, W_exit, W_seq, W_block, W_ops, W_cond, W_segs_cons, W_segs_nil, freeI_s, freeI_f, W_op1, W_op, guardC_t, guardC_f, bb_tf, bb_ft, bb_tt, bb_ff, argC_a, goC_a, seqC_a, pairC_p, eq_self, Nat.left_eq_add, Nat.add_eq_left, Nat.reduceEqDiff, Int.reduceEq, Nat.add_left_cancel_iff, Nat.add_assoc, W_ops_nil, wantedI_n, wantedI_s, wantV_b, wantV_u, evalAll, IA.eval, optC_s, optC_n, nextOf, freeNext, fpOf, lowOf, opW, ev1, opC_a, Fr.put, List.set, List.getD_cons_zero, List.getD_cons_succ, thenC_n, thenC_j, segC_n, blkC_n, blkC_r, blkC_e, condC_t, condC_f, valC_v, W_apply, if_true, if_false, Option.map_some, Option.map_none, Option.bind_some, Option.bind_none, List.nil_append, List.append_nil, List.cons_append, undefs, List.length_cons, List.length_nil, Nat.reduceSub, Nat.reduceAdd, Nat.zero_add, retC_r, retC_n, leaveC_a, valsC_a, unmark, resultsOf, resultOf, tupled, binI, unI, beq_self_eq_true, Bool.false_eq_true, reduceIte, reduceCtorEq, Bool.not_true, Bool.not_false, Option.getD_some, Option.getD_none, mkAgg, IV.cells, Heap.read, Heap.get_new, Heap.n_new, Heap.get_put, Heap.n_put, List.drop_succ_cons, List.drop_zero, List.take_succ_cons, List.take_zero, Nat.add_zero, Nat.reduceLeDiff, Nat.reduceMul, Nat.le_refl, Int.reduceLT, Int.reduceLE, List.drop, List.take, Option.some.injEq, and_true, true_and, and_false, false_and, BEq.rfl, Heap.write, splice, IV.one, List.all_cons, List.all_nil, Bool.and_self, Bool.and_true, Bool.true_and, Nat.le_add_right, eqKs, eqK, Nat.reduceLT, Nat.add_sub_cancel, bne_self_eq_false, Bool.false_bne, Bool.bne_false, List.append, pairOk, Bool.or_true, Bool.true_or, Int.toNat_natCast, Option.isSome_some, List.getElem?_cons_zero, List.getElem?_cons_succ, F6o0, F6o1, F6o2, F6o3, F6o4, F6o5, F6o6, F6l7, F6o8, F6o9, F6o10, F6o11, F6o12, F6o13, F6o14, F6o15, F6o16, F6o17, F6o18, F6o19, F6b, F6, e1, e2, e3, e4, e5, o3, hw, fillI]
    refine ih (i + 1) _ _ (by omega) rfl rfl rfl rfl rfl ?_ (by rw [Heap.n_put]; exact hp) (by rw [Heap.get_put, if_neg (by omega)]; exact hg) Q hQ
    rw [fl_succ]
    exact own_push (S := fl i) (p := lp i) (ks := cs) (by rw [Heap.n_put]; exact o2) o4 o5 (by rw [fl_length]; omega) (by rw [Heap.get_put, if_pos rfl, fl_length]; rfl)
end Go.Iso.GenA
end

section
namespace Go.Iso.GenA
open Go.Iso
set_option maxHeartbeats 8000000
set_option maxRecDepth 10000

/-- What is wrong with a pass, by the law. -/
def badL (p : Ps) : Bool := decide (p.y < 1) || (decide (p.y > 6) || (decide (p.n < 0) || (decide (p.n > 2047) || decide (p.d > 1))))
theorem badL_valid {p : Ps} (hp : 0 ≤ p.d) : badL p = !validB p := by
  rw [Bool.eq_iff_iff]
  simp only [badL, validB, namedB, sidedB, Bool.or_eq_true, decide_eq_true_eq, Bool.not_eq_true', Bool.and_eq_false_iff, decide_eq_false_iff_not, Bool.or_eq_false_iff, beq_eq_false_iff_ne, ne_eq]
  omega

def F6e : IC := .seq (F6o18) (.seq (F6o19) (.ret))
def F6m : IC := .seq (F6o8) (.seq (.seq (F6o9) (.cond (.tmp 37) (.seq (F6o10) (.ret)) (.skip))) (.seq (F6o11) (.seq (F6o12) (.seq (.seq (F6o13) (.cond (.tmp 45) (F6o14) (.skip))) (.seq (.seq (F6o15) (.cond (.tmp 59) (.seq (F6o16) (.ret)) (.skip))) (.seq (F6o17) F6e))))))

theorem yl_end (lo pb : Nat) (p : Ps) {H1 : Heap} {tm : List IV} (htm : tm.length = 111) (h3 : tm.getD 3 IV.undef = .ptr pb 0) (h9 : tm.getD 9 IV.undef = .int .i64 (if badL p = true then 1 else 0)) (hg : H1.get pb = some (.cells false 33 4 p.cells)) :
    W E0 lo (.code F6e none ⟨tm, []⟩) H1 (retC lo F6.results fun o _ => o = .val (.bool true)) := by
  have z0 : ((0 : Int) == 0) = true := by decide
  have z1 : ((1 : Int) == 1) = true := by decide
  have z2 : ((0 : Int) == 1) = false := by decide
  rw [expl111 tm htm, h3, h9]
  unfold Ps.cells at hg
  unfold badL
  cases c1 : decide (p.y < 1)
  case true =>
    simp only [W_skip, W_ret, W_exit, W_seq, W_block, W_ops, W_cond, W_segs_cons, W_segs_nil, freeI_s, freeI_f, W_op1, W_op, guardC_t, guardC_f, bb_tf, bb_ft, bb_tt, bb_ff, argC_a, goC_a, seqC_a, pairC_p, eq_self, Nat.left_eq_add, Nat.add_eq_left, Nat.reduceEqDiff, Int.reduceEq, Nat.add_left_cancel_iff, Nat.add_assoc, W_ops_nil, wantedI_n, wantedI_s, wantV_b, wantV_u, evalAll, IA.eval, optC_s, optC_n, nextOf, freeNext, fpOf, lowOf, opW, ev1, opC_a, Fr.put, List.set, List.getD_cons_zero, List.getD_cons_succ, thenC_n, thenC_j, segC_n, blkC_n, blkC_r, blkC_e, condC_t, condC_f, valC_v, W_apply, if_true, if_false, Option.map_some, Option.map_none, Option.bind_some, Option.bind_none, List.nil_append, List.append_nil, List.cons_append, undefs, List.length_cons, List.length_nil, Nat.reduceSub, Nat.reduceAdd, Nat.zero_add, retC_r, retC_n, leaveC_a, valsC_a, unmark, resultsOf, resultOf, tupled, binI, unI, beq_self_eq_true, Bool.false_eq_true, reduceIte, reduceCtorEq, Bool.not_true, Bool.not_false, Option.getD_some, Option.getD_none, mkAgg, IV.cells, Heap.read, Heap.get_new, Heap.n_new, Heap.get_put, Heap.n_put, List.drop_succ_cons, List.drop_zero, List.take_succ_cons, List.take_zero, Nat.add_zero, Nat.reduceLeDiff, Nat.reduceMul, Nat.le_refl, Int.reduceLT, Int.reduceLE, List.drop, List.take, Option.some.injEq, and_true, true_and, and_false, false_and, BEq.rfl, Heap.write, splice, IV.one, List.all_cons, List.all_nil, Bool.and_self, Bool.and_true, Bool.true_and, Nat.le_add_right, eqKs, eqK, Nat.reduceLT, Nat.add_sub_cancel, bne_self_eq_false, Bool.false_bne, Bool.bne_false, List.append, pairOk, Bool.or_true, Bool.true_or, Int.toNat_natCast, Option.isSome_some, List.getElem?_cons_zero, List.getElem?_cons_succ, F6o0, F6o1, F6o2, F6o3, F6o4, F6o5, F6o6, F6o8, F6o9, F6o10, F6o11, F6o12, F6o13, F6o14, F6o15, F6o16, F6o17, F6o18, F6o19, F6b, F6, F6e, hg, c1, z0, z1, z2]
    refine c9 ?_
    simp only [W_skip, W_ret, W_exit, W_seq, W_block, W_ops, W_cond, W_segs_cons, W_segs_nil, freeI_s, freeI_f, W_op1, W_op, guardC_t, guardC_f, bb_tf, bb_ft, bb_tt, bb_ff, argC_a, goC_a, seqC_a, pairC_p, eq_self, Nat.left_eq_add, Nat.add_eq_left, Nat.reduceEqDiff, Int.reduceEq, Nat.add_left_cancel_iff, Nat.add_assoc, W_ops_nil, wantedI_n, wantedI_s, wantV_b, wantV_u, evalAll, IA.eval, optC_s, optC_n, nextOf, freeNext, fpOf, lowOf, opW, ev1, opC_a, Fr.put, List.set, List.getD_cons_zero, List.getD_cons_succ, thenC_n, thenC_j, segC_n, blkC_n, blkC_r, blkC_e, condC_t, condC_f, valC_v, W_apply, if_true, if_false, Option.map_some, Option.map_none, Option.bind_some, Option.bind_none, List.nil_append, List.append_nil, List.cons_append, undefs, List.length_cons, List.length_nil, Nat.reduceSub, Nat.reduceAdd, Nat.zero_add, retC_r, retC_n, leaveC_a, valsC_a, unmark, resultsOf, resultOf, tupled, binI, unI, beq_self_eq_true, Bool.false_eq_true, reduceIte, reduceCtorEq, Bool.not_true, Bool.not_false, Option.getD_some, Option.getD_none, mkAgg, IV.cells, Heap.read, Heap.get_new, Heap.n_new, Heap.get_put, Heap.n_put, List.drop_succ_cons, List.drop_zero, List.take_succ_cons, List.take_zero, Nat.add_zero, Nat.reduceLeDiff, Nat.reduceMul, Nat.le_refl, Int.reduceLT, Int.reduceLE, List.drop, List.take, Option.some.injEq, and_true, true_and, and_false, false_and, BEq.rfl, Heap.write, splice, IV.one, List.all_cons, List.all_nil, Bool.and_self, Bool.and_true, Bool.true_and, Nat.le_add_right, eqKs, eqK, Nat.reduceLT, Nat.add_sub_cancel, bne_self_eq_false, Bool.false_bne, Bool.bne_false, List.append, pairOk, Bool.or_true, Bool.true_or, Int.toNat_natCast, Option.isSome_some, List.getElem?_cons_zero, List.getElem?_cons_succ, F6o0, F6o1, F6o2, F6o3, F6o4, F6o5, F6o6, F6o8, F6o9, F6o10, F6o11, F6o12, F6o13, F6o14, F6o15, F6o16, F6o17, F6o18, F6o19, F6b, F6]
  cases c2 : decide (p.y > 6)
  case true =>
    simp only [W_skip, W_ret, W_exit, W_seq, W_block, W_ops, W_cond, W_segs_cons, W_segs_nil, freeI_s, freeI_f, W_op1, W_op, guardC_t, guardC_f, bb_tf, bb_ft, bb_tt, bb_ff, argC_a, goC_a, seqC_a, pairC_p, eq_self, Nat.left_eq_add, Nat.add_eq_left, Nat.reduceEqDiff, Int.reduceEq, Nat.add_left_cancel_iff, Nat.add_assoc, W_ops_nil, wantedI_n, wantedI_s, wantV_b, wantV_u, evalAll, IA.eval, optC_s, optC_n, nextOf, freeNext, fpOf, lowOf, opW, ev1, opC_a, Fr.put, List.set, List.getD_cons_zero, List.getD_cons_succ, thenC_n, thenC_j, segC_n, blkC_n, blkC_r, blkC_e, condC_t, condC_f, valC_v, W_apply, if_true, if_false, Option.map_some, Option.map_none, Option.bind_some, Option.bind_none, List.nil_append, List.append_nil, List.cons_append, undefs, List.length_cons, List.length_nil, Nat.reduceSub, Nat.reduceAdd, Nat.zero_add, retC_r, retC_n, leaveC_a, valsC_a, unmark, resultsOf, resultOf, tupled, binI, unI, beq_self_eq_true, Bool.false_eq_true, reduceIte, reduceCtorEq, Bool.not_true, Bool.not_false, Option.getD_some, Option.getD_none, mkAgg, IV.cells, Heap.read, Heap.get_new, Heap.n_new, Heap.get_put, Heap.n_put, List.drop_succ_cons, List.drop_zero, List.take_succ_cons, List.take_zero, Nat.add_zero, Nat.reduceLeDiff, Nat.reduceMul, Nat.le_refl, Int.reduceLT, Int.reduceLE, List.drop, List.take, Option.some.injEq, and_true, true_and, and_false, false_and, BEq.rfl, Heap.write, splice, IV.one, List.all_cons, List.all_nil, Bool.and_self, Bool.and_true, Bool.true_and, Nat.le_add_right, eqKs, eqK, Nat.reduceLT, Nat.add_sub_cancel, bne_self_eq_false, Bool.false_bne, Bool.bne_false, List.append, pairOk, Bool.or_true, Bool.true_or, Int.toNat_natCast, Option.isSome_some, List.getElem?_cons_zero, List.getElem?_cons_succ, F6o0, F6o1, F6o2, F6o3, F6o4, F6o5, F6o6, F6o8, F6o9, F6o10, F6o11, F6o12, F6o13, F6o14, F6o15, F6o16, F6o17, F6o18, F6o19, F6b, F6, F6e, hg, c1, c2, z0, z1, z2, Bool.false_or]
    refine c9 ?_
    simp only [W_skip, W_ret, W_exit, W_seq, W_block, W_ops, W_cond, W_segs_cons, W_segs_nil, freeI_s, freeI_f, W_op1, W_op, guardC_t, guardC_f, bb_tf, bb_ft, bb_tt, bb_ff, argC_a, goC_a, seqC_a, pairC_p, eq_self, Nat.left_eq_add, Nat.add_eq_left, Nat.reduceEqDiff, Int.reduceEq, Nat.add_left_cancel_iff, Nat.add_assoc, W_ops_nil, wantedI_n, wantedI_s, wantV_b, wantV_u, evalAll, IA.eval, optC_s, optC_n, nextOf, freeNext, fpOf, lowOf, opW, ev1, opC_a, Fr.put, List.set, List.getD_cons_zero, List.getD_cons_succ, thenC_n, thenC_j, segC_n, blkC_n, blkC_r, blkC_e, condC_t, condC_f, valC_v, W_apply, if_true, if_false, Option.map_some, Option.map_none, Option.bind_some, Option.bind_none, List.nil_append, List.append_nil, List.cons_append, undefs, List.length_cons, List.length_nil, Nat.reduceSub, Nat.reduceAdd, Nat.zero_add, retC_r, retC_n, leaveC_a, valsC_a, unmark, resultsOf, resultOf, tupled, binI, unI, beq_self_eq_true, Bool.false_eq_true, reduceIte, reduceCtorEq, Bool.not_true, Bool.not_false, Option.getD_some, Option.getD_none, mkAgg, IV.cells, Heap.read, Heap.get_new, Heap.n_new, Heap.get_put, Heap.n_put, List.drop_succ_cons, List.drop_zero, List.take_succ_cons, List.take_zero, Nat.add_zero, Nat.reduceLeDiff, Nat.reduceMul, Nat.le_refl, Int.reduceLT, Int.reduceLE, List.drop, List.take, Option.some.injEq, and_true, true_and, and_false, false_and, BEq.rfl, Heap.write, splice, IV.one, List.all_cons, List.all_nil, Bool.and_self, Bool.and_true, Bool.true_and, Nat.le_add_right, eqKs, eqK, Nat.reduceLT, Nat.add_sub_cancel, bne_self_eq_false, Bool.false_bne, Bool.bne_false, List.append, pairOk, Bool.or_true, Bool.true_or, Int.toNat_natCast, Option.isSome_some, List.getElem?_cons_zero, List.getElem?_cons_succ, F6o0, F6o1, F6o2, F6o3, F6o4, F6o5, F6o6, F6o8, F6o9, F6o10, F6o11, F6o12, F6o13, F6o14, F6o15, F6o16, F6o17, F6o18, F6o19, F6b, F6]
  cases c3 : decide (p.n < 0)
  case true =>
    simp only [W_skip, W_ret, W_exit, W_seq, W_block, W_ops, W_cond, W_segs_cons, W_segs_nil, freeI_s, freeI_f, W_op1, W_op, guardC_t, guardC_f, bb_tf, bb_ft, bb_tt, bb_ff, argC_a, goC_a, seqC_a, pairC_p, eq_self, Nat.left_eq_add, Nat.add_eq_left, Nat.reduceEqDiff, Int.reduceEq, Nat.add_left_cancel_iff, Nat.add_assoc, W_ops_nil, wantedI_n, wantedI_s, wantV_b, wantV_u, evalAll, IA.eval, optC_s, optC_n, nextOf, freeNext, fpOf, lowOf, opW, ev1, opC_a, Fr.put, List.set, List.getD_cons_zero, List.getD_cons_succ, thenC_n, thenC_j, segC_n, blkC_n, blkC_r, blkC_e, condC_t, condC_f, valC_v, W_apply, if_true, if_false, Option.map_some, Option.map_none, Option.bind_some, Option.bind_none, List.nil_append, List.append_nil, List.cons_append, undefs, List.length_cons, List.length_nil, Nat.reduceSub, Nat.reduceAdd, Nat.zero_add, retC_r, retC_n, leaveC_a, valsC_a, unmark, resultsOf, resultOf, tupled, binI, unI, beq_self_eq_true, Bool.false_eq_true, reduceIte, reduceCtorEq, Bool.not_true, Bool.not_false, Option.getD_some, Option.getD_none, mkAgg, IV.cells, Heap.read, Heap.get_new, Heap.n_new, Heap.get_put, Heap.n_put, List.drop_succ_cons, List.drop_zero, List.take_succ_cons, List.take_zero, Nat.add_zero, Nat.reduceLeDiff, Nat.reduceMul, Nat.le_refl, Int.reduceLT, Int.reduceLE, List.drop, List.take, Option.some.injEq, and_true, true_and, and_false, false_and, BEq.rfl, Heap.write, splice, IV.one, List.all_cons, List.all_nil, Bool.and_self, Bool.and_true, Bool.true_and, Nat.le_add_right, eqKs, eqK, Nat.reduceLT, Nat.add_sub_cancel, bne_self_eq_false, Bool.false_bne, Bool.bne_false, List.append, pairOk, Bool.or_true, Bool.true_or, Int.toNat_natCast, Option.isSome_some, List.getElem?_cons_zero, List.getElem?_cons_succ, F6o0, F6o1, F6o2, F6o3, F6o4, F6o5, F6o6, F6o8, F6o9, F6o10, F6o11, F6o12, F6o13, F6o14, F6o15, F6o16, F6o17, F6o18, F6o19, F6b, F6, F6e, hg, c1, c2, c3, z0, z1, z2, Bool.false_or]
    refine c9 ?_
    simp only [W_skip, W_ret, W_exit, W_seq, W_block, W_ops, W_cond, W_segs_cons, W_segs_nil, freeI_s, freeI_f, W_op1, W_op, guardC_t, guardC_f, bb_tf, bb_ft, bb_tt, bb_ff, argC_a, goC_a, seqC_a, pairC_p, eq_self, Nat.left_eq_add, Nat.add_eq_left, Nat.reduceEqDiff, Int.reduceEq, Nat.add_left_cancel_iff, Nat.add_assoc, W_ops_nil, wantedI_n, wantedI_s, wantV_b, wantV_u, evalAll, IA.eval, optC_s, optC_n, nextOf, freeNext, fpOf, lowOf, opW, ev1, opC_a, Fr.put, List.set, List.getD_cons_zero, List.getD_cons_succ, thenC_n, thenC_j, segC_n, blkC_n, blkC_r, blkC_e, condC_t, condC_f, valC_v, W_apply, if_true, if_false, Option.map_some, Option.map_none, Option.bind_some, Option.bind_none, List.nil_append, List.append_nil, List.cons_append, undefs, List.length_cons, List.length_nil, Nat.reduceSub, Nat.reduceAdd, Nat.zero_add, retC_r, retC_n, leaveC_a, valsC_a, unmark, resultsOf, resultOf, tupled, binI, unI, beq_self_eq_true, Bool.false_eq_true, reduceIte, reduceCtorEq, Bool.not_true, Bool.not_false, Option.getD_some, Option.getD_none, mkAgg, IV.cells, Heap.read, Heap.get_new, Heap.n_new, Heap.get_put, Heap.n_put, List.drop_succ_cons, List.drop_zero, List.take_succ_cons, List.take_zero, Nat.add_zero, Nat.reduceLeDiff, Nat.reduceMul, Nat.le_refl, Int.reduceLT, Int.reduceLE, List.drop, List.take, Option.some.injEq, and_true, true_and, and_false, false_and, BEq.rfl, Heap.write, splice, IV.one, List.all_cons, List.all_nil, Bool.and_self, Bool.and_true, Bool.true_and, Nat.le_add_right, eqKs, eqK, Nat.reduceLT, Nat.add_sub_cancel, bne_self_eq_false, Bool.false_bne, Bool.bne_false, List.append, pairOk, Bool.or_true, Bool.true_or, Int.toNat_natCast, Option.isSome_some, List.getElem?_cons_zero, List.getElem?_cons_succ, F6o0, F6o1, F6o2, F6o3, F6o4, F6o5, F6o6, F6o8, F6o9, F6o10, F6o11, F6o12, F6o13, F6o14, F6o15, F6o16, F6o17, F6o18, F6o19, F6b, F6]
  cases c4 : decide (p.n > 2047)
  case true =>
    simp only [W_skip, W_ret, W_exit, W_seq, W_block, W_ops, W_cond, W_segs_cons, W_segs_nil, freeI_s, freeI_f, W_op1, W_op, guardC_t, guardC_f, bb_tf, bb_ft, bb_tt, bb_ff, argC_a, goC_a, seqC_a, pairC_p, eq_self, Nat.left_eq_add, Nat.add_eq_left, Nat.reduceEqDiff, Int.reduceEq, Nat.add_left_cancel_iff, Nat.add_assoc, W_ops_nil, wantedI_n, wantedI_s, wantV_b, wantV_u, evalAll, IA.eval, optC_s, optC_n, nextOf, freeNext, fpOf, lowOf, opW, ev1, opC_a, Fr.put, List.set, List.getD_cons_zero, List.getD_cons_succ, thenC_n, thenC_j, segC_n, blkC_n, blkC_r, blkC_e, condC_t, condC_f, valC_v, W_apply, if_true, if_false, Option.map_some, Option.map_none, Option.bind_some, Option.bind_none, List.nil_append, List.append_nil, List.cons_append, undefs, List.length_cons, List.length_nil, Nat.reduceSub, Nat.reduceAdd, Nat.zero_add, retC_r, retC_n, leaveC_a, valsC_a, unmark, resultsOf, resultOf, tupled, binI, unI, beq_self_eq_true, Bool.false_eq_true, reduceIte, reduceCtorEq, Bool.not_true, Bool.not_false, Option.getD_some, Option.getD_none, mkAgg, IV.cells, Heap.read, Heap.get_new, Heap.n_new, Heap.get_put, Heap.n_put, List.drop_succ_cons, List.drop_zero, List.take_succ_cons, List.take_zero, Nat.add_zero, Nat.reduceLeDiff, Nat.reduceMul, Nat.le_refl, Int.reduceLT, Int.reduceLE, List.drop, List.take, Option.some.injEq, and_true, true_and, and_false, false_and, BEq.rfl, Heap.write, splice, IV.one, List.all_cons, List.all_nil, Bool.and_self, Bool.and_true, Bool.true_and, Nat.le_add_right, eqKs, eqK, Nat.reduceLT, Nat.add_sub_cancel, bne_self_eq_false, Bool.false_bne, Bool.bne_false, List.append, pairOk, Bool.or_true, Bool.true_or, Int.toNat_natCast, Option.isSome_some, List.getElem?_cons_zero, List.getElem?_cons_succ, F6o0, F6o1, F6o2, F6o3, F6o4, F6o5, F6o6, F6o8, F6o9, F6o10, F6o11, F6o12, F6o13, F6o14, F6o15, F6o16, F6o17, F6o18, F6o19, F6b, F6, F6e, hg, c1, c2, c3, c4, z0, z1, z2, Bool.false_or]
    refine c9 ?_
    simp only [W_skip, W_ret, W_exit, W_seq, W_block, W_ops, W_cond, W_segs_cons, W_segs_nil, freeI_s, freeI_f, W_op1, W_op, guardC_t, guardC_f, bb_tf, bb_ft, bb_tt, bb_ff, argC_a, goC_a, seqC_a, pairC_p, eq_self, Nat.left_eq_add, Nat.add_eq_left, Nat.reduceEqDiff, Int.reduceEq, Nat.add_left_cancel_iff, Nat.add_assoc, W_ops_nil, wantedI_n, wantedI_s, wantV_b, wantV_u, evalAll, IA.eval, optC_s, optC_n, nextOf, freeNext, fpOf, lowOf, opW, ev1, opC_a, Fr.put, List.set, List.getD_cons_zero, List.getD_cons_succ, thenC_n, thenC_j, segC_n, blkC_n, blkC_r, blkC_e, condC_t, condC_f, valC_v, W_apply, if_true, if_false, Option.map_some, Option.map_none, Option.bind_some, Option.bind_none, List.nil_append, List.append_nil, List.cons_append, undefs, List.length_cons, List.length_nil, Nat.reduceSub, Nat.reduceAdd, Nat.zero_add, retC_r, retC_n, leaveC_a, valsC_a, unmark, resultsOf, resultOf, tupled, binI, unI, beq_self_eq_true, Bool.false_eq_true, reduceIte, reduceCtorEq, Bool.not_true, Bool.not_false, Option.getD_some, Option.getD_none, mkAgg, IV.cells, Heap.read, Heap.get_new, Heap.n_new, Heap.get_put, Heap.n_put, List.drop_succ_cons, List.drop_zero, List.take_succ_cons, List.take_zero, Nat.add_zero, Nat.reduceLeDiff, Nat.reduceMul, Nat.le_refl, Int.reduceLT, Int.reduceLE, List.drop, List.take, Option.some.injEq, and_true, true_and, and_false, false_and, BEq.rfl, Heap.write, splice, IV.one, List.all_cons, List.all_nil, Bool.and_self, Bool.and_true, Bool.true_and, Nat.le_add_right, eqKs, eqK, Nat.reduceLT, Nat.add_sub_cancel, bne_self_eq_false, Bool.false_bne, Bool.bne_false, List.append, pairOk, Bool.or_true, Bool.true_or, Int.toNat_natCast, Option.isSome_some, List.getElem?_cons_zero, List.getElem?_cons_succ, F6o0, F6o1, F6o2, F6o3, F6o4, F6o5, F6o6, F6o8, F6o9, F6o10, F6o11, F6o12, F6o13, F6o14, F6o15, F6o16, F6o17, F6o18, F6o19, F6b, F6]
  cases c5 : decide (p.d > 1)
  case true =>
    simp only [W_skip, W_ret, W_exit, W_seq, W_block, W_ops, W_cond, W_segs_cons, W_segs_nil, freeI_s, freeI_f, W_op1, W_op, guardC_t, guardC_f, bb_tf, bb_ft, bb_tt, bb_ff, argC_a, goC_a, seqC_a, pairC_p, eq_self, Nat.left_eq_add, Nat.add_eq_left, Nat.reduceEqDiff, Int.reduceEq, Nat.add_left_cancel_iff, Nat.add_assoc, W_ops_nil, wantedI_n, wantedI_s, wantV_b, wantV_u, evalAll, IA.eval, optC_s, optC_n, nextOf, freeNext, fpOf, lowOf, opW, ev1, opC_a, Fr.put, List.set, List.getD_cons_zero, List.getD_cons_succ, thenC_n, thenC_j, segC_n, blkC_n, blkC_r, blkC_e, condC_t, condC_f, valC_v, W_apply, if_true, if_false, Option.map_some, Option.map_none, Option.bind_some, Option.bind_none, List.nil_append, List.append_nil, List.cons_append, undefs, List.length_cons, List.length_nil, Nat.reduceSub, Nat.reduceAdd, Nat.zero_add, retC_r, retC_n, leaveC_a, valsC_a, unmark, resultsOf, resultOf, tupled, binI, unI, beq_self_eq_true, Bool.false_eq_true, reduceIte, reduceCtorEq, Bool.not_true, Bool.not_false, Option.getD_some, Option.getD_none, mkAgg, IV.cells, Heap.read, Heap.get_new, Heap.n_new, Heap.get_put, Heap.n_put, List.drop_succ_cons, List.drop_zero, List.take_succ_cons, List.take_zero, Nat.add_zero, Nat.reduceLeDiff, Nat.reduceMul, Nat.le_refl, Int.reduceLT, Int.reduceLE, List.drop, List.take, Option.some.injEq, and_true, true_and, and_false, false_and, BEq.rfl, Heap.write, splice, IV.one, List.all_cons, List.all_nil, Bool.and_self, Bool.and_true, Bool.true_and, Nat.le_add_right, eqKs, eqK, Nat.reduceLT, Nat.add_sub_cancel, bne_self_eq_false, Bool.false_bne, Bool.bne_false, List.append, pairOk, Bool.or_true, Bool.true_or, Int.toNat_natCast, Option.isSome_some, List.getElem?_cons_zero, List.getElem?_cons_succ, F6o0, F6o1, F6o2, F6o3, F6o4, F6o5, F6o6, F6o8, F6o9, F6o10, F6o11, F6o12, F6o13, F6o14, F6o15, F6o16, F6o17, F6o18, F6o19, F6b, F6, F6e, hg, c1, c2, c3, c4, c5, z0, z1, z2, Bool.false_or]
    refine c9 ?_
    simp only [W_skip, W_ret, W_exit, W_seq, W_block, W_ops, W_cond, W_segs_cons, W_segs_nil, freeI_s, freeI_f, W_op1, W_op, guardC_t, guardC_f, bb_tf, bb_ft, bb_tt, bb_ff, argC_a, goC_a, seqC_a, pairC_p, eq_self, Nat.left_eq_add, Nat.add_eq_left, Nat.reduceEqDiff, Int.reduceEq, Nat.add_left_cancel_iff, Nat.add_assoc, W_ops_nil, wantedI_n, wantedI_s, wantV_b, wantV_u, evalAll, IA.eval, optC_s, optC_n, nextOf, freeNext, fpOf, lowOf, opW, ev1, opC_a, Fr.put, List.set, List.getD_cons_zero, List.getD_cons_succ, thenC_n, thenC_j, segC_n, blkC_n, blkC_r, blkC_e, condC_t, condC_f, valC_v, W_apply, if_true, if_false, Option.map_some, Option.map_none, Option.bind_some, Option.bind_none, List.nil_append, List.append_nil, List.cons_append, undefs, List.length_cons, List.length_nil, Nat.reduceSub, Nat.reduceAdd, Nat.zero_add, retC_r, retC_n, leaveC_a, valsC_a, unmark, resultsOf, resultOf, tupled, binI, unI, beq_self_eq_true, Bool.false_eq_true, reduceIte, reduceCtorEq, Bool.not_true, Bool.not_false, Option.getD_some, Option.getD_none, mkAgg, IV.cells, Heap.read, Heap.get_new, Heap.n_new, Heap.get_put, Heap.n_put, List.drop_succ_cons, List.drop_zero, List.take_succ_cons, List.take_zero, Nat.add_zero, Nat.reduceLeDiff, Nat.reduceMul, Nat.le_refl, Int.reduceLT, Int.reduceLE, List.drop, List.take, Option.some.injEq, and_true, true_and, and_false, false_and, BEq.rfl, Heap.write, splice, IV.one, List.all_cons, List.all_nil, Bool.and_self, Bool.and_true, Bool.true_and, Nat.le_add_right, eqKs, eqK, Nat.reduceLT, Nat.add_sub_cancel, bne_self_eq_false, Bool.false_bne, Bool.bne_false, List.append, pairOk, Bool.or_true, Bool.true_or, Int.toNat_natCast, Option.isSome_some, List.getElem?_cons_zero, List.getElem?_cons_succ, F6o0, F6o1, F6o2, F6o3, F6o4, F6o5, F6o6, F6o8, F6o9, F6o10, F6o11, F6o12, F6o13, F6o14, F6o15, F6o16, F6o17, F6o18, F6o19, F6b, F6]
  simp only [W_skip, W_ret, W_exit, W_seq, W_block, W_ops, W_cond, W_segs_cons, W_segs_nil, freeI_s, freeI_f, W_op1, W_op, guardC_t, guardC_f, bb_tf, bb_ft, bb_tt, bb_ff, argC_a, goC_a, seqC_a, pairC_p, eq_self, Nat.left_eq_add, Nat.add_eq_left, Nat.reduceEqDiff, Int.reduceEq, Nat.add_left_cancel_iff, Nat.add_assoc, W_ops_nil, wantedI_n, wantedI_s, wantV_b, wantV_u, evalAll, IA.eval, optC_s, optC_n, nextOf, freeNext, fpOf, lowOf, opW, ev1, opC_a, Fr.put, List.set, List.getD_cons_zero, List.getD_cons_succ, thenC_n, thenC_j, segC_n, blkC_n, blkC_r, blkC_e, condC_t, condC_f, valC_v, W_apply, if_true, if_false, Option.map_some, Option.map_none, Option.bind_some, Option.bind_none, List.nil_append, List.append_nil, List.cons_append, undefs, List.length_cons, List.length_nil, Nat.reduceSub, Nat.reduceAdd, Nat.zero_add, retC_r, retC_n, leaveC_a, valsC_a, unmark, resultsOf, resultOf, tupled, binI, unI, beq_self_eq_true, Bool.false_eq_true, reduceIte, reduceCtorEq, Bool.not_true, Bool.not_false, Option.getD_some, Option.getD_none, mkAgg, IV.cells, Heap.read, Heap.get_new, Heap.n_new, Heap.get_put, Heap.n_put, List.drop_succ_cons, List.drop_zero, List.take_succ_cons, List.take_zero, Nat.add_zero, Nat.reduceLeDiff, Nat.reduceMul, Nat.le_refl, Int.reduceLT, Int.reduceLE, List.drop, List.take, Option.some.injEq, and_true, true_and, and_false, false_and, BEq.rfl, Heap.write, splice, IV.one, List.all_cons, List.all_nil, Bool.and_self, Bool.and_true, Bool.true_and, Nat.le_add_right, eqKs, eqK, Nat.reduceLT, Nat.add_sub_cancel, bne_self_eq_false, Bool.false_bne, Bool.bne_false, List.append, pairOk, Bool.or_true, Bool.true_or, Int.toNat_natCast, Option.isSome_some, List.getElem?_cons_zero, List.getElem?_cons_succ, F6o0, F6o1, F6o2, F6o3, F6o4, F6o5, F6o6, F6o8, F6o9, F6o10, F6o11, F6o12, F6o13, F6o14, F6o15, F6o16, F6o17, F6o18, F6o19, F6b, F6, F6e, hg, c1, c2, c3, c4, c5, z0, z1, z2, Bool.false_or]
  refine c9 ?_
  simp only [W_skip, W_ret, W_exit, W_seq, W_block, W_ops, W_cond, W_segs_cons, W_segs_nil, freeI_s, freeI_f, W_op1, W_op, guardC_t, guardC_f, bb_tf, bb_ft, bb_tt, bb_ff, argC_a, goC_a, seqC_a, pairC_p, eq_self, Nat.left_eq_add, Nat.add_eq_left, Nat.reduceEqDiff, Int.reduceEq, Nat.add_left_cancel_iff, Nat.add_assoc, W_ops_nil, wantedI_n, wantedI_s, wantV_b, wantV_u, evalAll, IA.eval, optC_s, optC_n, nextOf, freeNext, fpOf, lowOf, opW, ev1, opC_a, Fr.put, List.set, List.getD_cons_zero, List.getD_cons_succ, thenC_n, thenC_j, segC_n, blkC_n, blkC_r, blkC_e, condC_t, condC_f, valC_v, W_apply, if_true, if_false, Option.map_some, Option.map_none, Option.bind_some, Option.bind_none, List.nil_append, List.append_nil, List.cons_append, undefs, List.length_cons, List.length_nil, Nat.reduceSub, Nat.reduceAdd, Nat.zero_add, retC_r, retC_n, leaveC_a, valsC_a, unmark, resultsOf, resultOf, tupled, binI, unI, beq_self_eq_true, Bool.false_eq_true, reduceIte, reduceCtorEq, Bool.not_true, Bool.not_false, Option.getD_some, Option.getD_none, mkAgg, IV.cells, Heap.read, Heap.get_new, Heap.n_new, Heap.get_put, Heap.n_put, List.drop_succ_cons, List.drop_zero, List.take_succ_cons, List.take_zero, Nat.add_zero, Nat.reduceLeDiff, Nat.reduceMul, Nat.le_refl, Int.reduceLT, Int.reduceLE, List.drop, List.take, Option.some.injEq, and_true, true_and, and_false, false_and, BEq.rfl, Heap.write, splice, IV.one, List.all_cons, List.all_nil, Bool.and_self, Bool.and_true, Bool.true_and, Nat.le_add_right, eqKs, eqK, Nat.reduceLT, Nat.add_sub_cancel, bne_self_eq_false, Bool.false_bne, Bool.bne_false, List.append, pairOk, Bool.or_true, Bool.true_or, Int.toNat_natCast, Option.isSome_some, List.getElem?_cons_zero, List.getElem?_cons_succ, F6o0, F6o1, F6o2, F6o3, F6o4, F6o5, F6o6, F6o8, F6o9, F6o10, F6o11, F6o12, F6o13, F6o14, F6o15, F6o16, F6o17, F6o18, F6o19, F6b, F6]

theorem yl_mid (lo pb b n : Nat) (p : Ps) (hpd : 0 ≤ p.d) {H : Heap} {tm : List IV} (hlo : lo ≤ H.n) (hn : 4093 ≤ n ∧ n ≤ 4098) (hpb : pb < H.n) (htm : tm.length = 111) (h3 : tm.getD 3 IV.undef = .ptr pb 0) (h5 : tm.getD 5 IV.undef = .int .i64 n) (h6 : tm.getD 6 IV.undef = .slice b 0 n n true) (ho : Own H b n (fl n)) (hg : H.get pb = some (.cells false 33 4 p.cells)) :
    W E0 lo (.code F6m none ⟨tm, []⟩) H (retC lo F6.results fun o _ => o = .val (.bool true)) := by
  have hend := fun H1 tm => @yl_end lo pb p H1 tm
  rw [expl111 tm htm, h3, h5, h6]
  generalize hE : F6e = E at *
  unfold F6m
  rw [hE]
  generalize hG : F6o17 = G
  simp only [W_skip, W_ret, W_exit, W_seq, W_block, W_ops, W_cond, W_segs_cons, W_segs_nil, freeI_s, freeI_f, W_op1, W_op, guardC_t, guardC_f, bb_tf, bb_ft, bb_tt, bb_ff, argC_a, goC_a, seqC_a, pairC_p, eq_self, Nat.left_eq_add, Nat.add_eq_left, Nat.reduceEqDiff, Int.reduceEq, Nat.add_left_cancel_iff, Nat.add_assoc, W_ops_nil, wantedI_n, wantedI_s, wantV_b, wantV_u, evalAll, IA.eval, optC_s, optC_n, nextOf, freeNext, fpOf, lowOf, opW, ev1, opC_a, Fr.put, List.set, List.getD_cons_zero, List.getD_cons_succ, thenC_n, thenC_j, segC_n, blkC_n, blkC_r, blkC_e, condC_t, condC_f, valC_v, W_apply, if_true, if_false, Option.map_some, Option.map_none, Option.bind_some, Option.bind_none, List.nil_append, List.append_nil, List.cons_append, undefs, List.length_cons, List.length_nil, Nat.reduceSub, Nat.reduceAdd, Nat.zero_add, retC_r, retC_n, leaveC_a, valsC_a, unmark, resultsOf, resultOf, tupled, binI, unI, beq_self_eq_true, Bool.false_eq_true, reduceIte, reduceCtorEq, Bool.not_true, Bool.not_false, Option.getD_some, Option.getD_none, mkAgg, IV.cells, Heap.read, Heap.get_new, Heap.n_new, Heap.get_put, Heap.n_put, List.drop_succ_cons, List.drop_zero, List.take_succ_cons, List.take_zero, Nat.add_zero, Nat.reduceLeDiff, Nat.reduceMul, Nat.le_refl, Int.reduceLT, Int.reduceLE, List.drop, List.take, Option.some.injEq, and_true, true_and, and_false, false_and, BEq.rfl, Heap.write, splice, IV.one, List.all_cons, List.all_nil, Bool.and_self, Bool.and_true, Bool.true_and, Nat.le_add_right, eqKs, eqK, Nat.reduceLT, Nat.add_sub_cancel, bne_self_eq_false, Bool.false_bne, Bool.bne_false, List.append, pairOk, Bool.or_true, Bool.true_or, Int.toNat_natCast, Option.isSome_some, List.getElem?_cons_zero, List.getElem?_cons_succ, F6o0, F6o1, F6o2, F6o3, F6o4, F6o5, F6o6, F6o8, F6o9, F6o10, F6o11, F6o12, F6o13, F6o14, F6o15, F6o16, F6o17, F6o18, F6o19, F6b, F6, fillI]
  have hch0 : checkE false 0 0 false [] = 0 := by decide
  have hs0 : sidedB 0 = true := by decide
  have i2 : ((0 : Int) = 1) = False := by decide
  have hz : ((0 : Int) != 0) = false := by decide
  have z3 : ((3 : Int) != 3) = false := by decide
  have z30 : ((3 : Int) == 0) = false := by decide
  have z00 : ((0 : Int) == 0) = true := by decide
  refine enter_sp false false 0 0 0 (l := []) .nil (by simp) (by omega) fun H1 k1 => ?_
  simp only [hch0, hs0, ne_eq, not_true_eq_false, if_false, Bool.true_eq_false, Bool.false_eq_true, yc]
  have hn1 := k1.1
  have e2 : (lo ≤ H1.n) = True := by simp; omega
  simp only [W_skip, W_ret, W_exit, W_seq, W_block, W_ops, W_cond, W_segs_cons, W_segs_nil, freeI_s, freeI_f, W_op1, W_op, guardC_t, guardC_f, bb_tf, bb_ft, bb_tt, bb_ff, argC_a, goC_a, seqC_a, pairC_p, eq_self, Nat.left_eq_add, Nat.add_eq_left, Nat.reduceEqDiff, Int.reduceEq, Nat.add_left_cancel_iff, Nat.add_assoc, W_ops_nil, wantedI_n, wantedI_s, wantV_b, wantV_u, evalAll, IA.eval, optC_s, optC_n, nextOf, freeNext, fpOf, lowOf, opW, ev1, opC_a, Fr.put, List.set, List.getD_cons_zero, List.getD_cons_succ, thenC_n, thenC_j, segC_n, blkC_n, blkC_r, blkC_e, condC_t, condC_f, valC_v, W_apply, if_true, if_false, Option.map_some, Option.map_none, Option.bind_some, Option.bind_none, List.nil_append, List.append_nil, List.cons_append, undefs, List.length_cons, List.length_nil, Nat.reduceSub, Nat.reduceAdd, Nat.zero_add, retC_r, retC_n, leaveC_a, valsC_a, unmark, resultsOf, resultOf, tupled, binI, unI, beq_self_eq_true, Bool.false_eq_true, reduceIte, reduceCtorEq, Bool.not_true, Bool.not_false, Option.getD_some, Option.getD_none, mkAgg, IV.cells, Heap.read, Heap.get_new, Heap.n_new, Heap.get_put, Heap.n_put, List.drop_succ_cons, List.drop_zero, List.take_succ_cons, List.take_zero, Nat.add_zero, Nat.reduceLeDiff, Nat.reduceMul, Nat.le_refl, Int.reduceLT, Int.reduceLE, List.drop, List.take, Option.some.injEq, and_true, true_and, and_false, false_and, BEq.rfl, Heap.write, splice, IV.one, List.all_cons, List.all_nil, Bool.and_self, Bool.and_true, Bool.true_and, Nat.le_add_right, eqKs, eqK, Nat.reduceLT, Nat.add_sub_cancel, bne_self_eq_false, Bool.false_bne, Bool.bne_false, List.append, pairOk, Bool.or_true, Bool.true_or, Int.toNat_natCast, Option.isSome_some, List.getElem?_cons_zero, List.getElem?_cons_succ, F6o0, F6o1, F6o2, F6o3, F6o4, F6o5, F6o6, F6o8, F6o9, F6o10, F6o11, F6o12, F6o13, F6o14, F6o15, F6o16, F6o17, F6o18, F6o19, F6b, F6, i2, hz, e2]
  generalize hH2 : (H1.new (.cells false 38 5 [.bool false, .int .i64 0, .int .i64 0, .bool false, .nilSlice])).put H1.n _ = H2
  have hn2 : H2.n = H1.n + 1 := by rw [← hH2, Heap.n_put, Heap.n_new]
  have gy : H2.get H1.n = some (.cells false 38 5 [.bool true, .int .i64 (-13), .int .i64 0, .bool true, .nilSlice]) := by rw [← hH2, Heap.get_put, if_pos rfl]
  have k2 : Keep H1.n H1 H2 := by rw [← hH2]; exact (Keep.new _ _).trans (.put _ _ (by omega))
  have kk2 : Keep H.n H H2 := k1.trans (k2.lower hn1)
  have ho2 := ho.keep kk2
  have hg2 := (kk2.2 pb hpb hpb).trans hg
  clear hH2 k1 k2 ho hg
  have hin : checkE true (-13) 0 true [] = 0 := by decide
  have hp1 : placeB 1 = true := by decide
  have hpush : pushL [] (fl n) = fl n := pushL_id (fl_red n)
  have hall := valids_all (fl_valids n)
  have hl := fl_length n
  have hpl2 := ho2.pl true
  rw [hl] at hpl2
  have rest : ∀ (H3 : Heap) (tm3 : List IV), Keep H2.n H2 H3 → tm3.length = 111 → tm3.getD 3 IV.undef = .ptr pb 0 → tm3.getD 6 IV.undef = .slice b 0 n n true → tm3.getD 8 IV.undef = .ptr H1.n 0 →
      W E0 lo (.code G none ⟨tm3, []⟩) H3 (thenC E0 lo none E (retC lo F6.results fun o _ => o = .val (.bool true))) := by
    intro H3 tm3 k3 t0 t3 t6 t8
    have gy3 := (k3.2 H1.n (by omega) (by omega)).trans gy
    have hg3 := (k3.2 pb (by omega) (by omega)).trans hg2
    have hn3 := k3.1
    obtain ⟨r1, r2, cs, r3, r4, r5⟩ := ho2.keep k3
    rw [hl] at r5
    have hcs : cs.take 4 = (lp 0).cells := by
      have := congrArg (List.take 4) r5
      rw [List.take_take, show min 4 (4 * n) = 4 from by omega] at this
      rw [this, show (4 : Nat) = 4 * 1 from rfl, flat_take]
      have : fl n = lp 0 :: (fl n).drop 1 := by
        rw [List.drop_one]
        cases hq : fl n with
        | nil => rw [hq] at hl; simp at hl; omega
        | cons a t =>
          have : (fl n)[0]? = some (lp 0) := by
            unfold fl
            rw [List.getElem?_map, List.getElem?_range (by omega)]
            rfl
          rw [hq] at this
          simp at this
          rw [this]; rfl
      rw [this]
      simp [flat]
    have q1 : ((0 : Int) < n) = True := by simp; omega
    have q2 : (4 ≤ cs.length) = True := by simp; omega
    have q3 : (b < H3.n) := r2
    have q4 : (H3.n = b) = False := by simp; omega
    rw [← hG, expl111 tm3 t0, t3, t6, t8]
    unfold Ps.cells at hg3
    simp only [W_skip, W_ret, W_exit, W_seq, W_block, W_ops, W_cond, W_segs_cons, W_segs_nil, freeI_s, freeI_f, W_op1, W_op, guardC_t, guardC_f, bb_tf, bb_ft, bb_tt, bb_ff, argC_a, goC_a, seqC_a, pairC_p, eq_self, Nat.left_eq_add, Nat.add_eq_left, Nat.reduceEqDiff, Int.reduceEq, Nat.add_left_cancel_iff, Nat.add_assoc, W_ops_nil, wantedI_n, wantedI_s, wantV_b, wantV_u, evalAll, IA.eval, optC_s, optC_n, nextOf, freeNext, fpOf, lowOf, opW, ev1, opC_a, Fr.put, List.set, List.getD_cons_zero, List.getD_cons_succ, thenC_n, thenC_j, segC_n, blkC_n, blkC_r, blkC_e, condC_t, condC_f, valC_v, W_apply, if_true, if_false, Option.map_some, Option.map_none, Option.bind_some, Option.bind_none, List.nil_append, List.append_nil, List.cons_append, undefs, List.length_cons, List.length_nil, Nat.reduceSub, Nat.reduceAdd, Nat.zero_add, retC_r, retC_n, leaveC_a, valsC_a, unmark, resultsOf, resultOf, tupled, binI, unI, beq_self_eq_true, Bool.false_eq_true, reduceIte, reduceCtorEq, Bool.not_true, Bool.not_false, Option.getD_some, Option.getD_none, mkAgg, IV.cells, Heap.read, Heap.get_new, Heap.n_new, Heap.get_put, Heap.n_put, List.drop_succ_cons, List.drop_zero, List.take_succ_cons, List.take_zero, Nat.add_zero, Nat.reduceLeDiff, Nat.reduceMul, Nat.le_refl, Int.reduceLT, Int.reduceLE, List.drop, List.take, Option.some.injEq, and_true, true_and, and_false, false_and, BEq.rfl, Heap.write, splice, IV.one, List.all_cons, List.all_nil, Bool.and_self, Bool.and_true, Bool.true_and, Nat.le_add_right, eqKs, eqK, Nat.reduceLT, Nat.add_sub_cancel, bne_self_eq_false, Bool.false_bne, Bool.bne_false, List.append, pairOk, Bool.or_true, Bool.true_or, Int.toNat_natCast, Option.isSome_some, List.getElem?_cons_zero, List.getElem?_cons_succ, F6o0, F6o1, F6o2, F6o3, F6o4, F6o5, F6o6, F6o8, F6o9, F6o10, F6o11, F6o12, F6o13, F6o14, F6o15, F6o16, F6o17, F6o18, F6o19, F6b, F6, gy3, hg3, r3, q1, q2, hcs, Ps.cells, Int.toNat_zero, Nat.zero_mul, fillI]
    have hbv := badL_valid hpd
    have k4 : Keep H3.n H3 (H3.new (.cells false 33 4 [.int .u8 (lp 0).y, .int .i64 (lp 0).n, .bool (lp 0).f, .int .u8 (lp 0).d, .int .u8 p.y, .int .i64 p.n, .bool p.f, .int .u8 p.d])) := .new _ _
    have hpl4 : PL (H3.new (.cells false 33 4 [.int .u8 (lp 0).y, .int .i64 (lp 0).n, .bool (lp 0).f, .int .u8 (lp 0).d, .int .u8 p.y, .int .i64 p.n, .bool p.f, .int .u8 p.d])) (.slice H3.n 0 2 2 true) [lp 0, p] :=
      .sl H3.n 0 2 true [lp 0, p] (Nat.le_refl _) fun _ => ⟨by rw [Heap.n_new]; omega, false, 33, 4, _, by rw [Heap.get_new, if_pos rfl], rfl⟩
    have hg4 := (k4.2 pb (by omega) (by omega)).trans hg3
    generalize H3.new (.cells false 33 4 [.int .u8 (lp 0).y, .int .i64 (lp 0).n, .bool (lp 0).f, .int .u8 (lp 0).d, .int .u8 p.y, .int .i64 p.n, .bool p.f, .int .u8 p.d]) = H4 at *
    have hn4 := k4.1
    have hv0 : ([lp 0, p]).all validB = validB p := by simp [lp_valid]
    refine go_sp true true (-13) 0 1 (v := .nilSlice) (l := []) (m := [lp 0, p]) .nil hpl4 (by simp) (by simp) (by omega) (fun H5 e k5 hcase => ?_) (fun H5 b5 k5 _ _ hv _ _ _ _ => ?_)
    · have hg5 := (k5.2 pb (by omega) (by omega)).trans hg4
      rw [hv0] at hcase
      have hlen : (pushL [] [lp 0, p]).length ≤ 4096 := by
        unfold pushL push1
        simp only [List.foldl]
        repeat' split
        all_goals simp
        all_goals (try split) <;> simp
      obtain ⟨hbad, he⟩ : validB p = false ∧ e = 1 := by
        rcases hcase with h | h | h | h | h
        · exact absurd hin h.1
        · rw [hp1] at h; exact absurd h.2.1 (by simp)
        · exact h.2.2
        · exact absurd h.2.2.2.1 (by simp)
        · omega
      subst he
      simp only [W_skip, W_ret, W_exit, W_seq, W_block, W_ops, W_cond, W_segs_cons, W_segs_nil, freeI_s, freeI_f, W_op1, W_op, guardC_t, guardC_f, bb_tf, bb_ft, bb_tt, bb_ff, argC_a, goC_a, seqC_a, pairC_p, eq_self, Nat.left_eq_add, Nat.add_eq_left, Nat.reduceEqDiff, Int.reduceEq, Nat.add_left_cancel_iff, Nat.add_assoc, W_ops_nil, wantedI_n, wantedI_s, wantV_b, wantV_u, evalAll, IA.eval, optC_s, optC_n, nextOf, freeNext, fpOf, lowOf, opW, ev1, opC_a, Fr.put, List.set, List.getD_cons_zero, List.getD_cons_succ, thenC_n, thenC_j, segC_n, blkC_n, blkC_r, blkC_e, condC_t, condC_f, valC_v, W_apply, if_true, if_false, Option.map_some, Option.map_none, Option.bind_some, Option.bind_none, List.nil_append, List.append_nil, List.cons_append, undefs, List.length_cons, List.length_nil, Nat.reduceSub, Nat.reduceAdd, Nat.zero_add, retC_r, retC_n, leaveC_a, valsC_a, unmark, resultsOf, resultOf, tupled, binI, unI, beq_self_eq_true, Bool.false_eq_true, reduceIte, reduceCtorEq, Bool.not_true, Bool.not_false, Option.getD_some, Option.getD_none, mkAgg, IV.cells, Heap.read, Heap.get_new, Heap.n_new, Heap.get_put, Heap.n_put, List.drop_succ_cons, List.drop_zero, List.take_succ_cons, List.take_zero, Nat.add_zero, Nat.reduceLeDiff, Nat.reduceMul, Nat.le_refl, Int.reduceLT, Int.reduceLE, List.drop, List.take, Option.some.injEq, and_true, true_and, and_false, false_and, BEq.rfl, Heap.write, splice, IV.one, List.all_cons, List.all_nil, Bool.and_self, Bool.and_true, Bool.true_and, Nat.le_add_right, eqKs, eqK, Nat.reduceLT, Nat.add_sub_cancel, bne_self_eq_false, Bool.false_bne, Bool.bne_false, List.append, pairOk, Bool.or_true, Bool.true_or, Int.toNat_natCast, Option.isSome_some, List.getElem?_cons_zero, List.getElem?_cons_succ, F6o0, F6o1, F6o2, F6o3, F6o4, F6o5, F6o6, F6o8, F6o9, F6o10, F6o11, F6o12, F6o13, F6o14, F6o15, F6o16, F6o17, F6o18, F6o19, F6b, F6, yc]
      refine hend _ _ rfl rfl ?_ hg5
      rw [hbv, hbad]; rfl
    · have hg5 := (k5.2 pb (by omega) (by omega)).trans hg4
      rw [hv0] at hv
      simp only [W_skip, W_ret, W_exit, W_seq, W_block, W_ops, W_cond, W_segs_cons, W_segs_nil, freeI_s, freeI_f, W_op1, W_op, guardC_t, guardC_f, bb_tf, bb_ft, bb_tt, bb_ff, argC_a, goC_a, seqC_a, pairC_p, eq_self, Nat.left_eq_add, Nat.add_eq_left, Nat.reduceEqDiff, Int.reduceEq, Nat.add_left_cancel_iff, Nat.add_assoc, W_ops_nil, wantedI_n, wantedI_s, wantV_b, wantV_u, evalAll, IA.eval, optC_s, optC_n, nextOf, freeNext, fpOf, lowOf, opW, ev1, opC_a, Fr.put, List.set, List.getD_cons_zero, List.getD_cons_succ, thenC_n, thenC_j, segC_n, blkC_n, blkC_r, blkC_e, condC_t, condC_f, valC_v, W_apply, if_true, if_false, Option.map_some, Option.map_none, Option.bind_some, Option.bind_none, List.nil_append, List.append_nil, List.cons_append, undefs, List.length_cons, List.length_nil, Nat.reduceSub, Nat.reduceAdd, Nat.zero_add, retC_r, retC_n, leaveC_a, valsC_a, unmark, resultsOf, resultOf, tupled, binI, unI, beq_self_eq_true, Bool.false_eq_true, reduceIte, reduceCtorEq, Bool.not_true, Bool.not_false, Option.getD_some, Option.getD_none, mkAgg, IV.cells, Heap.read, Heap.get_new, Heap.n_new, Heap.get_put, Heap.n_put, List.drop_succ_cons, List.drop_zero, List.take_succ_cons, List.take_zero, Nat.add_zero, Nat.reduceLeDiff, Nat.reduceMul, Nat.le_refl, Int.reduceLT, Int.reduceLE, List.drop, List.take, Option.some.injEq, and_true, true_and, and_false, false_and, BEq.rfl, Heap.write, splice, IV.one, List.all_cons, List.all_nil, Bool.and_self, Bool.and_true, Bool.true_and, Nat.le_add_right, eqKs, eqK, Nat.reduceLT, Nat.add_sub_cancel, bne_self_eq_false, Bool.false_bne, Bool.bne_false, List.append, pairOk, Bool.or_true, Bool.true_or, Int.toNat_natCast, Option.isSome_some, List.getElem?_cons_zero, List.getElem?_cons_succ, F6o0, F6o1, F6o2, F6o3, F6o4, F6o5, F6o6, F6o8, F6o9, F6o10, F6o11, F6o12, F6o13, F6o14, F6o15, F6o16, F6o17, F6o18, F6o19, F6b, F6, yc]
      refine hend _ _ rfl rfl ?_ hg5
      rw [hbv, hv]; rfl
  refine go_sp true true (-13) 0 1 (v := .nilSlice) (l := []) (m := fl n) .nil hpl2 (by simp) (by omega) (by omega) (fun H3 e k3 hcase => ?_) (fun H3 b3 k3 _ _ _ _ hle hb3 ho3 => ?_)
  · have hn3 := k3.1
    rw [hpush, hall, hl] at hcase
    obtain ⟨hbig, he⟩ : n > 4096 ∧ e = 3 := by
      rcases hcase with h | h | h | h | h
      · exact absurd hin h.1
      · rw [hp1] at h; exact absurd h.2.1 (by simp)
      · exact absurd h.2.2.1 (by simp)
      · exact absurd h.2.2.2.1 (by simp)
      · exact h.2.2.2.2
    subst he
    have f1 : decide ((n : Int) > 4096) = true := by simp; omega
    have f2 : (lo ≤ H3.n) = True := by simp; omega
    simp only [W_skip, W_ret, W_exit, W_seq, W_block, W_ops, W_cond, W_segs_cons, W_segs_nil, freeI_s, freeI_f, W_op1, W_op, guardC_t, guardC_f, bb_tf, bb_ft, bb_tt, bb_ff, argC_a, goC_a, seqC_a, pairC_p, eq_self, Nat.left_eq_add, Nat.add_eq_left, Nat.reduceEqDiff, Int.reduceEq, Nat.add_left_cancel_iff, Nat.add_assoc, W_ops_nil, wantedI_n, wantedI_s, wantV_b, wantV_u, evalAll, IA.eval, optC_s, optC_n, nextOf, freeNext, fpOf, lowOf, opW, ev1, opC_a, Fr.put, List.set, List.getD_cons_zero, List.getD_cons_succ, thenC_n, thenC_j, segC_n, blkC_n, blkC_r, blkC_e, condC_t, condC_f, valC_v, W_apply, if_true, if_false, Option.map_some, Option.map_none, Option.bind_some, Option.bind_none, List.nil_append, List.append_nil, List.cons_append, undefs, List.length_cons, List.length_nil, Nat.reduceSub, Nat.reduceAdd, Nat.zero_add, retC_r, retC_n, leaveC_a, valsC_a, unmark, resultsOf, resultOf, tupled, binI, unI, beq_self_eq_true, Bool.false_eq_true, reduceIte, reduceCtorEq, Bool.not_true, Bool.not_false, Option.getD_some, Option.getD_none, mkAgg, IV.cells, Heap.read, Heap.get_new, Heap.n_new, Heap.get_put, Heap.n_put, List.drop_succ_cons, List.drop_zero, List.take_succ_cons, List.take_zero, Nat.add_zero, Nat.reduceLeDiff, Nat.reduceMul, Nat.le_refl, Int.reduceLT, Int.reduceLE, List.drop, List.take, Option.some.injEq, and_true, true_and, and_false, false_and, BEq.rfl, Heap.write, splice, IV.one, List.all_cons, List.all_nil, Bool.and_self, Bool.and_true, Bool.true_and, Nat.le_add_right, eqKs, eqK, Nat.reduceLT, Nat.add_sub_cancel, bne_self_eq_false, Bool.false_bne, Bool.bne_false, List.append, pairOk, Bool.or_true, Bool.true_or, Int.toNat_natCast, Option.isSome_some, List.getElem?_cons_zero, List.getElem?_cons_succ, F6o0, F6o1, F6o2, F6o3, F6o4, F6o5, F6o6, F6o8, F6o9, F6o10, F6o11, F6o12, F6o13, F6o14, F6o15, F6o16, F6o17, F6o18, F6o19, F6b, F6, yc, f1, f2, z3, z30]
    exact rest _ _ (k3.trans (((Keep.new _ _).trans (.put _ _ (Nat.le_refl _))).lower hn3)) rfl rfl rfl rfl
  · rw [hpush, hl] at hle ho3
    rw [hpush, hl]
    have hn3 := k3.1
    have f1 : decide ((n : Int) > 4096) = false := by simp; omega
    have f2 : (lo ≤ H3.n) = True := by simp; omega
    have f3 : ((n : Int) != n) = false := by simp
    simp only [W_skip, W_ret, W_exit, W_seq, W_block, W_ops, W_cond, W_segs_cons, W_segs_nil, freeI_s, freeI_f, W_op1, W_op, guardC_t, guardC_f, bb_tf, bb_ft, bb_tt, bb_ff, argC_a, goC_a, seqC_a, pairC_p, eq_self, Nat.left_eq_add, Nat.add_eq_left, Nat.reduceEqDiff, Int.reduceEq, Nat.add_left_cancel_iff, Nat.add_assoc, W_ops_nil, wantedI_n, wantedI_s, wantV_b, wantV_u, evalAll, IA.eval, optC_s, optC_n, nextOf, freeNext, fpOf, lowOf, opW, ev1, opC_a, Fr.put, List.set, List.getD_cons_zero, List.getD_cons_succ, thenC_n, thenC_j, segC_n, blkC_n, blkC_r, blkC_e, condC_t, condC_f, valC_v, W_apply, if_true, if_false, Option.map_some, Option.map_none, Option.bind_some, Option.bind_none, List.nil_append, List.append_nil, List.cons_append, undefs, List.length_cons, List.length_nil, Nat.reduceSub, Nat.reduceAdd, Nat.zero_add, retC_r, retC_n, leaveC_a, valsC_a, unmark, resultsOf, resultOf, tupled, binI, unI, beq_self_eq_true, Bool.false_eq_true, reduceIte, reduceCtorEq, Bool.not_true, Bool.not_false, Option.getD_some, Option.getD_none, mkAgg, IV.cells, Heap.read, Heap.get_new, Heap.n_new, Heap.get_put, Heap.n_put, List.drop_succ_cons, List.drop_zero, List.take_succ_cons, List.take_zero, Nat.add_zero, Nat.reduceLeDiff, Nat.reduceMul, Nat.le_refl, Int.reduceLT, Int.reduceLE, List.drop, List.take, Option.some.injEq, and_true, true_and, and_false, false_and, BEq.rfl, Heap.write, splice, IV.one, List.all_cons, List.all_nil, Bool.and_self, Bool.and_true, Bool.true_and, Nat.le_add_right, eqKs, eqK, Nat.reduceLT, Nat.add_sub_cancel, bne_self_eq_false, Bool.false_bne, Bool.bne_false, List.append, pairOk, Bool.or_true, Bool.true_or, Int.toNat_natCast, Option.isSome_some, List.getElem?_cons_zero, List.getElem?_cons_succ, F6o0, F6o1, F6o2, F6o3, F6o4, F6o5, F6o6, F6o8, F6o9, F6o10, F6o11, F6o12, F6o13, F6o14, F6o15, F6o16, F6o17, F6o18, F6o19, F6b, F6, yc, f1, f2, f3, hz, z00]
    exact rest _ _ (k3.trans (((Keep.new _ _).trans (.put _ _ (Nat.le_refl _))).lower hn3)) rfl rfl rfl rfl

theorem yl_run (H : Heap) (x : Int) (p : Ps) (hx : 0 ≤ x ∧ x ≤ 255) (hpd : 0 ≤ p.d) : W E0 H.n (.call 6 [.int .u8 x, .agg p.cells]) H fun o _ => o = .val (.bool true) := by
  have hmid := fun H1 b n tm hlo hn hpb => @yl_mid H.n H.n b n p hpd H1 tm hlo hn hpb
  have a1 := Int.tmod_nonneg 6 hx.1
  have a2 := Int.tmod_lt_of_pos x (show (0 : Int) < 6 from by omega)
  obtain ⟨n, hm, hn⟩ : ∃ n : Nat, IntKind.i64.wrap (4093 + IntKind.i64.wrap (x.tmod 6)) = (n : Int) ∧ 4093 ≤ n ∧ n ≤ 4098 := by
    refine ⟨(4093 + x.tmod 6).toNat, ?_, by omega, by omega⟩
    rw [IntWalk.i64_in (x.tmod 6) (by omega), IntWalk.i64_in _ (by omega)]
    omega
  rw [c6, show F6b = .seq (F6o0) (.seq (F6o1) (.seq (F6o2) (.seq (.seq (F6o3) (.block 0 (.loop F6l7))) F6m))) from rfl]
  generalize F6m = M at *
  have e1 : (0 ≤ (n : Int) ∧ (n : Int) ≤ n ∧ (n : Int) * (((24 : Nat) : Int) + 1) ≤ 2 ^ 40) = True := by simp; omega
  have e5 : ((6 : Int) = 0) = False := by simp
  simp only [W_skip, W_ret, W_exit, W_seq, W_block, W_ops, W_cond, W_segs_cons, W_segs_nil, freeI_s, freeI_f, W_op1, W_op, guardC_t, guardC_f, bb_tf, bb_ft, bb_tt, bb_ff, argC_a, goC_a, seqC_a, pairC_p, eq_self, Nat.left_eq_add, Nat.add_eq_left, Nat.reduceEqDiff, Int.reduceEq, Nat.add_left_cancel_iff, Nat.add_assoc, W_ops_nil, wantedI_n, wantedI_s, wantV_b, wantV_u, evalAll, IA.eval, optC_s, optC_n, nextOf, freeNext, fpOf, lowOf, opW, ev1, opC_a, Fr.put, List.set, List.getD_cons_zero, List.getD_cons_succ, thenC_n, thenC_j, segC_n, blkC_n, blkC_r, blkC_e, condC_t, condC_f, valC_v, W_apply, if_true, if_false, Option.map_some, Option.map_none, Option.bind_some, Option.bind_none, List.nil_append, List.append_nil, List.cons_append, undefs, List.length_cons, List.length_nil, Nat.reduceSub, Nat.reduceAdd, Nat.zero_add, retC_r, retC_n, leaveC_a, valsC_a, unmark, resultsOf, resultOf, tupled, binI, unI, beq_self_eq_true, Bool.false_eq_true, reduceIte, reduceCtorEq, Bool.not_true, Bool.not_false, Option.getD_some, Option.getD_none, mkAgg, IV.cells, Heap.read, Heap.get_new, Heap.n_new, Heap.get_put, Heap.n_put, List.drop_succ_cons, List.drop_zero, List.take_succ_cons, List.take_zero, Nat.add_zero, Nat.reduceLeDiff, Nat.reduceMul, Nat.le_refl, Int.reduceLT, Int.reduceLE, List.drop, List.take, Option.some.injEq, and_true, true_and, and_false, false_and, BEq.rfl, Heap.write, splice, IV.one, List.all_cons, List.all_nil, Bool.and_self, Bool.and_true, Bool.true_and, Nat.le_add_right, eqKs, eqK, Nat.reduceLT, Nat.add_sub_cancel, bne_self_eq_false, Bool.false_bne, Bool.bne_false, List.append, pairOk, Bool.or_true, Bool.true_or, Int.toNat_natCast, Option.isSome_some, List.getElem?_cons_zero, List.getElem?_cons_succ, F6o0, F6o1, F6o2, F6o3, F6o4, F6o5, F6o6, F6o8, F6o9, F6o10, F6o11, F6o12, F6o13, F6o14, F6o15, F6o16, F6o17, F6o18, F6o19, F6b, F6, Ps.cells, hm, e1, e5]
  have hrl : (rep n [IV.int .u8 0, .int .i64 0, .bool false, .int .u8 0]).length = n * 4 := rep_length _ _
  refine yl_loop H.n (H.n + 1) H.n n (.cells false 33 4 p.cells) (by omega) (by omega) (by omega) n 0 _ _ (by omega) rfl rfl rfl rfl rfl ?_ (by rw [Heap.n_new, Heap.n_new]; omega) (by rw [Heap.get_new, if_neg (by rw [Heap.n_new]; omega), Heap.get_new, if_pos rfl]; rfl) _ fun H1 tm1 t0 t3 t5 t6 ho hp hg => ?_
  · exact ⟨Nat.zero_le _, by rw [Heap.n_new, Heap.n_new]; omega, _, by rw [Heap.get_new, if_pos (by rw [Heap.n_new])], by rw [hrl]; omega, rfl⟩
  simp only [W_skip, W_ret, W_exit, W_seq, W_block, W_ops, W_cond, W_segs_cons, W_segs_nil, freeI_s, freeI_f, W_op1, W_op, guardC_t, guardC_f, bb_tf, bb_ft, bb_tt, bb_ff, argC_a, goC_a, seqC_a, pairC_p, eq_self, Nat.left_eq_add, Nat.add_eq_left, Nat.reduceEqDiff, Int.reduceEq, Nat.add_left_cancel_iff, Nat.add_assoc, W_ops_nil, wantedI_n, wantedI_s, wantV_b, wantV_u, evalAll, IA.eval, optC_s, optC_n, nextOf, freeNext, fpOf, lowOf, opW, ev1, opC_a, Fr.put, List.set, List.getD_cons_zero, List.getD_cons_succ, thenC_n, thenC_j, segC_n, blkC_n, blkC_r, blkC_e, condC_t, condC_f, valC_v, W_apply, if_true, if_false, Option.map_some, Option.map_none, Option.bind_some, Option.bind_none, List.nil_append, List.append_nil, List.cons_append, undefs, List.length_cons, List.length_nil, Nat.reduceSub, Nat.reduceAdd, Nat.zero_add, retC_r, retC_n, leaveC_a, valsC_a, unmark, resultsOf, resultOf, tupled, binI, unI, beq_self_eq_true, Bool.false_eq_true, reduceIte, reduceCtorEq, Bool.not_true, Bool.not_false, Option.getD_some, Option.getD_none, mkAgg, IV.cells, Heap.read, Heap.get_new, Heap.n_new, Heap.get_put, Heap.n_put, List.drop_succ_cons, List.drop_zero, List.take_succ_cons, List.take_zero, Nat.add_zero, Nat.reduceLeDiff, Nat.reduceMul, Nat.le_refl, Int.reduceLT, Int.reduceLE, List.drop, List.take, Option.some.injEq, and_true, true_and, and_false, false_and, BEq.rfl, Heap.write, splice, IV.one, List.all_cons, List.all_nil, Bool.and_self, Bool.and_true, Bool.true_and, Nat.le_add_right, eqKs, eqK, Nat.reduceLT, Nat.add_sub_cancel, bne_self_eq_false, Bool.false_bne, Bool.bne_false, List.append, pairOk, Bool.or_true, Bool.true_or, Int.toNat_natCast, Option.isSome_some, List.getElem?_cons_zero, List.getElem?_cons_succ, F6o0, F6o1, F6o2, F6o3, F6o4, F6o5, F6o6, F6o8, F6o9, F6o10, F6o11, F6o12, F6o13, F6o14, F6o15, F6o16, F6o17, F6o18, F6o19, F6b, F6]
  exact hmid H1 (H.n + 1) n _ (by omega) hn hp t0 t3 t5 t6 ho hg
end Go.Iso.GenA
end

section
namespace Go.Iso.GenA
open Go.Iso Go.Proofs
set_option maxRecDepth 100000
set_option maxHeartbeats 4000000

theorem rd_passL {H : Heap} {c : List IV} {d : PD} (h : Rd H passT c d) : ∃ p : Ps, c = p.cells ∧ 0 ≤ p.d := by
  cases h with
  | struct ts css l he =>
    cases he with
    | cons h1 he =>
      cases he with
      | cons h2 he =>
        cases he with
        | cons h3 he =>
          cases he
          cases h1 with
          | struct ts css l he =>
            cases he with
            | cons g1 he =>
              cases he with
              | cons g2 he =>
                cases he
                cases g1; cases g2; cases h2
                cases h3 with
                | int k n hn => exact ⟨⟨_, _, _, n⟩, rfl, hn.1⟩

theorem params6 : Try.f6.params.toList.mapM (tyOf Try.prog 8) = some [.int .u8, passT] := by kernel_rfl
theorem types6 : typesOk Try.prog Try.f6 = true := by kernel_rfl

theorem limits_lifted (os : Os) (started : os.Started) (T : Type) (enc : TypeId × Value → T) :
    ReturnsInHanded {} Try.checked os 6 .any (Ytpekmodcnpfmkaa.Rows.yarnsLimitsSpec.pre6 enc Try.prog Try.f6 [] false) (Ytpekmodcnpfmkaa.Rows.yarnsLimitsSpec.post enc Try.prog Try.f6 false true false false) := by
  refine returnsInHanded_of_change (C := Try.checked) own_knob started (by kernel_rfl) Try.func6
    (ChangeSpec.witness6 (enc := enc) (C := Try.checked) false ⟨#[], #[.int .u8 0, .agg #[.int .u8 0, .int .i64 0, .bool false, .int .u8 0]], []⟩ 8 (by kernel_rfl) (by kernel_rfl) (by kernel_rfl) (by kernel_rfl)) ?_
  intro W base args ds gs before hval hW _ _
  refine law_calls (P := Try.prog) (tb := 4) (s := Ytpekmodcnpfmkaa.Rows.yarnsLimitsSpec) env0 rfl params6 (by kernel_rfl) (by kernel_rfl) types6 rfl ?_ (fun _ => True) ?_ W base args ds gs before hval hW trivial
  · intro T ds hd
    match ds, hd with
    | [a, b], _ => rfl
  · intro H css ds hro hrd _
    cases hrd with
    | cons h1 hrd =>
      cases hrd with
      | cons h2 hrd =>
        cases hrd
        cases h1 with
        | int k x hx =>
          obtain ⟨p, rfl, hp⟩ := rd_passL h2
          obtain ⟨n, o, H', h, rfl⟩ := yl_run H x p hx hp
          exact ⟨n, H', h⟩

theorem limits_holds : Ytpekmodcnpfmkaa.Rows.YarnsLimitsSaid :=
  OpenClaim.holds_of_wide 6 Try.f6 rfl rfl rfl rfl rfl rfl rfl ⟨rfl, rfl, rfl, rfl, rfl⟩ rfl rfl rfl rfl rfl (by kernel_rfl) Try.func6 (by kernel_rfl)
    (of_decide_eq_true (by kernel_rfl)) (by unfold Func.isWrapper; first | (rw [if_pos (by decide +kernel)]; kernel_rfl) | (rw [if_neg (by decide +kernel)]; exact ⟨rfl, rfl⟩))
    (fun os started H enc _ => limits_lifted os started H enc)
end Go.Iso.GenA

namespace Go.Proofs.Ytpekmodcnpfmkaa
theorem yarnsLimits_holds : Rows.YarnsLimitsSaid := Go.Iso.GenA.limits_holds
end Go.Proofs.Ytpekmodcnpfmkaa
end
