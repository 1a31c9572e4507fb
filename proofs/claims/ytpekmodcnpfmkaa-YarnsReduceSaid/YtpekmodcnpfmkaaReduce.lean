/-
  ganseylaw02.YarnsReduce returns true for every input and leaves its arguments as they were; no condition.
-/
import Derived.Test.YtpekmodcnpfmkaaCheck
import Derived.Test.YtpekmodcnpfmkaaRow
set_option linter.unusedSimpArgs false
set_option linter.unusedVariables false

section
namespace Go.Iso.GenA
open Go.Iso
set_option maxHeartbeats 8000000
set_option maxRecDepth 10000

theorem pushL_cut (A B : List Ps) {p q : Ps} (h : cancelB p q = true) : pushL [] (A ++ p :: q :: B) = pushL [] (A ++ B) := by
  rw [pushL_append, pushL_append]
  show pushL (push1 (push1 (pushL [] A) p) q) B = _
  rw [push1_back (red_pushL (S := []) trivial A) h]

theorem cut_at (L : List Ps) (i : Nat) (h : i + 1 < L.length) : L = L.take i ++ L[i] :: L[i + 1] :: L.drop (i + 2) := by
  rw [← List.drop_eq_getElem_cons (i := i + 1) h, ← List.drop_eq_getElem_cons (by omega), List.take_append_drop]

theorem red_take {L : List Ps} {i : Nat} (h : i + 1 < L.length) (hr : Red (L.take (i + 1))) (hc : cancelB L[i] L[i + 1] = false) : Red (L.take (i + 1 + 1)) := by
  rw [List.take_succ_eq_append_getElem h, red_snoc]
  refine ⟨hr, fun q hq => ?_⟩
  have : (L.take (i + 1)).getLast? = some L[i] := by
    rw [List.take_succ_eq_append_getElem (show i < L.length by omega)]
    exact List.getLast?_concat
  rw [this] at hq
  injection hq with hq
  rw [← hq]; exact hc

theorem slc_to {H : Heap} {b i : Nat} {L : List Ps} (hg : H.get b = some (.cells false 33 4 (flat L))) (hi : i ≤ L.length) (lo : Nat) : ev1 (.slc 4 false true false) [.slice b 0 L.length L.length false, .int .i64 i] lo H = some (.slice b 0 i L.length false, H) := by
  have h1 : (0 ≤ (i : Int) ∧ (i : Int) ≤ L.length) := by omega
  simp [ev1, ezAt, hg, boundsI, boundI, h1, hi]
theorem slc_from {H : Heap} {b i : Nat} {L : List Ps} (hg : H.get b = some (.cells false 33 4 (flat L))) (hi : i ≤ L.length) (lo : Nat) : ev1 (.slc 4 true false false) [.slice b 0 L.length L.length false, .int .i64 i] lo H = some (.slice b (i * 4) (L.length - i) (L.length - i) false, H) := by
  have h1 : (0 ≤ (i : Int) ∧ (i : Int) ≤ L.length) := by omega
  simp [ev1, ezAt, hg, boundsI, boundI, h1, hi]
theorem pl_to {H : Heap} {b i : Nat} {L : List Ps} (hb : b < H.n) (hg : H.get b = some (.cells false 33 4 (flat L))) (hi : i ≤ L.length) : PL H (.slice b 0 i L.length false) (L.take i) := by
  have hl : (L.take i).length = i := by rw [List.length_take]; omega
  have := PL.sl (H := H) b 0 L.length false (L.take i) (by omega) fun _ => ⟨hb, false, 33, 4, _, hg, by rw [hl, List.drop_zero, flat_take]⟩
  rwa [hl] at this
theorem pl_from {H : Heap} {b i : Nat} {L : List Ps} (hb : b < H.n) (hg : H.get b = some (.cells false 33 4 (flat L))) : PL H (.slice b (i * 4) (L.length - i) (L.length - i) false) (L.drop i) := by
  have hl : (L.drop i).length = L.length - i := List.length_drop
  have := PL.sl (H := H) b (i * 4) (L.length - i) false (L.drop i) (by omega) fun _ => ⟨hb, false, 33, 4, _, hg, by
    rw [Nat.mul_comm i 4, flat_drop, ← flat_length, List.take_length]⟩
  rwa [hl] at this

theorem app0_lo {H : Heap} {b lo lo' : Nat} {x : IV} : ev1 (.append 33 4 24) [.slice b 0 0 0 true, x] lo H = ev1 (.append 33 4 24) [.slice b 0 0 0 true, x] lo' H := by
  simp only [ev1]
  congr 1
  funext n
  congr 1
  funext xs
  unfold appendI
  by_cases h0 : n = 0
  · simp only [h0, if_true]
  · simp only [h0, if_false, Nat.zero_add, Nat.le_zero, if_true]

def NN (l : List Ps) : Prop := ∀ p, p ∈ l → 0 ≤ p.d

theorem expl41 (tm : List IV) (h : tm.length = 41) : tm = [tm.getD 0 IV.undef, tm.getD 1 IV.undef, tm.getD 2 IV.undef, tm.getD 3 IV.undef, tm.getD 4 IV.undef, tm.getD 5 IV.undef, tm.getD 6 IV.undef, tm.getD 7 IV.undef, tm.getD 8 IV.undef, tm.getD 9 IV.undef, tm.getD 10 IV.undef, tm.getD 11 IV.undef, tm.getD 12 IV.undef, tm.getD 13 IV.undef, tm.getD 14 IV.undef, tm.getD 15 IV.undef, tm.getD 16 IV.undef, tm.getD 17 IV.undef, tm.getD 18 IV.undef, tm.getD 19 IV.undef, tm.getD 20 IV.undef, tm.getD 21 IV.undef, tm.getD 22 IV.undef, tm.getD 23 IV.undef, tm.getD 24 IV.undef, tm.getD 25 IV.undef, tm.getD 26 IV.undef, tm.getD 27 IV.undef, tm.getD 28 IV.undef, tm.getD 29 IV.undef, tm.getD 30 IV.undef, tm.getD 31 IV.undef, tm.getD 32 IV.undef, tm.getD 33 IV.undef, tm.getD 34 IV.undef, tm.getD 35 IV.undef, tm.getD 36 IV.undef, tm.getD 37 IV.undef, tm.getD 38 IV.undef, tm.getD 39 IV.undef, tm.getD 40 IV.undef] := (expl tm 41 h).trans rfl

theorem rd_loop (lo : Nat) : ∀ (n : Nat) (k i : Nat) (L : List Ps) (s : IV) (base : Nat) (H : Heap) (tm : List IV), L.length = n → i + k = n → n ≤ 1000 → NN L → Red (L.take (i + 1)) → tm.length = 41 → lo ≤ base → App H base s L →
    tm.getD 3 IV.undef = s → tm.getD 4 IV.undef = .int .i64 i →
    ∀ Q : Out → Heap → Prop, (∀ H' tm' s' base', tm'.length = 41 → tm'.getD 3 IV.undef = s' → lo ≤ base' → App H' base' s' (pushL [] L) → H.n ≤ H'.n → Q (.ex (.jmp (.exit 0)) ⟨tm', []⟩) H') →
    W E0 lo (.code (.loop F12l8) none ⟨tm, []⟩) H Q := by
  intro n
  induction n using Nat.strongRecOn with
  | ind n ihn =>
  intro k
  induction k with
  | zero =>
    intro i L s base H tm hn hi hmax hd hr htm hlo hs h3 h4 Q hQ
    rw [List.take_of_length_le (by omega)] at hr
    rw [pushL_id hr] at hQ
    have e1 : decide (((i + 1 : Nat) : Int) < L.length) = false := by simp; omega
    have hw : IntKind.i64.wrap ((i : Int) + 1) = ((i + 1 : Nat) : Int) := IntWalk.i64_in _ (by omega)
    rw [W_loop, expl41 tm htm, h3, h4]
    simp only [W_skip, W_ret, W_exit, W_seq, W_block, W_ops, W_cond, W_segs_cons, W_segs_nil, freeI_s, freeI_f, W_op1, W_op, guardC_t, guardC_f, bb_tf, bb_ft, bb_tt, bb_ff, argC_a, goC_a, seqC_a, pairC_p, eq_self, Nat.left_eq_add, Nat.add_eq_left, Nat.reduceEqDiff, Int.reduceEq, Nat.add_left_cancel_iff, Nat.add_assoc, W_ops_nil, wantedI_n, wantedI_s, wantV_b, wantV_u, evalAll, IA.eval, optC_s, optC_n, nextOf, freeNext, fpOf, lowOf, opW, ev1, opC_a, Fr.put, List.set, List.getD_cons_zero, List.getD_cons_succ, thenC_n, thenC_j, segC_n, blkC_n, blkC_r, blkC_e, condC_t, condC_f, valC_v, W_apply, if_true, if_false, Option.map_some, Option.map_none, Option.bind_some, Option.bind_none, List.nil_append, List.append_nil, List.cons_append, undefs, List.length_cons, List.length_nil, Nat.reduceSub, Nat.reduceAdd, Nat.zero_add, retC_r, retC_n, leaveC_a, valsC_a, unmark, resultsOf, resultOf, tupled, binI, unI, beq_self_eq_true, Bool.false_eq_true, reduceIte, reduceCtorEq, Bool.not_true, Bool.not_false, Option.getD_some, Option.getD_none, mkAgg, IV.cells, Heap.read, Heap.get_new, Heap.n_new, Heap.get_put, Heap.n_put, List.drop_succ_cons, List.drop_zero, List.take_succ_cons, List.take_zero, Nat.add_zero, Nat.reduceLeDiff, Nat.reduceMul, Nat.le_refl, Int.reduceLT, Int.reduceLE, List.drop, List.take, Option.some.injEq, and_true, true_and, and_false, false_and, BEq.rfl, Heap.write, splice, IV.one, List.all_cons, List.all_nil, Bool.and_self, Bool.and_true, Bool.true_and, Nat.le_add_right, eqKs, eqK, Nat.reduceLT, Nat.add_sub_cancel, bne_self_eq_false, Bool.false_bne, Bool.bne_false, List.append, pairOk, Bool.or_true, Bool.true_or, Int.toNat_natCast, Option.isSome_some, List.getElem?_cons_zero, List.getElem?_cons_succ, F12o0, F12o1, F12o2, F12o3, F12o4, F12o5, F12o6, F12o7, F12l8, F12o9, F12b, F12, ↓hs.pl.len, e1, hw]
    exact hQ _ _ s base rfl rfl hlo hs (Nat.le_refl _)
  | succ k ih =>
    intro i L s base H tm hn hi hmax hd hr htm hlo hs h3 h4 Q hQ
    have hw : IntKind.i64.wrap ((i : Int) + 1) = ((i + 1 : Nat) : Int) := IntWalk.i64_in _ (by omega)
    by_cases hil : i + 1 < L.length
    · have hs0 := hs
      have hlen := hs.pl.len
      obtain ⟨b, hb1, hb2, ⟨rfl, rfl⟩ | ⟨rfl, hg⟩⟩ := hs
      · simp at hil
      have e1 : decide (((i + 1 : Nat) : Int) < L.length) = true := by simp; omega
      have e2 : (0 ≤ (i : Int) ∧ (i : Int) < L.length) = True := by simp; omega
      have e3 : (0 ≤ ((i + 1 : Nat) : Int) ∧ ((i + 1 : Nat) : Int) < L.length) = True := by simp; omega
      have hfl := flat_length L
      have e4 : (i * 4 + 4 ≤ (flat L).length) = True := by simp; omega
      have e5 : ((i + 1) * 4 + 4 ≤ (flat L).length) = True := by simp; omega
      have hp := flat_at L i (by omega)
      have hq := flat_at L (i + 1) hil
      rw [W_loop, expl41 tm htm, h3, h4]
      simp only [W_skip, W_ret, W_exit, W_seq, W_block, W_ops, W_cond, W_segs_cons, W_segs_nil, freeI_s, freeI_f, W_op1, W_op, guardC_t, guardC_f, bb_tf, bb_ft, bb_tt, bb_ff, argC_a, goC_a, seqC_a, pairC_p, eq_self, Nat.left_eq_add, Nat.add_eq_left, Nat.reduceEqDiff, Int.reduceEq, Nat.add_left_cancel_iff, Nat.add_assoc, W_ops_nil, wantedI_n, wantedI_s, wantV_b, wantV_u, evalAll, IA.eval, optC_s, optC_n, nextOf, freeNext, fpOf, lowOf, opW, ev1, opC_a, Fr.put, List.set, List.getD_cons_zero, List.getD_cons_succ, thenC_n, thenC_j, segC_n, blkC_n, blkC_r, blkC_e, condC_t, condC_f, valC_v, W_apply, if_true, if_false, Option.map_some, Option.map_none, Option.bind_some, Option.bind_none, List.nil_append, List.append_nil, List.cons_append, undefs, List.length_cons, List.length_nil, Nat.reduceSub, Nat.reduceAdd, Nat.zero_add, retC_r, retC_n, leaveC_a, valsC_a, unmark, resultsOf, resultOf, tupled, binI, unI, beq_self_eq_true, Bool.false_eq_true, reduceIte, reduceCtorEq, Bool.not_true, Bool.not_false, Option.getD_some, Option.getD_none, mkAgg, IV.cells, Heap.read, Heap.get_new, Heap.n_new, Heap.get_put, Heap.n_put, List.drop_succ_cons, List.drop_zero, List.take_succ_cons, List.take_zero, Nat.add_zero, Nat.reduceLeDiff, Nat.reduceMul, Nat.le_refl, Int.reduceLT, Int.reduceLE, List.drop, List.take, Option.some.injEq, and_true, true_and, and_false, false_and, BEq.rfl, Heap.write, splice, IV.one, List.all_cons, List.all_nil, Bool.and_self, Bool.and_true, Bool.true_and, Nat.le_add_right, eqKs, eqK, Nat.reduceLT, Nat.add_sub_cancel, bne_self_eq_false, Bool.false_bne, Bool.bne_false, List.append, pairOk, Bool.or_true, Bool.true_or, Int.toNat_natCast, Option.isSome_some, List.getElem?_cons_zero, List.getElem?_cons_succ, F12o0, F12o1, F12o2, F12o3, F12o4, F12o5, F12o6, F12o7, F12l8, F12o9, F12b, F12, ↓hlen, e1, e2, e3, e4, e5, hw, hg, hp, hq, Ps.cells]
      refine lc_sp (L[i]'(by omega)) L[i + 1] (fun H1 k1 => ?_) (by omega)
      rw [lc_cancel (hd _ (List.getElem_mem _)) (hd _ (List.getElem_mem _))]
      have o1 : ((1 : Int) == 0) = false := by decide
      have o0 : ((0 : Int) == 0) = true := by decide
      cases ec : cancelB (L[i]'(by omega)) L[i + 1]
      · simp only [W_skip, W_ret, W_exit, W_seq, W_block, W_ops, W_cond, W_segs_cons, W_segs_nil, freeI_s, freeI_f, W_op1, W_op, guardC_t, guardC_f, bb_tf, bb_ft, bb_tt, bb_ff, argC_a, goC_a, seqC_a, pairC_p, eq_self, Nat.left_eq_add, Nat.add_eq_left, Nat.reduceEqDiff, Int.reduceEq, Nat.add_left_cancel_iff, Nat.add_assoc, W_ops_nil, wantedI_n, wantedI_s, wantV_b, wantV_u, evalAll, IA.eval, optC_s, optC_n, nextOf, freeNext, fpOf, lowOf, opW, ev1, opC_a, Fr.put, List.set, List.getD_cons_zero, List.getD_cons_succ, thenC_n, thenC_j, segC_n, blkC_n, blkC_r, blkC_e, condC_t, condC_f, valC_v, W_apply, if_true, if_false, Option.map_some, Option.map_none, Option.bind_some, Option.bind_none, List.nil_append, List.append_nil, List.cons_append, undefs, List.length_cons, List.length_nil, Nat.reduceSub, Nat.reduceAdd, Nat.zero_add, retC_r, retC_n, leaveC_a, valsC_a, unmark, resultsOf, resultOf, tupled, binI, unI, beq_self_eq_true, Bool.false_eq_true, reduceIte, reduceCtorEq, Bool.not_true, Bool.not_false, Option.getD_some, Option.getD_none, mkAgg, IV.cells, Heap.read, Heap.get_new, Heap.n_new, Heap.get_put, Heap.n_put, List.drop_succ_cons, List.drop_zero, List.take_succ_cons, List.take_zero, Nat.add_zero, Nat.reduceLeDiff, Nat.reduceMul, Nat.le_refl, Int.reduceLT, Int.reduceLE, List.drop, List.take, Option.some.injEq, and_true, true_and, and_false, false_and, BEq.rfl, Heap.write, splice, IV.one, List.all_cons, List.all_nil, Bool.and_self, Bool.and_true, Bool.true_and, Nat.le_add_right, eqKs, eqK, Nat.reduceLT, Nat.add_sub_cancel, bne_self_eq_false, Bool.false_bne, Bool.bne_false, List.append, pairOk, Bool.or_true, Bool.true_or, Int.toNat_natCast, Option.isSome_some, List.getElem?_cons_zero, List.getElem?_cons_succ, F12o0, F12o1, F12o2, F12o3, F12o4, F12o5, F12o6, F12o7, F12l8, F12o9, F12b, F12, o0, hw]
        exact ih (i + 1) L _ base H1 _ hn (by omega) hmax hd (red_take hil hr ec) rfl hlo (hs0.keep k1) rfl rfl Q fun H' tm' s' base' a1 a2 a3 a4 a5 => hQ H' tm' s' base' a1 a2 a3 a4 (Nat.le_trans k1.1 a5)
      · have hw2 : IntKind.i64.wrap ((i : Int) + 2) = ((i + 2 : Nat) : Int) := IntWalk.i64_in _ (by omega)
        have hn1 := k1.1
        have g1 : (H1.new (.cells false 33 4 [])).get b = some (.cells false 33 4 (flat L)) := by
          rw [Heap.get_new, if_neg (by omega)]; exact (k1.2 b hb2 hb2).trans hg
        have s1 := slc_to g1 (show i ≤ L.length by omega)
        have p1 := pl_to (i := i) (by rw [Heap.n_new]; omega) g1 (by omega)
        obtain ⟨x1, H2, ev1', hs1, k2⟩ := app_sp (H := H1.new (.cells false 33 4 [])) (lo := lo) (base := H1.n) (s := .slice H1.n 0 0 0 true) (L := []) ⟨H1.n, Nat.le_refl _, by rw [Heap.n_new]; omega, .inl ⟨rfl, rfl⟩⟩ (by omega) p1 (by rw [List.length_take]; simp; omega)
        have hn2 := k2.1
        rw [Heap.n_new] at hn2
        have g2 : H2.get b = some (.cells false 33 4 (flat L)) := (k2.2 b (by omega) (by rw [Heap.n_new]; omega)).trans g1
        have s2 := slc_from g2 (show i + 2 ≤ L.length by omega)
        have p2 := pl_from (i := i + 2) (by omega) g2
        obtain ⟨x2, H3, ev2', hs2, k3⟩ := app_sp (lo := lo) hs1 (by omega) p2 (by rw [List.length_append, List.length_take, List.length_drop]; simp; omega)
        have hn3 := k3.1
        have ev3' := fun lo' => (app0_lo (lo := lo') (lo' := lo)).trans ev1'
        clear ev1'
        simp only [W_skip, W_ret, W_exit, W_seq, W_block, W_ops, W_cond, W_segs_cons, W_segs_nil, freeI_s, freeI_f, W_op1, W_op, guardC_t, guardC_f, bb_tf, bb_ft, bb_tt, bb_ff, argC_a, goC_a, seqC_a, pairC_p, eq_self, Nat.left_eq_add, Nat.add_eq_left, Nat.reduceEqDiff, Int.reduceEq, Nat.add_left_cancel_iff, Nat.add_assoc, W_ops_nil, wantedI_n, wantedI_s, wantV_b, wantV_u, evalAll, IA.eval, optC_s, optC_n, nextOf, freeNext, fpOf, lowOf, opW, ev1, opC_a, Fr.put, List.set, List.getD_cons_zero, List.getD_cons_succ, thenC_n, thenC_j, segC_n, blkC_n, blkC_r, blkC_e, condC_t, condC_f, valC_v, W_apply, if_true, if_false, Option.map_some, Option.map_none, Option.bind_some, Option.bind_none, List.nil_append, List.append_nil, List.cons_append, undefs, List.length_cons, List.length_nil, Nat.reduceSub, Nat.reduceAdd, Nat.zero_add, retC_r, retC_n, leaveC_a, valsC_a, unmark, resultsOf, resultOf, tupled, binI, unI, beq_self_eq_true, Bool.false_eq_true, reduceIte, reduceCtorEq, Bool.not_true, Bool.not_false, Option.getD_some, Option.getD_none, mkAgg, IV.cells, Heap.read, Heap.get_new, Heap.n_new, Heap.get_put, Heap.n_put, List.drop_succ_cons, List.drop_zero, List.take_succ_cons, List.take_zero, Nat.add_zero, Nat.reduceLeDiff, Nat.reduceMul, Nat.le_refl, Int.reduceLT, Int.reduceLE, List.drop, List.take, Option.some.injEq, and_true, true_and, and_false, false_and, BEq.rfl, Heap.write, splice, IV.one, List.all_cons, List.all_nil, Bool.and_self, Bool.and_true, Bool.true_and, Nat.le_add_right, eqKs, eqK, Nat.reduceLT, Nat.add_sub_cancel, bne_self_eq_false, Bool.false_bne, Bool.bne_false, List.append, pairOk, Bool.or_true, Bool.true_or, Int.toNat_natCast, Option.isSome_some, List.getElem?_cons_zero, List.getElem?_cons_succ, F12o0, F12o1, F12o2, F12o3, F12o4, F12o5, F12o6, F12o7, F12l8, F12o9, F12b, F12, o1, hw, hw2, fillI, ↓s1, ↓s2, ↓ev3', ↓ev2']
        rw [List.nil_append] at hs2
        have hcut := cut_at L i hil
        have hlen' : (L.take i ++ L.drop (i + 2)).length = n - 2 := by rw [List.length_append, List.length_take, List.length_drop]; omega
        have hpush : pushL [] L = pushL [] (L.take i ++ L.drop (i + 2)) := by
          rw [← pushL_cut _ _ ec, ← hcut]
        rw [hpush] at hQ
        refine ihn (n - 2) (by omega) (n - 2) 0 _ x2 H1.n H3 _ hlen' (by omega) (by omega) (fun p hp => ?_) ?_ rfl (by omega) hs2 rfl rfl Q fun H' tm' s' base' a1 a2 a3 a4 a5 => hQ H' tm' s' base' a1 a2 a3 a4 (by omega)
        · rcases List.mem_append.1 hp with hp | hp
          · exact hd p (List.mem_of_mem_take hp)
          · exact hd p (List.mem_of_mem_drop hp)
        · cases L.take i ++ L.drop (i + 2) with
          | nil => trivial
          | cons a t => simp [Red]
    · have e1 : decide (((i + 1 : Nat) : Int) < L.length) = false := by simp; omega
      rw [List.take_of_length_le (by omega)] at hr
      rw [pushL_id hr] at hQ
      rw [W_loop, expl41 tm htm, h3, h4]
      simp only [W_skip, W_ret, W_exit, W_seq, W_block, W_ops, W_cond, W_segs_cons, W_segs_nil, freeI_s, freeI_f, W_op1, W_op, guardC_t, guardC_f, bb_tf, bb_ft, bb_tt, bb_ff, argC_a, goC_a, seqC_a, pairC_p, eq_self, Nat.left_eq_add, Nat.add_eq_left, Nat.reduceEqDiff, Int.reduceEq, Nat.add_left_cancel_iff, Nat.add_assoc, W_ops_nil, wantedI_n, wantedI_s, wantV_b, wantV_u, evalAll, IA.eval, optC_s, optC_n, nextOf, freeNext, fpOf, lowOf, opW, ev1, opC_a, Fr.put, List.set, List.getD_cons_zero, List.getD_cons_succ, thenC_n, thenC_j, segC_n, blkC_n, blkC_r, blkC_e, condC_t, condC_f, valC_v, W_apply, if_true, if_false, Option.map_some, Option.map_none, Option.bind_some, Option.bind_none, List.nil_append, List.append_nil, List.cons_append, undefs, List.length_cons, List.length_nil, Nat.reduceSub, Nat.reduceAdd, Nat.zero_add, retC_r, retC_n, leaveC_a, valsC_a, unmark, resultsOf, resultOf, tupled, binI, unI, beq_self_eq_true, Bool.false_eq_true, reduceIte, reduceCtorEq, Bool.not_true, Bool.not_false, Option.getD_some, Option.getD_none, mkAgg, IV.cells, Heap.read, Heap.get_new, Heap.n_new, Heap.get_put, Heap.n_put, List.drop_succ_cons, List.drop_zero, List.take_succ_cons, List.take_zero, Nat.add_zero, Nat.reduceLeDiff, Nat.reduceMul, Nat.le_refl, Int.reduceLT, Int.reduceLE, List.drop, List.take, Option.some.injEq, and_true, true_and, and_false, false_and, BEq.rfl, Heap.write, splice, IV.one, List.all_cons, List.all_nil, Bool.and_self, Bool.and_true, Bool.true_and, Nat.le_add_right, eqKs, eqK, Nat.reduceLT, Nat.add_sub_cancel, bne_self_eq_false, Bool.false_bne, Bool.bne_false, List.append, pairOk, Bool.or_true, Bool.true_or, Int.toNat_natCast, Option.isSome_some, List.getElem?_cons_zero, List.getElem?_cons_succ, F12o0, F12o1, F12o2, F12o3, F12o4, F12o5, F12o6, F12o7, F12l8, F12o9, F12b, F12, ↓hs.pl.len, e1, hw]
      exact hQ _ _ s base rfl rfl hlo hs (Nat.le_refl _)
end Go.Iso.GenA
end

section
namespace Go.Iso.GenA
open Go.Iso
set_option maxHeartbeats 8000000
set_option maxRecDepth 10000

theorem nn_push1 {S : List Ps} (h : NN S) {p : Ps} (hp : 0 ≤ p.d) : NN (push1 S p) := by
  intro x hx
  unfold push1 at hx
  have app : x ∈ S ++ [p] → 0 ≤ x.d := fun hx => by
    rcases List.mem_append.1 hx with hx | hx
    · exact h x hx
    · have : x = p := by simpa using hx
      subst this; exact hp
  split at hx
  · exact app hx
  · split at hx
    · exact h x ((List.dropLast_subset S) hx)
    · exact app hx
theorem nn_pushL : ∀ (l S : List Ps), NN S → NN l → NN (pushL S l) := by
  intro l
  induction l with
  | nil => intro S h _; exact h
  | cons p l ih => intro S h hl; exact ih (push1 S p) (nn_push1 h (hl p (by simp))) (fun x hx => hl x (by simp [hx]))
theorem push1_len (S : List Ps) (p : Ps) : (push1 S p).length ≤ S.length + 1 := by
  unfold push1
  split
  · simp
  · split
    · rw [List.length_dropLast]; omega
    · simp
theorem pushL_len : ∀ (l S : List Ps), (pushL S l).length ≤ S.length + l.length := by
  intro l
  induction l with
  | nil => intro S; exact Nat.le_refl _
  | cons p l ih => intro S; have := ih (push1 S p); have := push1_len S p; simp only [pushL, List.foldl, List.length_cons] at *; omega

theorem reduced_sp {v : IV} {L : List Ps} {H : Heap} {lo : Nat} {Q : Out → Heap → Prop} (hv : PL H v L) (hL : L.length ≤ 1000) (hd : NN L) (hlo : lo ≤ H.n)
    (h : ∀ H' b, Keep H.n H H' → H.n ≤ b → Own H' b (pushL [] L).length (pushL [] L) → Q (.val (.slice b 0 (pushL [] L).length (pushL [] L).length true)) H') : W E0 lo (.call 12 [v]) H Q := by
  refine W.pure plain hlo ?_
  rw [c12]
  have hs0 : App (H.new (.cells false 33 4 [])) H.n (.slice H.n 0 0 0 true) [] := ⟨H.n, Nat.le_refl _, by rw [Heap.n_new]; omega, .inl ⟨rfl, rfl⟩⟩
  obtain ⟨x1, H1, ev1', hs1, k1⟩ := app_sp (lo := H.n) hs0 (Nat.le_refl _) (hv.keep (Keep.new _ _)) (by simp; omega)
  simp only [W_skip, W_ret, W_exit, W_seq, W_block, W_ops, W_cond, W_segs_cons, W_segs_nil, freeI_s, freeI_f, W_op1, W_op, guardC_t, guardC_f, bb_tf, bb_ft, bb_tt, bb_ff, argC_a, goC_a, seqC_a, pairC_p, eq_self, Nat.left_eq_add, Nat.add_eq_left, Nat.reduceEqDiff, Int.reduceEq, Nat.add_left_cancel_iff, Nat.add_assoc, W_ops_nil, wantedI_n, wantedI_s, wantV_b, wantV_u, evalAll, IA.eval, optC_s, optC_n, nextOf, freeNext, fpOf, lowOf, opW, ev1, opC_a, Fr.put, List.set, List.getD_cons_zero, List.getD_cons_succ, thenC_n, thenC_j, segC_n, blkC_n, blkC_r, blkC_e, condC_t, condC_f, valC_v, W_apply, if_true, if_false, Option.map_some, Option.map_none, Option.bind_some, Option.bind_none, List.nil_append, List.append_nil, List.cons_append, undefs, List.length_cons, List.length_nil, Nat.reduceSub, Nat.reduceAdd, Nat.zero_add, retC_r, retC_n, leaveC_a, valsC_a, unmark, resultsOf, resultOf, tupled, binI, unI, beq_self_eq_true, Bool.false_eq_true, reduceIte, reduceCtorEq, Bool.not_true, Bool.not_false, Option.getD_some, Option.getD_none, mkAgg, IV.cells, Heap.read, Heap.get_new, Heap.n_new, Heap.get_put, Heap.n_put, List.drop_succ_cons, List.drop_zero, List.take_succ_cons, List.take_zero, Nat.add_zero, Nat.reduceLeDiff, Nat.reduceMul, Nat.le_refl, Int.reduceLT, Int.reduceLE, List.drop, List.take, Option.some.injEq, and_true, true_and, and_false, false_and, BEq.rfl, Heap.write, splice, IV.one, List.all_cons, List.all_nil, Bool.and_self, Bool.and_true, Bool.true_and, Nat.le_add_right, eqKs, eqK, Nat.reduceLT, Nat.add_sub_cancel, bne_self_eq_false, Bool.false_bne, Bool.bne_false, List.append, pairOk, Bool.or_true, Bool.true_or, Int.toNat_natCast, Option.isSome_some, List.getElem?_cons_zero, List.getElem?_cons_succ, F12o0, F12o1, F12o2, F12o3, F12o4, F12o5, F12o6, F12o7, F12o9, F12b, F12, fillI, ↓ev1']
  rw [List.nil_append] at hs1
  have hn1 := k1.1
  rw [Heap.n_new] at hn1
  refine rd_loop H.n L.length L.length 0 L x1 H.n H1 _ rfl (by omega) hL hd ?_ rfl (Nat.le_refl _) hs1 rfl rfl _ fun H2 tm2 s2 base2 t0 t3 hb2 hs2 hn2 => ?_
  · cases L with
    | nil => trivial
    | cons a t => simp [Red]
  have hpl := pushL_len L []
  simp only [List.length_nil, Nat.zero_add] at hpl
  generalize pushL [] L = R at *
  rw [expl41 tm2 t0, t3]
  have e1 : (0 ≤ (R.length : Int) ∧ (R.length : Int) * (((24 : Nat) : Int) + 1) ≤ 2 ^ 40) = True := by simp; omega
  have hrl : (rep R.length [IV.int .u8 0, .int .i64 0, .bool false, .int .u8 0]).length = R.length * 4 := rep_length _ _
  have ho : Own (H2.new (.cells false 33 4 (rep R.length [.int .u8 0, .int .i64 0, .bool false, .int .u8 0]))) H2.n R.length [] := ⟨Nat.zero_le _, by rw [Heap.n_new]; omega, _, by rw [Heap.get_new, if_pos rfl], by rw [hrl]; omega, rfl⟩
  obtain ⟨H4, ev4, hown4, kb4⟩ := own_append (lo := H.n) ho (by omega) (hs2.pl.keep (Keep.new _ _)) (by simp)
  rw [List.nil_append, List.length_nil] at ev4
  rw [List.nil_append] at hown4
  simp only [W_skip, W_ret, W_exit, W_seq, W_block, W_ops, W_cond, W_segs_cons, W_segs_nil, freeI_s, freeI_f, W_op1, W_op, guardC_t, guardC_f, bb_tf, bb_ft, bb_tt, bb_ff, argC_a, goC_a, seqC_a, pairC_p, eq_self, Nat.left_eq_add, Nat.add_eq_left, Nat.reduceEqDiff, Int.reduceEq, Nat.add_left_cancel_iff, Nat.add_assoc, W_ops_nil, wantedI_n, wantedI_s, wantV_b, wantV_u, evalAll, IA.eval, optC_s, optC_n, nextOf, freeNext, fpOf, lowOf, opW, ev1, opC_a, Fr.put, List.set, List.getD_cons_zero, List.getD_cons_succ, thenC_n, thenC_j, segC_n, blkC_n, blkC_r, blkC_e, condC_t, condC_f, valC_v, W_apply, if_true, if_false, Option.map_some, Option.map_none, Option.bind_some, Option.bind_none, List.nil_append, List.append_nil, List.cons_append, undefs, List.length_cons, List.length_nil, Nat.reduceSub, Nat.reduceAdd, Nat.zero_add, retC_r, retC_n, leaveC_a, valsC_a, unmark, resultsOf, resultOf, tupled, binI, unI, beq_self_eq_true, Bool.false_eq_true, reduceIte, reduceCtorEq, Bool.not_true, Bool.not_false, Option.getD_some, Option.getD_none, mkAgg, IV.cells, Heap.read, Heap.get_new, Heap.n_new, Heap.get_put, Heap.n_put, List.drop_succ_cons, List.drop_zero, List.take_succ_cons, List.take_zero, Nat.add_zero, Nat.reduceLeDiff, Nat.reduceMul, Nat.le_refl, Int.reduceLT, Int.reduceLE, List.drop, List.take, Option.some.injEq, and_true, true_and, and_false, false_and, BEq.rfl, Heap.write, splice, IV.one, List.all_cons, List.all_nil, Bool.and_self, Bool.and_true, Bool.true_and, Nat.le_add_right, eqKs, eqK, Nat.reduceLT, Nat.add_sub_cancel, bne_self_eq_false, Bool.false_bne, Bool.bne_false, List.append, pairOk, Bool.or_true, Bool.true_or, Int.toNat_natCast, Option.isSome_some, List.getElem?_cons_zero, List.getElem?_cons_succ, F12o0, F12o1, F12o2, F12o3, F12o4, F12o5, F12o6, F12o7, F12o9, F12b, F12, ↓hs2.pl.len, e1, Int.toNat_zero, ↓ev4]
  exact fun hk => h _ _ hk (by omega) hown4

theorem red_drop {L : List Ps} {i : Nat} (h : i + 1 < L.length) (hr : Red (L.drop (i + 1))) (hc : cancelB (L[i]'(by omega)) L[i + 1] = false) : Red (L.drop i) := by
  rw [List.drop_eq_getElem_cons (show i < L.length by omega)]
  rw [List.drop_eq_getElem_cons h] at hr ⊢
  exact ⟨hc, hr⟩

theorem expl40 (tm : List IV) (h : tm.length = 40) : tm = [tm.getD 0 IV.undef, tm.getD 1 IV.undef, tm.getD 2 IV.undef, tm.getD 3 IV.undef, tm.getD 4 IV.undef, tm.getD 5 IV.undef, tm.getD 6 IV.undef, tm.getD 7 IV.undef, tm.getD 8 IV.undef, tm.getD 9 IV.undef, tm.getD 10 IV.undef, tm.getD 11 IV.undef, tm.getD 12 IV.undef, tm.getD 13 IV.undef, tm.getD 14 IV.undef, tm.getD 15 IV.undef, tm.getD 16 IV.undef, tm.getD 17 IV.undef, tm.getD 18 IV.undef, tm.getD 19 IV.undef, tm.getD 20 IV.undef, tm.getD 21 IV.undef, tm.getD 22 IV.undef, tm.getD 23 IV.undef, tm.getD 24 IV.undef, tm.getD 25 IV.undef, tm.getD 26 IV.undef, tm.getD 27 IV.undef, tm.getD 28 IV.undef, tm.getD 29 IV.undef, tm.getD 30 IV.undef, tm.getD 31 IV.undef, tm.getD 32 IV.undef, tm.getD 33 IV.undef, tm.getD 34 IV.undef, tm.getD 35 IV.undef, tm.getD 36 IV.undef, tm.getD 37 IV.undef, tm.getD 38 IV.undef, tm.getD 39 IV.undef] := (expl tm 40 h).trans rfl

/-- j is what is left of the way down, one more than the place. -/
theorem bw_loop (lo : Nat) : ∀ (n : Nat) (j : Nat) (L : List Ps) (s : IV) (base : Nat) (H : Heap) (tm : List IV), L.length = n → (j = 0 ∨ j + 1 ≤ n) → n ≤ 1000 → NN L → Red (L.drop j) → tm.length = 40 → lo ≤ base → App H base s L →
    tm.getD 3 IV.undef = s → (tm.getD 4 IV.undef = .int .i64 ((j : Int) - 1) ∨ j = 0 ∧ ∃ x : Int, x < 0 ∧ tm.getD 4 IV.undef = .int .i64 x) →
    ∀ Q : Out → Heap → Prop, (∀ H' tm' s' base', tm'.length = 40 → tm'.getD 3 IV.undef = s' → lo ≤ base' → App H' base' s' (pushL [] L) → H.n ≤ H'.n → Q (.ex (.jmp (.exit 0)) ⟨tm', []⟩) H') →
    W E0 lo (.code (.loop F14l8) none ⟨tm, []⟩) H Q := by
  intro n
  induction n using Nat.strongRecOn with
  | ind n ihn =>
  intro j
  induction j with
  | zero =>
    intro L s base H tm hn hj hmax hd hr htm hlo hs h3 h4 Q hQ
    rw [List.drop_zero] at hr
    rw [pushL_id hr] at hQ
    obtain ⟨x, hx, h4⟩ : ∃ x : Int, x < 0 ∧ tm.getD 4 IV.undef = .int .i64 x := by
      rcases h4 with h4 | h4
      · exact ⟨_, by omega, h4⟩
      · exact h4.2
    have e1 : decide (x ≥ 0) = false := by simp; omega
    rw [W_loop, expl40 tm htm, h3, h4]
    simp only [W_skip, W_ret, W_exit, W_seq, W_block, W_ops, W_cond, W_segs_cons, W_segs_nil, freeI_s, freeI_f, W_op1, W_op, guardC_t, guardC_f, bb_tf, bb_ft, bb_tt, bb_ff, argC_a, goC_a, seqC_a, pairC_p, eq_self, Nat.left_eq_add, Nat.add_eq_left, Nat.reduceEqDiff, Int.reduceEq, Nat.add_left_cancel_iff, Nat.add_assoc, W_ops_nil, wantedI_n, wantedI_s, wantV_b, wantV_u, evalAll, IA.eval, optC_s, optC_n, nextOf, freeNext, fpOf, lowOf, opW, ev1, opC_a, Fr.put, List.set, List.getD_cons_zero, List.getD_cons_succ, thenC_n, thenC_j, segC_n, blkC_n, blkC_r, blkC_e, condC_t, condC_f, valC_v, W_apply, if_true, if_false, Option.map_some, Option.map_none, Option.bind_some, Option.bind_none, List.nil_append, List.append_nil, List.cons_append, undefs, List.length_cons, List.length_nil, Nat.reduceSub, Nat.reduceAdd, Nat.zero_add, retC_r, retC_n, leaveC_a, valsC_a, unmark, resultsOf, resultOf, tupled, binI, unI, beq_self_eq_true, Bool.false_eq_true, reduceIte, reduceCtorEq, Bool.not_true, Bool.not_false, Option.getD_some, Option.getD_none, mkAgg, IV.cells, Heap.read, Heap.get_new, Heap.n_new, Heap.get_put, Heap.n_put, List.drop_succ_cons, List.drop_zero, List.take_succ_cons, List.take_zero, Nat.add_zero, Nat.reduceLeDiff, Nat.reduceMul, Nat.le_refl, Int.reduceLT, Int.reduceLE, List.drop, List.take, Option.some.injEq, and_true, true_and, and_false, false_and, BEq.rfl, Heap.write, splice, IV.one, List.all_cons, List.all_nil, Bool.and_self, Bool.and_true, Bool.true_and, Nat.le_add_right, eqKs, eqK, Nat.reduceLT, Nat.add_sub_cancel, bne_self_eq_false, Bool.false_bne, Bool.bne_false, List.append, pairOk, Bool.or_true, Bool.true_or, Int.toNat_natCast, Option.isSome_some, List.getElem?_cons_zero, List.getElem?_cons_succ, F14o0, F14o1, F14o2, F14o3, F14o4, F14o5, F14o6, F14o7, F14l8, F14o9, F14b, F14, e1]
    exact hQ _ _ s base rfl rfl hlo hs (Nat.le_refl _)
  | succ i ih =>
    intro L s base H tm hn hj hmax hd hr htm hlo hs h3 h4 Q hQ
    have h4 : tm.getD 4 IV.undef = .int .i64 (i : Int) := by
      rcases h4 with h4 | h4
      · rw [h4]; congr 1; omega
      · omega
    have hw : IntKind.i64.wrap ((i : Int) + 1) = ((i + 1 : Nat) : Int) := IntWalk.i64_in _ (by omega)
    have hwm : IntKind.i64.wrap ((i : Int) - 1) = (i : Int) - 1 := IntWalk.i64_in _ (by omega)
    have hil : i + 1 < L.length := by omega
    have hs0 := hs
    have hlen := hs.pl.len
    obtain ⟨b, hb1, hb2, ⟨rfl, rfl⟩ | ⟨rfl, hg⟩⟩ := hs
    · simp at hil
    have e1 : decide ((i : Int) ≥ 0) = true := by simp
    have e2 : (0 ≤ (i : Int) ∧ (i : Int) < L.length) = True := by simp; omega
    have e3 : (0 ≤ ((i + 1 : Nat) : Int) ∧ ((i + 1 : Nat) : Int) < L.length) = True := by simp; omega
    have hfl := flat_length L
    have e4 : (i * 4 + 4 ≤ (flat L).length) = True := by simp; omega
    have e5 : ((i + 1) * 4 + 4 ≤ (flat L).length) = True := by simp; omega
    have hp := flat_at L i (by omega)
    have hq := flat_at L (i + 1) hil
    rw [W_loop, expl40 tm htm, h3, h4]
    simp only [W_skip, W_ret, W_exit, W_seq, W_block, W_ops, W_cond, W_segs_cons, W_segs_nil, freeI_s, freeI_f, W_op1, W_op, guardC_t, guardC_f, bb_tf, bb_ft, bb_tt, bb_ff, argC_a, goC_a, seqC_a, pairC_p, eq_self, Nat.left_eq_add, Nat.add_eq_left, Nat.reduceEqDiff, Int.reduceEq, Nat.add_left_cancel_iff, Nat.add_assoc, W_ops_nil, wantedI_n, wantedI_s, wantV_b, wantV_u, evalAll, IA.eval, optC_s, optC_n, nextOf, freeNext, fpOf, lowOf, opW, ev1, opC_a, Fr.put, List.set, List.getD_cons_zero, List.getD_cons_succ, thenC_n, thenC_j, segC_n, blkC_n, blkC_r, blkC_e, condC_t, condC_f, valC_v, W_apply, if_true, if_false, Option.map_some, Option.map_none, Option.bind_some, Option.bind_none, List.nil_append, List.append_nil, List.cons_append, undefs, List.length_cons, List.length_nil, Nat.reduceSub, Nat.reduceAdd, Nat.zero_add, retC_r, retC_n, leaveC_a, valsC_a, unmark, resultsOf, resultOf, tupled, binI, unI, beq_self_eq_true, Bool.false_eq_true, reduceIte, reduceCtorEq, Bool.not_true, Bool.not_false, Option.getD_some, Option.getD_none, mkAgg, IV.cells, Heap.read, Heap.get_new, Heap.n_new, Heap.get_put, Heap.n_put, List.drop_succ_cons, List.drop_zero, List.take_succ_cons, List.take_zero, Nat.add_zero, Nat.reduceLeDiff, Nat.reduceMul, Nat.le_refl, Int.reduceLT, Int.reduceLE, List.drop, List.take, Option.some.injEq, and_true, true_and, and_false, false_and, BEq.rfl, Heap.write, splice, IV.one, List.all_cons, List.all_nil, Bool.and_self, Bool.and_true, Bool.true_and, Nat.le_add_right, eqKs, eqK, Nat.reduceLT, Nat.add_sub_cancel, bne_self_eq_false, Bool.false_bne, Bool.bne_false, List.append, pairOk, Bool.or_true, Bool.true_or, Int.toNat_natCast, Option.isSome_some, List.getElem?_cons_zero, List.getElem?_cons_succ, F14o0, F14o1, F14o2, F14o3, F14o4, F14o5, F14o6, F14o7, F14l8, F14o9, F14b, F14, e1, e2, e3, e4, e5, hw, hg, hp, hq, Ps.cells]
    refine lc_sp (L[i]'(by omega)) L[i + 1] (fun H1 k1 => ?_) (by omega)
    rw [lc_cancel (hd _ (List.getElem_mem _)) (hd _ (List.getElem_mem _))]
    have o1 : ((1 : Int) == 0) = false := by decide
    have o0 : ((0 : Int) == 0) = true := by decide
    cases ec : cancelB (L[i]'(by omega)) L[i + 1]
    · simp only [W_skip, W_ret, W_exit, W_seq, W_block, W_ops, W_cond, W_segs_cons, W_segs_nil, freeI_s, freeI_f, W_op1, W_op, guardC_t, guardC_f, bb_tf, bb_ft, bb_tt, bb_ff, argC_a, goC_a, seqC_a, pairC_p, eq_self, Nat.left_eq_add, Nat.add_eq_left, Nat.reduceEqDiff, Int.reduceEq, Nat.add_left_cancel_iff, Nat.add_assoc, W_ops_nil, wantedI_n, wantedI_s, wantV_b, wantV_u, evalAll, IA.eval, optC_s, optC_n, nextOf, freeNext, fpOf, lowOf, opW, ev1, opC_a, Fr.put, List.set, List.getD_cons_zero, List.getD_cons_succ, thenC_n, thenC_j, segC_n, blkC_n, blkC_r, blkC_e, condC_t, condC_f, valC_v, W_apply, if_true, if_false, Option.map_some, Option.map_none, Option.bind_some, Option.bind_none, List.nil_append, List.append_nil, List.cons_append, undefs, List.length_cons, List.length_nil, Nat.reduceSub, Nat.reduceAdd, Nat.zero_add, retC_r, retC_n, leaveC_a, valsC_a, unmark, resultsOf, resultOf, tupled, binI, unI, beq_self_eq_true, Bool.false_eq_true, reduceIte, reduceCtorEq, Bool.not_true, Bool.not_false, Option.getD_some, Option.getD_none, mkAgg, IV.cells, Heap.read, Heap.get_new, Heap.n_new, Heap.get_put, Heap.n_put, List.drop_succ_cons, List.drop_zero, List.take_succ_cons, List.take_zero, Nat.add_zero, Nat.reduceLeDiff, Nat.reduceMul, Nat.le_refl, Int.reduceLT, Int.reduceLE, List.drop, List.take, Option.some.injEq, and_true, true_and, and_false, false_and, BEq.rfl, Heap.write, splice, IV.one, List.all_cons, List.all_nil, Bool.and_self, Bool.and_true, Bool.true_and, Nat.le_add_right, eqKs, eqK, Nat.reduceLT, Nat.add_sub_cancel, bne_self_eq_false, Bool.false_bne, Bool.bne_false, List.append, pairOk, Bool.or_true, Bool.true_or, Int.toNat_natCast, Option.isSome_some, List.getElem?_cons_zero, List.getElem?_cons_succ, F14o0, F14o1, F14o2, F14o3, F14o4, F14o5, F14o6, F14o7, F14l8, F14o9, F14b, F14, o0, hwm]
      exact ih L _ base H1 _ hn (.inr (by omega)) hmax hd (red_drop hil hr ec) rfl hlo (hs0.keep k1) rfl (.inl rfl) Q fun H' tm' s' base' a1 a2 a3 a4 a5 => hQ H' tm' s' base' a1 a2 a3 a4 (Nat.le_trans k1.1 a5)
    · have hw2 : IntKind.i64.wrap ((i : Int) + 2) = ((i + 2 : Nat) : Int) := IntWalk.i64_in _ (by omega)
      have hn1 := k1.1
      have g1 : (H1.new (.cells false 33 4 [])).get b = some (.cells false 33 4 (flat L)) := by
        rw [Heap.get_new, if_neg (by omega)]; exact (k1.2 b hb2 hb2).trans hg
      have s1 := slc_to g1 (show i ≤ L.length by omega)
      have p1 := pl_to (i := i) (by rw [Heap.n_new]; omega) g1 (by omega)
      obtain ⟨x1, H2, ev1', hs1, k2⟩ := app_sp (H := H1.new (.cells false 33 4 [])) (lo := lo) (base := H1.n) (s := .slice H1.n 0 0 0 true) (L := []) ⟨H1.n, Nat.le_refl _, by rw [Heap.n_new]; omega, .inl ⟨rfl, rfl⟩⟩ (by omega) p1 (by rw [List.length_take]; simp; omega)
      have hn2 := k2.1
      rw [Heap.n_new] at hn2
      have g2 : H2.get b = some (.cells false 33 4 (flat L)) := (k2.2 b (by omega) (by rw [Heap.n_new]; omega)).trans g1
      have s2 := slc_from g2 (show i + 2 ≤ L.length by omega)
      have p2 := pl_from (i := i + 2) (by omega) g2
      obtain ⟨x2, H3, ev2', hs2, k3⟩ := app_sp (lo := lo) hs1 (by omega) p2 (by rw [List.length_append, List.length_take, List.length_drop]; simp; omega)
      have hn3 := k3.1
      have ev3' := fun lo' => (app0_lo (lo := lo') (lo' := lo)).trans ev1'
      clear ev1'
      rw [List.nil_append] at hs2
      have hcut := cut_at L i hil
      have hlen' : (L.take i ++ L.drop (i + 2)).length = n - 2 := by rw [List.length_append, List.length_take, List.length_drop]; omega
      have hpush : pushL [] L = pushL [] (L.take i ++ L.drop (i + 2)) := by
        rw [← pushL_cut _ _ ec, ← hcut]
      rw [hpush] at hQ
      have hl2 := hs2.pl.len
      have hnn : NN (L.take i ++ L.drop (i + 2)) := fun p hp => by
        rcases List.mem_append.1 hp with hp | hp
        · exact hd p (List.mem_of_mem_take hp)
        · exact hd p (List.mem_of_mem_drop hp)
      generalize L.take i ++ L.drop (i + 2) = L2 at *
      have hw3 : IntKind.i64.wrap ((L2.length : Int) - 2) = (L2.length : Int) - 2 := IntWalk.i64_in _ (by omega)
      simp only [W_skip, W_ret, W_exit, W_seq, W_block, W_ops, W_cond, W_segs_cons, W_segs_nil, freeI_s, freeI_f, W_op1, W_op, guardC_t, guardC_f, bb_tf, bb_ft, bb_tt, bb_ff, argC_a, goC_a, seqC_a, pairC_p, eq_self, Nat.left_eq_add, Nat.add_eq_left, Nat.reduceEqDiff, Int.reduceEq, Nat.add_left_cancel_iff, Nat.add_assoc, W_ops_nil, wantedI_n, wantedI_s, wantV_b, wantV_u, evalAll, IA.eval, optC_s, optC_n, nextOf, freeNext, fpOf, lowOf, opW, ev1, opC_a, Fr.put, List.set, List.getD_cons_zero, List.getD_cons_succ, thenC_n, thenC_j, segC_n, blkC_n, blkC_r, blkC_e, condC_t, condC_f, valC_v, W_apply, if_true, if_false, Option.map_some, Option.map_none, Option.bind_some, Option.bind_none, List.nil_append, List.append_nil, List.cons_append, undefs, List.length_cons, List.length_nil, Nat.reduceSub, Nat.reduceAdd, Nat.zero_add, retC_r, retC_n, leaveC_a, valsC_a, unmark, resultsOf, resultOf, tupled, binI, unI, beq_self_eq_true, Bool.false_eq_true, reduceIte, reduceCtorEq, Bool.not_true, Bool.not_false, Option.getD_some, Option.getD_none, mkAgg, IV.cells, Heap.read, Heap.get_new, Heap.n_new, Heap.get_put, Heap.n_put, List.drop_succ_cons, List.drop_zero, List.take_succ_cons, List.take_zero, Nat.add_zero, Nat.reduceLeDiff, Nat.reduceMul, Nat.le_refl, Int.reduceLT, Int.reduceLE, List.drop, List.take, Option.some.injEq, and_true, true_and, and_false, false_and, BEq.rfl, Heap.write, splice, IV.one, List.all_cons, List.all_nil, Bool.and_self, Bool.and_true, Bool.true_and, Nat.le_add_right, eqKs, eqK, Nat.reduceLT, Nat.add_sub_cancel, bne_self_eq_false, Bool.false_bne, Bool.bne_false, List.append, pairOk, Bool.or_true, Bool.true_or, Int.toNat_natCast, Option.isSome_some, List.getElem?_cons_zero, List.getElem?_cons_succ, F14o0, F14o1, F14o2, F14o3, F14o4, F14o5, F14o6, F14o7, F14l8, F14o9, F14b, F14, o1, hw, hw2, fillI, ↓s1, ↓s2, ↓ev3', ↓ev2', ↓hl2, hw3]
      refine ihn (n - 2) (by omega) (n - 2 - 1) L2 x2 H1.n H3 _ hlen' (by omega) (by omega) hnn ?_ rfl (by omega) hs2 rfl ?_ Q fun H' tm' s' base' a1 a2 a3 a4 a5 => hQ H' tm' s' base' a1 a2 a3 a4 (by omega)
      · have hle : (L2.drop (n - 2 - 1)).length ≤ 1 := by rw [List.length_drop]; omega
        cases hq : L2.drop (n - 2 - 1) with
        | nil => trivial
        | cons a t =>
          cases t with
          | nil => trivial
          | cons c t => rw [hq] at hle; simp at hle
      · by_cases h0 : n - 2 - 1 = 0
        · exact .inr ⟨h0, (L2.length : Int) - 2, by omega, rfl⟩
        · refine .inl ?_
          show IV.int .i64 ((L2.length : Int) - 2) = _
          congr 1
          omega

theorem backwards_sp {v : IV} {L : List Ps} {H : Heap} {lo : Nat} {Q : Out → Heap → Prop} (hv : PL H v L) (hL : L.length ≤ 1000) (hd : NN L) (hlo : lo ≤ H.n)
    (h : ∀ H' s, Keep H.n H H' → PL H' s (pushL [] L) → Q (.val s) H') : W E0 lo (.call 14 [v]) H Q := by
  refine W.pure plain hlo ?_
  rw [c14]
  have hs0 : App (H.new (.cells false 33 4 [])) H.n (.slice H.n 0 0 0 true) [] := ⟨H.n, Nat.le_refl _, by rw [Heap.n_new]; omega, .inl ⟨rfl, rfl⟩⟩
  obtain ⟨x1, H1, ev1', hs1, k1⟩ := app_sp (lo := H.n) hs0 (Nat.le_refl _) (hv.keep (Keep.new _ _)) (by simp; omega)
  rw [List.nil_append] at hs1
  have hw3 : IntKind.i64.wrap ((L.length : Int) - 2) = (L.length : Int) - 2 := IntWalk.i64_in _ (by omega)
  simp only [W_skip, W_ret, W_exit, W_seq, W_block, W_ops, W_cond, W_segs_cons, W_segs_nil, freeI_s, freeI_f, W_op1, W_op, guardC_t, guardC_f, bb_tf, bb_ft, bb_tt, bb_ff, argC_a, goC_a, seqC_a, pairC_p, eq_self, Nat.left_eq_add, Nat.add_eq_left, Nat.reduceEqDiff, Int.reduceEq, Nat.add_left_cancel_iff, Nat.add_assoc, W_ops_nil, wantedI_n, wantedI_s, wantV_b, wantV_u, evalAll, IA.eval, optC_s, optC_n, nextOf, freeNext, fpOf, lowOf, opW, ev1, opC_a, Fr.put, List.set, List.getD_cons_zero, List.getD_cons_succ, thenC_n, thenC_j, segC_n, blkC_n, blkC_r, blkC_e, condC_t, condC_f, valC_v, W_apply, if_true, if_false, Option.map_some, Option.map_none, Option.bind_some, Option.bind_none, List.nil_append, List.append_nil, List.cons_append, undefs, List.length_cons, List.length_nil, Nat.reduceSub, Nat.reduceAdd, Nat.zero_add, retC_r, retC_n, leaveC_a, valsC_a, unmark, resultsOf, resultOf, tupled, binI, unI, beq_self_eq_true, Bool.false_eq_true, reduceIte, reduceCtorEq, Bool.not_true, Bool.not_false, Option.getD_some, Option.getD_none, mkAgg, IV.cells, Heap.read, Heap.get_new, Heap.n_new, Heap.get_put, Heap.n_put, List.drop_succ_cons, List.drop_zero, List.take_succ_cons, List.take_zero, Nat.add_zero, Nat.reduceLeDiff, Nat.reduceMul, Nat.le_refl, Int.reduceLT, Int.reduceLE, List.drop, List.take, Option.some.injEq, and_true, true_and, and_false, false_and, BEq.rfl, Heap.write, splice, IV.one, List.all_cons, List.all_nil, Bool.and_self, Bool.and_true, Bool.true_and, Nat.le_add_right, eqKs, eqK, Nat.reduceLT, Nat.add_sub_cancel, bne_self_eq_false, Bool.false_bne, Bool.bne_false, List.append, pairOk, Bool.or_true, Bool.true_or, Int.toNat_natCast, Option.isSome_some, List.getElem?_cons_zero, List.getElem?_cons_succ, F14o0, F14o1, F14o2, F14o3, F14o4, F14o5, F14o6, F14o7, F14o9, F14b, F14, fillI, ↓ev1', ↓hs1.pl.len, hw3]
  have hn1 := k1.1
  rw [Heap.n_new] at hn1
  refine bw_loop H.n L.length (L.length - 1) L x1 H.n H1 _ rfl (by omega) hL hd ?_ rfl (Nat.le_refl _) hs1 rfl ?_ _ fun H2 tm2 s2 base2 t0 t3 hb2 hs2 hn2 => ?_
  · have hle : (L.drop (L.length - 1)).length ≤ 1 := by rw [List.length_drop]; omega
    cases hq : L.drop (L.length - 1) with
    | nil => trivial
    | cons a t =>
      cases t with
      | nil => trivial
      | cons c t => rw [hq] at hle; simp at hle
  · by_cases h0 : L.length - 1 = 0
    · exact .inr ⟨h0, (L.length : Int) - 2, by omega, rfl⟩
    · refine .inl ?_
      show IV.int .i64 ((L.length : Int) - 2) = _
      congr 1
      omega
  rw [expl40 tm2 t0, t3]
  simp only [W_skip, W_ret, W_exit, W_seq, W_block, W_ops, W_cond, W_segs_cons, W_segs_nil, freeI_s, freeI_f, W_op1, W_op, guardC_t, guardC_f, bb_tf, bb_ft, bb_tt, bb_ff, argC_a, goC_a, seqC_a, pairC_p, eq_self, Nat.left_eq_add, Nat.add_eq_left, Nat.reduceEqDiff, Int.reduceEq, Nat.add_left_cancel_iff, Nat.add_assoc, W_ops_nil, wantedI_n, wantedI_s, wantV_b, wantV_u, evalAll, IA.eval, optC_s, optC_n, nextOf, freeNext, fpOf, lowOf, opW, ev1, opC_a, Fr.put, List.set, List.getD_cons_zero, List.getD_cons_succ, thenC_n, thenC_j, segC_n, blkC_n, blkC_r, blkC_e, condC_t, condC_f, valC_v, W_apply, if_true, if_false, Option.map_some, Option.map_none, Option.bind_some, Option.bind_none, List.nil_append, List.append_nil, List.cons_append, undefs, List.length_cons, List.length_nil, Nat.reduceSub, Nat.reduceAdd, Nat.zero_add, retC_r, retC_n, leaveC_a, valsC_a, unmark, resultsOf, resultOf, tupled, binI, unI, beq_self_eq_true, Bool.false_eq_true, reduceIte, reduceCtorEq, Bool.not_true, Bool.not_false, Option.getD_some, Option.getD_none, mkAgg, IV.cells, Heap.read, Heap.get_new, Heap.n_new, Heap.get_put, Heap.n_put, List.drop_succ_cons, List.drop_zero, List.take_succ_cons, List.take_zero, Nat.add_zero, Nat.reduceLeDiff, Nat.reduceMul, Nat.le_refl, Int.reduceLT, Int.reduceLE, List.drop, List.take, Option.some.injEq, and_true, true_and, and_false, false_and, BEq.rfl, Heap.write, splice, IV.one, List.all_cons, List.all_nil, Bool.and_self, Bool.and_true, Bool.true_and, Nat.le_add_right, eqKs, eqK, Nat.reduceLT, Nat.add_sub_cancel, bne_self_eq_false, Bool.false_bne, Bool.bne_false, List.append, pairOk, Bool.or_true, Bool.true_or, Int.toNat_natCast, Option.isSome_some, List.getElem?_cons_zero, List.getElem?_cons_succ, F14o0, F14o1, F14o2, F14o3, F14o4, F14o5, F14o6, F14o7, F14o9, F14b, F14]
  exact fun hk => h _ _ hk hs2.pl
end Go.Iso.GenA
end

section
namespace Go.Iso.GenA
open Go.Iso
set_option maxHeartbeats 8000000
set_option maxRecDepth 10000

theorem red_at : ∀ (L : List Ps) (i : Nat) (h : i + 1 < L.length), Red L → cancelB (L[i]'(by omega)) L[i + 1] = false
  | a :: b :: l, 0, _, hr => hr.1
  | a :: b :: l, i + 1, h, hr => by
    have := red_at (b :: l) i (by simpa using h) hr.2
    simpa using this
  | [a], i, h, _ => by simp at h
  | [], i, h, _ => by simp at h

theorem expl77 (tm : List IV) (h : tm.length = 77) : tm = [tm.getD 0 IV.undef, tm.getD 1 IV.undef, tm.getD 2 IV.undef, tm.getD 3 IV.undef, tm.getD 4 IV.undef, tm.getD 5 IV.undef, tm.getD 6 IV.undef, tm.getD 7 IV.undef, tm.getD 8 IV.undef, tm.getD 9 IV.undef, tm.getD 10 IV.undef, tm.getD 11 IV.undef, tm.getD 12 IV.undef, tm.getD 13 IV.undef, tm.getD 14 IV.undef, tm.getD 15 IV.undef, tm.getD 16 IV.undef, tm.getD 17 IV.undef, tm.getD 18 IV.undef, tm.getD 19 IV.undef, tm.getD 20 IV.undef, tm.getD 21 IV.undef, tm.getD 22 IV.undef, tm.getD 23 IV.undef, tm.getD 24 IV.undef, tm.getD 25 IV.undef, tm.getD 26 IV.undef, tm.getD 27 IV.undef, tm.getD 28 IV.undef, tm.getD 29 IV.undef, tm.getD 30 IV.undef, tm.getD 31 IV.undef, tm.getD 32 IV.undef, tm.getD 33 IV.undef, tm.getD 34 IV.undef, tm.getD 35 IV.undef, tm.getD 36 IV.undef, tm.getD 37 IV.undef, tm.getD 38 IV.undef, tm.getD 39 IV.undef, tm.getD 40 IV.undef, tm.getD 41 IV.undef, tm.getD 42 IV.undef, tm.getD 43 IV.undef, tm.getD 44 IV.undef, tm.getD 45 IV.undef, tm.getD 46 IV.undef, tm.getD 47 IV.undef, tm.getD 48 IV.undef, tm.getD 49 IV.undef, tm.getD 50 IV.undef, tm.getD 51 IV.undef, tm.getD 52 IV.undef, tm.getD 53 IV.undef, tm.getD 54 IV.undef, tm.getD 55 IV.undef, tm.getD 56 IV.undef, tm.getD 57 IV.undef, tm.getD 58 IV.undef, tm.getD 59 IV.undef, tm.getD 60 IV.undef, tm.getD 61 IV.undef, tm.getD 62 IV.undef, tm.getD 63 IV.undef, tm.getD 64 IV.undef, tm.getD 65 IV.undef, tm.getD 66 IV.undef, tm.getD 67 IV.undef, tm.getD 68 IV.undef, tm.getD 69 IV.undef, tm.getD 70 IV.undef, tm.getD 71 IV.undef, tm.getD 72 IV.undef, tm.getD 73 IV.undef, tm.getD 74 IV.undef, tm.getD 75 IV.undef, tm.getD 76 IV.undef] := (expl tm 77 h).trans rfl

theorem yr_loop (lo b : Nat) (L : List Ps) (hmax : L.length ≤ 1000) (hd : NN L) (hr : Red L) : ∀ (k i : Nat) (H : Heap) (tm : List IV), i + k = L.length → tm.length = 77 → tm.getD 7 IV.undef = .slice b 0 L.length L.length true → tm.getD 9 IV.undef = .int .i64 i → Own H b L.length L → lo ≤ H.n →
    ∀ Q : Out → Heap → Prop, (∀ H' tm', tm'.length = 77 → tm'.getD 7 IV.undef = .slice b 0 L.length L.length true → Keep H.n H H' → Q (.ex (.jmp (.exit 0)) ⟨tm', []⟩) H') →
    W E0 lo (.code (.loop F3l14) none ⟨tm, []⟩) H Q := by
  intro k
  induction k with
  | zero =>
    intro i H tm hi htm h7 h9 ho hlo Q hQ
    have hw : IntKind.i64.wrap ((i : Int) + 1) = ((i + 1 : Nat) : Int) := IntWalk.i64_in _ (by omega)
    have e1 : decide (((i + 1 : Nat) : Int) < L.length) = false := by simp; omega
    rw [W_loop, expl77 tm htm, h7, h9]
    simp only [W_skip, W_ret, W_exit, W_seq, W_block, W_ops, W_cond, W_segs_cons, W_segs_nil, freeI_s, freeI_f, W_op1, W_op, guardC_t, guardC_f, bb_tf, bb_ft, bb_tt, bb_ff, argC_a, goC_a, seqC_a, pairC_p, eq_self, Nat.left_eq_add, Nat.add_eq_left, Nat.reduceEqDiff, Int.reduceEq, Nat.add_left_cancel_iff, Nat.add_assoc, W_ops_nil, wantedI_n, wantedI_s, wantV_b, wantV_u, evalAll, IA.eval, optC_s, optC_n, nextOf, freeNext, fpOf, lowOf, opW, ev1, opC_a, Fr.put, List.set, List.getD_cons_zero, List.getD_cons_succ, thenC_n, thenC_j, segC_n, blkC_n, blkC_r, blkC_e, condC_t, condC_f, valC_v, W_apply, if_true, if_false, Option.map_some, Option.map_none, Option.bind_some, Option.bind_none, List.nil_append, List.append_nil, List.cons_append, undefs, List.length_cons, List.length_nil, Nat.reduceSub, Nat.reduceAdd, Nat.zero_add, retC_r, retC_n, leaveC_a, valsC_a, unmark, resultsOf, resultOf, tupled, binI, unI, beq_self_eq_true, Bool.false_eq_true, reduceIte, reduceCtorEq, Bool.not_true, Bool.not_false, Option.getD_some, Option.getD_none, mkAgg, IV.cells, Heap.read, Heap.get_new, Heap.n_new, Heap.get_put, Heap.n_put, List.drop_succ_cons, List.drop_zero, List.take_succ_cons, List.take_zero, Nat.add_zero, Nat.reduceLeDiff, Nat.reduceMul, Nat.le_refl, Int.reduceLT, Int.reduceLE, List.drop, List.take, Option.some.injEq, and_true, true_and, and_false, false_and, BEq.rfl, Heap.write, splice, IV.one, List.all_cons, List.all_nil, Bool.and_self, Bool.and_true, Bool.true_and, Nat.le_add_right, eqKs, eqK, Nat.reduceLT, Nat.add_sub_cancel, bne_self_eq_false, Bool.false_bne, Bool.bne_false, List.append, pairOk, Bool.or_true, Bool.true_or, Int.toNat_natCast, Option.isSome_some, List.getElem?_cons_zero, List.getElem?_cons_succ, F3o0, F3o1, F3o2, F3o3, F3o4, F3o5, F3o6, F3o7, F3o8, F3o9, F3o10, F3o11, F3o12, F3o13, F3l14, F3o15, F3b, F3, hw, e1]
    exact hQ _ _ rfl rfl (.refl _ _)
  | succ k ih =>
    intro i H tm hi htm h7 h9 ho hlo Q hQ
    have hw : IntKind.i64.wrap ((i : Int) + 1) = ((i + 1 : Nat) : Int) := IntWalk.i64_in _ (by omega)
    by_cases hil : i + 1 < L.length
    · have e1 : decide (((i + 1 : Nat) : Int) < L.length) = true := by simp; omega
      have e2 : (0 ≤ (i : Int) ∧ (i : Int) < L.length) = True := by simp; omega
      have e3 : (0 ≤ ((i + 1 : Nat) : Int) ∧ ((i + 1 : Nat) : Int) < L.length) = True := by simp; omega
      have ho0 := ho
      obtain ⟨o1, o2, cs, o3, o4, o5⟩ := ho
      rw [← o4, List.take_length] at o5
      subst o5
      have hfl := flat_length L
      have e4 : (i * 4 + 4 ≤ (flat L).length) = True := by simp; omega
      have e5 : ((i + 1) * 4 + 4 ≤ (flat L).length) = True := by simp; omega
      have hp := flat_at L i (by omega)
      have hq := flat_at L (i + 1) hil
      rw [W_loop, expl77 tm htm, h7, h9]
      simp only [W_skip, W_ret, W_exit, W_seq, W_block, W_ops, W_cond, W_segs_cons, W_segs_nil, freeI_s, freeI_f, W_op1, W_op, guardC_t, guardC_f, bb_tf, bb_ft, bb_tt, bb_ff, argC_a, goC_a, seqC_a, pairC_p, eq_self, Nat.left_eq_add, Nat.add_eq_left, Nat.reduceEqDiff, Int.reduceEq, Nat.add_left_cancel_iff, Nat.add_assoc, W_ops_nil, wantedI_n, wantedI_s, wantV_b, wantV_u, evalAll, IA.eval, optC_s, optC_n, nextOf, freeNext, fpOf, lowOf, opW, ev1, opC_a, Fr.put, List.set, List.getD_cons_zero, List.getD_cons_succ, thenC_n, thenC_j, segC_n, blkC_n, blkC_r, blkC_e, condC_t, condC_f, valC_v, W_apply, if_true, if_false, Option.map_some, Option.map_none, Option.bind_some, Option.bind_none, List.nil_append, List.append_nil, List.cons_append, undefs, List.length_cons, List.length_nil, Nat.reduceSub, Nat.reduceAdd, Nat.zero_add, retC_r, retC_n, leaveC_a, valsC_a, unmark, resultsOf, resultOf, tupled, binI, unI, beq_self_eq_true, Bool.false_eq_true, reduceIte, reduceCtorEq, Bool.not_true, Bool.not_false, Option.getD_some, Option.getD_none, mkAgg, IV.cells, Heap.read, Heap.get_new, Heap.n_new, Heap.get_put, Heap.n_put, List.drop_succ_cons, List.drop_zero, List.take_succ_cons, List.take_zero, Nat.add_zero, Nat.reduceLeDiff, Nat.reduceMul, Nat.le_refl, Int.reduceLT, Int.reduceLE, List.drop, List.take, Option.some.injEq, and_true, true_and, and_false, false_and, BEq.rfl, Heap.write, splice, IV.one, List.all_cons, List.all_nil, Bool.and_self, Bool.and_true, Bool.true_and, Nat.le_add_right, eqKs, eqK, Nat.reduceLT, Nat.add_sub_cancel, bne_self_eq_false, Bool.false_bne, Bool.bne_false, List.append, pairOk, Bool.or_true, Bool.true_or, Int.toNat_natCast, Option.isSome_some, List.getElem?_cons_zero, List.getElem?_cons_succ, F3o0, F3o1, F3o2, F3o3, F3o4, F3o5, F3o6, F3o7, F3o8, F3o9, F3o10, F3o11, F3o12, F3o13, F3l14, F3o15, F3b, F3, e1, e2, e3, e4, e5, hw, o3, hp, hq, Ps.cells]
      refine lc_sp (L[i]'(by omega)) L[i + 1] (fun H1 k1 => ?_) (by omega)
      rw [lc_cancel (hd _ (List.getElem_mem _)) (hd _ (List.getElem_mem _)), red_at L i hil hr]
      have o0 : ((0 : Int) == 1) = false := by decide
      simp only [W_skip, W_ret, W_exit, W_seq, W_block, W_ops, W_cond, W_segs_cons, W_segs_nil, freeI_s, freeI_f, W_op1, W_op, guardC_t, guardC_f, bb_tf, bb_ft, bb_tt, bb_ff, argC_a, goC_a, seqC_a, pairC_p, eq_self, Nat.left_eq_add, Nat.add_eq_left, Nat.reduceEqDiff, Int.reduceEq, Nat.add_left_cancel_iff, Nat.add_assoc, W_ops_nil, wantedI_n, wantedI_s, wantV_b, wantV_u, evalAll, IA.eval, optC_s, optC_n, nextOf, freeNext, fpOf, lowOf, opW, ev1, opC_a, Fr.put, List.set, List.getD_cons_zero, List.getD_cons_succ, thenC_n, thenC_j, segC_n, blkC_n, blkC_r, blkC_e, condC_t, condC_f, valC_v, W_apply, if_true, if_false, Option.map_some, Option.map_none, Option.bind_some, Option.bind_none, List.nil_append, List.append_nil, List.cons_append, undefs, List.length_cons, List.length_nil, Nat.reduceSub, Nat.reduceAdd, Nat.zero_add, retC_r, retC_n, leaveC_a, valsC_a, unmark, resultsOf, resultOf, tupled, binI, unI, beq_self_eq_true, Bool.false_eq_true, reduceIte, reduceCtorEq, Bool.not_true, Bool.not_false, Option.getD_some, Option.getD_none, mkAgg, IV.cells, Heap.read, Heap.get_new, Heap.n_new, Heap.get_put, Heap.n_put, List.drop_succ_cons, List.drop_zero, List.take_succ_cons, List.take_zero, Nat.add_zero, Nat.reduceLeDiff, Nat.reduceMul, Nat.le_refl, Int.reduceLT, Int.reduceLE, List.drop, List.take, Option.some.injEq, and_true, true_and, and_false, false_and, BEq.rfl, Heap.write, splice, IV.one, List.all_cons, List.all_nil, Bool.and_self, Bool.and_true, Bool.true_and, Nat.le_add_right, eqKs, eqK, Nat.reduceLT, Nat.add_sub_cancel, bne_self_eq_false, Bool.false_bne, Bool.bne_false, List.append, pairOk, Bool.or_true, Bool.true_or, Int.toNat_natCast, Option.isSome_some, List.getElem?_cons_zero, List.getElem?_cons_succ, F3o0, F3o1, F3o2, F3o3, F3o4, F3o5, F3o6, F3o7, F3o8, F3o9, F3o10, F3o11, F3o12, F3o13, F3l14, F3o15, F3b, F3, o0, hw]
      exact ih (i + 1) H1 _ (by omega) rfl rfl rfl (ho0.keep k1) (Nat.le_trans hlo k1.1) Q fun H' tm' a1 a2 a3 => hQ H' tm' a1 a2 (k1.trans (a3.lower k1.1))
    · have e1 : decide (((i + 1 : Nat) : Int) < L.length) = false := by simp; omega
      rw [W_loop, expl77 tm htm, h7, h9]
      simp only [W_skip, W_ret, W_exit, W_seq, W_block, W_ops, W_cond, W_segs_cons, W_segs_nil, freeI_s, freeI_f, W_op1, W_op, guardC_t, guardC_f, bb_tf, bb_ft, bb_tt, bb_ff, argC_a, goC_a, seqC_a, pairC_p, eq_self, Nat.left_eq_add, Nat.add_eq_left, Nat.reduceEqDiff, Int.reduceEq, Nat.add_left_cancel_iff, Nat.add_assoc, W_ops_nil, wantedI_n, wantedI_s, wantV_b, wantV_u, evalAll, IA.eval, optC_s, optC_n, nextOf, freeNext, fpOf, lowOf, opW, ev1, opC_a, Fr.put, List.set, List.getD_cons_zero, List.getD_cons_succ, thenC_n, thenC_j, segC_n, blkC_n, blkC_r, blkC_e, condC_t, condC_f, valC_v, W_apply, if_true, if_false, Option.map_some, Option.map_none, Option.bind_some, Option.bind_none, List.nil_append, List.append_nil, List.cons_append, undefs, List.length_cons, List.length_nil, Nat.reduceSub, Nat.reduceAdd, Nat.zero_add, retC_r, retC_n, leaveC_a, valsC_a, unmark, resultsOf, resultOf, tupled, binI, unI, beq_self_eq_true, Bool.false_eq_true, reduceIte, reduceCtorEq, Bool.not_true, Bool.not_false, Option.getD_some, Option.getD_none, mkAgg, IV.cells, Heap.read, Heap.get_new, Heap.n_new, Heap.get_put, Heap.n_put, List.drop_succ_cons, List.drop_zero, List.take_succ_cons, List.take_zero, Nat.add_zero, Nat.reduceLeDiff, Nat.reduceMul, Nat.le_refl, Int.reduceLT, Int.reduceLE, List.drop, List.take, Option.some.injEq, and_true, true_and, and_false, false_and, BEq.rfl, Heap.write, splice, IV.one, List.all_cons, List.all_nil, Bool.and_self, Bool.and_true, Bool.true_and, Nat.le_add_right, eqKs, eqK, Nat.reduceLT, Nat.add_sub_cancel, bne_self_eq_false, Bool.false_bne, Bool.bne_false, List.append, pairOk, Bool.or_true, Bool.true_or, Int.toNat_natCast, Option.isSome_some, List.getElem?_cons_zero, List.getElem?_cons_succ, F3o0, F3o1, F3o2, F3o3, F3o4, F3o5, F3o6, F3o7, F3o8, F3o9, F3o10, F3o11, F3o12, F3o13, F3l14, F3o15, F3b, F3, hw, e1]
      exact hQ _ _ rfl rfl (.refl _ _)

theorem yr_run (H : Heap) (va vb : IV) (l : List Int) (raw : List Ps) (hl : BL H va l) (hm : PL H vb raw) (hx : ∀ x, x ∈ l → 0 ≤ x ∧ x ≤ 255) (hd : NN raw) :
    W E0 H.n (.call 3 [va, vb]) H fun o _ => o = .val (.bool true) := by
  rw [c3]
  cases e0 : decide ((l.length : Int) > 40)
  case true =>
    simp only [W_skip, W_ret, W_exit, W_seq, W_block, W_ops, W_cond, W_segs_cons, W_segs_nil, freeI_s, freeI_f, W_op1, W_op, guardC_t, guardC_f, bb_tf, bb_ft, bb_tt, bb_ff, argC_a, goC_a, seqC_a, pairC_p, eq_self, Nat.left_eq_add, Nat.add_eq_left, Nat.reduceEqDiff, Int.reduceEq, Nat.add_left_cancel_iff, Nat.add_assoc, W_ops_nil, wantedI_n, wantedI_s, wantV_b, wantV_u, evalAll, IA.eval, optC_s, optC_n, nextOf, freeNext, fpOf, lowOf, opW, ev1, opC_a, Fr.put, List.set, List.getD_cons_zero, List.getD_cons_succ, thenC_n, thenC_j, segC_n, blkC_n, blkC_r, blkC_e, condC_t, condC_f, valC_v, W_apply, if_true, if_false, Option.map_some, Option.map_none, Option.bind_some, Option.bind_none, List.nil_append, List.append_nil, List.cons_append, undefs, List.length_cons, List.length_nil, Nat.reduceSub, Nat.reduceAdd, Nat.zero_add, retC_r, retC_n, leaveC_a, valsC_a, unmark, resultsOf, resultOf, tupled, binI, unI, beq_self_eq_true, Bool.false_eq_true, reduceIte, reduceCtorEq, Bool.not_true, Bool.not_false, Option.getD_some, Option.getD_none, mkAgg, IV.cells, Heap.read, Heap.get_new, Heap.n_new, Heap.get_put, Heap.n_put, List.drop_succ_cons, List.drop_zero, List.take_succ_cons, List.take_zero, Nat.add_zero, Nat.reduceLeDiff, Nat.reduceMul, Nat.le_refl, Int.reduceLT, Int.reduceLE, List.drop, List.take, Option.some.injEq, and_true, true_and, and_false, false_and, BEq.rfl, Heap.write, splice, IV.one, List.all_cons, List.all_nil, Bool.and_self, Bool.and_true, Bool.true_and, Nat.le_add_right, eqKs, eqK, Nat.reduceLT, Nat.add_sub_cancel, bne_self_eq_false, Bool.false_bne, Bool.bne_false, List.append, pairOk, Bool.or_true, Bool.true_or, Int.toNat_natCast, Option.isSome_some, List.getElem?_cons_zero, List.getElem?_cons_succ, F3o0, F3o1, F3o2, F3o3, F3o4, F3o5, F3o6, F3o7, F3o8, F3o9, F3o10, F3o11, F3o12, F3o13, F3o15, F3b, F3, ↓hl.len, e0]
    refine c9 ?_
    simp only [W_skip, W_ret, W_exit, W_seq, W_block, W_ops, W_cond, W_segs_cons, W_segs_nil, freeI_s, freeI_f, W_op1, W_op, guardC_t, guardC_f, bb_tf, bb_ft, bb_tt, bb_ff, argC_a, goC_a, seqC_a, pairC_p, eq_self, Nat.left_eq_add, Nat.add_eq_left, Nat.reduceEqDiff, Int.reduceEq, Nat.add_left_cancel_iff, Nat.add_assoc, W_ops_nil, wantedI_n, wantedI_s, wantV_b, wantV_u, evalAll, IA.eval, optC_s, optC_n, nextOf, freeNext, fpOf, lowOf, opW, ev1, opC_a, Fr.put, List.set, List.getD_cons_zero, List.getD_cons_succ, thenC_n, thenC_j, segC_n, blkC_n, blkC_r, blkC_e, condC_t, condC_f, valC_v, W_apply, if_true, if_false, Option.map_some, Option.map_none, Option.bind_some, Option.bind_none, List.nil_append, List.append_nil, List.cons_append, undefs, List.length_cons, List.length_nil, Nat.reduceSub, Nat.reduceAdd, Nat.zero_add, retC_r, retC_n, leaveC_a, valsC_a, unmark, resultsOf, resultOf, tupled, binI, unI, beq_self_eq_true, Bool.false_eq_true, reduceIte, reduceCtorEq, Bool.not_true, Bool.not_false, Option.getD_some, Option.getD_none, mkAgg, IV.cells, Heap.read, Heap.get_new, Heap.n_new, Heap.get_put, Heap.n_put, List.drop_succ_cons, List.drop_zero, List.take_succ_cons, List.take_zero, Nat.add_zero, Nat.reduceLeDiff, Nat.reduceMul, Nat.le_refl, Int.reduceLT, Int.reduceLE, List.drop, List.take, Option.some.injEq, and_true, true_and, and_false, false_and, BEq.rfl, Heap.write, splice, IV.one, List.all_cons, List.all_nil, Bool.and_self, Bool.and_true, Bool.true_and, Nat.le_add_right, eqKs, eqK, Nat.reduceLT, Nat.add_sub_cancel, bne_self_eq_false, Bool.false_bne, Bool.bne_false, List.append, pairOk, Bool.or_true, Bool.true_or, Int.toNat_natCast, Option.isSome_some, List.getElem?_cons_zero, List.getElem?_cons_succ, F3o0, F3o1, F3o2, F3o3, F3o4, F3o5, F3o6, F3o7, F3o8, F3o9, F3o10, F3o11, F3o12, F3o13, F3o15, F3b, F3]
  cases e1 : decide ((raw.length : Int) > 5)
  case true =>
    simp only [W_skip, W_ret, W_exit, W_seq, W_block, W_ops, W_cond, W_segs_cons, W_segs_nil, freeI_s, freeI_f, W_op1, W_op, guardC_t, guardC_f, bb_tf, bb_ft, bb_tt, bb_ff, argC_a, goC_a, seqC_a, pairC_p, eq_self, Nat.left_eq_add, Nat.add_eq_left, Nat.reduceEqDiff, Int.reduceEq, Nat.add_left_cancel_iff, Nat.add_assoc, W_ops_nil, wantedI_n, wantedI_s, wantV_b, wantV_u, evalAll, IA.eval, optC_s, optC_n, nextOf, freeNext, fpOf, lowOf, opW, ev1, opC_a, Fr.put, List.set, List.getD_cons_zero, List.getD_cons_succ, thenC_n, thenC_j, segC_n, blkC_n, blkC_r, blkC_e, condC_t, condC_f, valC_v, W_apply, if_true, if_false, Option.map_some, Option.map_none, Option.bind_some, Option.bind_none, List.nil_append, List.append_nil, List.cons_append, undefs, List.length_cons, List.length_nil, Nat.reduceSub, Nat.reduceAdd, Nat.zero_add, retC_r, retC_n, leaveC_a, valsC_a, unmark, resultsOf, resultOf, tupled, binI, unI, beq_self_eq_true, Bool.false_eq_true, reduceIte, reduceCtorEq, Bool.not_true, Bool.not_false, Option.getD_some, Option.getD_none, mkAgg, IV.cells, Heap.read, Heap.get_new, Heap.n_new, Heap.get_put, Heap.n_put, List.drop_succ_cons, List.drop_zero, List.take_succ_cons, List.take_zero, Nat.add_zero, Nat.reduceLeDiff, Nat.reduceMul, Nat.le_refl, Int.reduceLT, Int.reduceLE, List.drop, List.take, Option.some.injEq, and_true, true_and, and_false, false_and, BEq.rfl, Heap.write, splice, IV.one, List.all_cons, List.all_nil, Bool.and_self, Bool.and_true, Bool.true_and, Nat.le_add_right, eqKs, eqK, Nat.reduceLT, Nat.add_sub_cancel, bne_self_eq_false, Bool.false_bne, Bool.bne_false, List.append, pairOk, Bool.or_true, Bool.true_or, Int.toNat_natCast, Option.isSome_some, List.getElem?_cons_zero, List.getElem?_cons_succ, F3o0, F3o1, F3o2, F3o3, F3o4, F3o5, F3o6, F3o7, F3o8, F3o9, F3o10, F3o11, F3o12, F3o13, F3o15, F3b, F3, ↓hl.len, ↓hm.len, e0, e1]
    refine c9 ?_
    simp only [W_skip, W_ret, W_exit, W_seq, W_block, W_ops, W_cond, W_segs_cons, W_segs_nil, freeI_s, freeI_f, W_op1, W_op, guardC_t, guardC_f, bb_tf, bb_ft, bb_tt, bb_ff, argC_a, goC_a, seqC_a, pairC_p, eq_self, Nat.left_eq_add, Nat.add_eq_left, Nat.reduceEqDiff, Int.reduceEq, Nat.add_left_cancel_iff, Nat.add_assoc, W_ops_nil, wantedI_n, wantedI_s, wantV_b, wantV_u, evalAll, IA.eval, optC_s, optC_n, nextOf, freeNext, fpOf, lowOf, opW, ev1, opC_a, Fr.put, List.set, List.getD_cons_zero, List.getD_cons_succ, thenC_n, thenC_j, segC_n, blkC_n, blkC_r, blkC_e, condC_t, condC_f, valC_v, W_apply, if_true, if_false, Option.map_some, Option.map_none, Option.bind_some, Option.bind_none, List.nil_append, List.append_nil, List.cons_append, undefs, List.length_cons, List.length_nil, Nat.reduceSub, Nat.reduceAdd, Nat.zero_add, retC_r, retC_n, leaveC_a, valsC_a, unmark, resultsOf, resultOf, tupled, binI, unI, beq_self_eq_true, Bool.false_eq_true, reduceIte, reduceCtorEq, Bool.not_true, Bool.not_false, Option.getD_some, Option.getD_none, mkAgg, IV.cells, Heap.read, Heap.get_new, Heap.n_new, Heap.get_put, Heap.n_put, List.drop_succ_cons, List.drop_zero, List.take_succ_cons, List.take_zero, Nat.add_zero, Nat.reduceLeDiff, Nat.reduceMul, Nat.le_refl, Int.reduceLT, Int.reduceLE, List.drop, List.take, Option.some.injEq, and_true, true_and, and_false, false_and, BEq.rfl, Heap.write, splice, IV.one, List.all_cons, List.all_nil, Bool.and_self, Bool.and_true, Bool.true_and, Nat.le_add_right, eqKs, eqK, Nat.reduceLT, Nat.add_sub_cancel, bne_self_eq_false, Bool.false_bne, Bool.bne_false, List.append, pairOk, Bool.or_true, Bool.true_or, Int.toNat_natCast, Option.isSome_some, List.getElem?_cons_zero, List.getElem?_cons_succ, F3o0, F3o1, F3o2, F3o3, F3o4, F3o5, F3o6, F3o7, F3o8, F3o9, F3o10, F3o11, F3o12, F3o13, F3o15, F3b, F3]
  have f0 : l.length ≤ 40 := by simp at e0; omega
  have f1 : raw.length ≤ 5 := by simp at e1; omega
  have hs0 : App (H.new (.cells false 33 4 [])) H.n (.slice H.n 0 0 0 true) [] := ⟨H.n, Nat.le_refl _, by rw [Heap.n_new]; omega, .inl ⟨rfl, rfl⟩⟩
  obtain ⟨x1, H1, ev1', hs1, k1⟩ := app_sp (lo := H.n) hs0 (Nat.le_refl _) (hm.keep (Keep.new _ _)) (by simp; omega)
  rw [List.nil_append] at hs1
  have kk1 : Keep H.n H H1 := (Keep.new _ _).trans k1
  have hn1 := kk1.1
  simp only [W_skip, W_ret, W_exit, W_seq, W_block, W_ops, W_cond, W_segs_cons, W_segs_nil, freeI_s, freeI_f, W_op1, W_op, guardC_t, guardC_f, bb_tf, bb_ft, bb_tt, bb_ff, argC_a, goC_a, seqC_a, pairC_p, eq_self, Nat.left_eq_add, Nat.add_eq_left, Nat.reduceEqDiff, Int.reduceEq, Nat.add_left_cancel_iff, Nat.add_assoc, W_ops_nil, wantedI_n, wantedI_s, wantV_b, wantV_u, evalAll, IA.eval, optC_s, optC_n, nextOf, freeNext, fpOf, lowOf, opW, ev1, opC_a, Fr.put, List.set, List.getD_cons_zero, List.getD_cons_succ, thenC_n, thenC_j, segC_n, blkC_n, blkC_r, blkC_e, condC_t, condC_f, valC_v, W_apply, if_true, if_false, Option.map_some, Option.map_none, Option.bind_some, Option.bind_none, List.nil_append, List.append_nil, List.cons_append, undefs, List.length_cons, List.length_nil, Nat.reduceSub, Nat.reduceAdd, Nat.zero_add, retC_r, retC_n, leaveC_a, valsC_a, unmark, resultsOf, resultOf, tupled, binI, unI, beq_self_eq_true, Bool.false_eq_true, reduceIte, reduceCtorEq, Bool.not_true, Bool.not_false, Option.getD_some, Option.getD_none, mkAgg, IV.cells, Heap.read, Heap.get_new, Heap.n_new, Heap.get_put, Heap.n_put, List.drop_succ_cons, List.drop_zero, List.take_succ_cons, List.take_zero, Nat.add_zero, Nat.reduceLeDiff, Nat.reduceMul, Nat.le_refl, Int.reduceLT, Int.reduceLE, List.drop, List.take, Option.some.injEq, and_true, true_and, and_false, false_and, BEq.rfl, Heap.write, splice, IV.one, List.all_cons, List.all_nil, Bool.and_self, Bool.and_true, Bool.true_and, Nat.le_add_right, eqKs, eqK, Nat.reduceLT, Nat.add_sub_cancel, bne_self_eq_false, Bool.false_bne, Bool.bne_false, List.append, pairOk, Bool.or_true, Bool.true_or, Int.toNat_natCast, Option.isSome_some, List.getElem?_cons_zero, List.getElem?_cons_succ, F3o0, F3o1, F3o2, F3o3, F3o4, F3o5, F3o6, F3o7, F3o8, F3o9, F3o10, F3o11, F3o12, F3o13, F3o15, F3b, F3, ↓hl.len, ↓hm.len, e0, e1, fillI, ↓ev1']
  refine of_sp (hl.keep kk1) (by omega) (by omega) fun H2 u2 k2 hg2 => ?_
  have hu2 := hg2.pl
  have hn2 := k2.1
  have hml : (l.map ofP).length = l.length := List.length_map _
  obtain ⟨x3, H3, ev3', hs3, k3⟩ := app_sp (lo := H.n) (hs1.keep k2) (Nat.le_refl _) hu2 (by omega)
  have hn3 := k3.1
  have hdo : NN (l.map ofP) := fun p hp => by
    obtain ⟨x, hx', rfl⟩ := List.mem_map.1 hp
    have := ofP_sided (hx x hx').1
    rcases sided_iff.1 this with h | h <;> omega
  have hdA : NN (raw ++ l.map ofP) := fun p hp => (List.mem_append.1 hp).elim (hd p) (hdo p)
  have hA : (raw ++ l.map ofP).length ≤ 45 := by rw [List.length_append]; omega
  generalize raw ++ l.map ofP = A at *
  have e2 : (0 ≤ (A.length : Int) ∧ (A.length : Int) * (((24 : Nat) : Int) + 1) ≤ 2 ^ 40) = True := by simp; omega
  have hrl : (rep A.length [IV.int .u8 0, .int .i64 0, .bool false, .int .u8 0]).length = A.length * 4 := rep_length _ _
  have ho : Own (H3.new (.cells false 33 4 (rep A.length [.int .u8 0, .int .i64 0, .bool false, .int .u8 0]))) H3.n A.length [] := ⟨Nat.zero_le _, by rw [Heap.n_new]; omega, _, by rw [Heap.get_new, if_pos rfl], by rw [hrl]; omega, rfl⟩
  obtain ⟨H4, ev4, ho4, kb4⟩ := own_append (lo := H.n) ho (by omega) (hs3.pl.keep (Keep.new _ _)) (by simp)
  rw [List.nil_append, List.length_nil] at ev4
  rw [List.nil_append] at ho4
  have k4 : Keep H3.n H3 H4 := ⟨by have := kb4.1; rw [Heap.n_new] at this; omega, fun b' h1 h2 => by
    rw [kb4.2 b' (by rw [Heap.n_new]; omega) (by omega), Heap.get_new, if_neg (by omega)]⟩
  have hx4 := hs3.pl.keep k4
  have hn4 := k4.1
  simp only [W_skip, W_ret, W_exit, W_seq, W_block, W_ops, W_cond, W_segs_cons, W_segs_nil, freeI_s, freeI_f, W_op1, W_op, guardC_t, guardC_f, bb_tf, bb_ft, bb_tt, bb_ff, argC_a, goC_a, seqC_a, pairC_p, eq_self, Nat.left_eq_add, Nat.add_eq_left, Nat.reduceEqDiff, Int.reduceEq, Nat.add_left_cancel_iff, Nat.add_assoc, W_ops_nil, wantedI_n, wantedI_s, wantV_b, wantV_u, evalAll, IA.eval, optC_s, optC_n, nextOf, freeNext, fpOf, lowOf, opW, ev1, opC_a, Fr.put, List.set, List.getD_cons_zero, List.getD_cons_succ, thenC_n, thenC_j, segC_n, blkC_n, blkC_r, blkC_e, condC_t, condC_f, valC_v, W_apply, if_true, if_false, Option.map_some, Option.map_none, Option.bind_some, Option.bind_none, List.nil_append, List.append_nil, List.cons_append, undefs, List.length_cons, List.length_nil, Nat.reduceSub, Nat.reduceAdd, Nat.zero_add, retC_r, retC_n, leaveC_a, valsC_a, unmark, resultsOf, resultOf, tupled, binI, unI, beq_self_eq_true, Bool.false_eq_true, reduceIte, reduceCtorEq, Bool.not_true, Bool.not_false, Option.getD_some, Option.getD_none, mkAgg, IV.cells, Heap.read, Heap.get_new, Heap.n_new, Heap.get_put, Heap.n_put, List.drop_succ_cons, List.drop_zero, List.take_succ_cons, List.take_zero, Nat.add_zero, Nat.reduceLeDiff, Nat.reduceMul, Nat.le_refl, Int.reduceLT, Int.reduceLE, List.drop, List.take, Option.some.injEq, and_true, true_and, and_false, false_and, BEq.rfl, Heap.write, splice, IV.one, List.all_cons, List.all_nil, Bool.and_self, Bool.and_true, Bool.true_and, Nat.le_add_right, eqKs, eqK, Nat.reduceLT, Nat.add_sub_cancel, bne_self_eq_false, Bool.false_bne, Bool.bne_false, List.append, pairOk, Bool.or_true, Bool.true_or, Int.toNat_natCast, Option.isSome_some, List.getElem?_cons_zero, List.getElem?_cons_succ, F3o0, F3o1, F3o2, F3o3, F3o4, F3o5, F3o6, F3o7, F3o8, F3o9, F3o10, F3o11, F3o12, F3o13, F3o15, F3b, F3, ↓ev3', ↓hs3.pl.len, e2, Int.toNat_zero, ↓ev4]
  clear ev1' ev3' ev4 kb4 ho hs0 hs1 k1 k2 k3 hg2 hu2 hs3 k4 kk1
  refine reduce_sp hx4 (by omega) (by omega) fun H5 b5 k5 hb5 ho5 => ?_
  have hx5 := hx4.keep k5
  have hw5 := ho4.keep k5
  have hn5 := k5.1
  clear k5 hx4 ho4
  simp only [W_skip, W_ret, W_exit, W_seq, W_block, W_ops, W_cond, W_segs_cons, W_segs_nil, freeI_s, freeI_f, W_op1, W_op, guardC_t, guardC_f, bb_tf, bb_ft, bb_tt, bb_ff, argC_a, goC_a, seqC_a, pairC_p, eq_self, Nat.left_eq_add, Nat.add_eq_left, Nat.reduceEqDiff, Int.reduceEq, Nat.add_left_cancel_iff, Nat.add_assoc, W_ops_nil, wantedI_n, wantedI_s, wantV_b, wantV_u, evalAll, IA.eval, optC_s, optC_n, nextOf, freeNext, fpOf, lowOf, opW, ev1, opC_a, Fr.put, List.set, List.getD_cons_zero, List.getD_cons_succ, thenC_n, thenC_j, segC_n, blkC_n, blkC_r, blkC_e, condC_t, condC_f, valC_v, W_apply, if_true, if_false, Option.map_some, Option.map_none, Option.bind_some, Option.bind_none, List.nil_append, List.append_nil, List.cons_append, undefs, List.length_cons, List.length_nil, Nat.reduceSub, Nat.reduceAdd, Nat.zero_add, retC_r, retC_n, leaveC_a, valsC_a, unmark, resultsOf, resultOf, tupled, binI, unI, beq_self_eq_true, Bool.false_eq_true, reduceIte, reduceCtorEq, Bool.not_true, Bool.not_false, Option.getD_some, Option.getD_none, mkAgg, IV.cells, Heap.read, Heap.get_new, Heap.n_new, Heap.get_put, Heap.n_put, List.drop_succ_cons, List.drop_zero, List.take_succ_cons, List.take_zero, Nat.add_zero, Nat.reduceLeDiff, Nat.reduceMul, Nat.le_refl, Int.reduceLT, Int.reduceLE, List.drop, List.take, Option.some.injEq, and_true, true_and, and_false, false_and, BEq.rfl, Heap.write, splice, IV.one, List.all_cons, List.all_nil, Bool.and_self, Bool.and_true, Bool.true_and, Nat.le_add_right, eqKs, eqK, Nat.reduceLT, Nat.add_sub_cancel, bne_self_eq_false, Bool.false_bne, Bool.bne_false, List.append, pairOk, Bool.or_true, Bool.true_or, Int.toNat_natCast, Option.isSome_some, List.getElem?_cons_zero, List.getElem?_cons_succ, F3o0, F3o1, F3o2, F3o3, F3o4, F3o5, F3o6, F3o7, F3o8, F3o9, F3o10, F3o11, F3o12, F3o13, F3o15, F3b, F3]
  refine reduced_sp hx5 (by omega) hdA (by omega) fun H6 b6 k6 hb6 ho6 => ?_
  have hx6 := hx5.keep k6
  have hw6 := hw5.keep k6
  have hr6 := ho5.keep k6
  have hn6 := k6.1
  have hpl := pushL_len A []
  simp only [List.length_nil, Nat.zero_add] at hpl
  have hRR : Red (pushL [] A) := red_pushL (S := []) trivial A
  have hRn : NN (pushL [] A) := nn_pushL A [] (fun p hp => by cases hp) hdA
  have hRi := pushL_id hRR
  have z1 : ((1 : Int) == 0) = false := by decide
  have z2 : ((1 : Int) == 1) = true := by decide
  clear k6 hx5 hw5 ho5
  simp only [W_skip, W_ret, W_exit, W_seq, W_block, W_ops, W_cond, W_segs_cons, W_segs_nil, freeI_s, freeI_f, W_op1, W_op, guardC_t, guardC_f, bb_tf, bb_ft, bb_tt, bb_ff, argC_a, goC_a, seqC_a, pairC_p, eq_self, Nat.left_eq_add, Nat.add_eq_left, Nat.reduceEqDiff, Int.reduceEq, Nat.add_left_cancel_iff, Nat.add_assoc, W_ops_nil, wantedI_n, wantedI_s, wantV_b, wantV_u, evalAll, IA.eval, optC_s, optC_n, nextOf, freeNext, fpOf, lowOf, opW, ev1, opC_a, Fr.put, List.set, List.getD_cons_zero, List.getD_cons_succ, thenC_n, thenC_j, segC_n, blkC_n, blkC_r, blkC_e, condC_t, condC_f, valC_v, W_apply, if_true, if_false, Option.map_some, Option.map_none, Option.bind_some, Option.bind_none, List.nil_append, List.append_nil, List.cons_append, undefs, List.length_cons, List.length_nil, Nat.reduceSub, Nat.reduceAdd, Nat.zero_add, retC_r, retC_n, leaveC_a, valsC_a, unmark, resultsOf, resultOf, tupled, binI, unI, beq_self_eq_true, Bool.false_eq_true, reduceIte, reduceCtorEq, Bool.not_true, Bool.not_false, Option.getD_some, Option.getD_none, mkAgg, IV.cells, Heap.read, Heap.get_new, Heap.n_new, Heap.get_put, Heap.n_put, List.drop_succ_cons, List.drop_zero, List.take_succ_cons, List.take_zero, Nat.add_zero, Nat.reduceLeDiff, Nat.reduceMul, Nat.le_refl, Int.reduceLT, Int.reduceLE, List.drop, List.take, Option.some.injEq, and_true, true_and, and_false, false_and, BEq.rfl, Heap.write, splice, IV.one, List.all_cons, List.all_nil, Bool.and_self, Bool.and_true, Bool.true_and, Nat.le_add_right, eqKs, eqK, Nat.reduceLT, Nat.add_sub_cancel, bne_self_eq_false, Bool.false_bne, Bool.bne_false, List.append, pairOk, Bool.or_true, Bool.true_or, Int.toNat_natCast, Option.isSome_some, List.getElem?_cons_zero, List.getElem?_cons_succ, F3o0, F3o1, F3o2, F3o3, F3o4, F3o5, F3o6, F3o7, F3o8, F3o9, F3o10, F3o11, F3o12, F3o13, F3o15, F3b, F3]
  refine same_sp (l := pushL [] A) (hr6.pl true) (.inr ⟨b5, 0, rfl⟩) (ho6.pl true) (by omega) ?_
  simp only [W_skip, W_ret, W_exit, W_seq, W_block, W_ops, W_cond, W_segs_cons, W_segs_nil, freeI_s, freeI_f, W_op1, W_op, guardC_t, guardC_f, bb_tf, bb_ft, bb_tt, bb_ff, argC_a, goC_a, seqC_a, pairC_p, eq_self, Nat.left_eq_add, Nat.add_eq_left, Nat.reduceEqDiff, Int.reduceEq, Nat.add_left_cancel_iff, Nat.add_assoc, W_ops_nil, wantedI_n, wantedI_s, wantV_b, wantV_u, evalAll, IA.eval, optC_s, optC_n, nextOf, freeNext, fpOf, lowOf, opW, ev1, opC_a, Fr.put, List.set, List.getD_cons_zero, List.getD_cons_succ, thenC_n, thenC_j, segC_n, blkC_n, blkC_r, blkC_e, condC_t, condC_f, valC_v, W_apply, if_true, if_false, Option.map_some, Option.map_none, Option.bind_some, Option.bind_none, List.nil_append, List.append_nil, List.cons_append, undefs, List.length_cons, List.length_nil, Nat.reduceSub, Nat.reduceAdd, Nat.zero_add, retC_r, retC_n, leaveC_a, valsC_a, unmark, resultsOf, resultOf, tupled, binI, unI, beq_self_eq_true, Bool.false_eq_true, reduceIte, reduceCtorEq, Bool.not_true, Bool.not_false, Option.getD_some, Option.getD_none, mkAgg, IV.cells, Heap.read, Heap.get_new, Heap.n_new, Heap.get_put, Heap.n_put, List.drop_succ_cons, List.drop_zero, List.take_succ_cons, List.take_zero, Nat.add_zero, Nat.reduceLeDiff, Nat.reduceMul, Nat.le_refl, Int.reduceLT, Int.reduceLE, List.drop, List.take, Option.some.injEq, and_true, true_and, and_false, false_and, BEq.rfl, Heap.write, splice, IV.one, List.all_cons, List.all_nil, Bool.and_self, Bool.and_true, Bool.true_and, Nat.le_add_right, eqKs, eqK, Nat.reduceLT, Nat.add_sub_cancel, bne_self_eq_false, Bool.false_bne, Bool.bne_false, List.append, pairOk, Bool.or_true, Bool.true_or, Int.toNat_natCast, Option.isSome_some, List.getElem?_cons_zero, List.getElem?_cons_succ, F3o0, F3o1, F3o2, F3o3, F3o4, F3o5, F3o6, F3o7, F3o8, F3o9, F3o10, F3o11, F3o12, F3o13, F3o15, F3b, F3, z1]
  refine backwards_sp hx6 (by omega) hdA (by omega) fun H7 s7 k7 hs7 => ?_
  have hx7 := hx6.keep k7
  have hw7 := hw6.keep k7
  have hr7 := hr6.keep k7
  have hn7 := k7.1
  clear k7 hx6 hw6 hr6 ho6
  simp only [W_skip, W_ret, W_exit, W_seq, W_block, W_ops, W_cond, W_segs_cons, W_segs_nil, freeI_s, freeI_f, W_op1, W_op, guardC_t, guardC_f, bb_tf, bb_ft, bb_tt, bb_ff, argC_a, goC_a, seqC_a, pairC_p, eq_self, Nat.left_eq_add, Nat.add_eq_left, Nat.reduceEqDiff, Int.reduceEq, Nat.add_left_cancel_iff, Nat.add_assoc, W_ops_nil, wantedI_n, wantedI_s, wantV_b, wantV_u, evalAll, IA.eval, optC_s, optC_n, nextOf, freeNext, fpOf, lowOf, opW, ev1, opC_a, Fr.put, List.set, List.getD_cons_zero, List.getD_cons_succ, thenC_n, thenC_j, segC_n, blkC_n, blkC_r, blkC_e, condC_t, condC_f, valC_v, W_apply, if_true, if_false, Option.map_some, Option.map_none, Option.bind_some, Option.bind_none, List.nil_append, List.append_nil, List.cons_append, undefs, List.length_cons, List.length_nil, Nat.reduceSub, Nat.reduceAdd, Nat.zero_add, retC_r, retC_n, leaveC_a, valsC_a, unmark, resultsOf, resultOf, tupled, binI, unI, beq_self_eq_true, Bool.false_eq_true, reduceIte, reduceCtorEq, Bool.not_true, Bool.not_false, Option.getD_some, Option.getD_none, mkAgg, IV.cells, Heap.read, Heap.get_new, Heap.n_new, Heap.get_put, Heap.n_put, List.drop_succ_cons, List.drop_zero, List.take_succ_cons, List.take_zero, Nat.add_zero, Nat.reduceLeDiff, Nat.reduceMul, Nat.le_refl, Int.reduceLT, Int.reduceLE, List.drop, List.take, Option.some.injEq, and_true, true_and, and_false, false_and, BEq.rfl, Heap.write, splice, IV.one, List.all_cons, List.all_nil, Bool.and_self, Bool.and_true, Bool.true_and, Nat.le_add_right, eqKs, eqK, Nat.reduceLT, Nat.add_sub_cancel, bne_self_eq_false, Bool.false_bne, Bool.bne_false, List.append, pairOk, Bool.or_true, Bool.true_or, Int.toNat_natCast, Option.isSome_some, List.getElem?_cons_zero, List.getElem?_cons_succ, F3o0, F3o1, F3o2, F3o3, F3o4, F3o5, F3o6, F3o7, F3o8, F3o9, F3o10, F3o11, F3o12, F3o13, F3o15, F3b, F3]
  refine same_sp (l := pushL [] A) (hr7.pl true) (.inr ⟨b5, 0, rfl⟩) hs7 (by omega) ?_
  simp only [W_skip, W_ret, W_exit, W_seq, W_block, W_ops, W_cond, W_segs_cons, W_segs_nil, freeI_s, freeI_f, W_op1, W_op, guardC_t, guardC_f, bb_tf, bb_ft, bb_tt, bb_ff, argC_a, goC_a, seqC_a, pairC_p, eq_self, Nat.left_eq_add, Nat.add_eq_left, Nat.reduceEqDiff, Int.reduceEq, Nat.add_left_cancel_iff, Nat.add_assoc, W_ops_nil, wantedI_n, wantedI_s, wantV_b, wantV_u, evalAll, IA.eval, optC_s, optC_n, nextOf, freeNext, fpOf, lowOf, opW, ev1, opC_a, Fr.put, List.set, List.getD_cons_zero, List.getD_cons_succ, thenC_n, thenC_j, segC_n, blkC_n, blkC_r, blkC_e, condC_t, condC_f, valC_v, W_apply, if_true, if_false, Option.map_some, Option.map_none, Option.bind_some, Option.bind_none, List.nil_append, List.append_nil, List.cons_append, undefs, List.length_cons, List.length_nil, Nat.reduceSub, Nat.reduceAdd, Nat.zero_add, retC_r, retC_n, leaveC_a, valsC_a, unmark, resultsOf, resultOf, tupled, binI, unI, beq_self_eq_true, Bool.false_eq_true, reduceIte, reduceCtorEq, Bool.not_true, Bool.not_false, Option.getD_some, Option.getD_none, mkAgg, IV.cells, Heap.read, Heap.get_new, Heap.n_new, Heap.get_put, Heap.n_put, List.drop_succ_cons, List.drop_zero, List.take_succ_cons, List.take_zero, Nat.add_zero, Nat.reduceLeDiff, Nat.reduceMul, Nat.le_refl, Int.reduceLT, Int.reduceLE, List.drop, List.take, Option.some.injEq, and_true, true_and, and_false, false_and, BEq.rfl, Heap.write, splice, IV.one, List.all_cons, List.all_nil, Bool.and_self, Bool.and_true, Bool.true_and, Nat.le_add_right, eqKs, eqK, Nat.reduceLT, Nat.add_sub_cancel, bne_self_eq_false, Bool.false_bne, Bool.bne_false, List.append, pairOk, Bool.or_true, Bool.true_or, Int.toNat_natCast, Option.isSome_some, List.getElem?_cons_zero, List.getElem?_cons_succ, F3o0, F3o1, F3o2, F3o3, F3o4, F3o5, F3o6, F3o7, F3o8, F3o9, F3o10, F3o11, F3o12, F3o13, F3o15, F3b, F3, z1]
  refine same_sp (l := A) (hw7.pl true) (.inr ⟨H3.n, 0, rfl⟩) hx7 (by omega) ?_
  generalize pushL [] A = R at *
  simp only [W_skip, W_ret, W_exit, W_seq, W_block, W_ops, W_cond, W_segs_cons, W_segs_nil, freeI_s, freeI_f, W_op1, W_op, guardC_t, guardC_f, bb_tf, bb_ft, bb_tt, bb_ff, argC_a, goC_a, seqC_a, pairC_p, eq_self, Nat.left_eq_add, Nat.add_eq_left, Nat.reduceEqDiff, Int.reduceEq, Nat.add_left_cancel_iff, Nat.add_assoc, W_ops_nil, wantedI_n, wantedI_s, wantV_b, wantV_u, evalAll, IA.eval, optC_s, optC_n, nextOf, freeNext, fpOf, lowOf, opW, ev1, opC_a, Fr.put, List.set, List.getD_cons_zero, List.getD_cons_succ, thenC_n, thenC_j, segC_n, blkC_n, blkC_r, blkC_e, condC_t, condC_f, valC_v, W_apply, if_true, if_false, Option.map_some, Option.map_none, Option.bind_some, Option.bind_none, List.nil_append, List.append_nil, List.cons_append, undefs, List.length_cons, List.length_nil, Nat.reduceSub, Nat.reduceAdd, Nat.zero_add, retC_r, retC_n, leaveC_a, valsC_a, unmark, resultsOf, resultOf, tupled, binI, unI, beq_self_eq_true, Bool.false_eq_true, reduceIte, reduceCtorEq, Bool.not_true, Bool.not_false, Option.getD_some, Option.getD_none, mkAgg, IV.cells, Heap.read, Heap.get_new, Heap.n_new, Heap.get_put, Heap.n_put, List.drop_succ_cons, List.drop_zero, List.take_succ_cons, List.take_zero, Nat.add_zero, Nat.reduceLeDiff, Nat.reduceMul, Nat.le_refl, Int.reduceLT, Int.reduceLE, List.drop, List.take, Option.some.injEq, and_true, true_and, and_false, false_and, BEq.rfl, Heap.write, splice, IV.one, List.all_cons, List.all_nil, Bool.and_self, Bool.and_true, Bool.true_and, Nat.le_add_right, eqKs, eqK, Nat.reduceLT, Nat.add_sub_cancel, bne_self_eq_false, Bool.false_bne, Bool.bne_false, List.append, pairOk, Bool.or_true, Bool.true_or, Int.toNat_natCast, Option.isSome_some, List.getElem?_cons_zero, List.getElem?_cons_succ, F3o0, F3o1, F3o2, F3o3, F3o4, F3o5, F3o6, F3o7, F3o8, F3o9, F3o10, F3o11, F3o12, F3o13, F3o15, F3b, F3, z1]
  refine yr_loop H.n b5 R (by omega) hRn hRR R.length 0 H7 _ (by omega) rfl rfl rfl hr7 (by omega) _ fun H8 tm8 t0 t7 k8 => ?_
  have hr8 := hr7.keep k8
  have hn8 := k8.1
  rw [expl77 tm8 t0, t7]
  simp only [W_skip, W_ret, W_exit, W_seq, W_block, W_ops, W_cond, W_segs_cons, W_segs_nil, freeI_s, freeI_f, W_op1, W_op, guardC_t, guardC_f, bb_tf, bb_ft, bb_tt, bb_ff, argC_a, goC_a, seqC_a, pairC_p, eq_self, Nat.left_eq_add, Nat.add_eq_left, Nat.reduceEqDiff, Int.reduceEq, Nat.add_left_cancel_iff, Nat.add_assoc, W_ops_nil, wantedI_n, wantedI_s, wantV_b, wantV_u, evalAll, IA.eval, optC_s, optC_n, nextOf, freeNext, fpOf, lowOf, opW, ev1, opC_a, Fr.put, List.set, List.getD_cons_zero, List.getD_cons_succ, thenC_n, thenC_j, segC_n, blkC_n, blkC_r, blkC_e, condC_t, condC_f, valC_v, W_apply, if_true, if_false, Option.map_some, Option.map_none, Option.bind_some, Option.bind_none, List.nil_append, List.append_nil, List.cons_append, undefs, List.length_cons, List.length_nil, Nat.reduceSub, Nat.reduceAdd, Nat.zero_add, retC_r, retC_n, leaveC_a, valsC_a, unmark, resultsOf, resultOf, tupled, binI, unI, beq_self_eq_true, Bool.false_eq_true, reduceIte, reduceCtorEq, Bool.not_true, Bool.not_false, Option.getD_some, Option.getD_none, mkAgg, IV.cells, Heap.read, Heap.get_new, Heap.n_new, Heap.get_put, Heap.n_put, List.drop_succ_cons, List.drop_zero, List.take_succ_cons, List.take_zero, Nat.add_zero, Nat.reduceLeDiff, Nat.reduceMul, Nat.le_refl, Int.reduceLT, Int.reduceLE, List.drop, List.take, Option.some.injEq, and_true, true_and, and_false, false_and, BEq.rfl, Heap.write, splice, IV.one, List.all_cons, List.all_nil, Bool.and_self, Bool.and_true, Bool.true_and, Nat.le_add_right, eqKs, eqK, Nat.reduceLT, Nat.add_sub_cancel, bne_self_eq_false, Bool.false_bne, Bool.bne_false, List.append, pairOk, Bool.or_true, Bool.true_or, Int.toNat_natCast, Option.isSome_some, List.getElem?_cons_zero, List.getElem?_cons_succ, F3o0, F3o1, F3o2, F3o3, F3o4, F3o5, F3o6, F3o7, F3o8, F3o9, F3o10, F3o11, F3o12, F3o13, F3o15, F3b, F3]
  refine reduce_sp (hr8.pl true) (by omega) (by omega) fun H9 b9 k9 hb9 ho9 => ?_
  rw [hRi] at ho9 ⊢
  have hr9 := hr8.keep k9
  simp only [W_skip, W_ret, W_exit, W_seq, W_block, W_ops, W_cond, W_segs_cons, W_segs_nil, freeI_s, freeI_f, W_op1, W_op, guardC_t, guardC_f, bb_tf, bb_ft, bb_tt, bb_ff, argC_a, goC_a, seqC_a, pairC_p, eq_self, Nat.left_eq_add, Nat.add_eq_left, Nat.reduceEqDiff, Int.reduceEq, Nat.add_left_cancel_iff, Nat.add_assoc, W_ops_nil, wantedI_n, wantedI_s, wantV_b, wantV_u, evalAll, IA.eval, optC_s, optC_n, nextOf, freeNext, fpOf, lowOf, opW, ev1, opC_a, Fr.put, List.set, List.getD_cons_zero, List.getD_cons_succ, thenC_n, thenC_j, segC_n, blkC_n, blkC_r, blkC_e, condC_t, condC_f, valC_v, W_apply, if_true, if_false, Option.map_some, Option.map_none, Option.bind_some, Option.bind_none, List.nil_append, List.append_nil, List.cons_append, undefs, List.length_cons, List.length_nil, Nat.reduceSub, Nat.reduceAdd, Nat.zero_add, retC_r, retC_n, leaveC_a, valsC_a, unmark, resultsOf, resultOf, tupled, binI, unI, beq_self_eq_true, Bool.false_eq_true, reduceIte, reduceCtorEq, Bool.not_true, Bool.not_false, Option.getD_some, Option.getD_none, mkAgg, IV.cells, Heap.read, Heap.get_new, Heap.n_new, Heap.get_put, Heap.n_put, List.drop_succ_cons, List.drop_zero, List.take_succ_cons, List.take_zero, Nat.add_zero, Nat.reduceLeDiff, Nat.reduceMul, Nat.le_refl, Int.reduceLT, Int.reduceLE, List.drop, List.take, Option.some.injEq, and_true, true_and, and_false, false_and, BEq.rfl, Heap.write, splice, IV.one, List.all_cons, List.all_nil, Bool.and_self, Bool.and_true, Bool.true_and, Nat.le_add_right, eqKs, eqK, Nat.reduceLT, Nat.add_sub_cancel, bne_self_eq_false, Bool.false_bne, Bool.bne_false, List.append, pairOk, Bool.or_true, Bool.true_or, Int.toNat_natCast, Option.isSome_some, List.getElem?_cons_zero, List.getElem?_cons_succ, F3o0, F3o1, F3o2, F3o3, F3o4, F3o5, F3o6, F3o7, F3o8, F3o9, F3o10, F3o11, F3o12, F3o13, F3o15, F3b, F3]
  refine same_sp (l := R) (ho9.pl true) (.inr ⟨b9, 0, rfl⟩) (hr9.pl true) (by omega) ?_
  simp only [W_skip, W_ret, W_exit, W_seq, W_block, W_ops, W_cond, W_segs_cons, W_segs_nil, freeI_s, freeI_f, W_op1, W_op, guardC_t, guardC_f, bb_tf, bb_ft, bb_tt, bb_ff, argC_a, goC_a, seqC_a, pairC_p, eq_self, Nat.left_eq_add, Nat.add_eq_left, Nat.reduceEqDiff, Int.reduceEq, Nat.add_left_cancel_iff, Nat.add_assoc, W_ops_nil, wantedI_n, wantedI_s, wantV_b, wantV_u, evalAll, IA.eval, optC_s, optC_n, nextOf, freeNext, fpOf, lowOf, opW, ev1, opC_a, Fr.put, List.set, List.getD_cons_zero, List.getD_cons_succ, thenC_n, thenC_j, segC_n, blkC_n, blkC_r, blkC_e, condC_t, condC_f, valC_v, W_apply, if_true, if_false, Option.map_some, Option.map_none, Option.bind_some, Option.bind_none, List.nil_append, List.append_nil, List.cons_append, undefs, List.length_cons, List.length_nil, Nat.reduceSub, Nat.reduceAdd, Nat.zero_add, retC_r, retC_n, leaveC_a, valsC_a, unmark, resultsOf, resultOf, tupled, binI, unI, beq_self_eq_true, Bool.false_eq_true, reduceIte, reduceCtorEq, Bool.not_true, Bool.not_false, Option.getD_some, Option.getD_none, mkAgg, IV.cells, Heap.read, Heap.get_new, Heap.n_new, Heap.get_put, Heap.n_put, List.drop_succ_cons, List.drop_zero, List.take_succ_cons, List.take_zero, Nat.add_zero, Nat.reduceLeDiff, Nat.reduceMul, Nat.le_refl, Int.reduceLT, Int.reduceLE, List.drop, List.take, Option.some.injEq, and_true, true_and, and_false, false_and, BEq.rfl, Heap.write, splice, IV.one, List.all_cons, List.all_nil, Bool.and_self, Bool.and_true, Bool.true_and, Nat.le_add_right, eqKs, eqK, Nat.reduceLT, Nat.add_sub_cancel, bne_self_eq_false, Bool.false_bne, Bool.bne_false, List.append, pairOk, Bool.or_true, Bool.true_or, Int.toNat_natCast, Option.isSome_some, List.getElem?_cons_zero, List.getElem?_cons_succ, F3o0, F3o1, F3o2, F3o3, F3o4, F3o5, F3o6, F3o7, F3o8, F3o9, F3o10, F3o11, F3o12, F3o13, F3o15, F3b, F3, z2]
  refine c9 ?_
  simp only [W_skip, W_ret, W_exit, W_seq, W_block, W_ops, W_cond, W_segs_cons, W_segs_nil, freeI_s, freeI_f, W_op1, W_op, guardC_t, guardC_f, bb_tf, bb_ft, bb_tt, bb_ff, argC_a, goC_a, seqC_a, pairC_p, eq_self, Nat.left_eq_add, Nat.add_eq_left, Nat.reduceEqDiff, Int.reduceEq, Nat.add_left_cancel_iff, Nat.add_assoc, W_ops_nil, wantedI_n, wantedI_s, wantV_b, wantV_u, evalAll, IA.eval, optC_s, optC_n, nextOf, freeNext, fpOf, lowOf, opW, ev1, opC_a, Fr.put, List.set, List.getD_cons_zero, List.getD_cons_succ, thenC_n, thenC_j, segC_n, blkC_n, blkC_r, blkC_e, condC_t, condC_f, valC_v, W_apply, if_true, if_false, Option.map_some, Option.map_none, Option.bind_some, Option.bind_none, List.nil_append, List.append_nil, List.cons_append, undefs, List.length_cons, List.length_nil, Nat.reduceSub, Nat.reduceAdd, Nat.zero_add, retC_r, retC_n, leaveC_a, valsC_a, unmark, resultsOf, resultOf, tupled, binI, unI, beq_self_eq_true, Bool.false_eq_true, reduceIte, reduceCtorEq, Bool.not_true, Bool.not_false, Option.getD_some, Option.getD_none, mkAgg, IV.cells, Heap.read, Heap.get_new, Heap.n_new, Heap.get_put, Heap.n_put, List.drop_succ_cons, List.drop_zero, List.take_succ_cons, List.take_zero, Nat.add_zero, Nat.reduceLeDiff, Nat.reduceMul, Nat.le_refl, Int.reduceLT, Int.reduceLE, List.drop, List.take, Option.some.injEq, and_true, true_and, and_false, false_and, BEq.rfl, Heap.write, splice, IV.one, List.all_cons, List.all_nil, Bool.and_self, Bool.and_true, Bool.true_and, Nat.le_add_right, eqKs, eqK, Nat.reduceLT, Nat.add_sub_cancel, bne_self_eq_false, Bool.false_bne, Bool.bne_false, List.append, pairOk, Bool.or_true, Bool.true_or, Int.toNat_natCast, Option.isSome_some, List.getElem?_cons_zero, List.getElem?_cons_succ, F3o0, F3o1, F3o2, F3o3, F3o4, F3o5, F3o6, F3o7, F3o8, F3o9, F3o10, F3o11, F3o12, F3o13, F3o15, F3b, F3]
end Go.Iso.GenA
end

section
namespace Go.Iso.GenA
open Go.Iso Go.Proofs
set_option maxRecDepth 100000
set_option maxHeartbeats 4000000

theorem rd_passR {H : Heap} {c : List IV} {d : PD} (h : Rd H passT c d) : ∃ p : Ps, c = p.cells ∧ 0 ≤ p.d := by
  cases h with
  | struct ts css l he =>
    cases he with
    | cons h1 he =>
      cases he with
      | cons h2 he =>
        cases he with
        | cons h3 he =>
          cases he
          cases h1 with
          | struct ts css l he =>
            cases he with
            | cons g1 he =>
              cases he with
              | cons g2 he =>
                cases he
                cases g1; cases g2; cases h2
                cases h3 with
                | int k n hn => exact ⟨⟨_, _, _, n⟩, rfl, hn.1⟩

theorem rd_passesR {H : Heap} (hro : Ro H) {c : List IV} {d : PD} (h : Rd H (.slice passT) c d) : ∃ v l, c = [v] ∧ PL H v l ∧ ∀ p, p ∈ l → 0 ≤ p.d := by
  cases h with
  | nil => exact ⟨.nilSlice, [], rfl, .nil, fun p hp => by cases hp⟩
  | slice e b cap l css h1 h2 hb he =>
    have key : ∀ (n : Nat) (css : List (List IV)) (l : List PD), Rds H (List.replicate n passT) css l → ∃ xs : List Ps, xs.length = l.length ∧ css.flatten = flat xs ∧ ∀ p, p ∈ xs → 0 ≤ p.d := by
      intro n
      induction n with
      | zero => intro css l h; cases h; exact ⟨[], rfl, rfl, fun p hp => by cases hp⟩
      | succ n ih =>
        intro css l h
        cases h with
        | cons h hs =>
          obtain ⟨xs, a1, a2, a3⟩ := ih _ _ hs
          obtain ⟨p, rfl, hp⟩ := rd_passR h
          refine ⟨p :: xs, by simp [a1], by rw [List.flatten_cons, a2, flat_cons], fun q hq => ?_⟩
          rcases List.mem_cons.1 hq with rfl | hq
          · exact hp
          · exact a3 q hq
    obtain ⟨xs, a1, a2, a3⟩ := key _ _ _ he
    refine ⟨_, xs, by rw [← a1], .sl b 0 cap true xs (by omega) fun hx => ?_, a3⟩
    have hpos : 0 < l.length := by rw [← a1]; exact List.length_pos_iff.2 hx
    refine ⟨(hro b _ (hb hpos)).1, true, 0, 0, _, hb hpos, ?_⟩
    rw [a2, List.drop_zero, ← flat_length, List.take_length]

theorem params3 : Try.f3.params.toList.mapM (tyOf Try.prog 8) = some [.slice (.int .u8), .slice passT] := by kernel_rfl
theorem types3 : typesOk Try.prog Try.f3 = true := by kernel_rfl

theorem reduce_lifted (os : Os) (started : os.Started) (T : Type) (enc : TypeId × Value → T) :
    ReturnsInHanded {} Try.checked os 3 .any (Ytpekmodcnpfmkaa.Rows.yarnsReduceSpec.pre6 enc Try.prog Try.f3 [] false) (Ytpekmodcnpfmkaa.Rows.yarnsReduceSpec.post enc Try.prog Try.f3 false true false false) := by
  refine returnsInHanded_of_change (C := Try.checked) own_knob started (by kernel_rfl) Try.func3
    (ChangeSpec.witness6 (enc := enc) (C := Try.checked) false ⟨#[], #[.slice none 0 0, .slice none 0 0], []⟩ 8 (by kernel_rfl) (by kernel_rfl) (by kernel_rfl) (by kernel_rfl)) ?_
  intro W base args ds gs before hval hW _ _
  refine law_calls (P := Try.prog) (tb := 4) (s := Ytpekmodcnpfmkaa.Rows.yarnsReduceSpec) env0 rfl params3 (by kernel_rfl) (by kernel_rfl) types3 rfl ?_ (fun _ => True) ?_ W base args ds gs before hval hW trivial
  · intro T ds hd
    match ds, hd with
    | [a, b], _ => rfl
  · intro H css ds hro hrd _
    cases hrd with
    | cons h1 hrd =>
      cases hrd with
      | cons h2 hrd =>
        cases hrd
        obtain ⟨va, l, rfl, hl, hx⟩ := rd_bytes hro h1
        obtain ⟨vb, raw, rfl, hm, hd⟩ := rd_passesR hro h2
        obtain ⟨n, o, H', h, rfl⟩ := yr_run H va vb l raw hl hm hx hd
        exact ⟨n, H', h⟩

theorem reduce_holds : Ytpekmodcnpfmkaa.Rows.YarnsReduceSaid :=
  OpenClaim.holds_of_wide 3 Try.f3 rfl rfl rfl rfl rfl rfl rfl ⟨rfl, rfl, rfl, rfl, rfl⟩ rfl rfl rfl rfl rfl (by kernel_rfl) Try.func3 (by kernel_rfl)
    (of_decide_eq_true (by kernel_rfl)) (by unfold Func.isWrapper; first | (rw [if_pos (by decide +kernel)]; kernel_rfl) | (rw [if_neg (by decide +kernel)]; exact ⟨rfl, rfl⟩))
    (fun os started H enc _ => reduce_lifted os started H enc)
end Go.Iso.GenA

namespace Go.Proofs.Ytpekmodcnpfmkaa
theorem yarnsReduce_holds : Rows.YarnsReduceSaid := Go.Iso.GenA.reduce_holds
end Go.Proofs.Ytpekmodcnpfmkaa
end
