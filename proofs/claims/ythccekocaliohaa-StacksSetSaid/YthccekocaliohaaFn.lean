/-
  what the functions of layer 3 give.
-/
import Derived.Test.YthccekocaliohaaGen
set_option linter.unusedSimpArgs false
set_option linter.unusedVariables false

section
namespace Go.Iso.Gen
open Go.Iso
set_option maxHeartbeats 1000000
set_option maxRecDepth 10000

/-- The name of a loop. -/
structure Id where
  y : Int
  n : Int
  deriving DecidableEq, Inhabited
instance : Cell Id where
  z := 2
  cs a := [.int .u8 a.y, .int .i64 a.n]
  len _ := rfl
  one _ := rfl
  pos := by omega
theorem cs_Id (a : Id) : Cell.cs a = [.int .u8 a.y, .int .i64 a.n] := rfl
theorem z_Id : Cell.z Id = 2 := rfl

theorem pureQ {Q : Out → Heap → Prop} {H : Heap} {lo : Nat} {f : FuncId} {args : List IV} (v : IV) (hlo : lo ≤ H.n) (h : ∀ H', Keep H.n H H' → Q (.val v) H') (k : ∀ R : Out → Heap → Prop, (∀ H', R (.val v) H') → W E0 H.n (.call f args) H R) : W E0 lo (.call f args) H Q :=
  W.pure plain hlo (k _ fun H' hk => h H' hk)

def namedB (a : Id) : Bool := decide (a.y ≥ 1) && (decide (a.y ≤ 6) && (decide (a.n ≥ 0) && decide (a.n < 2048)))
theorem named_sp (a : Id) {H : Heap} {lo : Nat} {Q : Out → Heap → Prop} (hlo : lo ≤ H.n) (h : ∀ H', Keep H.n H H' → Q (.val (.bool (namedB a))) H') : W E0 lo (.call 23 [.agg (Cell.cs a)]) H Q := by
  refine pureQ _ hlo h fun R hR => ?_
  rw [c23]
  unfold namedB at hR
  cases e0 : decide (a.y ≥ 1) <;> cases e1 : decide (a.y ≤ 6) <;> cases e2 : decide (a.n ≥ 0) <;> cases e3 : decide (a.n < 2048) <;> simp only [e0, e1, e2, e3, Bool.and_true, Bool.and_false] at hR <;> simp (disch := omega) only [F23b, cs_Id, F23, List.length_cons, List.length_nil, Nat.zero_add, Nat.reduceSub, undefs, List.cons_append, List.nil_append, W_seq, wF23o0, F23p0, W_segs_cons, freeI_s, W_op, wantedI_n, guardC_t, evalAll, IA.eval, List.getD_cons_zero, optC_s, argC_a, nextOf, lowOf, goC_a, opW, ev1, cellsV_agg, pairC_p, opC_a, Fr.put, List.set, W_ops_nil, segC_n, W_segs_nil, thenC_n, wF23o1, F23p1, List.getD_cons_succ, Nat.add_zero, Option.getD_none, read_new, readO_c, Nat.reduceAdd, cLe, List.drop, List.take_succ_cons, List.take, if_true, mkAgg, Option.bind_some, Option.map_some, binI, e0, wantedI_s, wantV_b, bb_ft, guardC_f, Bool.false_eq_true, if_false, W_ret, retC_r, unmark, leaveC_a, resultsOf, resultOf, valsC_a, tupled, beq_self_eq_true, e1, Nat.le_refl, e2, e3] <;> exact hR _

/-- Whether a needle is valid: the error of its check. -/
def needleE (bed at_ : Int) : Int := if (bed = 0 ∨ bed = 1) ∧ 1 ≤ at_ ∧ at_ ≤ 40 then 0 else 1
theorem ncheck_sp (bed at_ : Int) {H : Heap} {lo : Nat} {Q : Out → Heap → Prop} (hlo : lo ≤ H.n) (h : ∀ H', Keep H.n H H' → Q (.val (.int .i64 (needleE bed at_))) H') : W E0 lo (.call 24 [.agg [.int .u8 bed, .int .i64 at_]]) H Q := by
  refine pureQ _ hlo h fun R hR => ?_
  rw [c24]
  unfold needleE at hR
  by_cases h1 : (bed = 0 ∨ bed = 1) ∧ 1 ≤ at_ ∧ at_ ≤ 40
  · rw [if_pos h1] at hR
    rcases h1 with ⟨rfl | rfl, h1, h2⟩ <;> simp (disch := omega) only [F24b, F24, List.length_cons, List.length_nil, Nat.zero_add, Nat.reduceSub, undefs, List.cons_append, List.nil_append, W_seq, wF24o0, F24p0, W_segs_cons, freeI_s, W_op, wantedI_n, guardC_t, evalAll, IA.eval, List.getD_cons_zero, optC_s, argC_a, nextOf, lowOf, goC_a, opW, ev1, cellsV_agg, pairC_p, opC_a, Fr.put, List.set, W_ops_nil, segC_n, W_segs_nil, thenC_n, wF24o1, F24p1, List.getD_cons_succ, Nat.add_zero, Option.getD_none, read_new, readO_c, Nat.reduceAdd, cLe, List.drop, List.take_succ_cons, List.take, if_true, mkAgg, Option.bind_some, Option.map_some, binI, bne_self_eq_false, wantedI_s, wantV_b, bb_ft, guardC_f, Bool.false_eq_true, if_false, W_cond, condC_f, W_skip, wF24o3, F24p3, Nat.le_refl, iLtF, decide_false, beq_self_eq_true, wF24o5, F24p5, W_ret, retC_r, unmark, leaveC_a, resultsOf, resultOf, valsC_a, tupled, iBne] <;> exact hR _
  · rw [if_neg h1] at hR
    by_cases h2 : bed = 0
    · subst h2
      by_cases h3 : at_ < 1
      · simp (disch := omega) only [F24b, F24, List.length_cons, List.length_nil, Nat.zero_add, Nat.reduceSub, undefs, List.cons_append, List.nil_append, W_seq, wF24o0, F24p0, W_segs_cons, freeI_s, W_op, wantedI_n, guardC_t, evalAll, IA.eval, List.getD_cons_zero, optC_s, argC_a, nextOf, lowOf, goC_a, opW, ev1, cellsV_agg, pairC_p, opC_a, Fr.put, List.set, W_ops_nil, segC_n, W_segs_nil, thenC_n, wF24o1, F24p1, List.getD_cons_succ, Nat.add_zero, Option.getD_none, read_new, readO_c, Nat.reduceAdd, cLe, List.drop, List.take_succ_cons, List.take, if_true, mkAgg, Option.bind_some, Option.map_some, binI, bne_self_eq_false, wantedI_s, wantV_b, bb_ft, guardC_f, Bool.false_eq_true, if_false, W_cond, condC_f, W_skip, wF24o3, F24p3, Nat.le_refl, iLt, decide_true, bb_tf, condC_t, wF24o4, F24p4, W_ret, thenC_j, retC_r, unmark, leaveC_a, resultsOf, resultOf, valsC_a, tupled]; exact hR _
      · simp (disch := omega) only [F24b, F24, List.length_cons, List.length_nil, Nat.zero_add, Nat.reduceSub, undefs, List.cons_append, List.nil_append, W_seq, wF24o0, F24p0, W_segs_cons, freeI_s, W_op, wantedI_n, guardC_t, evalAll, IA.eval, List.getD_cons_zero, optC_s, argC_a, nextOf, lowOf, goC_a, opW, ev1, cellsV_agg, pairC_p, opC_a, Fr.put, List.set, W_ops_nil, segC_n, W_segs_nil, thenC_n, wF24o1, F24p1, List.getD_cons_succ, Nat.add_zero, Option.getD_none, read_new, readO_c, Nat.reduceAdd, cLe, List.drop, List.take_succ_cons, List.take, if_true, mkAgg, Option.bind_some, Option.map_some, binI, bne_self_eq_false, wantedI_s, wantV_b, bb_ft, guardC_f, Bool.false_eq_true, if_false, W_cond, condC_f, W_skip, wF24o3, F24p3, Nat.le_refl, iLtF, decide_false, beq_self_eq_true, iLt, decide_true, condC_t, wF24o4, F24p4, W_ret, thenC_j, retC_r, unmark, leaveC_a, resultsOf, resultOf, valsC_a, tupled]; exact hR _
    · by_cases h2 : bed = 1
      · subst h2
        by_cases h3 : at_ < 1
        · simp (disch := omega) only [F24b, F24, List.length_cons, List.length_nil, Nat.zero_add, Nat.reduceSub, undefs, List.cons_append, List.nil_append, W_seq, wF24o0, F24p0, W_segs_cons, freeI_s, W_op, wantedI_n, guardC_t, evalAll, IA.eval, List.getD_cons_zero, optC_s, argC_a, nextOf, lowOf, goC_a, opW, ev1, cellsV_agg, pairC_p, opC_a, Fr.put, List.set, W_ops_nil, segC_n, W_segs_nil, thenC_n, wF24o1, F24p1, List.getD_cons_succ, Nat.add_zero, Option.getD_none, read_new, readO_c, Nat.reduceAdd, cLe, List.drop, List.take_succ_cons, List.take, if_true, mkAgg, Option.bind_some, Option.map_some, binI, iBne, wantedI_s, wantV_b, beq_self_eq_true, bne_self_eq_false, W_cond, condC_f, W_skip, wF24o3, F24p3, Nat.le_refl, iLt, decide_true, bb_tf, guardC_f, condC_t, wF24o4, F24p4, W_ret, thenC_j, retC_r, unmark, leaveC_a, resultsOf, resultOf, valsC_a, tupled]; exact hR _
        · simp (disch := omega) only [F24b, F24, List.length_cons, List.length_nil, Nat.zero_add, Nat.reduceSub, undefs, List.cons_append, List.nil_append, W_seq, wF24o0, F24p0, W_segs_cons, freeI_s, W_op, wantedI_n, guardC_t, evalAll, IA.eval, List.getD_cons_zero, optC_s, argC_a, nextOf, lowOf, goC_a, opW, ev1, cellsV_agg, pairC_p, opC_a, Fr.put, List.set, W_ops_nil, segC_n, W_segs_nil, thenC_n, wF24o1, F24p1, List.getD_cons_succ, Nat.add_zero, Option.getD_none, read_new, readO_c, Nat.reduceAdd, cLe, List.drop, List.take_succ_cons, List.take, if_true, mkAgg, Option.bind_some, Option.map_some, binI, iBne, wantedI_s, wantV_b, beq_self_eq_true, bne_self_eq_false, W_cond, condC_f, W_skip, wF24o3, F24p3, Nat.le_refl, iLtF, decide_false, iLt, decide_true, Bool.false_eq_true, if_false, condC_t, wF24o4, F24p4, W_ret, thenC_j, retC_r, unmark, leaveC_a, resultsOf, resultOf, valsC_a, tupled]; exact hR _
      · simp (disch := omega) only [F24b, F24, List.length_cons, List.length_nil, Nat.zero_add, Nat.reduceSub, undefs, List.cons_append, List.nil_append, W_seq, wF24o0, F24p0, W_segs_cons, freeI_s, W_op, wantedI_n, guardC_t, evalAll, IA.eval, List.getD_cons_zero, optC_s, argC_a, nextOf, lowOf, goC_a, opW, ev1, cellsV_agg, pairC_p, opC_a, Fr.put, List.set, W_ops_nil, segC_n, W_segs_nil, thenC_n, wF24o1, F24p1, List.getD_cons_succ, Nat.add_zero, Option.getD_none, read_new, readO_c, Nat.reduceAdd, cLe, List.drop, List.take_succ_cons, List.take, if_true, mkAgg, Option.bind_some, Option.map_some, binI, iBne, wantedI_s, wantV_b, beq_self_eq_true, W_cond, condC_t, wF24o2, F24p2, W_ret, thenC_j, retC_r, unmark, leaveC_a, resultsOf, resultOf, valsC_a, tupled]; exact hR _
end Go.Iso.Gen
end

section
namespace Go.Iso.Gen
open Go.Iso
set_option maxHeartbeats 1000000
set_option maxRecDepth 10000

theorem copiedId_sp {v : SV} {l : List Id} {H : Heap} {lo : Nat} {Q : Out → Heap → Prop} (hv : Sl H v l) (hl : l.length ≤ 1000000) (hlo : lo ≤ H.n)
    (h : ∀ H' b, Keep H.n H H' → H.n ≤ b → Own H' b 28 l.length l → Q (.val (SV.sl b 0 l.length l.length true).iv) H') : W E0 lo (.call 25 [v.iv]) H Q := by
  refine W.pure plain hlo ?_
  rw [c25]
  obtain ⟨H2, e1, e2, e3, e4⟩ := copy_new hv (z := 2) rfl 28 H.n [IV.int .u8 0, .int .i64 0] rfl (Nat.le_refl _)
  simp (disch := omega) only [F25b, F25, List.length_cons, List.length_nil, Nat.zero_add, Nat.reduceSub, undefs, List.cons_append, List.nil_append, W_seq, wF25o0, F25p0, W_segs_cons, freeI_s, W_op, wantedI_n, guardC_t, evalAll, IA.eval, optC_s, argC_a, nextOf, lowOf, goC_a, opW, ev1, pairC_p, opC_a, Fr.put, List.set, W_ops_nil, segC_n, W_segs_nil, thenC_n, wF25o1, F25p1, List.getD_cons_zero, List.getD_cons_succ, ↓hv.ln, iLe, Int.reducePow, and_true, Int.toNat_natCast, if_true, wF25o2, F25p2, ↓e1, wF25o3, F25p3, W_ret, retC_r, unmark, leaveC_a, resultsOf, resultOf, valsC_a, tupled]
  exact fun hk => h _ _ hk (Nat.le_refl _) e4

theorem copiedSt_sp {v : SV} {l : List SV} {H : Heap} {lo : Nat} {Q : Out → Heap → Prop} (hv : Sl H v l) (hl : l.length ≤ 1000000) (hlo : lo ≤ H.n)
    (h : ∀ H' b, Keep H.n H H' → H.n ≤ b → Own H' b 29 l.length l → Q (.val (SV.sl b 0 l.length l.length true).iv) H') : W E0 lo (.call 37 [v.iv]) H Q := by
  refine W.pure plain hlo ?_
  rw [c37]
  obtain ⟨H2, e1, e2, e3, e4⟩ := copy_new hv (z := 1) rfl 29 H.n [IV.nilSlice] rfl (Nat.le_refl _)
  simp (disch := omega) only [F37b, F37, List.length_cons, List.length_nil, Nat.zero_add, Nat.reduceSub, undefs, List.cons_append, List.nil_append, W_seq, wF37o0, F37p0, W_segs_cons, freeI_s, W_op, wantedI_n, guardC_t, evalAll, IA.eval, optC_s, argC_a, nextOf, lowOf, goC_a, opW, ev1, pairC_p, opC_a, Fr.put, List.set, W_ops_nil, segC_n, W_segs_nil, thenC_n, wF37o1, F37p1, List.getD_cons_zero, List.getD_cons_succ, ↓hv.ln, iLe, Int.reducePow, and_true, Int.toNat_natCast, if_true, wF37o2, F37p2, ↓e1, wF37o3, F37p3, W_ret, retC_r, unmark, leaveC_a, resultsOf, resultOf, valsC_a, tupled]
  exact fun hk => h _ _ hk (Nat.le_refl _) e4

end Go.Iso.Gen
end

section
namespace Go.Iso.Gen
open Go.Iso
set_option maxHeartbeats 1000000
set_option maxRecDepth 10000

theorem expl33 (tm : List IV) (h : tm.length = 33) : tm = [tm.getD 0 IV.undef, tm.getD 1 IV.undef, tm.getD 2 IV.undef, tm.getD 3 IV.undef, tm.getD 4 IV.undef, tm.getD 5 IV.undef, tm.getD 6 IV.undef, tm.getD 7 IV.undef, tm.getD 8 IV.undef, tm.getD 9 IV.undef, tm.getD 10 IV.undef, tm.getD 11 IV.undef, tm.getD 12 IV.undef, tm.getD 13 IV.undef, tm.getD 14 IV.undef, tm.getD 15 IV.undef, tm.getD 16 IV.undef, tm.getD 17 IV.undef, tm.getD 18 IV.undef, tm.getD 19 IV.undef, tm.getD 20 IV.undef, tm.getD 21 IV.undef, tm.getD 22 IV.undef, tm.getD 23 IV.undef, tm.getD 24 IV.undef, tm.getD 25 IV.undef, tm.getD 26 IV.undef, tm.getD 27 IV.undef, tm.getD 28 IV.undef, tm.getD 29 IV.undef, tm.getD 30 IV.undef, tm.getD 31 IV.undef, tm.getD 32 IV.undef] := (expl tm 33 h).trans rfl
theorem id_ne {a b : Id} (h : a ≠ b) : ((a.y == b.y) && (a.n == b.n)) = false := by
  cases a; cases b
  simp only [Bool.and_eq_false_iff, beq_eq_false_iff_ne, ne_eq]
  rw [← Decidable.not_and_iff_not_or_not]
  rintro ⟨rfl, rfl⟩
  exact h rfl
theorem id_eq (a : Id) : ((a.y == a.y) && (a.n == a.n)) = true := by simp

theorem same_sp {va vb : SV} {l m : List Id} {H : Heap} {lo : Nat} {Q : Out → Heap → Prop} (ha : Sl H va l) (ht : va.tight) (hb : Sl H vb m) (hl : l.length ≤ 1000000) (hm : m.length ≤ 1000000)
    (h : Q (.val (.int .i64 (if l = m then 1 else 0))) H) : W E0 lo (.call 20 [va.iv, vb.iv]) H Q := by
  rw [c20]
  by_cases hlen : l.length = m.length
  case neg =>
    have : l ≠ m := fun e => hlen (by rw [e])
    rw [if_neg this] at h
    simp (disch := omega) only [F20b, F20, List.length_cons, List.length_nil, Nat.zero_add, Nat.reduceAdd, Nat.reduceSub, undefs, List.cons_append, List.nil_append, W_seq, wF20o0, F20p0, W_segs_cons, freeI_s, W_op, wantedI_n, guardC_t, evalAll, IA.eval, optC_s, argC_a, nextOf, lowOf, goC_a, opW, ev1, pairC_p, opC_a, Fr.put, List.set, W_ops_nil, segC_n, W_segs_nil, thenC_n, wF20o1, F20p1, List.getD_cons_zero, List.getD_cons_succ, ↓ha.ln, ↓hb.ln, binI, iBne, if_true, Option.map_some, wantedI_s, wantV_b, bb_tf, guardC_f, W_cond, condC_t, wF20o2, F20p2, W_ret, thenC_j, retC_r, unmark, leaveC_a, resultsOf, resultOf, valsC_a, tupled]
    exact h
  simp (disch := omega) only [F20b, F20, List.length_cons, List.length_nil, Nat.zero_add, Nat.reduceAdd, Nat.reduceSub, undefs, List.cons_append, List.nil_append, W_seq, wF20o0, F20p0, W_segs_cons, freeI_s, W_op, wantedI_n, guardC_t, evalAll, IA.eval, optC_s, argC_a, nextOf, lowOf, goC_a, opW, ev1, pairC_p, opC_a, Fr.put, List.set, W_ops_nil, segC_n, W_segs_nil, thenC_n, wF20o1, F20p1, List.getD_cons_zero, List.getD_cons_succ, ↓ha.ln, ↓hb.ln, binI, iBneF, if_true, Option.map_some, wantedI_s, wantV_b, beq_self_eq_true, ↓ha.cap ht, bne_self_eq_false, Bool.false_eq_true, if_false, W_cond, condC_f, W_skip, wF20o3, F20p3, W_block]
  refine W_inv (fun k fr H' => ∃ i, i + k = l.length ∧ l.take i = m.take i ∧ H' = H ∧ fr.marks = [] ∧ fr.tm.length = 33 ∧ fr.tm.getD 0 IV.undef = va.iv ∧ fr.tm.getD 1 IV.undef = vb.iv ∧ fr.tm.getD 5 IV.undef = .int .i64 i) ?_ l.length ⟨0, by omega, rfl, rfl, rfl, rfl, rfl, rfl, rfl⟩
  rintro k ⟨tm, mk⟩ H' ⟨i, hi, hp, rfl, rfl, htm, h0, h1, h5⟩ L hN hJ
  rw [expl33 tm htm, h0, h1, h5]
  by_cases hil : i < l.length
  · have r1 := ha.read z_Id i hil
    have r2 := hb.read z_Id i (by omega)
    by_cases he : l[i] = m[i]'(by omega)
    · have : l.take (i + 1) = m.take (i + 1) := by rw [List.take_succ_eq_append_getElem hil, List.take_succ_eq_append_getElem (by omega), hp, he]
      simp (disch := omega) only [F20l8, W_seq, wF20o4, F20p4, W_segs_cons, freeI_s, W_op, wantedI_n, guardC_t, evalAll, IA.eval, List.getD_cons_succ, List.getD_cons_zero, optC_s, argC_a, nextOf, lowOf, goC_a, opW, ev1, pairC_p, opC_a, Fr.put, List.set, ↓ha.ln, binI, iLt, decide_true, if_true, Option.map_some, W_ops_nil, segC_n, W_segs_nil, thenC_n, W_cond, condC_t, W_skip, W_block, wF20o5, F20p5, freeI_f, freeNext, fpOf, pairOk, ne_eq, List.all_nil, Bool.false_eq_true, if_false, List.all_cons, Bool.or_true, Bool.and_self, ↓ha.idx, Int.toNat_natCast, Option.getD_some, r1, he, cs_Id, mkAgg, Option.bind_some, ↓hb.idx, r2, eqKs, eqK, beq_self_eq_true, bne_self_eq_false, condC_f, blkC_n, wF20o7, F20p7, wI64]
      exact hN (k - 1) _ _ (by omega) ⟨i + 1, by omega, this, rfl, rfl, rfl, rfl, rfl, rfl⟩
    · have hne := id_ne he
      have : l ≠ m := fun e => he (by subst e; rfl)
      rw [if_neg this] at h
      simp (disch := omega) only [F20l8, W_seq, wF20o4, F20p4, W_segs_cons, freeI_s, W_op, wantedI_n, guardC_t, evalAll, IA.eval, List.getD_cons_succ, List.getD_cons_zero, optC_s, argC_a, nextOf, lowOf, goC_a, opW, ev1, pairC_p, opC_a, Fr.put, List.set, ↓ha.ln, binI, iLt, decide_true, if_true, Option.map_some, W_ops_nil, segC_n, W_segs_nil, thenC_n, W_cond, condC_t, W_skip, W_block, wF20o5, F20p5, freeI_f, freeNext, fpOf, pairOk, ne_eq, List.all_nil, Bool.false_eq_true, if_false, List.all_cons, Bool.or_true, Bool.and_self, ↓ha.idx, Int.toNat_natCast, Option.getD_some, r1, cs_Id, mkAgg, Option.bind_some, ↓hb.idx, r2, eqKs, eqK, Bool.and_true, hne, Bool.bne_false, wF20o6, F20p6, W_ret, blkC_r, thenC_j, hJ, retC_r, unmark, leaveC_a, resultsOf, resultOf, valsC_a, tupled]
      exact h
  · have : l = m := by
      rw [List.take_of_length_le (by omega), List.take_of_length_le (by omega)] at hp; exact hp
    rw [if_pos this] at h
    simp (disch := omega) only [F20l8, W_seq, wF20o4, F20p4, W_segs_cons, freeI_s, W_op, wantedI_n, guardC_t, evalAll, IA.eval, List.getD_cons_succ, List.getD_cons_zero, optC_s, argC_a, nextOf, lowOf, goC_a, opW, ev1, pairC_p, opC_a, Fr.put, List.set, ↓ha.ln, binI, iLtF, decide_false, if_true, Option.map_some, W_ops_nil, segC_n, W_segs_nil, thenC_n, W_cond, condC_f, W_exit, thenC_j, hJ, blkC_e, wF20o9, F20p9, W_ret, retC_r, unmark, leaveC_a, resultsOf, resultOf, valsC_a, tupled]
    exact h
end Go.Iso.Gen
end

section
namespace Go.Iso.Gen
open Go.Iso
set_option maxHeartbeats 1000000
set_option maxRecDepth 10000

theorem expl20 (tm : List IV) (h : tm.length = 20) : tm = [tm.getD 0 IV.undef, tm.getD 1 IV.undef, tm.getD 2 IV.undef, tm.getD 3 IV.undef, tm.getD 4 IV.undef, tm.getD 5 IV.undef, tm.getD 6 IV.undef, tm.getD 7 IV.undef, tm.getD 8 IV.undef, tm.getD 9 IV.undef, tm.getD 10 IV.undef, tm.getD 11 IV.undef, tm.getD 12 IV.undef, tm.getD 13 IV.undef, tm.getD 14 IV.undef, tm.getD 15 IV.undef, tm.getD 16 IV.undef, tm.getD 17 IV.undef, tm.getD 18 IV.undef, tm.getD 19 IV.undef] := (expl tm 20 h).trans rfl
theorem short_sp {v : SV} {ls : List (List Id)} {H : Heap} {lo : Nat} {Q : Out → Heap → Prop} (hv : Sl2 H v ls) (hl : ls.length ≤ 1000000)
    (h : Q (.val (.int .i64 (shortN ls))) H) : W E0 lo (.call 31 [v.iv]) H Q := by
  rw [c31]
  simp (disch := omega) only [F31b, F31, List.length_cons, List.length_nil, Nat.zero_add, Nat.reduceSub, undefs, List.cons_append, List.nil_append, W_seq, wF31o0, F31p0, W_segs_cons, freeI_s, W_op, wantedI_n, guardC_t, evalAll, IA.eval, optC_s, argC_a, nextOf, lowOf, goC_a, opW, ev1, pairC_p, opC_a, Fr.put, List.set, W_ops_nil, segC_n, W_segs_nil, thenC_n, wF31o1, F31p1, List.getD_cons_zero, List.getD_cons_succ, ↓hv.ln, W_block]
  refine W_inv (fun k fr H' => k ≤ ls.length ∧ (∀ i (h : i < ls.length), k ≤ i → ls[i] = []) ∧ H' = H ∧ fr.marks = [] ∧ fr.tm.length = 20 ∧ fr.tm.getD 0 IV.undef = v.iv ∧ fr.tm.getD 3 IV.undef = .int .i64 k) ?_ ls.length ⟨by omega, fun i h1 h2 => by omega, rfl, rfl, rfl, rfl, rfl⟩
  rintro k ⟨tm, mk⟩ H' ⟨hk, hp, rfl, rfl, htm, h0, h3⟩ L hN hJ
  rw [expl20 tm htm, h0, h3]
  by_cases hk0 : k = 0
  · have : k = shortN ls := shortN_uniq hk hp (fun m _ h => by omega)
    subst hk0
    rw [← this] at h
    simp (disch := omega) only [F31l4, W_seq, wF31o2, F31p2, W_segs_cons, freeI_s, W_op, wantedI_n, guardC_t, evalAll, IA.eval, List.getD_cons_succ, List.getD_cons_zero, optC_s, argC_a, nextOf, lowOf, goC_a, opW, ev1, pairC_p, opC_a, Fr.put, List.set, binI, iLtF, decide_false, if_true, Option.map_some, wantedI_s, wantV_b, bb_ft, guardC_f, Bool.false_eq_true, if_false, W_ops_nil, segC_n, W_segs_nil, thenC_n, W_cond, condC_f, W_exit, thenC_j, hJ, blkC_e, wF31o5, F31p5, W_ret, retC_r, unmark, leaveC_a, resultsOf, resultOf, valsC_a, tupled]
    exact h
  · obtain ⟨w, r1, r2, r3⟩ := hv.elem (k - 1) (by omega)
    have hkk : ((k : Int) - 1).toNat = k - 1 := by omega
    by_cases he : ls[k - 1]'(by omega) = []
    · rw [he] at r2
      simp (disch := omega) only [F31l4, W_seq, wF31o2, F31p2, W_segs_cons, freeI_s, W_op, wantedI_n, guardC_t, evalAll, IA.eval, List.getD_cons_succ, List.getD_cons_zero, optC_s, argC_a, nextOf, lowOf, goC_a, opW, ev1, pairC_p, opC_a, Fr.put, List.set, binI, iLt, decide_true, if_true, Option.map_some, wantedI_s, wantV_b, beq_self_eq_true, wI64, ↓hv.idx, hkk, Option.getD_none, r1, mkAgg, Option.bind_some, ↓r2.ln, List.length_nil, iBeq, W_ops_nil, segC_n, W_segs_nil, thenC_n, W_cond, condC_t, W_skip, W_block, wF31o3, F31p3, blkC_n]
      refine hN (k - 1) _ _ (by omega) ⟨by omega, fun i h1 h2 => ?_, rfl, rfl, rfl, rfl, by simp; omega⟩
      by_cases hik : i = k - 1
      · subst hik; exact he
      · exact hp i h1 (by omega)
    · have : k = shortN ls := shortN_uniq hk hp (fun m hm h => by have : m = k - 1 := by omega
                                                                  subst this; exact he)
      have hpos : 0 < (ls[k - 1]'(by omega)).length := List.length_pos_iff.2 he
      rw [← this] at h
      simp (disch := omega) only [F31l4, W_seq, wF31o2, F31p2, W_segs_cons, freeI_s, W_op, wantedI_n, guardC_t, evalAll, IA.eval, List.getD_cons_succ, List.getD_cons_zero, optC_s, argC_a, nextOf, lowOf, goC_a, opW, ev1, pairC_p, opC_a, Fr.put, List.set, binI, iLt, decide_true, if_true, Option.map_some, wantedI_s, wantV_b, beq_self_eq_true, wI64, ↓hv.idx, hkk, Option.getD_none, r1, mkAgg, Option.bind_some, ↓r2.ln, iBeqF, W_ops_nil, segC_n, W_segs_nil, thenC_n, W_cond, condC_f, W_exit, thenC_j, hJ, blkC_e, wF31o5, F31p5, W_ret, retC_r, unmark, leaveC_a, resultsOf, resultOf, valsC_a, tupled]
      exact h

/-- What a needle holds. -/
def atL (fs bs : List (List Id)) (bed at_ : Int) : List Id := if needleE bed at_ = 0 then ((if bed = 1 then bs else fs)[(at_ - 1).toNat]?).getD [] else []

/-- The beds' value. -/
def bv (f b : SV) : IV := .agg [f.iv, b.iv]

theorem at_sp {f b : SV} {fs bs : List (List Id)} (bed at_ : Int) {H : Heap} {lo : Nat} {Q : Out → Heap → Prop} (hf : Sl2 H f fs) (hb : Sl2 H b bs) (hl : ∀ l ∈ fs, l.length ≤ 1000000) (hl' : ∀ l ∈ bs, l.length ≤ 1000000) (hlo : lo ≤ H.n)
    (h : ∀ H' v, Keep H.n H H' → Fresh H.n H' 28 v (atL fs bs bed at_) → Q (.val v.iv) H') : W E0 lo (.call 12 [bv f b, .agg [.int .u8 bed, .int .i64 at_]]) H Q := by
  refine W.pure plain hlo ?_
  rw [c12]
  simp (disch := omega) only [F12b, bv, F12, List.length_cons, List.length_nil, Nat.zero_add, Nat.reduceAdd, Nat.reduceSub, undefs, List.cons_append, List.nil_append, W_seq, wF12o0, F12p0, W_segs_cons, freeI_s, W_op, wantedI_n, guardC_t, evalAll, IA.eval, List.getD_cons_zero, optC_s, argC_a, nextOf, lowOf, goC_a, opW, ev1, cellsV_agg, pairC_p, opC_a, Fr.put, List.set, List.getD_cons_succ, Heap.n_new, W_ops_nil, segC_n, W_segs_nil, thenC_n, wF12o1, F12p1, Option.getD_some, read_new, readO_c, Nat.le_refl, List.drop, List.take_succ_cons, List.take, if_true, cEqR, if_false, mkAgg, Option.map_some, Option.bind_some, W_apply, List.append_nil]
  refine ncheck_sp bed at_ (by simp only [Heap.n_new]; omega) fun H1 k1 => ?_
  have hn1 := k1.1
  simp only [Heap.n_new] at hn1
  have kr := k1.read
  have kk : Keep H.n H H1 := ((Keep.new _ _).trans (Keep.new _ _)).trans (k1.lower (by simp only [Heap.n_new]; omega))
  simp only [Heap.n_new] at kr
  unfold needleE
  by_cases hv : (bed = 0 ∨ bed = 1) ∧ 1 ≤ at_ ∧ at_ ≤ 40
  case neg =>
    rw [if_neg hv]
    simp (disch := omega) only [valC_v, opC_a, Fr.put, List.set, W_op, wantedI_n, guardC_t, evalAll, IA.eval, List.getD_cons_succ, List.getD_cons_zero, optC_s, argC_a, nextOf, lowOf, goC_a, opW, ev1, binI, iBne, if_true, Option.map_some, pairC_p, W_ops_nil, segC_n, W_segs_nil, thenC_n, W_cond, condC_t, W_seq, wF12o2, F12p2, W_segs_cons, freeI_s, W_ret, thenC_j, retC_r, unmark, leaveC_a, resultsOf, resultOf, valsC_a, tupled]
    exact fun hk => h _ .nil hk (.inl ⟨rfl, by simp [atL, needleE, hv]⟩)
  rw [if_pos hv]
  have hat : atL fs bs bed at_ = ((if bed = 1 then bs else fs)[(at_ - 1).toNat]?).getD [] := by simp [atL, needleE, hv]
  rw [hat] at h
  obtain ⟨hbed, h1, h2⟩ := hv
  have hat1 : (at_ - 1).toNat + 1 = at_.toNat := by omega
  rcases hbed with rfl | rfl
  · simp only [Int.reduceEq, if_false] at h
    by_cases hin : at_ > fs.length
    · have : fs[(at_ - 1).toNat]? = none := List.getElem?_eq_none (by omega)
      rw [this] at h
      simp (disch := omega) only [valC_v, opC_a, Fr.put, List.set, W_op, wantedI_n, guardC_t, evalAll, IA.eval, List.getD_cons_succ, List.getD_cons_zero, optC_s, argC_a, nextOf, lowOf, goC_a, opW, ev1, binI, bne_self_eq_false, if_true, Option.map_some, pairC_p, W_ops_nil, segC_n, W_segs_nil, thenC_n, W_cond, condC_f, W_skip, W_seq, wF12o3, F12p3, W_segs_cons, freeI_s, Nat.add_zero, Option.getD_none, kr, read_new, Heap.n_new, cEqL, readO_c, Nat.zero_add, List.length_cons, List.length_nil, Nat.reduceAdd, cLe, List.drop, List.take_succ_cons, List.take, if_false, mkAgg, Option.bind_some, wF12o4, F12p4, cEqR, iBeqF, wF12o6, F12p6, Nat.le_refl, ↓hf.ln, iLt, decide_true, condC_t, wF12o7, F12p7, W_ret, thenC_j, retC_r, unmark, leaveC_a, resultsOf, resultOf, valsC_a, tupled]
      exact fun hk => h _ .nil hk (.inl ⟨rfl, rfl⟩)
    · have hlt : (at_ - 1).toNat < fs.length := by omega
      rw [List.getElem?_eq_getElem hlt, Option.getD_some] at h
      obtain ⟨w, r1, r2, r3⟩ := (hf.keep kk).elem _ hlt
      simp (disch := omega) only [valC_v, opC_a, Fr.put, List.set, W_op, wantedI_n, guardC_t, evalAll, IA.eval, List.getD_cons_succ, List.getD_cons_zero, optC_s, argC_a, nextOf, lowOf, goC_a, opW, ev1, binI, bne_self_eq_false, if_true, Option.map_some, pairC_p, W_ops_nil, segC_n, W_segs_nil, thenC_n, W_cond, condC_f, W_skip, W_seq, wF12o3, F12p3, W_segs_cons, freeI_s, Nat.add_zero, Option.getD_none, kr, read_new, Heap.n_new, cEqL, readO_c, Nat.zero_add, List.length_cons, List.length_nil, Nat.reduceAdd, cLe, List.drop, List.take_succ_cons, List.take, if_false, mkAgg, Option.bind_some, wF12o4, F12p4, cEqR, iBeqF, wF12o6, F12p6, Nat.le_refl, ↓hf.ln, iLtF, decide_false, wF12o8, F12p8, wI64, ↓hf.idx, r1, W_apply, List.nil_append, List.append_nil]
      refine copiedId_sp r2 (hl _ (List.getElem_mem _)) (by omega) fun H2 c k2 hc ho => ?_
      simp (disch := omega) only [SV.sl_iv, valC_v, opC_a, Fr.put, List.set, W_op, wantedI_n, guardC_t, evalAll, IA.eval, List.getD_cons_succ, List.getD_cons_zero, optC_s, argC_a, nextOf, lowOf, goC_a, opW, ev1, pairC_p, W_ops_nil, segC_n, W_segs_nil, thenC_n, W_ret, retC_r, unmark, leaveC_a, resultsOf, resultOf, valsC_a, tupled]
      exact fun hk => h _ _ hk (.inr ⟨c, rfl, by omega, ho⟩)
  · simp only [if_true] at h
    by_cases hin : at_ > bs.length
    · have : bs[(at_ - 1).toNat]? = none := List.getElem?_eq_none (by omega)
      rw [this] at h
      simp (disch := omega) only [valC_v, opC_a, Fr.put, List.set, W_op, wantedI_n, guardC_t, evalAll, IA.eval, List.getD_cons_succ, List.getD_cons_zero, optC_s, argC_a, nextOf, lowOf, goC_a, opW, ev1, binI, bne_self_eq_false, if_true, Option.map_some, pairC_p, W_ops_nil, segC_n, W_segs_nil, thenC_n, W_cond, condC_f, W_skip, W_seq, wF12o3, F12p3, W_segs_cons, freeI_s, Nat.add_zero, Option.getD_none, kr, read_new, Heap.n_new, cEqL, readO_c, Nat.zero_add, List.length_cons, List.length_nil, Nat.reduceAdd, cLe, List.drop, List.take_succ_cons, List.take, if_false, mkAgg, Option.bind_some, wF12o4, F12p4, cEqR, beq_self_eq_true, condC_t, wF12o5, F12p5, Nat.le_refl, wF12o6, F12p6, ↓hb.ln, iLt, decide_true, wF12o7, F12p7, W_ret, thenC_j, retC_r, unmark, leaveC_a, resultsOf, resultOf, valsC_a, tupled]
      exact fun hk => h _ .nil hk (.inl ⟨rfl, rfl⟩)
    · have hlt : (at_ - 1).toNat < bs.length := by omega
      rw [List.getElem?_eq_getElem hlt, Option.getD_some] at h
      obtain ⟨w, r1, r2, r3⟩ := (hb.keep kk).elem _ hlt
      simp (disch := omega) only [valC_v, opC_a, Fr.put, List.set, W_op, wantedI_n, guardC_t, evalAll, IA.eval, List.getD_cons_succ, List.getD_cons_zero, optC_s, argC_a, nextOf, lowOf, goC_a, opW, ev1, binI, bne_self_eq_false, if_true, Option.map_some, pairC_p, W_ops_nil, segC_n, W_segs_nil, thenC_n, W_cond, condC_f, W_skip, W_seq, wF12o3, F12p3, W_segs_cons, freeI_s, Nat.add_zero, Option.getD_none, kr, read_new, Heap.n_new, cEqL, readO_c, Nat.zero_add, List.length_cons, List.length_nil, Nat.reduceAdd, cLe, List.drop, List.take_succ_cons, List.take, if_false, mkAgg, Option.bind_some, wF12o4, F12p4, cEqR, beq_self_eq_true, condC_t, wF12o5, F12p5, Nat.le_refl, wF12o6, F12p6, ↓hb.ln, iLtF, decide_false, wF12o8, F12p8, wI64, ↓hb.idx, r1, W_apply, List.nil_append, List.append_nil]
      refine copiedId_sp r2 (hl' _ (List.getElem_mem _)) (by omega) fun H2 c k2 hc ho => ?_
      simp (disch := omega) only [SV.sl_iv, valC_v, opC_a, Fr.put, List.set, W_op, wantedI_n, guardC_t, evalAll, IA.eval, List.getD_cons_succ, List.getD_cons_zero, optC_s, argC_a, nextOf, lowOf, goC_a, opW, ev1, pairC_p, W_ops_nil, segC_n, W_segs_nil, thenC_n, W_ret, retC_r, unmark, leaveC_a, resultsOf, resultOf, valsC_a, tupled]
      exact fun hk => h _ _ hk (.inr ⟨c, rfl, by omega, ho⟩)
end Go.Iso.Gen
end

section
namespace Go.Iso.Gen
open Go.Iso
set_option maxHeartbeats 1000000
set_option maxRecDepth 10000

theorem expl29 (tm : List IV) (h : tm.length = 29) : tm = [tm.getD 0 IV.undef, tm.getD 1 IV.undef, tm.getD 2 IV.undef, tm.getD 3 IV.undef, tm.getD 4 IV.undef, tm.getD 5 IV.undef, tm.getD 6 IV.undef, tm.getD 7 IV.undef, tm.getD 8 IV.undef, tm.getD 9 IV.undef, tm.getD 10 IV.undef, tm.getD 11 IV.undef, tm.getD 12 IV.undef, tm.getD 13 IV.undef, tm.getD 14 IV.undef, tm.getD 15 IV.undef, tm.getD 16 IV.undef, tm.getD 17 IV.undef, tm.getD 18 IV.undef, tm.getD 19 IV.undef, tm.getD 20 IV.undef, tm.getD 21 IV.undef, tm.getD 22 IV.undef, tm.getD 23 IV.undef, tm.getD 24 IV.undef, tm.getD 25 IV.undef, tm.getD 26 IV.undef, tm.getD 27 IV.undef, tm.getD 28 IV.undef] := (expl tm 29 h).trans rfl
/-- The loop of needled over one bed, whatever is done at each stack. -/
theorem needled_loop {v : SV} {ls : List (List Id)} {yb l1 lo : Nat} {bed : Int} {rd : Option Nat} {mk : List Nat} {Q : Out → Heap → Prop} (P : Nat → Heap → Prop) (D : Heap → Prop) (hls : ls.length ≤ 1000000)
    (hP : ∀ i H', P i H' → Sl2 H' v ls ∧ H'.read yb 0 1 = some [.yield l1])
    (step : ∀ i w H', (hi : i < ls.length) → i < 40 → P i H' → Sl H' w ls[i] → ∀ K : Out → Heap → Prop, (∀ H'', P (i + 1) H'' → K (.val (.bool true)) H'') → (∀ H'', D H'' → K (.val (.bool false)) H'') → W E0 lo (.apply (.yield l1) [.agg [.int .u8 bed, .int .i64 ((i : Int) + 1)], w.iv]) H' K)
    {H : Heap} {tm : List IV} (h0 : P 0 H) (htm : tm.length = 29) (t2 : tm.getD 2 IV.undef = .ptr yb 0) (t3 : tm.getD 3 IV.undef = .int .u8 bed) (t11 : tm.getD 11 IV.undef = v.iv) (t12 : tm.getD 12 IV.undef = .int .i64 ls.length) (t13 : tm.getD 13 IV.undef = .int .i64 0)
    (hQ : ∀ H' tm', P (min ls.length 40) H' → Q (.ex (.jmp (.exit 2)) ⟨tm', mk⟩) H') (hD : ∀ H' tm', D H' → Q (.ex (.jmp .ret) ⟨tm', mk⟩) H') : W E0 lo (.code (.loop F34l10) rd ⟨tm, mk⟩) H Q := by
  refine W_inv (fun k fr H' => ∃ i, i + k = ls.length ∧ i ≤ 40 ∧ P i H' ∧ fr.marks = mk ∧ fr.tm.length = 29 ∧ fr.tm.getD 2 IV.undef = .ptr yb 0 ∧ fr.tm.getD 3 IV.undef = .int .u8 bed ∧ fr.tm.getD 11 IV.undef = v.iv ∧ fr.tm.getD 12 IV.undef = .int .i64 ls.length ∧ fr.tm.getD 13 IV.undef = .int .i64 i) ?_ ls.length ⟨0, by omega, by omega, h0, rfl, htm, t2, t3, t11, t12, t13⟩
  rintro k ⟨tm, mk⟩ H' ⟨i, hi, h40, hp, rfl, htm, t2, t3, t11, t12, t13⟩ L hN hJ
  rw [expl29 tm htm, t2, t3, t11, t12, t13]
  obtain ⟨hv, hy⟩ := hP i H' hp
  by_cases hil : i < ls.length
  · obtain ⟨w, r1, r2, r3⟩ := hv.elem i hil
    by_cases h4 : i < 40
    · simp (disch := omega) only [F34l10, W_seq, wF34o5, F34p5, W_segs_cons, freeI_s, W_op, wantedI_n, guardC_t, evalAll, IA.eval, List.getD_cons_succ, List.getD_cons_zero, optC_s, argC_a, nextOf, lowOf, goC_a, opW, ev1, binI, iLt, decide_true, if_true, Option.map_some, pairC_p, opC_a, Fr.put, List.set, W_ops_nil, segC_n, W_segs_nil, thenC_n, W_cond, condC_t, W_skip, W_block, wF34o6, F34p6, ↓hv.idx, Int.toNat_natCast, Option.getD_none, r1, mkAgg, Option.bind_some, wF34o7, F34p7, iLeF, decide_false, condC_f, wF34o8, F34p8, hy, wI64, fillI, cellsV_int, List.length_cons, List.length_nil, Nat.zero_add, Nat.reduceAdd, cLe, and_true, splice, Nat.le_refl, W_yield0]
      rw [← W_yield0]
      refine step i w H' hil h4 hp r2 _ (fun H'' h'' => ?_) (fun H'' h'' => ?_)
      · simp (disch := omega) only [valC_v, opC_a, Fr.put, List.set, W_op, wantedI_n, guardC_t, evalAll, IA.eval, List.getD_cons_succ, List.getD_cons_zero, optC_s, argC_a, nextOf, lowOf, goC_a, opW, ev1, unI, Bool.not_true, Option.map_some, pairC_p, W_ops_nil, segC_n, W_segs_nil, thenC_n, W_cond, condC_f, W_skip, blkC_n, wF34o9, F34p9, W_segs_cons, freeI_s, binI, wI64, if_true]
        exact hN (k - 1) _ _ (by omega) ⟨i + 1, by omega, by omega, h'', rfl, rfl, rfl, rfl, rfl, rfl, rfl⟩
      · simp (disch := omega) only [valC_v, opC_a, Fr.put, List.set, W_op, wantedI_n, guardC_t, evalAll, IA.eval, List.getD_cons_succ, List.getD_cons_zero, optC_s, argC_a, nextOf, lowOf, goC_a, opW, ev1, unI, Bool.not_false, Option.map_some, pairC_p, W_ops_nil, segC_n, W_segs_nil, thenC_n, W_cond, condC_t, W_ret, blkC_r, thenC_j, hJ]
        exact hD _ _ h''
    · simp (disch := omega) only [F34l10, W_seq, wF34o5, F34p5, W_segs_cons, freeI_s, W_op, wantedI_n, guardC_t, evalAll, IA.eval, List.getD_cons_succ, List.getD_cons_zero, optC_s, argC_a, nextOf, lowOf, goC_a, opW, ev1, binI, iLt, decide_true, if_true, Option.map_some, pairC_p, opC_a, Fr.put, List.set, W_ops_nil, segC_n, W_segs_nil, thenC_n, W_cond, condC_t, W_skip, W_block, wF34o6, F34p6, ↓hv.idx, Int.toNat_natCast, Option.getD_none, r1, mkAgg, Option.bind_some, wF34o7, F34p7, iLe, W_exit, thenC_j, blkC_e, cEqR, wF34o9, F34p9, wI64, hJ, if_false]
      refine hQ _ _ ?_
      rw [show min ls.length 40 = i from by omega]
      exact hp
  · simp (disch := omega) only [F34l10, W_seq, wF34o5, F34p5, W_segs_cons, freeI_s, W_op, wantedI_n, guardC_t, evalAll, IA.eval, List.getD_cons_succ, List.getD_cons_zero, optC_s, argC_a, nextOf, lowOf, goC_a, opW, ev1, binI, iLtF, decide_false, if_true, Option.map_some, pairC_p, opC_a, Fr.put, List.set, W_ops_nil, segC_n, W_segs_nil, thenC_n, W_cond, condC_f, W_exit, thenC_j, hJ]
    refine hQ _ _ ?_
    rw [show min ls.length 40 = i from by omega]
    exact hp

def lens (ls : List (List Id)) : Nat := (ls.map List.length).sum
theorem lens_take (ls : List (List Id)) (i : Nat) (h : i < ls.length) : lens (ls.take (i + 1)) = lens (ls.take i) + ls[i].length := by
  unfold lens
  rw [List.take_succ_eq_append_getElem h, List.map_append, List.sum_append]
  simp
theorem lens_le (ls : List (List Id)) (m : Nat) (hm : ∀ l ∈ ls, l.length ≤ m) (i : Nat) : lens (ls.take i) ≤ i * m := by
  induction i with
  | zero => simp [lens]
  | succ i ih =>
    by_cases h : i < ls.length
    · rw [lens_take ls i h, Nat.succ_mul]
      have := hm ls[i] (List.getElem_mem h)
      omega
    · rw [List.take_of_length_le (by omega)]
      rw [List.take_of_length_le (by omega)] at ih
      rw [Nat.succ_mul]; omega

end Go.Iso.Gen
end

section
namespace Go.Iso.Gen
open Go.Iso
set_option maxHeartbeats 1000000
set_option maxRecDepth 10000

/-- A visit of all stacks. P: what holds behind so many stacks of the front bed (0) or the back bed (1); D: what holds when the visit is broken off. -/
theorem needled_W {f b : SV} {fs bs : List (List Id)} {H : Heap} {lo l1 nb : Nat} {R : Out → Heap → Prop} (P : Nat → Nat → Heap → Prop) (D : Heap → Prop) (hlo : lo ≤ H.n) (hlf : fs.length ≤ 1000000) (hlb : bs.length ≤ 1000000)
    (hnb : nb < H.n) (hg : H.read nb 0 2 = some [f.iv, b.iv])
    (hPs : ∀ c i H' H'', P c i H' → H'.n ≤ H''.n → (∀ x, x < H.n → H''.get x = H'.get x) → P c i H'')
    (hDs : ∀ H' H'', D H' → H'.n ≤ H''.n → (∀ x, x < H.n → H''.get x = H'.get x) → D H'')
    (hPd : ∀ c i H', P c i H' → Sl2 H' f fs ∧ Sl2 H' b bs)
    (step0 : ∀ i w H', (hi : i < fs.length) → i < 40 → H.n ≤ H'.n → P 0 i H' → Sl H' w fs[i] → ∀ K : Out → Heap → Prop, (∀ H'', P 0 (i + 1) H'' → H'.n ≤ H''.n → (∀ x, H.n ≤ x → x < H'.n → H''.get x = H'.get x) → K (.val (.bool true)) H'') → (∀ H'', D H'' → H'.n ≤ H''.n → (∀ x, H.n ≤ x → x < H'.n → H''.get x = H'.get x) → K (.val (.bool false)) H'') → W E0 lo (.apply (.yield l1) [.agg [.int .u8 0, .int .i64 ((i : Int) + 1)], w.iv]) H' K)
    (step1 : ∀ i w H', (hi : i < bs.length) → i < 40 → H.n ≤ H'.n → P 1 i H' → Sl H' w bs[i] → ∀ K : Out → Heap → Prop, (∀ H'', P 1 (i + 1) H'' → H'.n ≤ H''.n → (∀ x, H.n ≤ x → x < H'.n → H''.get x = H'.get x) → K (.val (.bool true)) H'') → (∀ H'', D H'' → H'.n ≤ H''.n → (∀ x, H.n ≤ x → x < H'.n → H''.get x = H'.get x) → K (.val (.bool false)) H'') → W E0 lo (.apply (.yield l1) [.agg [.int .u8 1, .int .i64 ((i : Int) + 1)], w.iv]) H' K)
    (h0 : P 0 0 H) (h01 : ∀ H', P 0 (min fs.length 40) H' → P 1 0 H')
    (hQ : ∀ H', P 1 (min bs.length 40) H' → H.n ≤ H'.n → R (.val (.tuple [])) H') (hD : ∀ H', D H' → H.n ≤ H'.n → R (.val (.tuple [])) H') : W E0 lo (.call 34 [.yield l1, .ptr nb 0]) H R := by
  rw [c34]
  obtain ⟨hf, hb⟩ := hPd 0 0 H h0
  simp (disch := omega) only [F34b, F34, List.length_cons, List.length_nil, Nat.zero_add, Nat.reduceAdd, Nat.reduceSub, undefs, List.cons_append, List.nil_append, W_seq, wF34o0, F34p0, W_segs_cons, freeI_s, W_op, wantedI_n, guardC_t, evalAll, IA.eval, List.getD_cons_zero, optC_s, argC_a, nextOf, lowOf, goC_a, opW, ev1, cellsV_yield, pairC_p, opC_a, Fr.put, List.set, W_ops_nil, segC_n, W_segs_nil, thenC_n, wF34o1, F34p1, List.getD_cons_succ, Option.getD_some, read_new, cEqL, readO_c, cLeF, List.drop, List.take_succ_cons, List.take, if_false, hg, mkAgg, Option.map_some, Option.bind_some, W_apply, List.append_nil, c22, F22b, F22, wF22o0, F22p0, Heap.n_new, cellsV_agg, wF22o1, F22p1, W_ret, retC_r, unmark, leaveC_a, resultsOf, resultOf, valsC_a, tupled, valC_v, W_block, W_rfn0, Nat.add_assoc, c33, F33b, F33, wF33o0, F33p0, Nat.add_zero, Option.getD_none, cLe, if_true, cEqR, Nat.le_refl, W_yield0, Heap.get_new, yieldE_l, setAll, wF34o2, F34p2, wF34o3, F34p3, readyC_n, readyE_l, wF34o4, F34p4, ↓hf.ln, true_and]
  generalize hH1 : Heap.put _ _ _ = H1
  have hn1 : H1.n = H.n + 4 := by rw [← hH1]; rfl
  have g0 := congrArg (fun h0 => Heap.get h0 (H.n)) hH1.symm
  simp (disch := omega) only [Heap.get_put, cEqL, Heap.get_new, Heap.n_new, Nat.add_assoc, Nat.reduceAdd, if_true, if_false] at g0
  have g1 := congrArg (fun h0 => Heap.get h0 (H.n + 1)) hH1.symm
  simp (disch := omega) only [Heap.get_put, cEqL, Heap.get_new, Heap.n_new, Nat.add_assoc, Nat.reduceAdd, cEqR, if_false, if_true] at g1
  have g2 := congrArg (fun h0 => Heap.get h0 (H.n + 2)) hH1.symm
  simp (disch := omega) only [Heap.get_put, cEqL, Heap.get_new, Heap.n_new, Nat.add_assoc, Nat.reduceAdd, cEqR, if_false, if_true] at g2
  have g3 := congrArg (fun h0 => Heap.get h0 (H.n + 3)) hH1.symm
  simp (disch := omega) only [Heap.get_put, Heap.get_new, Heap.n_new, Nat.add_assoc, Nat.reduceAdd, cEqR, if_false, if_true] at g3
  have k1 : ∀ x, x < H.n → H1.get x = H.get x := fun x hx => by
    have gx := congrArg (fun h0 => Heap.get h0 x) hH1.symm
    simp (disch := omega) only [Heap.get_put, cEqL, Heap.get_new, Heap.n_new, Nat.add_assoc, Nat.reduceAdd, if_false] at gx
    exact gx
  clear hH1
  refine needled_loop (yb := H.n) (l1 := l1) (fun i H' => P 0 i H' ∧ H1.n ≤ H'.n ∧ ∀ x, H.n ≤ x → x < H1.n → H'.get x = H1.get x) (fun H' => D H' ∧ H1.n ≤ H'.n ∧ ∀ x, H.n ≤ x → x < H1.n → H'.get x = H1.get x) hlf (fun i H' hp => ⟨(hPd 0 i H' hp.1).1, by rw [read_get ((hp.2.2 H.n (by omega) (by omega)).trans g0)]; rfl⟩) ?_ ⟨hPs 0 0 H H1 h0 (by omega) k1, Nat.le_refl _, fun _ _ _ => rfl⟩ rfl rfl rfl rfl rfl rfl ?_ ?_
  · intro i w H' hi h4 hp hw K hK hK'
    refine step0 i w H' hi h4 (by omega) hp.1 hw K (fun H'' a1 a2 a3 => hK H'' ⟨a1, by omega, fun x b1 b2 => (a3 x b1 (by omega)).trans (hp.2.2 x b1 b2)⟩) (fun H'' a1 a2 a3 => hK' H'' ⟨a1, by omega, fun x b1 b2 => (a3 x b1 (by omega)).trans (hp.2.2 x b1 b2)⟩)
  · rintro H2 tm' ⟨hp2, hn2, hk2⟩
    have f0 := (hk2 _ (by omega) (by omega)).trans g0
    have f1 := (hk2 _ (by omega) (by omega)).trans g1
    have f2 := (hk2 _ (by omega) (by omega)).trans g2
    have f3 := (hk2 _ (by omega) (by omega)).trans g3
    have r1 := read_get f1
    simp (disch := omega) only [blkC_e, blkC_n, turnC_e, f3, turnE_n, valC_v, opC_a, Fr.put, List.set, W_ops_nil, segC_n, W_segs_nil, thenC_n, W_cond, IA.eval, List.getD_cons_succ, List.getD_cons_zero, optC_s, condC_t, wF33o1, F33p1, W_segs_cons, freeI_s, W_op, wantedI_n, guardC_t, evalAll, argC_a, nextOf, lowOf, goC_a, opW, ev1, pairC_p, Nat.zero_add, Option.getD_none, read_put, cEqL, r1, Nat.reduceAdd, List.length_cons, List.length_nil, Nat.le_refl, List.drop, List.take_succ_cons, List.take, if_true, if_false, mkAgg, Option.bind_some, Option.map_some, W_yield0, Heap.get_put, yieldE_l, cLe, setAll, W_seq, wF34o2, F34p2, wF34o3, F34p3, readyC_n, readyE_l, W_block, wF34o4, F34p4, ↓hb.ln, true_and, turnE_j, condC_f, W_skip, retC_n, unmark, leaveC_a, resultsOf, valsC_a, tupled, rfnC_v, rfnE_l, ne_eq, reduceCtorEq, not_false_eq_true, pendX_s, List.append_nil]
    generalize hH3 : Heap.put _ _ _ = H3
    have hn3 : H3.n = H2.n := by rw [← hH3]; rfl
    have k3 : ∀ x, x ≠ H.n + 3 → H3.get x = H2.get x := fun x hx => by
      rw [← hH3, Heap.get_put, if_neg (Ne.symm hx), Heap.get_put, if_neg (Ne.symm hx)]
    have e3 := congrArg (fun h0 => Heap.get h0 (H.n + 3)) hH3.symm
    simp (disch := omega) only [Heap.get_put, if_true] at e3
    have e0 := (k3 H.n (by omega)).trans f0
    have e1 := (k3 (H.n + 1) (by omega)).trans f1
    have e2 := (k3 (H.n + 2) (by omega)).trans f2
    clear hH3 f0 f1 f2 f3 r1
    refine needled_loop (yb := H.n) (l1 := l1) (fun i H' => P 1 i H' ∧ H3.n ≤ H'.n ∧ ∀ x, H.n ≤ x → x < H3.n → H'.get x = H3.get x) (fun H' => D H' ∧ H3.n ≤ H'.n ∧ ∀ x, H.n ≤ x → x < H3.n → H'.get x = H3.get x) hlb (fun i H' hp => ⟨(hPd 1 i H' hp.1).2, by rw [read_get ((hp.2.2 H.n (by omega) (by omega)).trans e0)]; rfl⟩) ?_ ⟨hPs 1 0 H2 H3 (h01 H2 hp2) (by omega) (fun x hx => k3 x (by omega)), Nat.le_refl _, fun _ _ _ => rfl⟩ rfl rfl rfl rfl rfl rfl ?_ ?_
    · intro i w H' hi h4 hp hw K hK hK'
      refine step1 i w H' hi h4 (by omega) hp.1 hw K (fun H'' a1 a2 a3 => hK H'' ⟨a1, by omega, fun x b1 b2 => (a3 x b1 (by omega)).trans (hp.2.2 x b1 b2)⟩) (fun H'' a1 a2 a3 => hK' H'' ⟨a1, by omega, fun x b1 b2 => (a3 x b1 (by omega)).trans (hp.2.2 x b1 b2)⟩)
    · rintro H4 tm4 ⟨hp4, hn4, hk4⟩
      have f2 := (hk4 _ (by omega) (by omega)).trans e2
      have f3 := (hk4 _ (by omega) (by omega)).trans e3
      simp (disch := omega) only [blkC_e, blkC_n, turnC_e, f3, turnE_n, valC_v, opC_a, Fr.put, List.set, W_ops_nil, segC_n, W_segs_nil, retC_n, unmark, optC_s, leaveC_a, resultsOf, valsC_a, tupled, rfnC_v, Heap.get_put, if_true, rfnE_l, ne_eq, reduceCtorEq, not_false_eq_true, cLe, pendX_n, List.append_nil, cEqL, f2, if_false, true_and, turnE_j, pendX_s]
      refine hQ _ (hPs 1 _ H4 _ hp4 (Nat.le_refl _) fun x hx => ?_) (by simp only [Heap.n_put]; omega)
      simp (disch := omega) only [Heap.get_put, cEqL, if_false]
    · rintro H4 tm4 ⟨hp4, hn4, hk4⟩
      have f2 := (hk4 _ (by omega) (by omega)).trans e2
      have f3 := (hk4 _ (by omega) (by omega)).trans e3
      simp (disch := omega) only [blkC_r, turnC_e, f3, turnE_j, valC_v, opC_a, Fr.put, List.set, W_ops_nil, segC_n, W_segs_nil, retC_n, unmark, optC_s, leaveC_a, resultsOf, valsC_a, tupled, rfnC_v, Heap.get_put, if_true, rfnE_l, ne_eq, reduceCtorEq, not_false_eq_true, cLe, pendX_s, List.append_nil, retC_r, cEqL, f2, if_false, true_and]
      refine hD _ (hDs H4 _ hp4 (Nat.le_refl _) fun x hx => ?_) (by simp only [Heap.n_put]; omega)
      simp (disch := omega) only [Heap.get_put, cEqL, if_false]
  · rintro H2 tm' ⟨hp2, hn2, hk2⟩
    have f2 := (hk2 _ (by omega) (by omega)).trans g2
    have f3 := (hk2 _ (by omega) (by omega)).trans g3
    simp (disch := omega) only [blkC_r, turnC_e, f3, turnE_j, valC_v, opC_a, Fr.put, List.set, W_ops_nil, segC_n, W_segs_nil, thenC_n, W_cond, IA.eval, List.getD_cons_succ, List.getD_cons_zero, optC_s, condC_f, W_skip, retC_n, unmark, leaveC_a, resultsOf, valsC_a, tupled, rfnC_v, Heap.get_put, if_true, rfnE_l, ne_eq, reduceCtorEq, not_false_eq_true, cLe, pendX_s, List.append_nil, retC_r, cEqL, f2, if_false, true_and]
    refine hD _ (hDs H2 _ hp2 (Nat.le_refl _) fun x hx => ?_) (by simp only [Heap.n_put]; omega)
    simp (disch := omega) only [Heap.get_put, cEqL, if_false]
end Go.Iso.Gen
end

section
namespace Go.Iso.Gen
open Go.Iso
set_option maxHeartbeats 1000000
set_option maxRecDepth 10000

theorem count_sp {f b : SV} {fs bs : List (List Id)} {H : Heap} {lo : Nat} {Q : Out → Heap → Prop} (hf : Sl2 H f fs) (hb : Sl2 H b bs) (hlf : fs.length ≤ 1000000) (hlb : bs.length ≤ 1000000) (hl : ∀ l ∈ fs, l.length ≤ 1000000) (hl' : ∀ l ∈ bs, l.length ≤ 1000000) (hlo : lo ≤ H.n)
    (h : ∀ H', Keep H.n H H' → Q (.val (.int .i64 (lens (fs.take 40) + lens (bs.take 40) : Nat))) H') : W E0 lo (.call 15 [bv f b]) H Q := by
  refine pureQ _ hlo h fun R hR => ?_
  rw [c15]
  simp (disch := omega) only [F15b, bv, F15, List.length_cons, List.length_nil, Nat.zero_add, Nat.reduceSub, undefs, List.cons_append, List.nil_append, W_seq, wF15o0, F15p0, W_segs_cons, freeI_s, W_op, wantedI_n, guardC_t, evalAll, IA.eval, List.getD_cons_zero, optC_s, argC_a, nextOf, lowOf, goC_a, opW, ev1, cellsV_agg, pairC_p, opC_a, Fr.put, List.set, W_ops_nil, segC_n, W_segs_nil, thenC_n, wF15o1, F15p1, Heap.n_new, List.getD_cons_succ, cellsV_int, Heap.write, Heap.get_new, cEqR, if_false, if_true, cLe, Nat.le_refl, List.all_cons, oneV_int, List.all_nil, Bool.and_self, and_true, splice, Option.map_some, wF15o2, F15p2, Option.getD_some, read_put, cEqL, readO_c, cLeF, List.drop, List.take_succ_cons, List.take, read_new, Nat.reduceAdd, mkAgg, Option.bind_some, W_apply, List.append_nil, c26, F26b, F26, wF26o0, F26p0, Heap.n_put, Nat.add_assoc, wF26o1, F26p1, W_ret, retC_r, unmark, leaveC_a, resultsOf, resultOf, valsC_a, tupled, valC_v, W_block, W_rfn0]
  generalize hH1 : Heap.new _ _ = H1
  have hn1 : H1.n = H.n + 5 := by rw [← hH1]; rfl
  have g1 := congrArg (fun h0 => Heap.get h0 (H.n + 1)) hH1.symm
  simp (disch := omega) only [Heap.get_new, Heap.n_new, Heap.n_put, Nat.add_assoc, Nat.reduceAdd, cEqL, Heap.get_put, cEqR, if_false, if_true] at g1
  have g2 := congrArg (fun h0 => Heap.get h0 (H.n + 2)) hH1.symm
  simp (disch := omega) only [Heap.get_new, Heap.n_new, Heap.n_put, Nat.add_assoc, Nat.reduceAdd, cEqL, Heap.get_put, cEqR, if_false, if_true] at g2
  have g3 := congrArg (fun h0 => Heap.get h0 (H.n + 3)) hH1.symm
  simp (disch := omega) only [Heap.get_new, Heap.n_new, Heap.n_put, Nat.add_assoc, Nat.reduceAdd, cEqL, cEqR, Heap.get_put, if_false, if_true] at g3
  have g4 := congrArg (fun h0 => Heap.get h0 (H.n + 4)) hH1.symm
  simp (disch := omega) only [Heap.get_new, Heap.n_new, Heap.n_put, Nat.add_assoc, Nat.reduceAdd, cEqR, Heap.get_put, if_false, if_true] at g4
  have k1 : Keep H.n H H1 := ⟨by omega, fun x hx _ => by
    have gx := congrArg (fun h0 => Heap.get h0 x) hH1.symm
    simp (disch := omega) only [Heap.get_new, Heap.n_new, Heap.n_put, Nat.add_assoc, Nat.reduceAdd, cEqL, Heap.get_put, if_false] at gx
    exact gx⟩
  clear hH1
  have r2 := read_get g2
  have hle := lens_le fs 1000000 hl
  have hle' := lens_le bs 1000000 hl'
  have hPd : ∀ H', H1.n ≤ H'.n → (∀ x, x < H1.n → x ≠ H.n + 1 → H'.get x = H1.get x) → Keep H.n H H' := fun H' a1 a2 => ⟨by omega, fun x h1 _ => (a2 x (by omega) (by omega)).trans (k1.2 x h1 h1)⟩
  have hstep : ∀ (bed : Int) (i : Nat) (w : SV) (l : List Id) (s : Nat) (H' : Heap), s ≤ 80000000 → l.length ≤ 1000000 → H1.n ≤ H'.n → (∀ x, x < H1.n → x ≠ H.n + 1 → H'.get x = H1.get x) → H'.get (H.n + 1) = some (.cells false 3 1 [.int .i64 s]) → Sl H' w l → ∀ K : Out → Heap → Prop, (∀ H'', (∀ x, x < H1.n → x ≠ H.n + 1 → H''.get x = H1.get x) → H''.get (H.n + 1) = some (.cells false 3 1 [.int .i64 ((s + l.length : Nat) : Int)]) → H'.n ≤ H''.n → (∀ x, H1.n ≤ x → x < H'.n → H''.get x = H'.get x) → K (.val (.bool true)) H'') → W E0 H.n (.apply (.yield (H.n + 4)) [.agg [.int .u8 bed, .int .i64 ((i : Int) + 1)], w.iv]) H' K := by
    intro bed i w l s H' hs hl hn hk hg hw K hK
    have e4 := (hk (H.n + 4) (by omega) (by omega)).trans g4
    have er := read_get hg
    simp (disch := omega) only [W_yield0, e4, yieldE_l, List.length_cons, List.length_nil, Nat.zero_add, Nat.reduceAdd, cLe, setAll, List.set, wF15o3, F15p3, W_segs_cons, freeI_s, W_op, wantedI_n, guardC_t, evalAll, IA.eval, List.getD_cons_succ, List.getD_cons_zero, optC_s, argC_a, nextOf, lowOf, goC_a, opW, ev1, pairC_p, opC_a, Fr.put, W_ops_nil, segC_n, W_segs_nil, readyC_n, readyE_l, W_block, wF15o4, F15p4, Option.getD_none, read_put, cEqL, er, Nat.le_refl, List.drop, List.take_succ_cons, List.take, if_true, if_false, mkAgg, Option.bind_some, Option.map_some, ↓hw.ln, binI, wI64, cellsV_int, Heap.write, Heap.get_put, hg, List.all_cons, oneV_int, List.all_nil, Bool.and_self, and_true, splice, blkC_n, turnC_e, cEqR, turnE_n, true_and]
    refine hK _ (fun x h1 h2 => ?_) ?_ (Nat.le_refl _) (fun x h1 h2 => ?_)
    · by_cases hx : x = H.n + 4
      · subst hx; simp (disch := omega) only [Heap.get_put, cEqR, if_true, if_false, g4]
      · rw [Heap.get_put, if_neg (Ne.symm hx), Heap.get_put, if_neg (Ne.symm h2), Heap.get_put, if_neg (Ne.symm hx)]
        exact hk x h1 h2
    · simp (disch := omega) only [Heap.get_put, cEqL, if_false, if_true, Int.natCast_add]
    · simp (disch := omega) only [Heap.get_put, cEqR, if_false]
  refine needled_W (f := f) (b := b) (fs := fs) (bs := bs) (fun c i H' => H1.n ≤ H'.n ∧ (∀ x, x < H1.n → x ≠ H.n + 1 → H'.get x = H1.get x) ∧ H'.get (H.n + 1) = some (.cells false 3 1 [.int .i64 ((if c = 0 then lens (fs.take i) else lens (fs.take 40) + lens (bs.take i) : Nat) : Int)])) (fun _ => False) (by omega) hlf hlb (by omega) (by rw [r2]; rfl) ?_ ?_ ?_ ?_ ?_ ?_ ?_ ?_ ?_
  · rintro c i H' H'' ⟨a1, a2, a3⟩ b1 b2
    exact ⟨by omega, fun x h1 h2 => (b2 x h1).trans (a2 x h1 h2), (b2 _ (by omega)).trans a3⟩
  · exact fun _ _ h _ _ => h
  · rintro c i H' ⟨a1, a2, a3⟩
    exact ⟨hf.keep (hPd H' a1 a2), hb.keep (hPd H' a1 a2)⟩
  · rintro i w H' hi h4 hn ⟨a1, a2, a3⟩ hw K hK hK'
    rw [if_pos rfl] at a3
    have := hle i
    refine hstep 0 i w fs[i] _ H' (by omega) (hl _ (List.getElem_mem _)) a1 a2 a3 hw K fun H'' c1 c2 c3 c4 => hK H'' ⟨by omega, c1, ?_⟩ c3 c4
    rw [if_pos rfl, lens_take fs i hi]; exact c2
  · rintro i w H' hi h4 hn ⟨a1, a2, a3⟩ hw K hK hK'
    rw [if_neg (by omega)] at a3
    have := hle 40
    have := hle' i
    refine hstep 1 i w bs[i] _ H' (by omega) (hl' _ (List.getElem_mem _)) a1 a2 a3 hw K fun H'' c1 c2 c3 c4 => hK H'' ⟨by omega, c1, ?_⟩ c3 c4
    rw [if_neg (by omega), lens_take bs i hi, ← Nat.add_assoc]; exact c2
  · exact ⟨Nat.le_refl _, fun _ _ _ => rfl, g1⟩
  · rintro H' ⟨a1, a2, a3⟩
    refine ⟨a1, a2, ?_⟩
    rw [if_pos rfl] at a3
    rw [if_neg (by omega), List.take_zero, a3]
    by_cases h4 : fs.length ≤ 40
    · rw [show min fs.length 40 = fs.length from by omega, List.take_length, List.take_of_length_le h4]; rfl
    · rw [show min fs.length 40 = 40 from by omega]; rfl
  · rintro H' ⟨a1, a2, a3⟩ hn
    rw [if_neg (by omega)] at a3
    have e3 := (a2 (H.n + 3) (by omega) (by omega)).trans g3
    have e4 := (a2 (H.n + 4) (by omega) (by omega)).trans g4
    have er := read_get a3
    have hb4 : bs.take (min bs.length 40) = bs.take 40 := by
      by_cases h4 : bs.length ≤ 40
      · rw [show min bs.length 40 = bs.length from by omega, List.take_length, List.take_of_length_le h4]
      · rw [show min bs.length 40 = 40 from by omega]
    simp (disch := omega) only [rfnC_v, e4, rfnE_l, ne_eq, reduceCtorEq, not_false_eq_true, cLe, pendX_n, List.append_nil, blkC_n, thenC_n, W_seq, wF15o5, F15p5, W_segs_cons, freeI_s, W_op, wantedI_n, guardC_t, evalAll, IA.eval, List.getD_cons_succ, List.getD_cons_zero, optC_s, argC_a, nextOf, lowOf, goC_a, opW, ev1, Option.getD_none, read_put, cEqL, er, Nat.zero_add, hb4, List.length_cons, List.length_nil, Nat.le_refl, List.drop, List.take_succ_cons, List.take, if_true, if_false, mkAgg, Option.bind_some, Option.map_some, pairC_p, opC_a, Fr.put, List.set, W_ops_nil, segC_n, W_segs_nil, W_ret, retC_r, unmark, Heap.get_put, e3, leaveC_a, resultsOf, resultOf, valsC_a, tupled, true_and]
    exact hR _
  · exact fun _ h => h.elim
end Go.Iso.Gen
end

section
namespace Go.Iso.Gen
open Go.Iso
set_option maxHeartbeats 1000000
set_option maxRecDepth 10000

theorem expl19 (tm : List IV) (h : tm.length = 19) : tm = [tm.getD 0 IV.undef, tm.getD 1 IV.undef, tm.getD 2 IV.undef, tm.getD 3 IV.undef, tm.getD 4 IV.undef, tm.getD 5 IV.undef, tm.getD 6 IV.undef, tm.getD 7 IV.undef, tm.getD 8 IV.undef, tm.getD 9 IV.undef, tm.getD 10 IV.undef, tm.getD 11 IV.undef, tm.getD 12 IV.undef, tm.getD 13 IV.undef, tm.getD 14 IV.undef, tm.getD 15 IV.undef, tm.getD 16 IV.undef, tm.getD 17 IV.undef, tm.getD 18 IV.undef] := (expl tm 19 h).trans rfl
theorem index_sp {v : SV} {l : List Id} (a : Id) {H : Heap} {lo : Nat} {Q : Out → Heap → Prop} (hv : Sl H v l) (hl : l.length ≤ 1000000) (hlo : lo ≤ H.n)
    (h : ∀ H' r, Keep H.n H H' → ((0 ≤ r ∧ a ∈ l) ∨ (r = -1 ∧ a ∉ l)) → Q (.val (.int .i64 r)) H') : W E0 lo (.call 35 [v.iv, .agg (Cell.cs a)]) H Q := by
  refine W.pure plain hlo ?_
  rw [c35]
  simp (disch := omega) only [F35b, cs_Id, F35, List.length_cons, List.length_nil, Nat.zero_add, Nat.reduceAdd, Nat.reduceSub, undefs, List.cons_append, List.nil_append, W_seq, wF35o0, F35p0, W_segs_cons, freeI_s, W_op, wantedI_n, guardC_t, evalAll, IA.eval, List.getD_cons_succ, List.getD_cons_zero, optC_s, argC_a, nextOf, lowOf, goC_a, opW, ev1, cellsV_agg, pairC_p, opC_a, Fr.put, List.set, W_ops_nil, segC_n, W_segs_nil, thenC_n, wF35o1, F35p1, ↓hv.ln, W_block]
  have hv' := hv.keep (Keep.new H (.cells false 28 2 [.int .u8 a.y, .int .i64 a.n]))
  generalize hH1 : Heap.new _ _ = H1 at hv'
  have hn1 : H1.n = H.n + 1 := by rw [← hH1]; rfl
  have g0 := congrArg (fun h0 => Heap.get h0 (H.n)) hH1.symm
  simp (disch := omega) only [Heap.get_new, if_true] at g0
  have r0 := read_get g0
  refine W_inv (fun k fr H' => ∃ i, i + k = l.length ∧ a ∉ l.take i ∧ H' = H1 ∧ fr.marks = [] ∧ fr.tm.length = 19 ∧ fr.tm.getD 0 IV.undef = v.iv ∧ fr.tm.getD 3 IV.undef = .ptr H.n 0 ∧ fr.tm.getD 7 IV.undef = .int .i64 l.length ∧ fr.tm.getD 8 IV.undef = .int .i64 i) ?_ l.length ⟨0, by omega, by simp, rfl, rfl, rfl, rfl, rfl, rfl, rfl⟩
  rintro k ⟨tm, mk⟩ H' ⟨i, hi, hp, rfl, rfl, htm, t0, t3, t7, t8⟩ L hN hJ
  rw [expl19 tm htm, t0, t3, t7, t8]
  by_cases hil : i < l.length
  · have r1 := hv'.read z_Id i hil
    by_cases he : a = l[i]
    · have hin : a ∈ l := he ▸ List.getElem_mem hil
      have heq := id_eq a
      simp (disch := omega) only [F35l7, W_seq, wF35o2, F35p2, W_segs_cons, freeI_s, W_op, wantedI_n, guardC_t, evalAll, IA.eval, List.getD_cons_succ, List.getD_cons_zero, optC_s, argC_a, nextOf, lowOf, goC_a, opW, ev1, binI, iLt, decide_true, if_true, Option.map_some, pairC_p, opC_a, Fr.put, List.set, W_ops_nil, segC_n, W_segs_nil, thenC_n, W_cond, condC_t, W_skip, W_block, wF35o3, F35p3, wF35o4, F35p4, freeI_f, freeNext, fpOf, Option.getD_some, pairOk, ne_eq, List.all_nil, Bool.false_eq_true, if_false, r0, Nat.zero_add, List.length_cons, List.length_nil, Nat.reduceAdd, Nat.le_refl, List.drop, List.take_succ_cons, List.take, mkAgg, Option.bind_some, List.all_cons, Bool.or_true, Bool.and_self, ↓hv.idx, Int.toNat_natCast, r1, ← he, cs_Id, Bool.false_bne, eqKs, eqK, beq_self_eq_true, wF35o5, F35p5, W_ret, blkC_r, thenC_j, hJ, retC_r, unmark, leaveC_a, resultsOf, resultOf, valsC_a, tupled]
      exact fun hk => h _ _ hk (.inl ⟨by omega, hin⟩)
    · have hne := id_ne he
      simp (disch := omega) only [F35l7, W_seq, wF35o2, F35p2, W_segs_cons, freeI_s, W_op, wantedI_n, guardC_t, evalAll, IA.eval, List.getD_cons_succ, List.getD_cons_zero, optC_s, argC_a, nextOf, lowOf, goC_a, opW, ev1, binI, iLt, decide_true, if_true, Option.map_some, pairC_p, opC_a, Fr.put, List.set, W_ops_nil, segC_n, W_segs_nil, thenC_n, W_cond, condC_t, W_skip, W_block, wF35o3, F35p3, wF35o4, F35p4, freeI_f, freeNext, fpOf, Option.getD_some, pairOk, ne_eq, List.all_nil, Bool.false_eq_true, if_false, r0, Nat.zero_add, List.length_cons, List.length_nil, Nat.reduceAdd, Nat.le_refl, List.drop, List.take_succ_cons, List.take, mkAgg, Option.bind_some, List.all_cons, Bool.or_true, Bool.and_self, ↓hv.idx, Int.toNat_natCast, r1, cs_Id, Bool.false_bne, eqKs, eqK, Bool.and_true, hne, condC_f, blkC_n, wF35o6, F35p6, wI64]
      refine hN (k - 1) _ _ (by omega) ⟨i + 1, by omega, ?_, rfl, rfl, rfl, rfl, rfl, rfl, rfl⟩
      rw [List.take_succ_eq_append_getElem hil, List.mem_append, List.mem_singleton]
      rintro (h | h)
      · exact hp h
      · exact he h
  · have : a ∉ l := by rw [List.take_of_length_le (by omega)] at hp; exact hp
    simp (disch := omega) only [F35l7, W_seq, wF35o2, F35p2, W_segs_cons, freeI_s, W_op, wantedI_n, guardC_t, evalAll, IA.eval, List.getD_cons_succ, List.getD_cons_zero, optC_s, argC_a, nextOf, lowOf, goC_a, opW, ev1, binI, iLtF, decide_false, if_true, Option.map_some, pairC_p, opC_a, Fr.put, List.set, W_ops_nil, segC_n, W_segs_nil, thenC_n, W_cond, condC_f, W_exit, thenC_j, hJ, blkC_e, wF35o8, F35p8, W_ret, retC_r, unmark, leaveC_a, resultsOf, resultOf, valsC_a, tupled]
    exact fun hk => h _ _ hk (.inr ⟨rfl, this⟩)

theorem contains_sp {v : SV} {l : List Id} (a : Id) {H : Heap} {lo : Nat} {Q : Out → Heap → Prop} (hv : Sl H v l) (hl : l.length ≤ 1000000) (hlo : lo ≤ H.n)
    (h : ∀ H', Keep H.n H H' → Q (.val (.bool (decide (a ∈ l)))) H') : W E0 lo (.call 27 [v.iv, .agg (Cell.cs a)]) H Q := by
  refine W.pure plain hlo ?_
  rw [c27]
  simp (disch := omega) only [F27b, cs_Id, F27, List.length_cons, List.length_nil, Nat.zero_add, Nat.reduceAdd, Nat.reduceSub, undefs, List.cons_append, List.nil_append, W_seq, wF27o0, F27p0, W_segs_cons, freeI_s, W_op, wantedI_n, guardC_t, evalAll, IA.eval, List.getD_cons_succ, List.getD_cons_zero, optC_s, argC_a, nextOf, lowOf, goC_a, opW, ev1, cellsV_agg, pairC_p, opC_a, Fr.put, List.set, W_ops_nil, segC_n, W_segs_nil, thenC_n, wF27o1, F27p1, Option.getD_some, read_new, readO_c, Nat.le_refl, List.drop, List.take_succ_cons, List.take, if_true, mkAgg, Option.map_some, Option.bind_some, W_apply, List.append_nil]
  rw [← cs_Id]
  refine index_sp a (hv.keep (Keep.new _ _)) hl (by rw [Heap.n_new]; omega) fun H' r hk hr => ?_
  rcases hr with ⟨h0, h1⟩ | ⟨rfl, h1⟩
  · rw [decide_eq_true h1] at h
    simp (disch := omega) only [valC_v, opC_a, Fr.put, List.set, W_op, wantedI_n, guardC_t, evalAll, IA.eval, List.getD_cons_succ, List.getD_cons_zero, optC_s, argC_a, nextOf, lowOf, goC_a, opW, ev1, binI, iLe, decide_true, if_true, Option.map_some, pairC_p, W_ops_nil, segC_n, W_segs_nil, thenC_n, W_ret, retC_r, unmark, leaveC_a, resultsOf, resultOf, valsC_a, tupled]
    exact fun hk => h _ hk
  · rw [decide_eq_false h1] at h
    simp (disch := omega) only [valC_v, opC_a, Fr.put, List.set, W_op, wantedI_n, guardC_t, evalAll, IA.eval, List.getD_cons_succ, List.getD_cons_zero, optC_s, argC_a, nextOf, lowOf, goC_a, opW, ev1, binI, iLeF, decide_false, if_true, Option.map_some, pairC_p, W_ops_nil, segC_n, W_segs_nil, thenC_n, W_ret, retC_r, unmark, leaveC_a, resultsOf, resultOf, valsC_a, tupled]
    exact fun hk => h _ hk

theorem find_sp {f b : SV} {fs bs : List (List Id)} (a : Id) {H : Heap} {lo : Nat} {Q : Out → Heap → Prop} (hf : Sl2 H f fs) (hb : Sl2 H b bs) (hlf : fs.length ≤ 1000000) (hlb : bs.length ≤ 1000000) (hl : ∀ l ∈ fs, l.length ≤ 1000000) (hl' : ∀ l ∈ bs, l.length ≤ 1000000) (hlo : lo ≤ H.n)
    (hin : ∀ H' (bed : Int) (i : Nat) (l : List Id), Keep H.n H H' → ((bed = 0 ∧ (fs.take 40)[i]? = some l) ∨ (bed = 1 ∧ (bs.take 40)[i]? = some l)) → a ∈ l → Q (.val (.tuple [.agg [.int .u8 bed, .int .i64 ((i : Int) + 1)], .int .i64 0])) H')
    (hout : ∀ H', Keep H.n H H' → (∀ l ∈ fs.take 40, a ∉ l) → (∀ l ∈ bs.take 40, a ∉ l) → Q (.val (.tuple [.agg [.int .u8 0, .int .i64 0], .int .i64 7])) H') : W E0 lo (.call 14 [bv f b, .agg (Cell.cs a)]) H Q := by
  refine W.pure plain hlo ?_
  rw [c14]
  simp (disch := omega) only [F14b, bv, cs_Id, F14, List.length_cons, List.length_nil, Nat.zero_add, Nat.reduceAdd, Nat.reduceSub, undefs, List.cons_append, List.nil_append, W_seq, wF14o0, F14p0, W_segs_cons, freeI_s, W_op, wantedI_n, guardC_t, evalAll, IA.eval, List.getD_cons_zero, optC_s, argC_a, nextOf, lowOf, goC_a, opW, ev1, cellsV_agg, pairC_p, opC_a, Fr.put, List.set, List.getD_cons_succ, Heap.n_new, Nat.add_assoc, W_ops_nil, segC_n, W_segs_nil, thenC_n, wF14o1, F14p1, Option.getD_some, read_new, cEqL, readO_c, cLeF, List.drop, List.take_succ_cons, List.take, if_false, Nat.le_refl, if_true, mkAgg, Option.map_some, Option.bind_some, W_apply, List.append_nil, c26, F26b, F26, wF26o0, F26p0, wF26o1, F26p1, W_ret, retC_r, unmark, leaveC_a, resultsOf, resultOf, valsC_a, tupled, valC_v, W_block, W_rfn0]
  generalize hH1 : Heap.new _ _ = H1
  have hn1 : H1.n = H.n + 7 := by rw [← hH1]; rfl
  have g1 := congrArg (fun h0 => Heap.get h0 (H.n + 1)) hH1.symm
  simp (disch := omega) only [Heap.get_new, Heap.n_new, Nat.add_assoc, Nat.reduceAdd, cEqL, cEqR, if_false, if_true] at g1
  have g2 := congrArg (fun h0 => Heap.get h0 (H.n + 2)) hH1.symm
  simp (disch := omega) only [Heap.get_new, Heap.n_new, Nat.add_assoc, Nat.reduceAdd, cEqL, cEqR, if_false, if_true] at g2
  have g3 := congrArg (fun h0 => Heap.get h0 (H.n + 3)) hH1.symm
  simp (disch := omega) only [Heap.get_new, Heap.n_new, Nat.add_assoc, Nat.reduceAdd, cEqL, cEqR, if_false, if_true] at g3
  have g4 := congrArg (fun h0 => Heap.get h0 (H.n + 4)) hH1.symm
  simp (disch := omega) only [Heap.get_new, Heap.n_new, Nat.add_assoc, Nat.reduceAdd, cEqL, cEqR, if_false, if_true] at g4
  have g5 := congrArg (fun h0 => Heap.get h0 (H.n + 5)) hH1.symm
  simp (disch := omega) only [Heap.get_new, Heap.n_new, Nat.add_assoc, Nat.reduceAdd, cEqL, cEqR, if_false, if_true] at g5
  have g6 := congrArg (fun h0 => Heap.get h0 (H.n + 6)) hH1.symm
  simp (disch := omega) only [Heap.get_new, Heap.n_new, Nat.add_assoc, Nat.reduceAdd, cEqR, if_false, if_true] at g6
  have k1 : Keep H.n H H1 := ⟨by omega, fun x hx _ => by
    have gx := congrArg (fun h0 => Heap.get h0 x) hH1.symm
    simp (disch := omega) only [Heap.get_new, Heap.n_new, Nat.add_assoc, Nat.reduceAdd, cEqL, if_false] at gx
    exact gx⟩
  clear hH1
  have r4 := read_get g4
  have hstep : ∀ (bed : Int) (i : Nat) (w : SV) (l : List Id) (H' : Heap), l.length ≤ 1000000 → H1.n ≤ H'.n → (∀ x, x < H1.n → H'.get x = H1.get x) → Sl H' w l → ∀ K : Out → Heap → Prop, (a ∉ l → ∀ H'', (∀ x, x < H1.n → H''.get x = H1.get x) → H'.n ≤ H''.n → (∀ x, H1.n ≤ x → x < H'.n → H''.get x = H'.get x) → K (.val (.bool true)) H'') →
      (a ∈ l → ∀ H'', (∀ x, x < H.n → H''.get x = H1.get x) → H''.get (H.n + 2) = some (.cells false 26 2 [.int .u8 bed, .int .i64 ((i : Int) + 1)]) → H''.get (H.n + 3) = some (.cells false 37 1 [.int .i64 0]) → H''.get (H.n + 5) = some .deferred → (∃ st tm ps asg body df, st ≠ .busy ∧ H''.get (H.n + 6) = some (.loop st (some .ret) tm ps asg body df)) → H'.n ≤ H''.n → (∀ x, H1.n ≤ x → x < H'.n → H''.get x = H'.get x) → K (.val (.bool false)) H'') → W E0 H.n (.apply (.yield (H.n + 6)) [.agg [.int .u8 bed, .int .i64 ((i : Int) + 1)], w.iv]) H' K := by
    intro bed i w l H' hl hn hk hw K hK hK'
    have e1 := (hk (H.n + 1) (by omega)).trans g1
    have e6 := (hk (H.n + 6) (by omega)).trans g6
    have er := read_get e1
    simp (disch := omega) only [W_yield0, e6, yieldE_l, List.length_cons, List.length_nil, Nat.zero_add, Nat.reduceAdd, cLe, setAll, List.set, W_seq, wF14o2, F14p2, W_segs_cons, freeI_s, W_op, wantedI_n, guardC_t, evalAll, optC_s, argC_a, nextOf, lowOf, goC_a, opW, ev1, pairC_p, opC_a, Fr.put, IA.eval, List.getD_cons_succ, List.getD_cons_zero, cellsV_agg, Heap.write, Heap.get_new, if_true, Nat.le_refl, List.all_cons, oneV_int, List.all_nil, Bool.and_self, and_true, splice, Option.map_some, W_ops_nil, segC_n, W_segs_nil, thenC_n, wF14o3, F14p3, readyC_n, Heap.get_put, cEqL, if_false, readyE_l, W_block, wF14o4, F14p4, Option.getD_some, read_put, readO_c, List.drop, List.take_succ_cons, List.take, read_new, er, mkAgg, Option.bind_some, W_apply, List.nil_append, List.append_nil, true_and]
    generalize hH2 : Heap.put _ _ _ = H2
    have hn2 : H2.n = H'.n + 1 := by rw [← hH2]; rfl
    have f6 := congrArg (fun h0 => Heap.get h0 (H.n + 6)) hH2.symm
    simp (disch := omega) only [Heap.get_put, cEqL, Heap.get_new, if_false, if_true] at f6
    have fn := congrArg (fun h0 => Heap.get h0 (H'.n)) hH2.symm
    simp (disch := omega) only [Heap.get_put, cEqR, Heap.get_new, if_true, if_false] at fn
    have k2 : ∀ x, x < H'.n → x ≠ H.n + 6 → H2.get x = H'.get x := fun x hx h6 => by
      rw [← hH2, Heap.get_put, if_neg (Ne.symm h6), Heap.get_put, if_neg (by omega), Heap.get_new, if_neg (by omega)]
    clear hH2
    have hw2 : Sl H2 w l := hw.same (by omega) fun hl => k2 _ (hw.blk_lt hl) (hw.off hl e6 (by simp))
    rw [← cs_Id]
    refine contains_sp a hw2 hl (by omega) fun H3 k3 => ?_
    have hn3 := k3.1
    have q6 := (k3.2 (H.n + 6) (by omega) (by omega)).trans f6
    have qn := (k3.2 H'.n (by omega) (by omega)).trans fn
    have q2 := ((k3.2 (H.n + 2) (by omega) (by omega)).trans (k2 _ (by omega) (by omega))).trans ((hk _ (by omega)).trans g2)
    have q3 := ((k3.2 (H.n + 3) (by omega) (by omega)).trans (k2 _ (by omega) (by omega))).trans ((hk _ (by omega)).trans g3)
    have q5 := ((k3.2 (H.n + 5) (by omega) (by omega)).trans (k2 _ (by omega) (by omega))).trans ((hk _ (by omega)).trans g5)
    have rn := read_get qn
    by_cases hin : a ∈ l
    · rw [decide_eq_true hin]
      simp (disch := omega) only [valC_v, opC_a, Fr.put, List.set, W_ops_nil, segC_n, W_segs_nil, thenC_n, W_cond, IA.eval, List.getD_cons_succ, List.getD_cons_zero, optC_s, condC_t, W_seq, wF14o5, F14p5, W_segs_cons, freeI_s, W_op, wantedI_n, guardC_t, evalAll, argC_a, nextOf, lowOf, goC_a, opW, ev1, Option.getD_some, rn, Nat.zero_add, List.length_cons, List.length_nil, Nat.reduceAdd, Nat.le_refl, List.drop, List.take_succ_cons, List.take, if_true, mkAgg, Option.map_some, Option.bind_some, pairC_p, cellsV_agg, Heap.write, q2, cLe, List.all_cons, oneV_int, List.all_nil, Bool.and_self, and_true, splice, cellsV_int, Heap.get_put, cEqR, q3, if_false, W_ret, blkC_r, turnC_e, q6, turnE_j]
      refine hK' hin _ (fun x hx => ?_) ?_ ?_ ?_ ?_ (by simp only [Heap.n_put]; omega) (fun x h1 h2 => ?_)
      · simp (disch := omega) only [Heap.get_put, cEqL, if_false]
        rw [k3.2 x (by omega) (by omega), k2 x (by omega) (by omega)]
        exact hk x (by omega)
      · simp (disch := omega) only [Heap.get_put, cEqL, if_true, if_false]
      · simp (disch := omega) only [Heap.get_put, cEqL, cEqR, if_false, if_true]
      · simp (disch := omega) only [Heap.get_put, cEqL, cEqR, q5, if_false]
      · refine ⟨_, _, _, _, _, _, ?_, by rw [Heap.get_put, if_pos rfl]⟩
        simp
      · simp (disch := omega) only [Heap.get_put, cEqR, if_false]
        rw [k3.2 x (by omega) (by omega), k2 x (by omega) (by omega)]
    · rw [decide_eq_false hin]
      simp (disch := omega) only [valC_v, opC_a, Fr.put, List.set, W_ops_nil, segC_n, W_segs_nil, thenC_n, W_cond, IA.eval, List.getD_cons_succ, List.getD_cons_zero, optC_s, condC_f, W_skip, blkC_n, turnC_e, q6, turnE_n]
      refine hK hin _ (fun x hx => ?_) (by simp only [Heap.n_put]; omega) (fun x h1 h2 => ?_)
      · by_cases hx6 : x = H.n + 6
        · subst hx6; simp (disch := omega) only [Heap.get_put, if_true, g6]
        · rw [Heap.get_put, if_neg (Ne.symm hx6), k3.2 x (by omega) (by omega), k2 x (by omega) hx6]
          exact hk x hx
      · simp (disch := omega) only [Heap.get_put, cEqR, if_false]
        rw [k3.2 x (by omega) (by omega), k2 x (by omega) (by omega)]
  refine needled_W (f := f) (b := b) (fs := fs) (bs := bs) (fun c i H' => H1.n ≤ H'.n ∧ (∀ x, x < H1.n → H'.get x = H1.get x) ∧ (∀ j (hj : j < fs.length), j < 40 → (c = 0 → j < i) → a ∉ fs[j]) ∧ (c ≠ 0 → ∀ j (hj : j < bs.length), j < i → a ∉ bs[j]))
    (fun H' => H1.n ≤ H'.n ∧ (∀ x, x < H.n → H'.get x = H1.get x) ∧ (∃ (bed : Int) (i : Nat) (l : List Id), ((bed = 0 ∧ (fs.take 40)[i]? = some l) ∨ (bed = 1 ∧ (bs.take 40)[i]? = some l)) ∧ a ∈ l ∧ H'.get (H.n + 2) = some (.cells false 26 2 [.int .u8 bed, .int .i64 ((i : Int) + 1)])) ∧ H'.get (H.n + 3) = some (.cells false 37 1 [.int .i64 0]) ∧ H'.get (H.n + 5) = some .deferred ∧ (∃ st tm ps asg body df, st ≠ .busy ∧ H'.get (H.n + 6) = some (.loop st (some .ret) tm ps asg body df))) (by omega) hlf hlb (by omega) (by rw [r4]; rfl) ?_ ?_ ?_ ?_ ?_ ?_ ?_ ?_ ?_
  · rintro c i H' H'' ⟨a1, a2, a3⟩ b1 b2
    exact ⟨by omega, fun x h1 => (b2 x h1).trans (a2 x h1), a3⟩
  · rintro H' H'' ⟨a1, a2, ⟨bed, i, l, a3, a4, a5⟩, a6, a7, st, tm, ps, asg, body, df, a8, a9⟩ b1 b2
    exact ⟨by omega, fun x h1 => (b2 x (by omega)).trans (a2 x h1), ⟨bed, i, l, a3, a4, (b2 _ (by omega)).trans a5⟩, (b2 _ (by omega)).trans a6, (b2 _ (by omega)).trans a7, st, tm, ps, asg, body, df, a8, (b2 _ (by omega)).trans a9⟩
  · rintro c i H' ⟨a1, a2, a3⟩
    have hk : Keep H.n H H' := ⟨by omega, fun x h1 _ => (a2 x (by omega)).trans (k1.2 x h1 h1)⟩
    exact ⟨hf.keep hk, hb.keep hk⟩
  · rintro i w H' hi h4 hn ⟨a1, a2, a3, a4⟩ hw K hK hK'
    refine hstep 0 i w fs[i] H' (hl _ (List.getElem_mem _)) a1 a2 hw K (fun hno H'' c1 c2 c3 => hK H'' ⟨by omega, c1, ?_, fun h => absurd rfl h⟩ c2 c3) (fun hyes H'' c1 c2 c3 c4 c5 c6 c7 => hK' H'' ⟨by omega, c1, ⟨0, i, fs[i], .inl ⟨rfl, ?_⟩, hyes, c2⟩, c3, c4, c5⟩ c6 c7)
    · intro j hj h40 hji
      by_cases hje : j = i
      · subst hje; exact hno
      · exact a3 j hj h40 fun _ => by have := hji rfl; omega
    · rw [List.getElem?_take_of_lt h4, List.getElem?_eq_getElem hi]
  · rintro i w H' hi h4 hn ⟨a1, a2, a3, a4⟩ hw K hK hK'
    refine hstep 1 i w bs[i] H' (hl' _ (List.getElem_mem _)) a1 a2 hw K (fun hno H'' c1 c2 c3 => hK H'' ⟨by omega, c1, fun j hj h40 hji => a3 j hj h40 (fun h => by omega), fun _ j hj hji => ?_⟩ c2 c3) (fun hyes H'' c1 c2 c3 c4 c5 c6 c7 => hK' H'' ⟨by omega, c1, ⟨1, i, bs[i], .inr ⟨rfl, ?_⟩, hyes, c2⟩, c3, c4, c5⟩ c6 c7)
    · by_cases hje : j = i
      · subst hje; exact hno
      · exact a4 (by omega) j hj (by omega)
    · rw [List.getElem?_take_of_lt h4, List.getElem?_eq_getElem hi]
  · exact ⟨Nat.le_refl _, fun _ _ => rfl, fun j hj _ h => by have := h rfl; omega, fun h => absurd rfl h⟩
  · rintro H' ⟨a1, a2, a3, a4⟩
    exact ⟨a1, a2, fun j hj h40 _ => a3 j hj h40 fun _ => by omega, fun _ j hj h => by omega⟩
  · rintro H' ⟨a1, a2, a3, a4⟩ hn
    have e2 := (a2 (H.n + 2) (by omega)).trans g2
    have e3 := (a2 (H.n + 3) (by omega)).trans g3
    have e5 := (a2 (H.n + 5) (by omega)).trans g5
    have e6 := (a2 (H.n + 6) (by omega)).trans g6
    simp (disch := omega) only [rfnC_v, e6, rfnE_l, ne_eq, reduceCtorEq, not_false_eq_true, cLe, pendX_n, List.append_nil, blkC_n, thenC_n, W_seq, wF14o6, F14p6, W_segs_cons, freeI_s, W_op, wantedI_n, guardC_t, evalAll, optC_s, argC_a, nextOf, lowOf, goC_a, opW, ev1, fillI, Option.map_some, pairC_p, opC_a, Fr.put, List.set, IA.eval, List.getD_cons_succ, List.getD_cons_zero, cellsV_agg, List.length_cons, List.length_nil, Nat.zero_add, Nat.reduceAdd, Heap.write, Heap.get_put, cEqL, e2, if_false, Nat.le_refl, List.all_cons, oneV_int, List.all_nil, Bool.and_self, and_true, splice, if_true, cellsV_int, cEqR, e3, W_ops_nil, segC_n, W_segs_nil, W_ret, retC_r, unmark, e5, leaveC_a, resultsOf, resultOf, Option.getD_some, read_put, readO_c, cLeF, List.drop, List.take_succ_cons, List.take, Option.bind_some, mkAgg, Option.getD_none, valsC_a, tupled, true_and]
    refine fun hk => hout _ hk (fun l hl => ?_) (fun l hl => ?_)
    · obtain ⟨j, hj, rfl⟩ := List.mem_iff_getElem.1 hl
      rw [List.length_take] at hj
      rw [List.getElem_take]
      exact a3 j (by omega) (by omega) (fun h => by omega)
    · obtain ⟨j, hj, rfl⟩ := List.mem_iff_getElem.1 hl
      rw [List.length_take] at hj
      rw [List.getElem_take]
      exact a4 (by omega) j (by omega) (by omega)
  · rintro H' ⟨a1, a2, ⟨bed, i, l, a3, a4, a5⟩, a6, a7, st, tm, ps, asg, body, df, a8, a9⟩ hn
    have e2 := read_get a5
    have e3 := read_get a6
    simp (disch := omega) only [rfnC_v, a9, rfnE_l, ne_eq, a8, not_false_eq_true, cLe, pendX_s, List.append_nil, blkC_r, thenC_j, retC_r, unmark, Heap.get_put, cEqL, a7, if_false, if_true, optC_s, leaveC_a, resultsOf, resultOf, List.getD_cons_succ, List.getD_cons_zero, Option.getD_some, read_put, e2, Nat.zero_add, List.length_cons, List.length_nil, Nat.reduceAdd, Nat.le_refl, List.drop, List.take_succ_cons, List.take, Option.bind_some, mkAgg, Option.getD_none, e3, valsC_a, tupled, true_and]
    exact fun hk => hin _ _ _ _ hk a3 a4
end Go.Iso.Gen
end

section
namespace Go.Iso.Gen
open Go.Iso
set_option maxHeartbeats 1000000
set_option maxRecDepth 10000

/-- The entries of a set of names. -/
def mapEs : List Id → Nat → List (IV × IV × Nat)
  | [], _ => []
  | k :: ks, s => (.agg (Cell.cs k), .bool true, s) :: mapEs ks (s + 1)
def idKy : Bool × List Pk := (true, [.int, .int])
theorem keyEq_id (a b : Id) : keyEq idKy (.agg (Cell.cs a)) (.agg (Cell.cs b)) = some (decide (a = b)) := by
  simp only [keyEq, idKy, shapeOk, Bool.and_self, if_true, IV.cells, cs_Id, eqKs, eqK]
  cases a with | mk y n => cases b with | mk y' n' =>
  congr 1
  by_cases h1 : y = y' <;> by_cases h2 : n = n' <;> simp [h1, h2]
theorem keyOk_id (a : Id) : keyOk idKy (.agg (Cell.cs a)) = true := rfl
theorem find_es (a : Id) : ∀ (ks : List Id) (s i : Nat), ∃ r, findI idKy (.agg (Cell.cs a)) (mapEs ks s) i = some r ∧ ((a ∈ ks ∧ ∃ j, r = some (i + j, .bool true) ∧ setVal (.agg (Cell.cs a)) (.bool true) (mapEs ks s) j = mapEs ks s) ∨ (a ∉ ks ∧ r = none)) := by
  intro ks
  induction ks with
  | nil => intro s i; exact ⟨none, rfl, .inr ⟨by simp, rfl⟩⟩
  | cons k ks ih =>
    intro s i
    by_cases h : a = k
    · subst h
      refine ⟨some (i, .bool true), ?_, .inl ⟨by simp, 0, rfl, rfl⟩⟩
      simp only [mapEs, findI, keyEq_id, decide_true]
    · obtain ⟨r, h1, h2⟩ := ih (s + 1) (i + 1)
      refine ⟨r, ?_, ?_⟩
      · simp only [mapEs, findI, keyEq_id, decide_eq_false h]; exact h1
      · rcases h2 with ⟨h2, j, h3, h4⟩ | ⟨h2, h3⟩
        · refine .inl ⟨by simp [h2], j + 1, by rw [h3]; congr 2; omega, ?_⟩
          simp only [mapEs, setVal, h4]
        · exact .inr ⟨by simp [h, h2], h3⟩
theorem mapEs_append : ∀ (ks : List Id) (a : Id) (s : Nat), mapEs (ks ++ [a]) s = mapEs ks s ++ [(.agg (Cell.cs a), .bool true, s + ks.length)]
  | [], a, s => rfl
  | k :: ks, a, s => by
    rw [List.cons_append, mapEs, mapEs_append ks a (s + 1), mapEs, List.cons_append, List.length_cons, show s + 1 + ks.length = s + (ks.length + 1) from by omega]

def MapIds (H : Heap) (mb : Nat) (ks : List Id) : Prop := H.get mb = some (.map (mapEs ks 0) ks.length)
theorem MapIds.look {H : Heap} {mb : Nat} {ks : List Id} (h : MapIds H mb ks) (a : Id) (t lo : Nat) : ev1 (.lookup t (true, [.int, .int]) (.bool false) false) [.map mb, .agg [.int .u8 a.y, .int .i64 a.n]] lo H = some (.bool (decide (a ∈ ks)), H) := by
  have h : H.get mb = some (.map (mapEs ks 0) ks.length) := h
  obtain ⟨r, h1, h2⟩ := find_es a ks 0 0
  have h1' : findI (true, [.int, .int]) (.agg [.int .u8 a.y, .int .i64 a.n]) (mapEs ks 0) 0 = some r := h1
  have hk : keyOk (true, [.int, .int]) (.agg [.int .u8 a.y, .int .i64 a.n]) = true := keyOk_id a
  simp only [ev1, mapAt, h, Option.map_some, hk, if_true, h1']
  rcases h2 with ⟨h2, j, rfl, _⟩ | ⟨h2, rfl⟩
  · rw [decide_eq_true h2]; rfl
  · rw [decide_eq_false h2]; rfl
theorem MapIds.upd {H : Heap} {mb : Nat} {ks : List Id} (h : MapIds H mb ks) (a : Id) (lo : Nat) (hlo : lo ≤ mb) : ∃ ob, ev1 (.mapUpd (true, [.int, .int])) [.map mb, .agg [.int .u8 a.y, .int .i64 a.n], .bool true] lo H = some (IV.undef, H.put mb ob) ∧ ob = .map (mapEs (if a ∈ ks then ks else ks ++ [a]) 0) (if a ∈ ks then ks else ks ++ [a]).length := by
  have h : H.get mb = some (.map (mapEs ks 0) ks.length) := h
  obtain ⟨r, h1, h2⟩ := find_es a ks 0 0
  have h1' : findI (true, [.int, .int]) (.agg [.int .u8 a.y, .int .i64 a.n]) (mapEs ks 0) 0 = some r := h1
  have hk : keyOk (true, [.int, .int]) (.agg [.int .u8 a.y, .int .i64 a.n]) = true := keyOk_id a
  simp only [ev1, mapAt, h, hk, h1', hlo, and_self, if_true]
  rcases h2 with ⟨h2, j, rfl, h3⟩ | ⟨h2, rfl⟩
  · rw [if_pos h2]
    refine ⟨_, rfl, ?_⟩
    rw [Nat.zero_add]
    exact congrArg (fun x => IObj.map x ks.length) h3
  · rw [if_neg h2]
    refine ⟨_, rfl, ?_⟩
    rw [mapEs_append, Nat.zero_add, List.length_append]
    rfl
end Go.Iso.Gen
end

section
namespace Go.Iso.Gen
open Go.Iso
set_option maxHeartbeats 1000000
set_option maxRecDepth 10000

theorem expl84 (tm : List IV) (h : tm.length = 84) : tm = [tm.getD 0 IV.undef, tm.getD 1 IV.undef, tm.getD 2 IV.undef, tm.getD 3 IV.undef, tm.getD 4 IV.undef, tm.getD 5 IV.undef, tm.getD 6 IV.undef, tm.getD 7 IV.undef, tm.getD 8 IV.undef, tm.getD 9 IV.undef, tm.getD 10 IV.undef, tm.getD 11 IV.undef, tm.getD 12 IV.undef, tm.getD 13 IV.undef, tm.getD 14 IV.undef, tm.getD 15 IV.undef, tm.getD 16 IV.undef, tm.getD 17 IV.undef, tm.getD 18 IV.undef, tm.getD 19 IV.undef, tm.getD 20 IV.undef, tm.getD 21 IV.undef, tm.getD 22 IV.undef, tm.getD 23 IV.undef, tm.getD 24 IV.undef, tm.getD 25 IV.undef, tm.getD 26 IV.undef, tm.getD 27 IV.undef, tm.getD 28 IV.undef, tm.getD 29 IV.undef, tm.getD 30 IV.undef, tm.getD 31 IV.undef, tm.getD 32 IV.undef, tm.getD 33 IV.undef, tm.getD 34 IV.undef, tm.getD 35 IV.undef, tm.getD 36 IV.undef, tm.getD 37 IV.undef, tm.getD 38 IV.undef, tm.getD 39 IV.undef, tm.getD 40 IV.undef, tm.getD 41 IV.undef, tm.getD 42 IV.undef, tm.getD 43 IV.undef, tm.getD 44 IV.undef, tm.getD 45 IV.undef, tm.getD 46 IV.undef, tm.getD 47 IV.undef, tm.getD 48 IV.undef, tm.getD 49 IV.undef, tm.getD 50 IV.undef, tm.getD 51 IV.undef, tm.getD 52 IV.undef, tm.getD 53 IV.undef, tm.getD 54 IV.undef, tm.getD 55 IV.undef, tm.getD 56 IV.undef, tm.getD 57 IV.undef, tm.getD 58 IV.undef, tm.getD 59 IV.undef, tm.getD 60 IV.undef, tm.getD 61 IV.undef, tm.getD 62 IV.undef, tm.getD 63 IV.undef, tm.getD 64 IV.undef, tm.getD 65 IV.undef, tm.getD 66 IV.undef, tm.getD 67 IV.undef, tm.getD 68 IV.undef, tm.getD 69 IV.undef, tm.getD 70 IV.undef, tm.getD 71 IV.undef, tm.getD 72 IV.undef, tm.getD 73 IV.undef, tm.getD 74 IV.undef, tm.getD 75 IV.undef, tm.getD 76 IV.undef, tm.getD 77 IV.undef, tm.getD 78 IV.undef, tm.getD 79 IV.undef, tm.getD 80 IV.undef, tm.getD 81 IV.undef, tm.getD 82 IV.undef, tm.getD 83 IV.undef] := (expl tm 84 h).trans rfl
theorem check1_loop {v : SV} {ls : List (List Id)} {rb lo : Nat} {x : IV} {H : Heap} {Q : Out → Heap → Prop} {rd : Option Nat} {mk : List Nat} {tm : List IV} (hv : Sl2 H v ls) (hl : ls.length ≤ 1000000) (hll : ∀ l ∈ ls, l.length ≤ 1000000)
    (hg : H.get rb = some (.cells false 37 1 [x])) (hlo : lo ≤ rb) (htm : tm.length = 84) (t2 : tm.getD 2 IV.undef = .ptr rb 0) (t27 : tm.getD 27 IV.undef = v.iv) (t28 : tm.getD 28 IV.undef = .int .i64 ls.length) (t29 : tm.getD 29 IV.undef = .int .i64 0)
    (hQ : (∀ l ∈ ls, l.length ≤ 4) → ∀ tm', Q (.ex (.jmp (.exit 2)) ⟨tm', mk⟩) H) (hR : (∃ l ∈ ls, l.length > 4) → ∀ tm', Q (.ex (.jmp .ret) ⟨tm', mk⟩) (H.put rb (.cells false 37 1 [.int .i64 9]))) : W E0 lo (.code (.loop F10l11) rd ⟨tm, mk⟩) H Q := by
  refine W_inv (fun k fr H' => ∃ i, i + k = ls.length ∧ (∀ j (h : j < ls.length), j < i → ls[j].length ≤ 4) ∧ H' = H ∧ fr.marks = mk ∧ fr.tm.length = 84 ∧ fr.tm.getD 2 IV.undef = .ptr rb 0 ∧ fr.tm.getD 27 IV.undef = v.iv ∧ fr.tm.getD 28 IV.undef = .int .i64 ls.length ∧ fr.tm.getD 29 IV.undef = .int .i64 i) ?_ ls.length ⟨0, by omega, fun j _ h => by omega, rfl, rfl, htm, t2, t27, t28, t29⟩
  rintro k ⟨tm, mk⟩ H' ⟨i, hi, hp, rfl, rfl, htm, t2, t27, t28, t29⟩ L hN hJ
  rw [expl84 tm htm, t2, t27, t28, t29]
  by_cases hil : i < ls.length
  · obtain ⟨w, r1, r2, r3⟩ := hv.elem i hil
    have hli := hll _ (List.getElem_mem hil)
    by_cases h4 : ls[i].length > 4
    · simp (disch := omega) only [F10l11, W_seq, wF10o6, F10p6, W_segs_cons, freeI_s, W_op, wantedI_n, guardC_t, evalAll, IA.eval, List.getD_cons_succ, List.getD_cons_zero, optC_s, argC_a, nextOf, lowOf, goC_a, opW, ev1, binI, iLt, decide_true, if_true, Option.map_some, pairC_p, opC_a, Fr.put, List.set, W_ops_nil, segC_n, W_segs_nil, thenC_n, W_cond, condC_t, W_skip, W_block, wF10o7, F10p7, ↓hv.idx, Int.toNat_natCast, Option.getD_none, r1, mkAgg, Option.bind_some, wF10o8, F10p8, ↓r2.ln, wF10o9, F10p9, cellsV_int, List.length_cons, List.length_nil, Nat.zero_add, Heap.write, hg, cLe, Nat.le_refl, List.all_cons, oneV_int, List.all_nil, Bool.and_self, and_true, splice, W_ret, blkC_r, thenC_j, hJ]
      exact hR ⟨_, List.getElem_mem hil, h4⟩ _
    · simp (disch := omega) only [F10l11, W_seq, wF10o6, F10p6, W_segs_cons, freeI_s, W_op, wantedI_n, guardC_t, evalAll, IA.eval, List.getD_cons_succ, List.getD_cons_zero, optC_s, argC_a, nextOf, lowOf, goC_a, opW, ev1, binI, iLt, decide_true, if_true, Option.map_some, pairC_p, opC_a, Fr.put, List.set, W_ops_nil, segC_n, W_segs_nil, thenC_n, W_cond, condC_t, W_skip, W_block, wF10o7, F10p7, ↓hv.idx, Int.toNat_natCast, Option.getD_none, r1, mkAgg, Option.bind_some, wF10o8, F10p8, ↓r2.ln, iLtF, decide_false, condC_f, blkC_n, wF10o10, F10p10, wI64]
      refine hN (k - 1) _ _ (by omega) ⟨i + 1, by omega, fun j h1 h2 => ?_, rfl, rfl, rfl, rfl, rfl, rfl, rfl⟩
      by_cases hj : j = i
      · subst hj; omega
      · exact hp j h1 (by omega)
  · simp (disch := omega) only [F10l11, W_seq, wF10o6, F10p6, W_segs_cons, freeI_s, W_op, wantedI_n, guardC_t, evalAll, IA.eval, List.getD_cons_succ, List.getD_cons_zero, optC_s, argC_a, nextOf, lowOf, goC_a, opW, ev1, binI, iLtF, decide_false, if_true, Option.map_some, pairC_p, opC_a, Fr.put, List.set, W_ops_nil, segC_n, W_segs_nil, thenC_n, W_cond, condC_f, W_exit, thenC_j, hJ]
    refine hQ (fun l hl => ?_) _
    obtain ⟨j, hj, rfl⟩ := List.mem_iff_getElem.1 hl
    exact hp j hj (by omega)

/-- The names of a stack are looked at. -/
theorem check2_inner {w : SV} {l : List Id} {rb lo : Nat} {x : IV} {H : Heap} {Q : Out → Heap → Prop} {rd : Option Nat} {mk : List Nat} {tm : List IV} (hw : Sl H w l) (hl : l.length ≤ 1000000)
    (hg : H.get rb = some (.cells false 37 1 [x])) (hrb : rb < H.n) (hlo : lo ≤ rb) (htm : tm.length = 84) (t2 : tm.getD 2 IV.undef = .ptr rb 0) (t47 : tm.getD 47 IV.undef = w.iv) (t48 : tm.getD 48 IV.undef = .int .i64 l.length) (t49 : tm.getD 49 IV.undef = .int .i64 0)
    (hQ : (∀ a ∈ l, namedB a = true) → ∀ H' tm', Keep H.n H H' → tm'.length = 84 → tm'.getD 2 IV.undef = .ptr rb 0 → tm'.getD 41 IV.undef = tm.getD 41 IV.undef → tm'.getD 42 IV.undef = tm.getD 42 IV.undef → tm'.getD 43 IV.undef = tm.getD 43 IV.undef → Q (.ex (.jmp (.exit 8)) ⟨tm', mk⟩) H') (hR : (∃ a ∈ l, namedB a = false) → ∀ H' tm', Keep H.n H H' → Q (.ex (.jmp .ret) ⟨tm', mk⟩) (H'.put rb (.cells false 37 1 [.int .i64 1]))) : W E0 lo (.code (.loop F10l23) rd ⟨tm, mk⟩) H Q := by
  refine W_inv (fun k fr H' => ∃ i, i + k = l.length ∧ (∀ j (h : j < l.length), j < i → namedB l[j] = true) ∧ Keep H.n H H' ∧ fr.marks = mk ∧ fr.tm.length = 84 ∧ fr.tm.getD 2 IV.undef = .ptr rb 0 ∧ fr.tm.getD 47 IV.undef = w.iv ∧ fr.tm.getD 48 IV.undef = .int .i64 l.length ∧ fr.tm.getD 49 IV.undef = .int .i64 i ∧ fr.tm.getD 41 IV.undef = tm.getD 41 IV.undef ∧ fr.tm.getD 42 IV.undef = tm.getD 42 IV.undef ∧ fr.tm.getD 43 IV.undef = tm.getD 43 IV.undef) ?_ l.length ⟨0, by omega, fun j _ h => by omega, Keep.refl _ _, rfl, htm, t2, t47, t48, t49, rfl, rfl, rfl⟩
  generalize tm.getD 41 IV.undef = y41 at *
  generalize tm.getD 42 IV.undef = y42 at *
  generalize tm.getD 43 IV.undef = y43 at *
  rintro k ⟨tm, mk⟩ H' ⟨i, hi, hp, hk, rfl, htm, t2, t47, t48, t49, t41, t42, t43⟩ L hN hJ
  have hn := hk.1
  have hw' := hw.keep hk
  have hg' := (hk.2 rb hrb hrb).trans hg
  rw [expl84 tm htm, t2, t47, t48, t49, t41, t42, t43]
  by_cases hil : i < l.length
  · have r1 := hw'.read z_Id i hil
    simp (disch := omega) only [F10l23, W_seq, wF10o18, F10p18, W_segs_cons, freeI_s, W_op, wantedI_n, guardC_t, evalAll, IA.eval, List.getD_cons_succ, List.getD_cons_zero, optC_s, argC_a, nextOf, lowOf, goC_a, opW, ev1, binI, iLt, decide_true, if_true, Option.map_some, pairC_p, opC_a, Fr.put, List.set, W_ops_nil, segC_n, W_segs_nil, thenC_n, W_cond, condC_t, W_skip, W_block, wF10o19, F10p19, ↓hw.idx, Int.toNat_natCast, Option.getD_some, r1, cs_Id, mkAgg, Option.bind_some, cellsV_agg, List.length_cons, List.length_nil, Nat.zero_add, Nat.reduceAdd, Heap.write, Heap.get_new, cLe, Nat.le_refl, List.all_cons, oneV_int, List.all_nil, Bool.and_self, and_true, splice, wF10o20, F10p20, read_put, readO_c, List.drop, List.take_succ_cons, List.take, read_new, W_apply, List.nil_append, List.append_nil]
    generalize hH1 : Heap.put _ _ _ = H1
    have k1 : Keep H'.n H' H1 := by rw [← hH1]; exact Keep.newPut
    have hn1 := k1.1
    clear hH1
    rw [← cs_Id]
    refine named_sp _ (by omega) fun H2 k2 => ?_
    have hn2 := k2.1
    have kk : Keep H.n H H2 := hk.trans ((k1.trans (k2.lower hn1)).lower hn)
    have hg2 := (kk.2 rb hrb hrb).trans hg
    cases hb : namedB l[i]
    · simp (disch := omega) only [valC_v, opC_a, Fr.put, List.set, W_op, wantedI_n, guardC_t, evalAll, IA.eval, List.getD_cons_succ, List.getD_cons_zero, optC_s, argC_a, nextOf, lowOf, goC_a, opW, ev1, unI, Bool.not_false, Option.map_some, pairC_p, W_ops_nil, segC_n, W_segs_nil, thenC_n, W_cond, condC_t, W_seq, wF10o21, F10p21, W_segs_cons, freeI_s, cellsV_int, List.length_cons, List.length_nil, Nat.zero_add, Heap.write, hg2, cLe, Nat.le_refl, List.all_cons, oneV_int, List.all_nil, Bool.and_self, and_true, splice, if_true, W_ret, blkC_r, thenC_j, hJ]
      exact hR ⟨_, List.getElem_mem hil, hb⟩ _ _ kk
    · simp (disch := omega) only [valC_v, opC_a, Fr.put, List.set, W_op, wantedI_n, guardC_t, evalAll, IA.eval, List.getD_cons_succ, List.getD_cons_zero, optC_s, argC_a, nextOf, lowOf, goC_a, opW, ev1, unI, Bool.not_true, Option.map_some, pairC_p, W_ops_nil, segC_n, W_segs_nil, thenC_n, W_cond, condC_f, W_skip, blkC_n, wF10o22, F10p22, W_segs_cons, freeI_s, binI, wI64, if_true]
      refine hN (k - 1) _ _ (by omega) ⟨i + 1, by omega, fun j h1 h2 => ?_, kk, rfl, rfl, rfl, rfl, rfl, rfl, rfl, rfl, rfl⟩
      by_cases hj : j = i
      · subst hj; exact hb
      · exact hp j h1 (by omega)
  · simp (disch := omega) only [F10l23, W_seq, wF10o18, F10p18, W_segs_cons, freeI_s, W_op, wantedI_n, guardC_t, evalAll, IA.eval, List.getD_cons_succ, List.getD_cons_zero, optC_s, argC_a, nextOf, lowOf, goC_a, opW, ev1, binI, iLtF, decide_false, if_true, Option.map_some, pairC_p, opC_a, Fr.put, List.set, W_ops_nil, segC_n, W_segs_nil, thenC_n, W_cond, condC_f, W_exit, thenC_j, hJ]
    refine hQ (fun a ha => ?_) _ _ hk rfl rfl rfl rfl rfl
    obtain ⟨j, hj, rfl⟩ := List.mem_iff_getElem.1 ha
    exact hp j hj (by omega)

theorem check2_loop {v : SV} {ls : List (List Id)} {rb lo : Nat} {x : IV} {H : Heap} {Q : Out → Heap → Prop} {rd : Option Nat} {mk : List Nat} {tm : List IV} (hv : Sl2 H v ls) (hl : ls.length ≤ 1000000) (hll : ∀ l ∈ ls, l.length ≤ 1000000)
    (hg : H.get rb = some (.cells false 37 1 [x])) (hrb : rb < H.n) (hlo : lo ≤ rb) (htm : tm.length = 84) (t2 : tm.getD 2 IV.undef = .ptr rb 0) (t41 : tm.getD 41 IV.undef = v.iv) (t42 : tm.getD 42 IV.undef = .int .i64 ls.length) (t43 : tm.getD 43 IV.undef = .int .i64 0)
    (hQ : (∀ a ∈ ls.flatten, namedB a = true) → ∀ H' tm', Keep H.n H H' → Q (.ex (.jmp (.exit 6)) ⟨tm', mk⟩) H') (hR : (∃ a ∈ ls.flatten, namedB a = false) → ∀ H' tm', Keep H.n H H' → Q (.ex (.jmp .ret) ⟨tm', mk⟩) (H'.put rb (.cells false 37 1 [.int .i64 1]))) : W E0 lo (.code (.loop F10l25) rd ⟨tm, mk⟩) H Q := by
  refine W_inv (fun k fr H' => ∃ i, i + k = ls.length ∧ (∀ j (h : j < ls.length), j < i → ∀ a ∈ ls[j], namedB a = true) ∧ Keep H.n H H' ∧ fr.marks = mk ∧ fr.tm.length = 84 ∧ fr.tm.getD 2 IV.undef = .ptr rb 0 ∧ fr.tm.getD 41 IV.undef = v.iv ∧ fr.tm.getD 42 IV.undef = .int .i64 ls.length ∧ fr.tm.getD 43 IV.undef = .int .i64 i) ?_ ls.length ⟨0, by omega, fun j _ h => by omega, Keep.refl _ _, rfl, htm, t2, t41, t42, t43⟩
  rintro k ⟨tm, mk⟩ H' ⟨i, hi, hp, hk, rfl, htm, t2, t41, t42, t43⟩ L hN hJ
  have hn := hk.1
  have hv' := hv.keep hk
  have hg' := (hk.2 rb hrb hrb).trans hg
  rw [expl84 tm htm, t2, t41, t42, t43]
  by_cases hil : i < ls.length
  · obtain ⟨w, r1, r2, r3⟩ := hv'.elem i hil
    simp (disch := omega) only [F10l25, F10l23, W_seq, wF10o15, F10p15, W_segs_cons, freeI_s, W_op, wantedI_n, guardC_t, evalAll, IA.eval, List.getD_cons_succ, List.getD_cons_zero, optC_s, argC_a, nextOf, lowOf, goC_a, opW, ev1, binI, iLt, decide_true, if_true, Option.map_some, pairC_p, opC_a, Fr.put, List.set, W_ops_nil, segC_n, W_segs_nil, thenC_n, W_cond, condC_t, W_skip, W_block, wF10o16, F10p16, ↓hv.idx, Int.toNat_natCast, Option.getD_none, r1, mkAgg, Option.bind_some, wF10o17, F10p17, ↓r2.ln]
    refine check2_inner r2 (hll _ (List.getElem_mem hil)) hg' (by omega) hlo rfl rfl rfl rfl rfl (fun hall H2 tm2 k2 a1 a2 a3 a4 a5 => ?_) (fun hex H2 tm2 k2 => ?_)
    · rw [expl84 tm2 a1, a2, a3, a4, a5]
      simp (disch := omega) only [List.getD_cons_succ, List.getD_cons_zero, blkC_e, blkC_n, thenC_n, wF10o24, F10p24, W_segs_cons, freeI_s, W_op, wantedI_n, guardC_t, evalAll, IA.eval, optC_s, argC_a, nextOf, lowOf, goC_a, opW, ev1, binI, wI64, if_true, Option.map_some, pairC_p, opC_a, Fr.put, List.set, W_ops_nil, segC_n, W_segs_nil, cEqL, thenC_j, if_false]
      refine hN (k - 1) _ _ (by omega) ⟨i + 1, by omega, fun j h1 h2 => ?_, hk.trans (k2.lower hn), rfl, rfl, rfl, rfl, rfl, rfl⟩
      by_cases hj : j = i
      · subst hj; exact hall
      · exact hp j h1 (by omega)
    · simp (disch := omega) only [blkC_r, thenC_j, hJ]
      obtain ⟨a, ha, hb⟩ := hex
      exact hR ⟨a, List.mem_flatten.2 ⟨_, List.getElem_mem hil, ha⟩, hb⟩ _ _ (hk.trans (k2.lower hn))
  · simp (disch := omega) only [F10l25, F10l23, W_seq, wF10o15, F10p15, W_segs_cons, freeI_s, W_op, wantedI_n, guardC_t, evalAll, IA.eval, List.getD_cons_succ, List.getD_cons_zero, optC_s, argC_a, nextOf, lowOf, goC_a, opW, ev1, binI, iLtF, decide_false, if_true, Option.map_some, pairC_p, opC_a, Fr.put, List.set, W_ops_nil, segC_n, W_segs_nil, thenC_n, W_cond, condC_f, W_exit, thenC_j, hJ]
    refine hQ (fun a ha => ?_) _ _ hk
    obtain ⟨l, hl, ha⟩ := List.mem_flatten.1 ha
    obtain ⟨j, hj, rfl⟩ := List.mem_iff_getElem.1 hl
    exact hp j hj (by omega) a ha
end Go.Iso.Gen
end

section
namespace Go.Iso.Gen
open Go.Iso
set_option maxHeartbeats 1000000
set_option maxRecDepth 10000

/-- All blocks but one stay. -/
def KeepB (b : Nat) (H H' : Heap) : Prop := H.n ≤ H'.n ∧ ∀ x, x < H.n → x ≠ b → H'.get x = H.get x
theorem KeepB.refl (b : Nat) (H : Heap) : KeepB b H H := ⟨Nat.le_refl _, fun _ _ _ => rfl⟩
theorem KeepB.trans {b : Nat} {A B C : Heap} (h : KeepB b A B) (k : KeepB b B C) : KeepB b A C :=
  ⟨Nat.le_trans h.1 k.1, fun x h1 h2 => (k.2 x (Nat.lt_of_lt_of_le h1 h.1) h2).trans (h.2 x h1 h2)⟩
theorem KeepB.of {b : Nat} {A B : Heap} (h : Keep A.n A B) : KeepB b A B := ⟨h.1, fun x h1 _ => h.2 x h1 h1⟩
theorem KeepB.put {b : Nat} {H : Heap} {ob : IObj} : KeepB b H (H.put b ob) := ⟨Nat.le_refl _, fun x _ h => by rw [Heap.get_put, if_neg (Ne.symm h)]⟩
theorem Sl.keepB {α : Type} [Cell α] {H H' : Heap} {v : SV} {l : List α} {b : Nat} {es : List (IV × IV × Nat)} {c : Nat} (h : Sl H v l) (k : KeepB b H H') (hb : H.get b = some (.map es c)) : Sl H' v l :=
  h.same k.1 fun hl => k.2 _ (h.blk_lt hl) (h.off hl hb (by simp))
theorem Sl2.keepB {α : Type} [Cell α] {H H' : Heap} {v : SV} {ls : List (List α)} {b : Nat} {es : List (IV × IV × Nat)} {c : Nat} (h : Sl2 H v ls) (k : KeepB b H H') (hb : H.get b = some (.map es c)) : Sl2 H' v ls := by
  obtain ⟨vs, h1, h2, h3⟩ := h
  exact ⟨vs, Sl.keepB h1 k hb, h2, fun i a b => Sl.keepB (h3 i a b) k hb⟩

theorem nodup_snoc {ks : List Id} {a : Id} (h : ks.Nodup) (ha : a ∉ ks) : (ks ++ [a]).Nodup := by
  rw [List.nodup_append]
  refine ⟨h, by simp, ?_⟩
  intro x hx y hy
  rw [List.mem_singleton] at hy
  subst hy
  exact fun e => ha (e ▸ hx)
theorem not_nodup {ks l : List Id} {i : Nat} (hi : i < l.length) (h : l[i] ∈ ks ++ l.take i) : ¬ (ks ++ l).Nodup := by
  intro hn
  have e : ks ++ l = (ks ++ l.take i) ++ (l[i] :: l.drop (i + 1)) := by
    rw [List.append_assoc, ← List.drop_eq_getElem_cons hi, List.take_append_drop]
  rw [e, List.nodup_append] at hn
  exact hn.2.2 _ h _ (List.mem_cons_self ..) rfl

theorem check3_inner {w : SV} {l ks : List Id} {rb tb mb lo : Nat} {x : IV} {H : Heap} {Q : Out → Heap → Prop} {rd : Option Nat} {mk : List Nat} {tm : List IV} (hw : Sl H w l) (hl : l.length ≤ 1000000)
    (hg : H.get rb = some (.cells false 37 1 [x])) (hrb : rb < H.n) (hlo : lo ≤ rb) (hgt : H.get tb = some (.cells false 62 1 [.map mb])) (htb : tb < H.n) (hmb : mb < H.n) (hlm : lo ≤ mb) (hm : MapIds H mb ks) (hnd : ks.Nodup) (htm : tm.length = 84) (t2 : tm.getD 2 IV.undef = .ptr rb 0) (t13 : tm.getD 13 IV.undef = .ptr tb 0) (t71 : tm.getD 71 IV.undef = w.iv) (t72 : tm.getD 72 IV.undef = .int .i64 l.length) (t73 : tm.getD 73 IV.undef = .int .i64 0)
    (hQ : (ks ++ l).Nodup → ∀ H' tm', KeepB mb H H' → MapIds H' mb (ks ++ l) → tm'.length = 84 → tm'.getD 2 IV.undef = .ptr rb 0 → tm'.getD 13 IV.undef = .ptr tb 0 → tm'.getD 65 IV.undef = tm.getD 65 IV.undef → tm'.getD 66 IV.undef = tm.getD 66 IV.undef → tm'.getD 67 IV.undef = tm.getD 67 IV.undef → Q (.ex (.jmp (.exit 14)) ⟨tm', mk⟩) H') (hR : ¬ (ks ++ l).Nodup → ∀ H' tm', KeepB mb H H' → Q (.ex (.jmp .ret) ⟨tm', mk⟩) (H'.put rb (.cells false 37 1 [.int .i64 8]))) : W E0 lo (.code (.loop F10l39) rd ⟨tm, mk⟩) H Q := by
  refine W_inv (fun k fr H' => ∃ i, i + k = l.length ∧ (ks ++ l.take i).Nodup ∧ KeepB mb H H' ∧ MapIds H' mb (ks ++ l.take i) ∧ fr.marks = mk ∧ fr.tm.length = 84 ∧ fr.tm.getD 2 IV.undef = .ptr rb 0 ∧ fr.tm.getD 13 IV.undef = .ptr tb 0 ∧ fr.tm.getD 71 IV.undef = w.iv ∧ fr.tm.getD 72 IV.undef = .int .i64 l.length ∧ fr.tm.getD 73 IV.undef = .int .i64 i ∧ fr.tm.getD 65 IV.undef = tm.getD 65 IV.undef ∧ fr.tm.getD 66 IV.undef = tm.getD 66 IV.undef ∧ fr.tm.getD 67 IV.undef = tm.getD 67 IV.undef) ?_ l.length ⟨0, by omega, by simpa using hnd, KeepB.refl _ _, by simpa using hm, rfl, htm, t2, t13, t71, t72, t73, rfl, rfl, rfl⟩
  generalize tm.getD 65 IV.undef = y65 at *
  generalize tm.getD 66 IV.undef = y66 at *
  generalize tm.getD 67 IV.undef = y67 at *
  rintro k ⟨tm, mk⟩ H' ⟨i, hi, hnd', hk, hm', rfl, htm, t2, t13, t71, t72, t73, t65, t66, t67⟩ L hN hJ
  have hn := hk.1
  have hw' := Sl.keepB hw hk hm
  have hrm : rb ≠ mb := fun e => by subst e; have h2 : H.get rb = _ := hm; rw [h2] at hg; cases hg
  have htm' : tb ≠ mb := fun e => by subst e; have h2 : H.get tb = _ := hm; rw [h2] at hgt; cases hgt
  have hg' := (hk.2 rb hrb hrm).trans hg
  have hgt' := (hk.2 tb htb htm').trans hgt
  have rt := read_get hgt'
  rw [expl84 tm htm, t2, t13, t71, t72, t73, t65, t66, t67]
  by_cases hil : i < l.length
  · have r1 := hw'.read z_Id i hil
    have kk : KeepB mb H ((H'.new (.cells false 28 2 [.int .u8 0, .int .i64 0])).put H'.n (.cells false 28 2 (Cell.cs l[i]))) := hk.trans (KeepB.of Keep.newPut)
    have hm2 : MapIds ((H'.new (.cells false 28 2 [.int .u8 0, .int .i64 0])).put H'.n (.cells false 28 2 (Cell.cs l[i]))) mb (ks ++ l.take i) := by
      show Heap.get _ _ = _
      rw [Heap.get_put, if_neg (by omega), Heap.get_new, if_neg (by omega)]
      exact hm'
    have hlk := hm2.look l[i]
    have eb : (H'.n = rb) = False := by simp; omega
    by_cases hin : l[i] ∈ ks ++ l.take i
    · rw [decide_eq_true hin] at hlk
      simp only [cs_Id] at hlk
      simp (disch := omega) only [F10l39, W_seq, wF10o33, F10p33, W_segs_cons, freeI_s, W_op, wantedI_n, guardC_t, evalAll, IA.eval, List.getD_cons_succ, List.getD_cons_zero, optC_s, argC_a, nextOf, lowOf, goC_a, opW, ev1, binI, iLt, decide_true, if_true, Option.map_some, pairC_p, opC_a, Fr.put, List.set, W_ops_nil, segC_n, W_segs_nil, thenC_n, W_cond, condC_t, W_skip, W_block, wF10o34, F10p34, ↓hw.idx, Int.toNat_natCast, Option.getD_some, r1, cs_Id, mkAgg, Option.bind_some, cellsV_agg, List.length_cons, List.length_nil, Nat.zero_add, Nat.reduceAdd, Heap.write, Heap.get_new, cLe, Nat.le_refl, List.all_cons, oneV_int, List.all_nil, Bool.and_self, and_true, splice, wF10o35, F10p35, Option.getD_none, read_put, cEqL, readO_c, List.drop, List.take_succ_cons, List.take, read_new, rt, if_false, ↓hlk, wF10o36, F10p36, cellsV_int, Heap.get_put, eb, hg', W_ret, thenC_j, blkC_r, hJ]
      exact hR (not_nodup hil hin) _ _ kk
    · rw [decide_eq_false hin] at hlk
      obtain ⟨ob, hup, hob⟩ := hm2.upd l[i] lo hlm
      rw [if_neg hin, List.append_assoc, ← List.take_succ_eq_append_getElem hil] at hob
      simp only [cs_Id] at hlk hup
      simp (disch := omega) only [F10l39, W_seq, wF10o33, F10p33, W_segs_cons, freeI_s, W_op, wantedI_n, guardC_t, evalAll, IA.eval, List.getD_cons_succ, List.getD_cons_zero, optC_s, argC_a, nextOf, lowOf, goC_a, opW, ev1, binI, iLt, decide_true, if_true, Option.map_some, pairC_p, opC_a, Fr.put, List.set, W_ops_nil, segC_n, W_segs_nil, thenC_n, W_cond, condC_t, W_skip, W_block, wF10o34, F10p34, ↓hw.idx, Int.toNat_natCast, Option.getD_some, r1, cs_Id, mkAgg, Option.bind_some, cellsV_agg, List.length_cons, List.length_nil, Nat.zero_add, Nat.reduceAdd, Heap.write, Heap.get_new, cLe, Nat.le_refl, List.all_cons, oneV_int, List.all_nil, Bool.and_self, and_true, splice, wF10o35, F10p35, Option.getD_none, read_put, cEqL, readO_c, List.drop, List.take_succ_cons, List.take, read_new, rt, if_false, ↓hlk, condC_f, wF10o37, F10p37, ↓hup, blkC_n, wF10o38, F10p38, wI64]
      refine hN (k - 1) _ _ (by omega) ⟨i + 1, by omega, ?_, kk.trans KeepB.put, ?_, rfl, rfl, rfl, rfl, rfl, rfl, rfl, rfl, rfl, rfl⟩
      · rw [List.take_succ_eq_append_getElem hil, ← List.append_assoc]
        exact nodup_snoc hnd' hin
      · show Heap.get _ _ = _
        rw [Heap.get_put, if_pos rfl, hob]
  · rw [List.take_of_length_le (by omega)] at hnd' hm'
    simp (disch := omega) only [F10l39, W_seq, wF10o33, F10p33, W_segs_cons, freeI_s, W_op, wantedI_n, guardC_t, evalAll, IA.eval, List.getD_cons_succ, List.getD_cons_zero, optC_s, argC_a, nextOf, lowOf, goC_a, opW, ev1, binI, iLtF, decide_false, if_true, Option.map_some, pairC_p, opC_a, Fr.put, List.set, W_ops_nil, segC_n, W_segs_nil, thenC_n, W_cond, condC_f, W_exit, thenC_j, hJ]
    exact hQ hnd' _ _ hk hm' rfl rfl rfl rfl rfl rfl

theorem take_flatten (ls : List (List Id)) (i : Nat) (h : i < ls.length) : (ls.take (i + 1)).flatten = (ls.take i).flatten ++ ls[i] := by
  rw [List.take_succ_eq_append_getElem h, List.flatten_append]
  simp
theorem not_nodup_take {ks : List Id} {ls : List (List Id)} {i : Nat} (h : i < ls.length) (hn : ¬ ((ks ++ (ls.take i).flatten) ++ ls[i]).Nodup) : ¬ (ks ++ ls.flatten).Nodup := by
  intro hd
  apply hn
  rw [List.append_assoc, ← take_flatten ls i h]
  rw [← List.take_append_drop (i + 1) ls, List.flatten_append, ← List.append_assoc] at hd
  exact (List.nodup_append.1 hd).1

theorem check3_loop {v : SV} {ls : List (List Id)} {ks : List Id} {rb tb mb lo : Nat} {x : IV} {H : Heap} {Q : Out → Heap → Prop} {rd : Option Nat} {mk : List Nat} {tm : List IV} (hv : Sl2 H v ls) (hl : ls.length ≤ 1000000) (hll : ∀ l ∈ ls, l.length ≤ 1000000)
    (hg : H.get rb = some (.cells false 37 1 [x])) (hrb : rb < H.n) (hlo : lo ≤ rb) (hgt : H.get tb = some (.cells false 62 1 [.map mb])) (htb : tb < H.n) (hmb : mb < H.n) (hlm : lo ≤ mb) (hm : MapIds H mb ks) (hnd : ks.Nodup) (htm : tm.length = 84) (t2 : tm.getD 2 IV.undef = .ptr rb 0) (t13 : tm.getD 13 IV.undef = .ptr tb 0) (t65 : tm.getD 65 IV.undef = v.iv) (t66 : tm.getD 66 IV.undef = .int .i64 ls.length) (t67 : tm.getD 67 IV.undef = .int .i64 0)
    (hQ : (ks ++ ls.flatten).Nodup → ∀ H' tm', KeepB mb H H' → MapIds H' mb (ks ++ ls.flatten) → Q (.ex (.jmp (.exit 12)) ⟨tm', mk⟩) H') (hR : ¬ (ks ++ ls.flatten).Nodup → ∀ H' tm', KeepB mb H H' → Q (.ex (.jmp .ret) ⟨tm', mk⟩) (H'.put rb (.cells false 37 1 [.int .i64 8]))) : W E0 lo (.code (.loop F10l41) rd ⟨tm, mk⟩) H Q := by
  refine W_inv (fun k fr H' => ∃ i, i + k = ls.length ∧ (ks ++ (ls.take i).flatten).Nodup ∧ KeepB mb H H' ∧ MapIds H' mb (ks ++ (ls.take i).flatten) ∧ fr.marks = mk ∧ fr.tm.length = 84 ∧ fr.tm.getD 2 IV.undef = .ptr rb 0 ∧ fr.tm.getD 13 IV.undef = .ptr tb 0 ∧ fr.tm.getD 65 IV.undef = v.iv ∧ fr.tm.getD 66 IV.undef = .int .i64 ls.length ∧ fr.tm.getD 67 IV.undef = .int .i64 i) ?_ ls.length ⟨0, by omega, by simpa using hnd, KeepB.refl _ _, by simpa using hm, rfl, htm, t2, t13, t65, t66, t67⟩
  rintro k ⟨tm, mk⟩ H' ⟨i, hi, hnd', hk, hm', rfl, htm, t2, t13, t65, t66, t67⟩ L hN hJ
  have hn := hk.1
  have hv' := Sl2.keepB hv hk hm
  have hrm : rb ≠ mb := fun e => by subst e; have h2 : H.get rb = _ := hm; rw [h2] at hg; cases hg
  have htm' : tb ≠ mb := fun e => by subst e; have h2 : H.get tb = _ := hm; rw [h2] at hgt; cases hgt
  have hg' := (hk.2 rb hrb hrm).trans hg
  have hgt' := (hk.2 tb htb htm').trans hgt
  rw [expl84 tm htm, t2, t13, t65, t66, t67]
  by_cases hil : i < ls.length
  · obtain ⟨w, r1, r2, r3⟩ := hv'.elem i hil
    simp (disch := omega) only [F10l41, F10l39, W_seq, wF10o30, F10p30, W_segs_cons, freeI_s, W_op, wantedI_n, guardC_t, evalAll, IA.eval, List.getD_cons_succ, List.getD_cons_zero, optC_s, argC_a, nextOf, lowOf, goC_a, opW, ev1, binI, iLt, decide_true, if_true, Option.map_some, pairC_p, opC_a, Fr.put, List.set, W_ops_nil, segC_n, W_segs_nil, thenC_n, W_cond, condC_t, W_skip, W_block, wF10o31, F10p31, ↓hv.idx, Int.toNat_natCast, Option.getD_none, r1, mkAgg, Option.bind_some, wF10o32, F10p32, ↓r2.ln]
    refine check3_inner r2 (hll _ (List.getElem_mem hil)) hg' (by omega) hlo hgt' (by omega) (by omega) hlm hm' hnd' rfl rfl rfl rfl rfl rfl (fun hall H2 tm2 k2 m2 a1 a2 a3 a4 a5 a6 => ?_) (fun hex H2 tm2 k2 => ?_)
    · rw [expl84 tm2 a1, a2, a3, a4, a5, a6]
      simp (disch := omega) only [List.getD_cons_succ, List.getD_cons_zero, blkC_e, blkC_n, thenC_n, wF10o40, F10p40, W_segs_cons, freeI_s, W_op, wantedI_n, guardC_t, evalAll, IA.eval, optC_s, argC_a, nextOf, lowOf, goC_a, opW, ev1, binI, wI64, if_true, Option.map_some, pairC_p, opC_a, Fr.put, List.set, W_ops_nil, segC_n, W_segs_nil, cEqL, thenC_j, if_false]
      refine hN (k - 1) _ _ (by omega) ⟨i + 1, by omega, ?_, hk.trans k2, ?_, rfl, rfl, rfl, rfl, rfl, rfl, rfl⟩
      · rw [take_flatten ls i hil, ← List.append_assoc]; exact hall
      · rw [take_flatten ls i hil, ← List.append_assoc]; exact m2
    · simp (disch := omega) only [blkC_r, thenC_j, hJ]
      exact hR (not_nodup_take hil hex) _ _ (hk.trans k2)
  · rw [List.take_of_length_le (by omega)] at hnd' hm'
    simp (disch := omega) only [F10l41, F10l39, W_seq, wF10o30, F10p30, W_segs_cons, freeI_s, W_op, wantedI_n, guardC_t, evalAll, IA.eval, List.getD_cons_succ, List.getD_cons_zero, optC_s, argC_a, nextOf, lowOf, goC_a, opW, ev1, binI, iLtF, decide_false, if_true, Option.map_some, pairC_p, opC_a, Fr.put, List.set, W_ops_nil, segC_n, W_segs_nil, thenC_n, W_cond, condC_f, W_exit, thenC_j, hJ]
    exact hQ hnd' _ _ hk hm'
end Go.Iso.Gen
end

section
namespace Go.Iso.Gen
open Go.Iso
set_option maxHeartbeats 2000000
set_option maxRecDepth 10000

def fullB (ls : List (List Id)) : Bool := decide (ls.length > 40) || ls.any fun l => decide (l.length > 4)
/-- The error of beds. -/
def checkE (fs bs : List (List Id)) : Int :=
  if fullB fs = true ∨ fullB bs = true then 9
  else if (fs ++ bs).flatten.all namedB = false then 1
  else if (fs ++ bs).flatten.Nodup then 0 else 8

theorem check_sp {f b : SV} {fs bs : List (List Id)} {H : Heap} {lo : Nat} {Q : Out → Heap → Prop} (hf : Sl2 H f fs) (hb : Sl2 H b bs) (hlf : fs.length ≤ 1000000) (hlb : bs.length ≤ 1000000) (hl : ∀ l ∈ fs, l.length ≤ 1000000) (hl' : ∀ l ∈ bs, l.length ≤ 1000000) (hlo : lo ≤ H.n)
    (h : ∀ H' , Keep H.n H H' → Q (.val (.int .i64 (checkE fs bs))) H') : W E0 lo (.call 10 [bv f b]) H Q := by
  refine pureQ _ hlo h fun R hR => ?_
  clear h
  rw [c10]
  have full1 : ∀ ls : List (List Id), ls.length > 40 → fullB ls = true := fun ls h => by simp [fullB, h]
  have full2 : ∀ ls : List (List Id), (∃ l ∈ ls, l.length > 4) → fullB ls = true := fun ls ⟨l, h1, h2⟩ => by
    unfold fullB; rw [Bool.or_eq_true]; exact .inr (List.any_eq_true.2 ⟨l, h1, decide_eq_true h2⟩)
  have full3 : ∀ ls : List (List Id), ¬ ls.length > 40 → (∀ l ∈ ls, l.length ≤ 4) → fullB ls = false := fun ls h1 h2 => by
    unfold fullB; rw [decide_eq_false h1, Bool.false_or, List.any_eq_false]; intro l hl; have := h2 l hl; simp; omega
  by_cases h40 : fs.length > 40
  · have : checkE fs bs = 9 := by unfold checkE; rw [if_pos (.inl (full1 _ h40))]
    rw [this] at hR
    simp (disch := omega) only [F10b, bv, F10, List.length_cons, List.length_nil, Nat.zero_add, Nat.reduceSub, undefs, List.cons_append, List.nil_append, W_seq, wF10o0, F10p0, W_segs_cons, freeI_s, W_op, wantedI_n, guardC_t, evalAll, IA.eval, List.getD_cons_zero, optC_s, argC_a, nextOf, lowOf, goC_a, opW, ev1, cellsV_agg, pairC_p, opC_a, Fr.put, List.set, Heap.n_new, W_ops_nil, segC_n, W_segs_nil, thenC_n, wF10o1, F10p1, List.getD_cons_succ, Option.getD_some, read_new, cEqL, readO_c, cLeF, List.drop, List.take_succ_cons, List.take, if_false, Nat.reduceAdd, Nat.le_refl, if_true, mkAgg, Option.map_some, Option.bind_some, W_apply, List.append_nil, c22, F22b, F22, wF22o0, F22p0, Nat.add_assoc, wF22o1, F22p1, W_ret, retC_r, unmark, leaveC_a, resultsOf, resultOf, valsC_a, tupled, valC_v, W_block, W_rfn0, c33, F33b, F33, wF33o0, F33p0, Nat.add_zero, Option.getD_none, cLe, cEqR, W_yield0, Heap.get_new, yieldE_l, setAll, wF10o2, F10p2, readyC_n, readyE_l, wF10o3, F10p3, ↓hf.ln, binI, iLt, decide_true, W_cond, condC_t, wF10o4, F10p4, cellsV_int, Heap.write, Heap.get_put, List.all_cons, oneV_int, List.all_nil, Bool.and_self, and_true, splice, thenC_j, blkC_r, turnC_e, turnE_j, condC_f, W_skip, retC_n, rfnC_v, rfnE_l, ne_eq, reduceCtorEq, not_false_eq_true, pendX_s, read_put, true_and]
    exact hR _
  simp (disch := omega) only [F10b, bv, F10, List.length_cons, List.length_nil, Nat.zero_add, Nat.reduceSub, undefs, List.cons_append, List.nil_append, W_seq, wF10o0, F10p0, W_segs_cons, freeI_s, W_op, wantedI_n, guardC_t, evalAll, IA.eval, List.getD_cons_zero, optC_s, argC_a, nextOf, lowOf, goC_a, opW, ev1, cellsV_agg, pairC_p, opC_a, Fr.put, List.set, Heap.n_new, W_ops_nil, segC_n, W_segs_nil, thenC_n, wF10o1, F10p1, List.getD_cons_succ, Option.getD_some, read_new, cEqL, readO_c, cLeF, List.drop, List.take_succ_cons, List.take, if_false, Nat.reduceAdd, Nat.le_refl, if_true, mkAgg, Option.map_some, Option.bind_some, W_apply, List.append_nil, c22, F22b, F22, wF22o0, F22p0, Nat.add_assoc, wF22o1, F22p1, W_ret, retC_r, unmark, leaveC_a, resultsOf, resultOf, valsC_a, tupled, valC_v, W_block, W_rfn0, c33, F33b, F33, wF33o0, F33p0, Nat.add_zero, Option.getD_none, cLe, cEqR, W_yield0, Heap.get_new, yieldE_l, setAll, wF10o2, F10p2, readyC_n, readyE_l, wF10o3, F10p3, ↓hf.ln, binI, iLtF, decide_false, W_cond, condC_f, W_skip, wF10o5, F10p5, true_and]
  generalize hH1 : Heap.put _ _ _ = H1
  have hn1 : H1.n = H.n + 5 := by rw [← hH1]; rfl
  have g0 := congrArg (fun h0 => Heap.get h0 (H.n)) hH1.symm
  simp (disch := omega) only [Heap.get_put, cEqL, Heap.get_new, Heap.n_new, Nat.add_assoc, Nat.reduceAdd, if_true, if_false] at g0
  have g1 := congrArg (fun h0 => Heap.get h0 (H.n + 1)) hH1.symm
  simp (disch := omega) only [Heap.get_put, cEqL, Heap.get_new, Heap.n_new, Nat.add_assoc, Nat.reduceAdd, cEqR, if_false, if_true] at g1
  have g2 := congrArg (fun h0 => Heap.get h0 (H.n + 2)) hH1.symm
  simp (disch := omega) only [Heap.get_put, cEqL, Heap.get_new, Heap.n_new, Nat.add_assoc, Nat.reduceAdd, cEqR, if_false, if_true] at g2
  have g3 := congrArg (fun h0 => Heap.get h0 (H.n + 3)) hH1.symm
  simp (disch := omega) only [Heap.get_put, cEqL, Heap.get_new, Heap.n_new, Nat.add_assoc, Nat.reduceAdd, cEqR, if_false, if_true] at g3
  have g4 := congrArg (fun h0 => Heap.get h0 (H.n + 4)) hH1.symm
  simp (disch := omega) only [Heap.get_put, Heap.get_new, Heap.n_new, Nat.add_assoc, Nat.reduceAdd, cEqR, if_false, if_true] at g4
  have k1 : Keep H.n H H1 := ⟨by omega, fun x hx _ => by
    have gx := congrArg (fun h0 => Heap.get h0 x) hH1.symm
    simp (disch := omega) only [Heap.get_put, cEqL, Heap.get_new, Heap.n_new, Nat.add_assoc, Nat.reduceAdd, if_false] at gx
    exact gx⟩
  clear hH1
  refine check1_loop (hf.keep k1) hlf hl g1 (by omega) rfl rfl rfl rfl rfl (fun hall tm' => ?_) (fun hex tm' => ?_)
  case refine_2 =>
    have : checkE fs bs = 9 := by unfold checkE; rw [if_pos (.inl (full2 _ hex))]
    rw [this] at hR
    simp (disch := omega) only [blkC_r, turnC_e, Heap.get_put, cEqR, g4, if_false, turnE_j, valC_v, opC_a, Fr.put, List.set, W_ops_nil, segC_n, W_segs_nil, thenC_n, W_cond, IA.eval, List.getD_cons_succ, List.getD_cons_zero, optC_s, condC_f, W_skip, retC_n, unmark, leaveC_a, resultsOf, valsC_a, tupled, rfnC_v, if_true, rfnE_l, ne_eq, reduceCtorEq, not_false_eq_true, cLe, pendX_s, List.append_nil, thenC_j, retC_r, cEqL, g3, resultOf, Option.getD_none, read_put, readO_c, Nat.zero_add, List.length_cons, List.length_nil, Nat.le_refl, List.drop, List.take_succ_cons, List.take, Option.bind_some, mkAgg, true_and]
    exact hR _
  have hff := full3 fs h40 hall
  have r2 := read_get g2
  by_cases h40' : bs.length > 40
  · have : checkE fs bs = 9 := by unfold checkE; rw [if_pos (.inr (full1 _ h40'))]
    rw [this] at hR
    simp (disch := omega) only [blkC_e, blkC_n, turnC_e, g4, turnE_n, valC_v, opC_a, Fr.put, List.set, W_ops_nil, segC_n, W_segs_nil, thenC_n, W_cond, IA.eval, List.getD_cons_succ, List.getD_cons_zero, optC_s, condC_t, wF33o1, F33p1, W_segs_cons, freeI_s, W_op, wantedI_n, guardC_t, evalAll, argC_a, nextOf, lowOf, goC_a, opW, ev1, pairC_p, Nat.zero_add, Option.getD_none, read_put, cEqL, r2, Nat.reduceAdd, List.length_cons, List.length_nil, Nat.le_refl, List.drop, List.take_succ_cons, List.take, if_true, if_false, mkAgg, Option.bind_some, Option.map_some, W_yield0, Heap.get_put, yieldE_l, cLe, setAll, wF10o2, F10p2, readyC_n, readyE_l, W_block, W_seq, wF10o3, F10p3, ↓hb.ln, binI, iLt, decide_true, wF10o4, F10p4, cellsV_int, Heap.write, g1, List.all_cons, oneV_int, List.all_nil, Bool.and_self, and_true, splice, W_ret, thenC_j, blkC_r, cEqR, turnE_j, retC_n, unmark, leaveC_a, resultsOf, valsC_a, tupled, rfnC_v, rfnE_l, ne_eq, reduceCtorEq, not_false_eq_true, pendX_s, List.append_nil, retC_r, g3, resultOf, readO_c, true_and, condC_f, W_skip, wF10o12, F10p12, Option.getD_some]
    exact hR _
  simp (disch := omega) only [blkC_e, blkC_n, turnC_e, g4, turnE_n, valC_v, opC_a, Fr.put, List.set, W_ops_nil, segC_n, W_segs_nil, thenC_n, W_cond, IA.eval, List.getD_cons_succ, List.getD_cons_zero, optC_s, condC_t, wF33o1, F33p1, W_segs_cons, freeI_s, W_op, wantedI_n, guardC_t, evalAll, argC_a, nextOf, lowOf, goC_a, opW, ev1, pairC_p, Nat.zero_add, Option.getD_none, read_put, cEqL, r2, Nat.reduceAdd, List.length_cons, List.length_nil, Nat.le_refl, List.drop, List.take_succ_cons, List.take, if_true, if_false, mkAgg, Option.bind_some, Option.map_some, W_yield0, Heap.get_put, yieldE_l, cLe, setAll, wF10o2, F10p2, readyC_n, readyE_l, W_block, W_seq, wF10o3, F10p3, ↓hb.ln, binI, iLtF, decide_false, condC_f, W_skip, wF10o5, F10p5, true_and, turnE_j, retC_n, unmark, leaveC_a, resultsOf, valsC_a, tupled, rfnC_v, rfnE_l, ne_eq, reduceCtorEq, not_false_eq_true, pendX_s, List.append_nil, wF10o12, F10p12, Option.getD_some, thenC_j]
  generalize hH2 : Heap.put _ _ _ = H2
  have hn2 : H2.n = H.n + 5 := by rw [← hH2]; exact hn1
  have f4 := congrArg (fun h0 => Heap.get h0 (H.n + 4)) hH2.symm
  simp (disch := omega) only [Heap.get_put, if_true] at f4
  have k2 : ∀ x, x ≠ H.n + 4 → H2.get x = H1.get x := fun x hx => by rw [← hH2, Heap.get_put, if_neg (Ne.symm hx), Heap.get_put, if_neg (Ne.symm hx)]
  clear hH2
  have f0 := (k2 (H.n) (by omega)).trans g0
  have f1 := (k2 (H.n + 1) (by omega)).trans g1
  have f3 := (k2 (H.n + 3) (by omega)).trans g3
  have kk2 : Keep H.n H H2 := ⟨by omega, fun x hx _ => (k2 x (by omega)).trans (k1.2 x hx hx)⟩
  clear g0 g1 g2 g3 g4 r2 k2 k1 hn1
  refine check1_loop (hb.keep kk2) hlb hl' f1 (by omega) rfl rfl rfl rfl rfl (fun hall' tm2 => ?_) (fun hex tm2 => ?_)
  case refine_2 =>
    have : checkE fs bs = 9 := by unfold checkE; rw [if_pos (.inr (full2 _ hex))]
    rw [this] at hR
    simp (disch := omega) only [blkC_r, turnC_e, Heap.get_put, cEqR, f4, if_false, turnE_j, valC_v, opC_a, Fr.put, List.set, W_ops_nil, segC_n, W_segs_nil, retC_n, unmark, optC_s, leaveC_a, resultsOf, valsC_a, tupled, rfnC_v, if_true, rfnE_l, ne_eq, reduceCtorEq, not_false_eq_true, cLe, pendX_s, List.append_nil, thenC_j, retC_r, cEqL, f3, resultOf, List.getD_cons_succ, List.getD_cons_zero, Option.getD_none, read_put, readO_c, Nat.zero_add, List.length_cons, List.length_nil, Nat.le_refl, List.drop, List.take_succ_cons, List.take, Option.bind_some, mkAgg, true_and]
    exact hR _
  have hfb := full3 bs h40' hall'
  have r0 := read_get f0
  simp (disch := omega) only [blkC_e, blkC_n, turnC_e, f4, turnE_n, valC_v, opC_a, Fr.put, List.set, W_ops_nil, segC_n, W_segs_nil, retC_n, unmark, optC_s, leaveC_a, resultsOf, valsC_a, tupled, rfnC_v, Heap.get_put, if_true, rfnE_l, ne_eq, reduceCtorEq, not_false_eq_true, cLe, pendX_n, List.append_nil, thenC_n, W_seq, wF10o12, F10p12, W_segs_cons, freeI_s, W_op, wantedI_n, guardC_t, evalAll, IA.eval, List.getD_cons_succ, List.getD_cons_zero, argC_a, nextOf, lowOf, goC_a, opW, ev1, Option.getD_some, read_put, cEqL, r0, Nat.zero_add, List.length_cons, List.length_nil, Nat.reduceAdd, Nat.le_refl, List.drop, List.take_succ_cons, List.take, if_false, mkAgg, Option.map_some, Option.bind_some, pairC_p, W_apply, List.nil_append, c22, F22b, F22, Nat.reduceSub, undefs, List.cons_append, wF22o0, F22p0, Heap.n_put, cellsV_agg, wF22o1, F22p1, W_ret, retC_r, resultOf, W_block, W_rfn0, Heap.n_new, Nat.add_assoc, c33, F33b, F33, wF33o0, F33p0, Nat.add_zero, Option.getD_none, read_new, readO_c, cEqR, W_yield0, Heap.get_new, yieldE_l, setAll, wF10o13, F10p13, readyC_n, readyE_l, wF10o14, F10p14, ↓hf.ln, true_and, turnE_j, pendX_s, thenC_j]
  generalize hH3 : Heap.put _ _ _ = H3
  have hn3 : H3.n = H2.n + 3 := by rw [← hH3]; rfl
  have p0 := congrArg (fun h0 => Heap.get h0 (H2.n)) hH3.symm
  simp (disch := omega) only [Heap.get_put, cEqL, Heap.get_new, Heap.n_new, Heap.n_put, Nat.add_assoc, Nat.reduceAdd, cEqR, if_false, if_true] at p0
  have p1 := congrArg (fun h0 => Heap.get h0 (H2.n + 1)) hH3.symm
  simp (disch := omega) only [Heap.get_put, cEqL, Heap.get_new, Heap.n_new, Heap.n_put, Nat.add_assoc, Nat.reduceAdd, cEqR, if_false, if_true] at p1
  have p2 := congrArg (fun h0 => Heap.get h0 (H2.n + 2)) hH3.symm
  simp (disch := omega) only [Heap.get_put, Heap.get_new, Heap.n_new, Heap.n_put, Nat.add_assoc, Nat.reduceAdd, cEqR, if_false, if_true] at p2
  have k3 : ∀ x, x < H2.n → x ≠ H.n + 4 → H3.get x = H2.get x := fun x h1 h2 => by
    rw [← hH3, Heap.get_put, if_neg (by omega), Heap.get_new, if_neg (by simp only [Heap.n_new, Heap.n_put]; omega), Heap.get_new, if_neg (by simp only [Heap.n_new, Heap.n_put]; omega), Heap.get_new, if_neg (by simp only [Heap.n_new, Heap.n_put]; omega), Heap.get_put, if_neg (Ne.symm h2), Heap.get_put, if_neg (Ne.symm h2)]
  clear hH3
  have q0 := (k3 (H.n) (by omega) (by omega)).trans f0
  have q1 := (k3 (H.n + 1) (by omega) (by omega)).trans f1
  have q3 := (k3 (H.n + 3) (by omega) (by omega)).trans f3
  have kk3 : Keep H.n H H3 := ⟨by omega, fun x hx _ => (k3 x (by omega) (by omega)).trans (kk2.2 x hx hx)⟩
  clear f0 f1 f3 f4 r0 k3 kk2
  have bad1 : ∀ ls : List (List Id), (ls = fs ∨ ls = bs) → (∃ a ∈ ls.flatten, namedB a = false) → checkE fs bs = 1 := by
    intro ls hls ⟨a, h1, h2⟩
    have : (fs ++ bs).flatten.all namedB = false := by
      rw [List.all_eq_false]
      refine ⟨a, ?_, by rw [h2]; simp⟩
      rw [List.flatten_append, List.mem_append]
      rcases hls with rfl | rfl
      · exact .inl h1
      · exact .inr h1
    unfold checkE
    rw [if_neg (by rw [hff, hfb]; simp), if_pos this]
  refine check2_loop (hf.keep kk3) hlf hl q1 (by omega) (by omega) rfl rfl rfl rfl rfl (fun hnf H4 tm4 k4 => ?_) (fun hex H4 tm4 k4 => ?_)
  case refine_2 =>
    have u1 := (k4.2 _ (by omega) (by omega)).trans p1
    have u2 := (k4.2 _ (by omega) (by omega)).trans p2
    have u3 := (k4.2 _ (by omega) (by omega)).trans q3
    rw [bad1 fs (.inl rfl) hex] at hR
    simp (disch := omega) only [blkC_r, turnC_e, Heap.get_put, cEqR, u2, if_false, turnE_j, valC_v, opC_a, Fr.put, List.set, W_ops_nil, segC_n, W_segs_nil, thenC_n, W_cond, IA.eval, List.getD_cons_succ, List.getD_cons_zero, optC_s, condC_f, W_skip, retC_n, unmark, leaveC_a, resultsOf, valsC_a, tupled, rfnC_v, if_true, rfnE_l, ne_eq, reduceCtorEq, not_false_eq_true, cLe, pendX_s, List.cons_append, List.nil_append, thenC_j, retC_r, cEqL, u1, u3, resultOf, Option.getD_none, read_put, readO_c, Nat.zero_add, List.length_cons, List.length_nil, Nat.le_refl, List.drop, List.take_succ_cons, List.take, Option.bind_some, mkAgg, true_and]
    exact hR _
  have hn4 := k4.1
  have s0 := (k4.2 _ (by omega) (by omega)).trans p0
  have s1 := (k4.2 _ (by omega) (by omega)).trans p1
  have s2 := (k4.2 _ (by omega) (by omega)).trans p2
  have v0 := (k4.2 _ (by omega) (by omega)).trans q0
  have v1 := (k4.2 _ (by omega) (by omega)).trans q1
  have v3 := (k4.2 _ (by omega) (by omega)).trans q3
  have kk4 : Keep H.n H H4 := kk3.trans (k4.lower (by omega))
  have rs0 := read_get s0
  clear p0 p1 p2 q0 q1 q3
  simp (disch := omega) only [blkC_e, blkC_n, turnC_e, s2, turnE_n, valC_v, opC_a, Fr.put, List.set, W_ops_nil, segC_n, W_segs_nil, thenC_n, W_cond, IA.eval, List.getD_cons_succ, List.getD_cons_zero, optC_s, condC_t, wF33o1, F33p1, W_segs_cons, freeI_s, W_op, wantedI_n, guardC_t, evalAll, argC_a, nextOf, lowOf, goC_a, opW, ev1, pairC_p, Nat.zero_add, Option.getD_none, read_put, cEqL, rs0, Nat.reduceAdd, List.length_cons, List.length_nil, Nat.le_refl, List.drop, List.take_succ_cons, List.take, if_true, if_false, mkAgg, Option.bind_some, Option.map_some, W_yield0, Heap.get_put, yieldE_l, cLe, setAll, wF10o13, F10p13, readyC_n, readyE_l, W_block, W_seq, wF10o14, F10p14, ↓hb.ln, true_and, turnE_j, condC_f, W_skip, retC_n, unmark, leaveC_a, resultsOf, valsC_a, tupled, rfnC_v, rfnE_l, ne_eq, reduceCtorEq, not_false_eq_true, pendX_s, List.cons_append, List.nil_append, wF10o26, F10p26, Option.getD_some, thenC_j]
  generalize hH5 : Heap.put _ _ _ = H5
  have hn5 : H5.n = H4.n := by rw [← hH5]; rfl
  have p2 := congrArg (fun h0 => Heap.get h0 (H2.n + 2)) hH5.symm
  simp (disch := omega) only [Heap.get_put, if_true] at p2
  have k5 : ∀ x, x ≠ H2.n + 2 → H5.get x = H4.get x := fun x hx => by rw [← hH5, Heap.get_put, if_neg (Ne.symm hx), Heap.get_put, if_neg (Ne.symm hx)]
  clear hH5
  have p1 := (k5 (H2.n + 1) (by omega)).trans s1
  have q0 := (k5 (H.n) (by omega)).trans v0
  have q1 := (k5 (H.n + 1) (by omega)).trans v1
  have q3 := (k5 (H.n + 3) (by omega)).trans v3
  have kk5 : Keep H.n H H5 := ⟨by omega, fun x hx _ => (k5 x (by omega)).trans (kk4.2 x hx hx)⟩
  clear s0 s1 s2 v0 v1 v3 rs0 k5 kk4
  refine check2_loop (hb.keep kk5) hlb hl' q1 (by omega) (by omega) rfl rfl rfl rfl rfl (fun hnb H6 tm6 k6 => ?_) (fun hex H6 tm6 k6 => ?_)
  case refine_2 =>
    have u1 := (k6.2 _ (by omega) (by omega)).trans p1
    have u2 := (k6.2 _ (by omega) (by omega)).trans p2
    have u3 := (k6.2 _ (by omega) (by omega)).trans q3
    rw [bad1 bs (.inr rfl) hex] at hR
    simp (disch := omega) only [blkC_r, turnC_e, Heap.get_put, cEqR, u2, if_false, turnE_j, valC_v, opC_a, Fr.put, List.set, W_ops_nil, segC_n, W_segs_nil, retC_n, unmark, optC_s, leaveC_a, resultsOf, valsC_a, tupled, rfnC_v, if_true, rfnE_l, ne_eq, reduceCtorEq, not_false_eq_true, cLe, pendX_s, List.cons_append, List.nil_append, thenC_j, retC_r, cEqL, u1, u3, resultOf, List.getD_cons_succ, List.getD_cons_zero, Option.getD_none, read_put, readO_c, Nat.zero_add, List.length_cons, List.length_nil, Nat.le_refl, List.drop, List.take_succ_cons, List.take, Option.bind_some, mkAgg, true_and]
    exact hR _
  have hn6 := k6.1
  have s1 := (k6.2 _ (by omega) (by omega)).trans p1
  have s2 := (k6.2 _ (by omega) (by omega)).trans p2
  have v0 := (k6.2 _ (by omega) (by omega)).trans q0
  have v1 := (k6.2 _ (by omega) (by omega)).trans q1
  have v3 := (k6.2 _ (by omega) (by omega)).trans q3
  have kk6 : Keep H.n H H6 := kk5.trans (k6.lower (by omega))
  have rv0 := read_get v0
  clear p1 p2 q0 q1 q3
  have hall6 : (fs ++ bs).flatten.all namedB = true := by
    rw [List.all_eq_true]
    intro a ha
    rw [List.flatten_append, List.mem_append] at ha
    rcases ha with ha | ha
    · exact hnf a ha
    · exact hnb a ha
  simp (disch := omega) only [blkC_e, blkC_n, turnC_e, s2, turnE_n, valC_v, opC_a, Fr.put, List.set, W_ops_nil, segC_n, W_segs_nil, retC_n, unmark, optC_s, leaveC_a, resultsOf, valsC_a, tupled, rfnC_v, Heap.get_put, if_true, rfnE_l, ne_eq, reduceCtorEq, not_false_eq_true, cLe, pendX_n, List.cons_append, List.nil_append, thenC_n, W_seq, wF10o26, F10p26, W_segs_cons, freeI_s, W_op, wantedI_n, guardC_t, evalAll, IA.eval, List.getD_cons_succ, List.getD_cons_zero, argC_a, nextOf, lowOf, goC_a, opW, ev1, Option.getD_some, read_put, cEqL, rv0, Nat.zero_add, List.length_cons, List.length_nil, Nat.reduceAdd, Nat.le_refl, List.drop, List.take_succ_cons, List.take, if_false, mkAgg, Option.map_some, Option.bind_some, pairC_p, W_apply, List.append_nil, true_and, turnE_j, pendX_s, thenC_j]
  generalize hH7 : Heap.put _ _ _ = H7
  have hn7 : H7.n = H6.n := by rw [← hH7]; rfl
  have k7 : ∀ x, x ≠ H2.n + 2 → H7.get x = H6.get x := fun x hx => by rw [← hH7, Heap.get_put, if_neg (Ne.symm hx), Heap.get_put, if_neg (Ne.symm hx)]
  clear hH7
  have p1 := (k7 (H2.n + 1) (by omega)).trans s1
  have q0 := (k7 (H.n) (by omega)).trans v0
  have q1 := (k7 (H.n + 1) (by omega)).trans v1
  have q3 := (k7 (H.n + 3) (by omega)).trans v3
  have kk7 : Keep H.n H H7 := ⟨by omega, fun x hx _ => (k7 x (by omega)).trans (kk6.2 x hx hx)⟩
  clear s1 s2 v0 v1 v3 rv0 k7 kk6
  have hbv : IV.agg [f.iv, b.iv] = bv f b := rfl
  rw [hbv]
  refine count_sp (hf.keep kk7) (hb.keep kk7) hlf hlb hl hl' (by omega) fun H8 k8 => ?_
  have hn8 := k8.1
  have s1 := (k8.2 _ (by omega) (by omega)).trans p1
  have v0 := (k8.2 _ (by omega) (by omega)).trans q0
  have v1 := (k8.2 _ (by omega) (by omega)).trans q1
  have v3 := (k8.2 _ (by omega) (by omega)).trans q3
  have kk8 : Keep H.n H H8 := kk7.trans (k8.lower (by omega))
  have rv0 := read_get v0
  clear p1 q0 q1 q3
  simp (disch := omega) only [bv, valC_v, opC_a, Fr.put, List.set, W_op, wantedI_n, guardC_t, evalAll, IA.eval, List.getD_cons_succ, List.getD_cons_zero, optC_s, argC_a, nextOf, lowOf, goC_a, opW, ev1, pairC_p, Heap.n_new, cellsV_map, List.length_cons, List.length_nil, Nat.zero_add, Heap.write, Heap.get_new, cEqR, if_false, if_true, cLe, Nat.le_refl, List.all_cons, oneV_map, List.all_nil, Bool.and_self, and_true, splice, Option.map_some, W_ops_nil, segC_n, W_segs_nil, thenC_n, W_seq, wF10o27, F10p27, W_segs_cons, freeI_s, Option.getD_some, read_put, cEqL, readO_c, cLeF, List.drop, List.take_succ_cons, List.take, read_new, rv0, Nat.reduceAdd, mkAgg, Option.bind_some, W_apply, List.nil_append, List.append_nil, c22, F22b, F22, Nat.reduceSub, undefs, List.cons_append, wF22o0, F22p0, Heap.n_put, Nat.add_assoc, cellsV_agg, wF22o1, F22p1, W_ret, retC_r, unmark, leaveC_a, resultsOf, resultOf, valsC_a, tupled, W_block, W_rfn0, c33, F33b, F33, wF33o0, F33p0, Nat.add_zero, Option.getD_none, W_yield0, Heap.get_put, yieldE_l, setAll, wF10o28, F10p28, readyC_n, readyE_l, wF10o29, F10p29, ↓hf.ln, true_and]
  generalize hH9 : Heap.put _ _ _ = H9
  have hn9 : H9.n = H8.n + 5 := by rw [← hH9]; rfl
  have m0 := congrArg (fun h0 => Heap.get h0 (H8.n)) hH9.symm
  simp (disch := omega) only [Heap.get_put, cEqL, Heap.get_new, Heap.n_new, Heap.n_put, Nat.add_assoc, Nat.reduceAdd, if_true, if_false] at m0
  have m1 := congrArg (fun h0 => Heap.get h0 (H8.n + 1)) hH9.symm
  simp (disch := omega) only [Heap.get_put, cEqL, Heap.get_new, Heap.n_new, Heap.n_put, Nat.add_assoc, Nat.reduceAdd, cEqR, if_false, if_true] at m1
  have m2 := congrArg (fun h0 => Heap.get h0 (H8.n + 2)) hH9.symm
  simp (disch := omega) only [Heap.get_put, cEqL, Heap.get_new, Heap.n_new, Heap.n_put, Nat.add_assoc, Nat.reduceAdd, cEqR, if_false, if_true] at m2
  have m3 := congrArg (fun h0 => Heap.get h0 (H8.n + 3)) hH9.symm
  simp (disch := omega) only [Heap.get_put, cEqL, Heap.get_new, Heap.n_new, Heap.n_put, Nat.add_assoc, Nat.reduceAdd, cEqR, if_false, if_true] at m3
  have m4 := congrArg (fun h0 => Heap.get h0 (H8.n + 4)) hH9.symm
  simp (disch := omega) only [Heap.get_put, Heap.get_new, Heap.n_new, Heap.n_put, Nat.add_assoc, Nat.reduceAdd, cEqR, if_false, if_true] at m4
  have k9 : ∀ x, x < H8.n → H9.get x = H8.get x := fun x h1 => by
    have gx := congrArg (fun h0 => Heap.get h0 x) hH9.symm
    simp (disch := omega) only [Heap.get_put, cEqL, Heap.get_new, Heap.n_new, Heap.n_put, Nat.add_assoc, Nat.reduceAdd, if_false] at gx
    exact gx
  clear hH9
  have p1 := (k9 (H2.n + 1) (by omega)).trans s1
  have q1 := (k9 (H.n + 1) (by omega)).trans v1
  have q3 := (k9 (H.n + 3) (by omega)).trans v3
  have kk9 : Keep H.n H H9 := ⟨by omega, fun x hx _ => (k9 x (by omega)).trans (kk8.2 x hx hx)⟩
  clear s1 v0 v1 v3 rv0 k9 kk8
  have dup1 : ¬ (fs ++ bs).flatten.Nodup → checkE fs bs = 8 := fun hd => by
    unfold checkE
    rw [if_neg (by rw [hff, hfb]; simp), if_neg (by rw [hall6]; simp), if_neg hd]
  refine check3_loop (ks := []) (hf.keep kk9) hlf hl q1 (by omega) (by omega) m1 (by omega) (by omega) (by omega) m0 List.nodup_nil rfl rfl rfl rfl rfl rfl (fun hnd H10 tm10 k10 mm10 => ?_) (fun hex H10 tm10 k10 => ?_)
  case refine_2 =>
    have u1 := (k10.2 _ (by omega) (by omega)).trans m3
    have u2 := (k10.2 _ (by omega) (by omega)).trans m4
    have u3 := (k10.2 _ (by omega) (by omega)).trans p1
    have u4 := (k10.2 _ (by omega) (by omega)).trans q3
    rw [dup1 (fun hd => hex (by rw [List.flatten_append] at hd; rw [List.nil_append]; exact (List.nodup_append.1 hd).1))] at hR
    simp (disch := omega) only [blkC_r, turnC_e, Heap.get_put, cEqR, u2, if_false, turnE_j, valC_v, opC_a, Fr.put, List.set, W_ops_nil, segC_n, W_segs_nil, thenC_n, W_cond, IA.eval, List.getD_cons_succ, List.getD_cons_zero, optC_s, condC_f, W_skip, retC_n, unmark, leaveC_a, resultsOf, valsC_a, tupled, rfnC_v, if_true, rfnE_l, ne_eq, reduceCtorEq, not_false_eq_true, cLe, pendX_s, List.cons_append, List.nil_append, thenC_j, retC_r, cEqL, u1, u3, u4, resultOf, Option.getD_none, read_put, readO_c, Nat.zero_add, List.length_cons, List.length_nil, Nat.le_refl, List.drop, List.take_succ_cons, List.take, Option.bind_some, mkAgg, true_and]
    exact hR _
  rw [List.nil_append] at hnd mm10
  have hn10 := k10.1
  have mg : H9.get H8.n = some (.map (mapEs [] 0) 0) := m0
  have s1 := (k10.2 _ (by omega) (by omega)).trans m1
  have s2 := (k10.2 _ (by omega) (by omega)).trans m2
  have s3 := (k10.2 _ (by omega) (by omega)).trans m3
  have s4 := (k10.2 _ (by omega) (by omega)).trans m4
  have s5 := (k10.2 _ (by omega) (by omega)).trans p1
  have s6 := (k10.2 _ (by omega) (by omega)).trans q1
  have s7 := (k10.2 _ (by omega) (by omega)).trans q3
  have hb10 := Sl2.keepB (hb.keep kk9) k10 mg
  have rs2 := read_get s2
  clear m0 m1 m2 m3 m4 p1 q1 q3 mg k10
  simp (disch := omega) only [blkC_e, blkC_n, turnC_e, s4, turnE_n, valC_v, opC_a, Fr.put, List.set, W_ops_nil, segC_n, W_segs_nil, thenC_n, W_cond, IA.eval, List.getD_cons_succ, List.getD_cons_zero, optC_s, condC_t, wF33o1, F33p1, W_segs_cons, freeI_s, W_op, wantedI_n, guardC_t, evalAll, argC_a, nextOf, lowOf, goC_a, opW, ev1, pairC_p, Nat.zero_add, Option.getD_none, read_put, cEqL, rs2, Nat.reduceAdd, List.length_cons, List.length_nil, Nat.le_refl, List.drop, List.take_succ_cons, List.take, if_true, if_false, mkAgg, Option.bind_some, Option.map_some, W_yield0, Heap.get_put, yieldE_l, cLe, setAll, wF10o28, F10p28, readyC_n, readyE_l, W_block, W_seq, wF10o29, F10p29, ↓hb.ln, true_and, turnE_j, condC_f, W_skip, retC_n, unmark, leaveC_a, resultsOf, valsC_a, tupled, rfnC_v, rfnE_l, ne_eq, reduceCtorEq, not_false_eq_true, pendX_s, List.cons_append, List.nil_append, wF10o42, F10p42, cellsV_int, Heap.write, List.all_cons, oneV_int, List.all_nil, Bool.and_self, and_true, thenC_j]
  generalize hH11 : Heap.put _ _ _ = H11
  have hn11 : H11.n = H10.n := by rw [← hH11]; rfl
  have p4 := congrArg (fun h0 => Heap.get h0 (H8.n + 4)) hH11.symm
  simp (disch := omega) only [Heap.get_put, if_true] at p4
  have k11 : KeepB (H8.n + 4) H10 H11 := ⟨by omega, fun x _ hx => by rw [← hH11, Heap.get_put, if_neg (Ne.symm hx), Heap.get_put, if_neg (Ne.symm hx)]⟩
  clear hH11
  have p1 := (k11.2 _ (by omega) (by omega)).trans s1
  have p3 := (k11.2 _ (by omega) (by omega)).trans s3
  have p5 := (k11.2 _ (by omega) (by omega)).trans s5
  have p6 := (k11.2 _ (by omega) (by omega)).trans s6
  have p7 := (k11.2 _ (by omega) (by omega)).trans s7
  have mm11 : MapIds H11 H8.n fs.flatten := (k11.2 _ (by omega) (by omega)).trans mm10
  have hb11 : Sl2 H11 b bs := by
    obtain ⟨vs, h1, h2, h3⟩ := hb10
    exact ⟨vs, h1.same k11.1 fun hl => k11.2 _ (h1.blk_lt hl) (h1.off hl s4 (by simp)), h2, fun i a b => (h3 i a b).same k11.1 fun hl => k11.2 _ ((h3 i a b).blk_lt hl) ((h3 i a b).off hl s4 (by simp))⟩
  clear s1 s2 s3 s4 s5 s6 s7 rs2 k11 mm10 hb10
  refine check3_loop (ks := fs.flatten) hb11 hlb hl' p6 (by omega) (by omega) p1 (by omega) (by omega) (by omega) mm11 hnd rfl rfl rfl rfl rfl rfl (fun hnd' H12 tm12 k12 mm12 => ?_) (fun hex H12 tm12 k12 => ?_)
  case refine_2 =>
    have u1 := (k12.2 _ (by omega) (by omega)).trans p3
    have u2 := (k12.2 _ (by omega) (by omega)).trans p4
    have u3 := (k12.2 _ (by omega) (by omega)).trans p5
    have u4 := (k12.2 _ (by omega) (by omega)).trans p7
    rw [dup1 (by rw [List.flatten_append]; exact hex)] at hR
    simp (disch := omega) only [blkC_r, turnC_e, Heap.get_put, cEqR, u2, if_false, turnE_j, valC_v, opC_a, Fr.put, List.set, W_ops_nil, segC_n, W_segs_nil, retC_n, unmark, optC_s, leaveC_a, resultsOf, valsC_a, tupled, rfnC_v, if_true, rfnE_l, ne_eq, reduceCtorEq, not_false_eq_true, cLe, pendX_s, List.cons_append, List.nil_append, thenC_j, retC_r, cEqL, u1, u3, u4, resultOf, List.getD_cons_succ, List.getD_cons_zero, Option.getD_none, read_put, readO_c, Nat.zero_add, List.length_cons, List.length_nil, Nat.le_refl, List.drop, List.take_succ_cons, List.take, Option.bind_some, mkAgg, true_and]
    exact hR _
  have hn12 := k12.1
  have u1 := (k12.2 _ (by omega) (by omega)).trans p3
  have u2 := (k12.2 _ (by omega) (by omega)).trans p4
  have u3 := (k12.2 _ (by omega) (by omega)).trans p5
  have u4 := (k12.2 _ (by omega) (by omega)).trans p7
  have u5 := (k12.2 _ (by omega) (by omega)).trans p6
  have ok : checkE fs bs = 0 := by
    unfold checkE
    rw [if_neg (by rw [hff, hfb]; simp), if_neg (by rw [hall6]; simp), if_pos (by rw [List.flatten_append]; exact hnd')]
  rw [ok] at hR
  simp (disch := omega) only [blkC_e, blkC_n, turnC_e, u2, turnE_n, valC_v, opC_a, Fr.put, List.set, W_ops_nil, segC_n, W_segs_nil, retC_n, unmark, optC_s, leaveC_a, resultsOf, valsC_a, tupled, rfnC_v, Heap.get_put, if_true, rfnE_l, ne_eq, reduceCtorEq, not_false_eq_true, cLe, pendX_n, List.cons_append, List.nil_append, thenC_n, W_seq, wF10o42, F10p42, W_segs_cons, freeI_s, W_op, wantedI_n, guardC_t, evalAll, IA.eval, List.getD_cons_succ, List.getD_cons_zero, argC_a, nextOf, lowOf, goC_a, opW, ev1, cellsV_int, List.length_cons, List.length_nil, Nat.zero_add, Heap.write, cEqL, u5, if_false, Nat.le_refl, List.all_cons, oneV_int, List.all_nil, Bool.and_self, and_true, splice, Option.map_some, pairC_p, W_ret, retC_r, cEqR, u1, u3, u4, resultOf, Option.getD_none, read_put, readO_c, List.drop, List.take_succ_cons, List.take, Option.bind_some, mkAgg, true_and, turnE_j, pendX_s, thenC_j]
  exact hR _
end Go.Iso.Gen
end

section
namespace Go.Iso
/-- A slice of slices, all in blocks from n0 on. -/
def Sl2F {α : Type} [Cell α] (n0 : Nat) (H : Heap) (v : SV) (ls : List (List α)) : Prop := ∃ vs : List SV, Sl H v vs ∧ vs.length = ls.length ∧ (vs ≠ [] → n0 ≤ v.blk) ∧ ∀ (i : Nat) (h : i < ls.length) (h' : i < vs.length), Sl H vs[i] ls[i] ∧ (ls[i] ≠ [] → n0 ≤ vs[i].blk)
theorem Sl2F.sl2 {α : Type} [Cell α] {n0 : Nat} {H : Heap} {v : SV} {ls : List (List α)} (h : Sl2F n0 H v ls) : Sl2 H v ls := by
  obtain ⟨vs, h1, h2, h3, h4⟩ := h
  exact ⟨vs, h1, h2, fun i a b => (h4 i a b).1⟩
theorem Sl2F.keep {α : Type} [Cell α] {n0 : Nat} {H H' : Heap} {v : SV} {ls : List (List α)} (h : Sl2F n0 H v ls) (k : Keep H.n H H') : Sl2F n0 H' v ls := by
  obtain ⟨vs, h1, h2, h3, h4⟩ := h
  exact ⟨vs, h1.keep k, h2, h3, fun i a b => ⟨(h4 i a b).1.keep k, (h4 i a b).2⟩⟩
theorem Sl2F.put {α : Type} [Cell α] {n0 x : Nat} {H : Heap} {v : SV} {ls : List (List α)} {ob : IObj} (h : Sl2F n0 H v ls) (hx : x < n0) : Sl2F n0 (H.put x ob) v ls := by
  obtain ⟨vs, h1, h2, h3, h4⟩ := h
  refine ⟨vs, h1.same (Nat.le_refl _) fun hl => ?_, h2, h3, fun i a b => ⟨(h4 i a b).1.same (Nat.le_refl _) fun hl => ?_, (h4 i a b).2⟩⟩
  · have := h3 hl
    rw [Heap.get_put, if_neg (by omega)]
  · have := (h4 i a b).2 hl
    rw [Heap.get_put, if_neg (by omega)]
theorem Sl2F.lower {α : Type} [Cell α] {n0 n1 : Nat} {H : Heap} {v : SV} {ls : List (List α)} (h : Sl2F n0 H v ls) (hn : n1 ≤ n0) : Sl2F n1 H v ls := by
  obtain ⟨vs, h1, h2, h3, h4⟩ := h
  exact ⟨vs, h1, h2, fun a => Nat.le_trans hn (h3 a), fun i a b => ⟨(h4 i a b).1, fun c => Nat.le_trans hn ((h4 i a b).2 c)⟩⟩
end Go.Iso
namespace Go.Iso.Gen
open Go.Iso
set_option maxHeartbeats 2000000
set_option maxRecDepth 10000

/-- A bed in which a needle holds these loops (none if at is 0), with room for the needle. -/
def padL (ls : List (List Id)) (at_ : Nat) (l : List Id) : List (List Id) :=
  if at_ = 0 then ls else (ls ++ List.replicate (at_ - ls.length) []).set (at_ - 1) l
def putL (ls : List (List Id)) (at_ : Nat) (l : List Id) : List (List Id) := (padL ls at_ l).take (shortN (padL ls at_ l))

theorem expl44 (tm : List IV) (h : tm.length = 44) : tm = [tm.getD 0 IV.undef, tm.getD 1 IV.undef, tm.getD 2 IV.undef, tm.getD 3 IV.undef, tm.getD 4 IV.undef, tm.getD 5 IV.undef, tm.getD 6 IV.undef, tm.getD 7 IV.undef, tm.getD 8 IV.undef, tm.getD 9 IV.undef, tm.getD 10 IV.undef, tm.getD 11 IV.undef, tm.getD 12 IV.undef, tm.getD 13 IV.undef, tm.getD 14 IV.undef, tm.getD 15 IV.undef, tm.getD 16 IV.undef, tm.getD 17 IV.undef, tm.getD 18 IV.undef, tm.getD 19 IV.undef, tm.getD 20 IV.undef, tm.getD 21 IV.undef, tm.getD 22 IV.undef, tm.getD 23 IV.undef, tm.getD 24 IV.undef, tm.getD 25 IV.undef, tm.getD 26 IV.undef, tm.getD 27 IV.undef, tm.getD 28 IV.undef, tm.getD 29 IV.undef, tm.getD 30 IV.undef, tm.getD 31 IV.undef, tm.getD 32 IV.undef, tm.getD 33 IV.undef, tm.getD 34 IV.undef, tm.getD 35 IV.undef, tm.getD 36 IV.undef, tm.getD 37 IV.undef, tm.getD 38 IV.undef, tm.getD 39 IV.undef, tm.getD 40 IV.undef, tm.getD 41 IV.undef, tm.getD 42 IV.undef, tm.getD 43 IV.undef] := (expl tm 44 h).trans rfl
theorem put_loop {b2 lo : Nat} {rs : List (List Id)} {H0 H : Heap} {vs : List SV} {Q : Out → Heap → Prop} {tm : List IV} (hlo : lo ≤ b2) (hb2 : H0.n ≤ b2) (hl : rs.length ≤ 1000000) (hll : ∀ l ∈ rs, l.length ≤ 1000000) (hvs : vs.length = rs.length) (ho : Own H b2 29 rs.length vs) (hs : ∀ j (h : j < rs.length) (h' : j < vs.length), Sl H vs[j] rs[j] ∧ (rs[j] ≠ [] → vs[j].blk ≠ b2)) (hk : Keep H0.n H0 H)
    (htm : tm.length = 44) (t7 : tm.getD 7 IV.undef = .slice b2 0 rs.length rs.length true) (t30 : tm.getD 30 IV.undef = .slice b2 0 rs.length rs.length true) (t31 : tm.getD 31 IV.undef = .int .i64 rs.length) (t32 : tm.getD 32 IV.undef = .int .i64 0)
    (hQ : ∀ H' tm' vs', vs'.length = rs.length → Own H' b2 29 rs.length vs' → (∀ j (h : j < rs.length) (h' : j < vs'.length), Sl H' vs'[j] rs[j] ∧ (rs[j] ≠ [] → H0.n ≤ vs'[j].blk)) → Keep H0.n H0 H' → tm'.length = 44 → tm'.getD 7 IV.undef = .slice b2 0 rs.length rs.length true → Q (.ex (.jmp (.exit 0)) ⟨tm', []⟩) H') : W E0 lo (.code (.loop F36l11) none ⟨tm, []⟩) H Q := by
  refine W_inv (fun k fr H' => ∃ i vs, i + k = rs.length ∧ vs.length = rs.length ∧ Own H' b2 29 rs.length vs ∧ (∀ j (h : j < rs.length) (h' : j < vs.length), Sl H' vs[j] rs[j] ∧ (rs[j] ≠ [] → vs[j].blk ≠ b2 ∧ (j < i → H0.n ≤ vs[j].blk))) ∧ Keep H0.n H0 H' ∧ fr.marks = [] ∧ fr.tm.length = 44 ∧ fr.tm.getD 7 IV.undef = .slice b2 0 rs.length rs.length true ∧ fr.tm.getD 30 IV.undef = .slice b2 0 rs.length rs.length true ∧ fr.tm.getD 31 IV.undef = .int .i64 rs.length ∧ fr.tm.getD 32 IV.undef = .int .i64 i) ?_ rs.length ⟨0, vs, by omega, hvs, ho, fun j h h' => ⟨(hs j h h').1, fun hl => ⟨(hs j h h').2 hl, fun h0 => by omega⟩⟩, hk, rfl, htm, t7, t30, t31, t32⟩
  clear hvs ho hs hk vs htm t7 t30 t31 t32
  rintro k ⟨tm, mk⟩ H' ⟨i, vs, hi, hvs, ho, hs, hk, rfl, htm, t7, t30, t31, t32⟩ L hN hJ
  rw [expl44 tm htm, t7, t30, t31, t32]
  rw [← SV.sl_iv]
  have hn := hk.1
  have hb2n := ho.2.1
  have hsl := ho.sl true
  rw [hvs] at hsl
  by_cases hil : i < rs.length
  · have r1 := hsl.read z_SV i (by omega)
    simp only [SV.blk_sl, SV.off_sl, cs_SV, Nat.zero_add] at r1
    obtain ⟨hi1, hi2⟩ := hs i hil (by omega)
    have hx : (i : Int) < vs.length := by omega
    simp (disch := omega) only [F36l11, SV.sl_iv, W_seq, wF36o7, F36p7, W_segs_cons, freeI_s, W_op, wantedI_n, guardC_t, evalAll, IA.eval, List.getD_cons_succ, List.getD_cons_zero, optC_s, argC_a, nextOf, lowOf, goC_a, opW, ev1, binI, iLt, decide_true, if_true, Option.map_some, pairC_p, opC_a, Fr.put, List.set, W_ops_nil, segC_n, W_segs_nil, thenC_n, W_cond, condC_t, W_skip, W_block, wF36o8, F36p8, iLe, and_true, Int.toNat_natCast, Nat.zero_add, Option.getD_none, r1, mkAgg, Option.bind_some, wF36o9, F36p9, W_apply, List.nil_append, List.append_nil]
    refine copiedId_sp hi1 (hll _ (List.getElem_mem hil)) (by omega) fun H2 c k2 hc ho2 => ?_
    have hn2 := k2.1
    have hoo := ho.keep k2
    rw [← hvs] at hoo
    have hfull := hoo.full
    have hoo' := hoo.put z_SV i (by omega) (.sl c 0 rs[i].length rs[i].length true)
    simp only [z_SV, cs_SV] at hoo' hfull
    have hfl : (flat vs).length = vs.length := by rw [flat_length, z_SV, Nat.mul_one]
    have e1 : (i * 1 + 1 ≤ (flat vs).length) = True := by rw [hfl]; simp; omega
    simp (disch := omega) only [SV.sl_iv, valC_v, opC_a, Fr.put, List.set, W_op, wantedI_n, guardC_t, evalAll, IA.eval, List.getD_cons_succ, List.getD_cons_zero, optC_s, argC_a, nextOf, lowOf, goC_a, opW, ev1, iLe, iLt, and_true, Int.toNat_natCast, Nat.zero_add, if_true, pairC_p, cellsV_slice, List.length_cons, List.length_nil, Heap.write, hfull, cLe, e1, List.all_cons, oneV_slice, List.all_nil, Bool.and_self, Option.map_some, W_ops_nil, segC_n, W_segs_nil, blkC_n, thenC_n, wF36o10, F36p10, W_segs_cons, freeI_s, binI, wI64]
    rw [hvs] at hoo'
    refine hN (k - 1) _ _ (by omega) ⟨i + 1, _, by omega, by simpa using hvs, hoo', fun j h1 h2 => ?_, (hk.trans (k2.lower hn)).trans (.put _ _ (by omega)), rfl, rfl, rfl, rfl, rfl, rfl⟩
    have hsame : ∀ (w : SV) (l : List Id), Sl H2 w l → (l ≠ [] → w.blk ≠ b2) → ∀ ob, Sl (H2.put b2 ob) w l := fun w l h1 h2 ob => h1.same (Nat.le_refl _) fun hl => by rw [Heap.get_put, if_neg (Ne.symm (h2 hl))]
    by_cases hj : j = i
    · subst hj
      rw [List.getElem_set_self]
      have hcb : c ≠ b2 := by omega
      exact ⟨hsame _ _ (ho2.sl true) (fun _ => hcb) _, fun _ => ⟨hcb, fun _ => by rw [SV.blk_sl]; omega⟩⟩
    · rw [List.getElem_set_ne (Ne.symm hj)]
      obtain ⟨q1, q2⟩ := hs j h1 (by omega)
      exact ⟨hsame _ _ (q1.keep k2) (fun hl => (q2 hl).1) _, fun hl => ⟨(q2 hl).1, fun h => (q2 hl).2 (by omega)⟩⟩
  · simp (disch := omega) only [F36l11, SV.sl_iv, W_seq, wF36o7, F36p7, W_segs_cons, freeI_s, W_op, wantedI_n, guardC_t, evalAll, IA.eval, List.getD_cons_succ, List.getD_cons_zero, optC_s, argC_a, nextOf, lowOf, goC_a, opW, ev1, binI, iLtF, decide_false, if_true, Option.map_some, pairC_p, opC_a, Fr.put, List.set, W_ops_nil, segC_n, W_segs_nil, thenC_n, W_cond, condC_f, W_exit, thenC_j, hJ]
    exact hQ _ _ vs hvs ho (fun j h1 h2 => ⟨(hs j h1 h2).1, fun hl => ((hs j h1 h2).2 hl).2 (by omega)⟩) hk rfl rfl

theorem padL_length (ls : List (List Id)) (at_ : Nat) (l : List Id) : (padL ls at_ l).length = max ls.length at_ := by
  unfold padL
  split
  · omega
  · rw [List.length_set, List.length_append, List.length_replicate]; omega
theorem padL_mem (ls : List (List Id)) (at_ : Nat) (l : List Id) (m : Nat) (h : ∀ x ∈ ls, x.length ≤ m) (hl : l.length ≤ m) : ∀ x ∈ padL ls at_ l, x.length ≤ m := by
  intro x hx
  unfold padL at hx
  split at hx
  · exact h x hx
  · rcases List.mem_or_eq_of_mem_set hx with hx | hx
    · rw [List.mem_append, List.mem_replicate] at hx
      rcases hx with hx | ⟨_, rfl⟩
      · exact h x hx
      · simp
    · subst hx; exact hl
/-- Values that hold what a padded bed has. -/
theorem pad_sl {H : Heap} {us : List SV} {ls : List (List Id)} {w : SV} {l : List Id} {at_ : Nat} (hu : us.length = ls.length) (hs : ∀ j (h : j < ls.length) (h' : j < us.length), Sl H us[j] ls[j]) (hw : Sl H w l) :
    ∀ j (h : j < (padL ls at_ l).length) (h' : j < ((if at_ = 0 then us else (us ++ List.replicate (at_ - us.length) SV.nil).set (at_ - 1) w)).length), Sl H ((if at_ = 0 then us else (us ++ List.replicate (at_ - us.length) SV.nil).set (at_ - 1) w))[j] (padL ls at_ l)[j] := by
  intro j h h'
  by_cases h0 : at_ = 0
  · simp only [padL, h0, if_true] at h h' ⊢
    exact hs j h h'
  · simp only [padL, h0, if_false] at h h' ⊢
    by_cases hj : at_ - 1 = j
    · subst hj
      rw [List.getElem_set_self, List.getElem_set_self]; exact hw
    · rw [List.getElem_set_ne hj, List.getElem_set_ne hj]
      by_cases hjl : j < ls.length
      · rw [List.getElem_append_left (by omega), List.getElem_append_left hjl]
        exact hs j hjl (by omega)
      · rw [List.getElem_append_right (by omega), List.getElem_append_right (by omega), List.getElem_replicate, List.getElem_replicate]
        rfl

theorem put_sp {v w : SV} {ls : List (List Id)} {l : List Id} (at_ : Nat) {H : Heap} {lo : Nat} {Q : Out → Heap → Prop} (hv : Sl2 H v ls) (hw : Sl H w l) (hls : ls.length ≤ 100000) (hat : at_ ≤ 100000) (hll : ∀ x ∈ ls, x.length ≤ 1000000) (hl : l.length ≤ 1000000) (hlo : lo ≤ H.n)
    (h : ∀ H' b, Keep H.n H H' → Sl2F H.n H' (.sl b 0 (putL ls at_ l).length (putL ls at_ l).length true) (putL ls at_ l) → Q (.val (SV.sl b 0 (putL ls at_ l).length (putL ls at_ l).length true).iv) H') : W E0 lo (.call 36 [v.iv, .int .i64 at_, w.iv]) H Q := by
  refine W.pure plain hlo ?_
  rw [c36]
  obtain ⟨us, hu1, hu2, hu3⟩ := hv
  have hmax : (if (at_ : Int) > (ls.length : Int) then (at_ : Int) else (ls.length : Int)) = ((max ls.length at_ : Nat) : Int) := by split <;> omega
  obtain ⟨n, hn⟩ : ∃ n, n = max ls.length at_ := ⟨_, rfl⟩
  rw [← hn] at hmax
  have ho1 := Own.mksl (H := H) (e := 29) (n := n) z_SV SV.nil
  simp only [cs_SV, SV.nil_iv] at ho1
  have k1 : Keep H.n H (H.new (.cells false 29 1 (rep n [.nilSlice]))) := Keep.new _ _
  obtain ⟨H2, e2, n2, g2, ho2⟩ := copy_own (ex := true) ho1 (by simp) (hu1.keep k1) z_SV H.n (by omega) (Nat.le_refl _)
  have hcp : us ++ (List.replicate n SV.nil).drop us.length = us ++ List.replicate (n - us.length) SV.nil := by rw [List.drop_replicate]
  rw [hcp] at ho2
  have hlu : ∀ lo H', ev1 .lenSl [v.iv] lo H' = some (.int .i64 ls.length, H') := fun lo H' => by rw [hu1.ln, hu2]
  have kk2 : Keep H.n H H2 := ⟨by rw [n2, Heap.n_new]; omega, fun x h1 _ => by rw [g2 x (by omega), Heap.get_new, if_neg (by omega)]⟩
  rw [Heap.n_new] at n2
  -- behind the store
  have key : ∀ (H3 : Heap) (xs : List SV), xs = (if at_ = 0 then us else (us ++ List.replicate (at_ - us.length) SV.nil).set (at_ - 1) w) → H3.n = H.n + 1 → Keep H.n H H3 → Own H3 H.n 29 n xs →
      ∀ tm, tm.length = 44 → tm.getD 7 IV.undef = .slice H.n 0 n n true → W E0 H.n (.code (.seq F36o5 (.seq (.seq F36o6 (.block 0 (.loop F36l11))) (.seq F36o12 .ret))) none ⟨tm, []⟩) H3 (retC H.n F36.results fun o H' => Keep H.n H H' → Q o H') := by
    intro H3 xs hxs hn3 k3 ho3 tm htm t7
    have hps := pad_sl (at_ := at_) hu2 (fun j a b => (hu3 j a b).keep k3) (hw.keep k3)
    rw [← hxs] at hps
    have hpl := padL_length ls at_ l
    have hxl : xs.length = n := by
      rw [hxs]; split
      · omega
      · rw [List.length_set, List.length_append, List.length_replicate]; omega
    have hs3 := ho3.sl true
    rw [hxl] at hs3
    have hv3 : Sl2 H3 (.sl H.n 0 n n true) (padL ls at_ l) := ⟨xs, hs3, by omega, fun j a b => hps j a b⟩
    have hsh := shortN_le (padL ls at_ l)
    rw [expl44 tm htm, t7, ← SV.sl_iv]
    simp (disch := omega) only [SV.sl_iv, F36, F36b, W_seq, wF36o5, F36p5, W_segs_cons, freeI_s, W_op, wantedI_n, guardC_t, evalAll, IA.eval, List.getD_cons_succ, List.getD_cons_zero, optC_s, argC_a, nextOf, lowOf, goC_a, opW, ev1, pairC_p, opC_a, Fr.put, List.set, W_apply, List.nil_append, List.append_nil]
    refine short_sp hv3 (by omega) ?_
    simp (disch := omega) only [valC_v, opC_a, Fr.put, List.set, W_op, wantedI_n, guardC_t, evalAll, IA.eval, List.getD_cons_succ, List.getD_cons_zero, optC_s, argC_a, nextOf, lowOf, goC_a, opW, ev1, Bool.true_or, Nat.zero_add, boundsI, boundI, iLe, and_true, Int.toNat_natCast, if_true, Option.map_some, Nat.zero_mul, Nat.sub_zero, pairC_p, W_apply, List.nil_append, List.append_nil]
    have hpart := Sl.part (ex' := true) (c' := n) hs3 z_SV (a := 0) (m := shortN (padL ls at_ l)) (by omega) (by omega)
    rw [List.drop_zero, Nat.zero_mul, Nat.zero_add] at hpart
    rw [← SV.sl_iv]
    have hxt : (xs.take (shortN (padL ls at_ l))).length = shortN (padL ls at_ l) := by rw [List.length_take]; omega
    refine copiedSt_sp hpart (by omega) (by omega) fun H4 b4 k4 hb4 ho4 => ?_
    rw [hxt] at ho4
    rw [hxt]
    have hrl : (putL ls at_ l).length = shortN (padL ls at_ l) := by unfold putL; rw [List.length_take]; omega
    simp (disch := omega) only [SV.sl_iv, valC_v, opC_a, Fr.put, List.set, W_op, wantedI_n, guardC_t, evalAll, IA.eval, List.getD_cons_succ, List.getD_cons_zero, optC_s, argC_a, nextOf, lowOf, goC_a, opW, ev1, pairC_p, W_ops_nil, segC_n, W_segs_nil, thenC_n, W_seq, wF36o6, F36p6, W_segs_cons, freeI_s, W_block]
    have hn4 := k4.1
    refine put_loop (H0 := H) (rs := putL ls at_ l) (b2 := b4) (vs := xs.take (shortN (padL ls at_ l))) (by omega) (by omega) (by omega) (fun x hx => padL_mem ls at_ l 1000000 hll hl x (List.mem_of_mem_take hx)) (by omega) (by rw [hrl]; exact ho4) ?_ (k3.trans (k4.lower (by omega))) rfl (by rw [hrl]; rfl) (by rw [hrl]; rfl) (by rw [hrl]; rfl) rfl ?_
    · intro j h1 h2
      rw [List.getElem_take]
      have : (putL ls at_ l)[j] = (padL ls at_ l)[j]'(by omega) := List.getElem_take ..
      rw [this]
      have hj := hps j (by omega) (by omega)
      exact ⟨hj.keep k4, fun hne => by have := hj.blk_lt hne; omega⟩
    · intro H5 tm5 vs5 a1 a2 a3 a4 a5 a6
      rw [expl44 tm5 a5, a6]
      simp (disch := omega) only [blkC_e, thenC_n, W_seq, wF36o12, F36p12, W_segs_cons, freeI_s, W_op, wantedI_n, guardC_t, evalAll, IA.eval, List.getD_cons_succ, List.getD_cons_zero, optC_s, argC_a, nextOf, lowOf, goC_a, opW, ev1, pairC_p, opC_a, Fr.put, List.set, W_ops_nil, segC_n, W_segs_nil, W_ret, retC_r, unmark, leaveC_a, resultsOf, resultOf, valsC_a, tupled, thenC_j, if_true]
      refine fun hk => h _ b4 hk ⟨vs5, ?_, a1, fun _ => by rw [SV.blk_sl]; omega, a3⟩
      have := a2.sl true
      rw [a1] at this
      exact this
  have hxl2 : (us ++ List.replicate (n - us.length) SV.nil).length = n := by rw [List.length_append, List.length_replicate]; omega
  by_cases h0 : at_ = 0
  · subst h0
    obtain rfl : n = ls.length := by omega
    simp (disch := omega) only [F36b, F36, List.length_cons, List.length_nil, Nat.zero_add, Nat.reduceAdd, Nat.reduceSub, undefs, List.cons_append, List.nil_append, W_seq, wF36o0, F36p0, W_segs_cons, freeI_s, W_op, wantedI_n, guardC_t, evalAll, IA.eval, optC_s, argC_a, nextOf, lowOf, goC_a, opW, ev1, pairC_p, opC_a, Fr.put, List.set, W_ops_nil, segC_n, W_segs_nil, thenC_n, wF36o1, F36p1, List.getD_cons_zero, List.getD_cons_succ, ↓hlu, iLtF, if_false, if_true, iLe, Int.reducePow, and_true, Int.toNat_natCast, wF36o2, F36p2, ↓e2, wF36o3, F36p3, binI, decide_false, Option.map_some, W_cond, condC_f, W_skip]
    rw [← W_seq]
    refine key H2 _ rfl n2 kk2 ?_ _ rfl rfl
    rw [if_pos rfl]
    rw [show ls.length - us.length = 0 from by omega] at ho2
    simpa using ho2
  · rw [show n - us.length = at_ - us.length from by omega] at ho2
    have hxl3 : (us ++ List.replicate (at_ - us.length) SV.nil).length = n := by rw [List.length_append, List.length_replicate]; omega
    have ho2' := ho2
    rw [← hxl3] at ho2'
    have hfull := ho2'.full
    have hput := ho2'.put z_SV (at_ - 1) (by omega) w
    simp only [z_SV, cs_SV] at hfull hput
    have hfl : (flat (us ++ List.replicate (at_ - us.length) SV.nil)).length = n := by rw [flat_length, hxl3, z_SV, Nat.mul_one]
    have hs2 := ho2.sl true
    rw [hxl3] at hs2
    have et : ((at_ : Int) - 1).toNat = at_ - 1 := by omega
    have e1 : ((at_ - 1) * 1 + 1 ≤ (flat (us ++ List.replicate (at_ - us.length) SV.nil)).length) = True := by rw [hfl]; simp; omega
    have hx : (at_ : Int) - 1 < ((us ++ List.replicate (at_ - us.length) SV.nil).length : Int) := by omega
    have hidx := hs2.idx
    simp only [SV.sl_iv, SV.blk_sl, SV.off_sl] at hidx
    simp (disch := omega) only [F36b, F36, List.length_cons, List.length_nil, Nat.zero_add, Nat.reduceAdd, Nat.reduceSub, undefs, List.cons_append, List.nil_append, W_seq, wF36o0, F36p0, W_segs_cons, freeI_s, W_op, wantedI_n, guardC_t, evalAll, IA.eval, optC_s, argC_a, nextOf, lowOf, goC_a, opW, ev1, pairC_p, opC_a, Fr.put, List.set, W_ops_nil, segC_n, W_segs_nil, thenC_n, wF36o1, F36p1, List.getD_cons_zero, List.getD_cons_succ, ↓hlu, hmax, if_true, iLe, Int.reducePow, and_true, Int.toNat_natCast, wF36o2, F36p2, ↓e2, wF36o3, F36p3, binI, iLt, decide_true, Option.map_some, W_cond, condC_t, wF36o4, F36p4, wI64, ↓hidx, et, SV.iv_cells, Heap.write, hfull, Nat.le_refl, e1, List.all_cons, SV.iv_one, List.all_nil, Bool.and_self]
    rw [← W_seq]
    rw [hxl3] at hput
    refine key _ _ (by rw [if_neg h0]) (by rw [Heap.n_put]; exact n2) (kk2.trans (.put _ _ (Nat.le_refl _))) hput _ rfl rfl
end Go.Iso.Gen
end

section
namespace Go.Iso.Gen
open Go.Iso
set_option maxHeartbeats 2000000
set_option maxRecDepth 10000

/-- Beds that a call has made: short, of the exact capacities. -/
def Beds (n0 : Nat) (H : Heap) (f b : SV) (fs bs : List (List Id)) : Prop := Sl2F n0 H f fs ∧ Sl2F n0 H b bs ∧ f.tight ∧ b.tight
theorem Beds.keep {n0 : Nat} {H H' : Heap} {f b : SV} {fs bs : List (List Id)} (h : Beds n0 H f b fs bs) (k : Keep H.n H H') : Beds n0 H' f b fs bs := ⟨h.1.keep k, h.2.1.keep k, h.2.2⟩
def placeF (fs : List (List Id)) (bed : Int) (at_ : Nat) (l : List Id) : List (List Id) := if bed = 0 then putL fs at_ l else putL fs 0 []
def placeB (bs : List (List Id)) (bed : Int) (at_ : Nat) (l : List Id) : List (List Id) := if bed = 0 then putL bs 0 [] else putL bs at_ l

theorem placed_sp {f b w : SV} {fs bs : List (List Id)} {l : List Id} (bed : Int) (at_ : Nat) {H : Heap} {lo : Nat} {Q : Out → Heap → Prop} (hf : Sl2 H f fs) (hb : Sl2 H b bs) (hw : Sl H w l) (hlf : fs.length ≤ 100000) (hlb : bs.length ≤ 100000) (hat : at_ ≤ 100000) (hll : ∀ x ∈ fs, x.length ≤ 1000000) (hll' : ∀ x ∈ bs, x.length ≤ 1000000) (hl : l.length ≤ 1000000) (hlo : lo ≤ H.n)
    (h : ∀ H' f' b', Keep H.n H H' → Beds H.n H' f' b' (placeF fs bed at_ l) (placeB bs bed at_ l) → Q (.val (bv f' b')) H') : W E0 lo (.call 28 [bv f b, .agg [.int .u8 bed, .int .i64 at_], w.iv]) H Q := by
  refine W.pure plain hlo ?_
  rw [c28]
  by_cases h0 : bed = 0
  · simp only [placeF, placeB, if_pos h0] at h
    subst h0
    simp (disch := omega) only [F28b, bv, F28, List.length_cons, List.length_nil, Nat.zero_add, Nat.reduceAdd, Nat.reduceSub, undefs, List.cons_append, List.nil_append, W_seq, wF28o0, F28p0, W_segs_cons, freeI_s, W_op, wantedI_n, guardC_t, evalAll, IA.eval, List.getD_cons_zero, optC_s, argC_a, nextOf, lowOf, goC_a, opW, ev1, cellsV_agg, pairC_p, opC_a, Fr.put, List.set, List.getD_cons_succ, Heap.n_new, Nat.add_assoc, W_ops_nil, segC_n, W_segs_nil, thenC_n, wF28o1, F28p1, Nat.add_zero, Option.getD_none, read_new, cEqL, readO_c, cLe, List.drop, List.take_succ_cons, List.take, if_true, cEqR, if_false, mkAgg, Option.bind_some, Option.map_some, binI, beq_self_eq_true, W_cond, condC_t, wF28o2, F28p2, freeI_f, freeNext, fpOf, pairOk, ne_eq, List.all_nil, Bool.false_eq_true, List.all_cons, Bool.or_true, Bool.and_self, Nat.le_refl, W_apply, List.append_nil]
    generalize hH_H1 : Heap.new _ _ = H1
    have hnH1 : H1.n = H.n + 3 := by rw [← hH_H1]; rfl
    have g0 := congrArg (fun h0 => Heap.get h0 (H.n)) hH_H1.symm
    simp (disch := omega) only [Heap.get_new, Heap.n_new, Nat.add_assoc, Nat.reduceAdd, cEqL, if_true, if_false] at g0
    have g1 := congrArg (fun h0 => Heap.get h0 (H.n + 1)) hH_H1.symm
    simp (disch := omega) only [Heap.get_new, Heap.n_new, Nat.add_assoc, Nat.reduceAdd, cEqL, cEqR, if_false, if_true] at g1
    have g2 := congrArg (fun h0 => Heap.get h0 (H.n + 2)) hH_H1.symm
    simp (disch := omega) only [Heap.get_new, Heap.n_new, Nat.add_assoc, Nat.reduceAdd, cEqR, if_false, if_true] at g2
    have kH1 : Keep H.n H H1 := ⟨by omega, fun x hx _ => by
      have gx := congrArg (fun h0 => Heap.get h0 x) hH_H1.symm
      simp (disch := omega) only [Heap.get_new, Heap.n_new, Nat.add_assoc, Nat.reduceAdd, cEqL, if_false] at gx
      exact gx⟩
    clear hH_H1
    refine put_sp at_ (hf.keep kH1) (hw.keep kH1) hlf hat hll hl (by omega) fun H2 b2 k2 s2 => ?_
    have hn2 := k2.1
    replace g0 := (k2.2 _ (by omega) (by omega)).trans g0
    replace g1 := (k2.2 _ (by omega) (by omega)).trans g1
    replace g2 := (k2.2 _ (by omega) (by omega)).trans g2
    have kk2 : Keep H.n H H2 := kH1.trans (k2.lower (by omega))
    have r0 := read_get g0
    simp (disch := omega) only [SV.sl_iv, valC_v, opC_a, Fr.put, List.set, W_op, wantedI_n, guardC_t, evalAll, IA.eval, List.getD_cons_succ, List.getD_cons_zero, optC_s, argC_a, nextOf, freeNext, fpOf, pairOk, ne_eq, List.all_cons, Bool.or_true, List.all_nil, Bool.and_self, if_true, Option.map_some, lowOf, Bool.false_eq_true, if_false, goC_a, opW, ev1, Nat.zero_add, pairC_p, Option.getD_none, r0, Nat.reduceAdd, List.length_cons, List.length_nil, Nat.le_refl, List.drop, List.take_succ_cons, List.take, mkAgg, Option.bind_some, W_ops_nil, segC_n, W_segs_cons, freeI_s, W_apply, List.nil_append, List.append_nil]
    refine put_sp (w := .nil) 0 (hb.keep kk2) Sl.empty hlb (by omega) hll' (by simp) (by omega) fun H3 b3 k3 s3 => ?_
    have hn3 := k3.1
    replace g2 := (k3.2 _ (by omega) (by omega)).trans g2
    simp (disch := omega) only [SV.sl_iv, valC_v, opC_a, Fr.put, List.set, W_ops_nil, segC_n, W_segs_cons, freeI_s, W_op, wantedI_n, guardC_t, evalAll, IA.eval, List.getD_cons_succ, List.getD_cons_zero, optC_s, argC_a, nextOf, lowOf, goC_a, opW, ev1, fillI, cellsV_slice, List.length_cons, List.length_nil, Nat.zero_add, Nat.reduceAdd, cLe, and_true, splice, Nat.le_refl, if_true, Option.map_some, pairC_p, cellsV_agg, Heap.write, g2, List.all_cons, oneV_slice, List.all_nil, Bool.and_self, W_segs_nil, thenC_n, W_ret, thenC_j, retC_r, unmark, leaveC_a, resultsOf, resultOf, Option.getD_some, read_put, readO_c, List.drop, List.take_succ_cons, List.take, Option.bind_some, mkAgg, valsC_a, tupled]
    exact fun hk => h _ (.sl b2 0 _ _ true) (.sl b3 0 _ _ true) hk ⟨((s2.keep k3).put (by omega)).lower (by omega), (s3.put (by omega)).lower (by omega), ⟨rfl, rfl⟩, ⟨rfl, rfl⟩⟩
  · simp only [placeF, placeB, if_neg h0] at h
    have e0 : (bed == 0) = false := by simp [h0]
    simp (disch := omega) only [F28b, bv, F28, List.length_cons, List.length_nil, Nat.zero_add, Nat.reduceAdd, Nat.reduceSub, undefs, List.cons_append, List.nil_append, W_seq, wF28o0, F28p0, W_segs_cons, freeI_s, W_op, wantedI_n, guardC_t, evalAll, IA.eval, List.getD_cons_zero, optC_s, argC_a, nextOf, lowOf, goC_a, opW, ev1, cellsV_agg, pairC_p, opC_a, Fr.put, List.set, List.getD_cons_succ, Heap.n_new, Nat.add_assoc, W_ops_nil, segC_n, W_segs_nil, thenC_n, wF28o1, F28p1, Nat.add_zero, Option.getD_none, read_new, cEqL, readO_c, cLe, List.drop, List.take_succ_cons, List.take, if_true, cEqR, if_false, mkAgg, Option.bind_some, Option.map_some, binI, e0, W_cond, condC_f, W_skip, wF28o3, F28p3, freeI_f, freeNext, fpOf, pairOk, ne_eq, List.all_nil, Bool.false_eq_true, List.all_cons, Bool.or_true, Bool.and_self, W_apply, List.append_nil]
    generalize hH_H1 : Heap.new _ _ = H1
    have hnH1 : H1.n = H.n + 3 := by rw [← hH_H1]; rfl
    have g0 := congrArg (fun h0 => Heap.get h0 (H.n)) hH_H1.symm
    simp (disch := omega) only [Heap.get_new, Heap.n_new, Nat.add_assoc, Nat.reduceAdd, cEqL, if_true, if_false] at g0
    have g1 := congrArg (fun h0 => Heap.get h0 (H.n + 1)) hH_H1.symm
    simp (disch := omega) only [Heap.get_new, Heap.n_new, Nat.add_assoc, Nat.reduceAdd, cEqL, cEqR, if_false, if_true] at g1
    have g2 := congrArg (fun h0 => Heap.get h0 (H.n + 2)) hH_H1.symm
    simp (disch := omega) only [Heap.get_new, Heap.n_new, Nat.add_assoc, Nat.reduceAdd, cEqR, if_false, if_true] at g2
    have kH1 : Keep H.n H H1 := ⟨by omega, fun x hx _ => by
      have gx := congrArg (fun h0 => Heap.get h0 x) hH_H1.symm
      simp (disch := omega) only [Heap.get_new, Heap.n_new, Nat.add_assoc, Nat.reduceAdd, cEqL, if_false] at gx
      exact gx⟩
    clear hH_H1
    refine put_sp (w := .nil) 0 (hf.keep kH1) Sl.empty hlf (by omega) hll (by simp) (by omega) fun H2 b2 k2 s2 => ?_
    have hn2 := k2.1
    replace g0 := (k2.2 _ (by omega) (by omega)).trans g0
    replace g1 := (k2.2 _ (by omega) (by omega)).trans g1
    replace g2 := (k2.2 _ (by omega) (by omega)).trans g2
    have kk2 : Keep H.n H H2 := kH1.trans (k2.lower (by omega))
    have r0 := read_get g0
    have r1 := read_get g1
    simp (disch := omega) only [SV.sl_iv, valC_v, opC_a, Fr.put, List.set, W_op, wantedI_n, guardC_t, evalAll, IA.eval, List.getD_cons_succ, List.getD_cons_zero, optC_s, argC_a, nextOf, freeNext, fpOf, pairOk, ne_eq, List.all_cons, Bool.or_true, List.all_nil, Bool.and_self, if_true, Option.map_some, lowOf, Bool.false_eq_true, if_false, goC_a, opW, ev1, Nat.zero_add, pairC_p, Option.getD_none, r0, Nat.reduceAdd, List.length_cons, List.length_nil, Nat.le_refl, List.drop, List.take_succ_cons, List.take, mkAgg, Option.bind_some, r1, W_ops_nil, segC_n, W_segs_cons, freeI_s, W_apply, List.nil_append, List.append_nil]
    refine put_sp at_ (hb.keep kk2) (hw.keep kk2) hlb hat hll' hl (by omega) fun H3 b3 k3 s3 => ?_
    have hn3 := k3.1
    replace g2 := (k3.2 _ (by omega) (by omega)).trans g2
    simp (disch := omega) only [SV.sl_iv, valC_v, opC_a, Fr.put, List.set, W_ops_nil, segC_n, W_segs_cons, freeI_s, W_op, wantedI_n, guardC_t, evalAll, IA.eval, List.getD_cons_succ, List.getD_cons_zero, optC_s, argC_a, nextOf, lowOf, goC_a, opW, ev1, fillI, cellsV_slice, List.length_cons, List.length_nil, Nat.zero_add, Nat.reduceAdd, cLe, and_true, splice, Nat.le_refl, if_true, Option.map_some, pairC_p, cellsV_agg, Heap.write, g2, List.all_cons, oneV_slice, List.all_nil, Bool.and_self, W_segs_nil, thenC_n, W_ret, retC_r, unmark, leaveC_a, resultsOf, resultOf, Option.getD_some, read_put, readO_c, List.drop, List.take_succ_cons, List.take, Option.bind_some, mkAgg, valsC_a, tupled]
    exact fun hk => h _ (.sl b2 0 _ _ true) (.sl b3 0 _ _ true) hk ⟨((s2.keep k3).put (by omega)).lower (by omega), (s3.put (by omega)).lower (by omega), ⟨rfl, rfl⟩, ⟨rfl, rfl⟩⟩
end Go.Iso.Gen
end

section
namespace Go.Iso
theorem append_any {α : Type} [Cell α] {H : Heap} {b e n : Nat} {l m : List α} {v : SV} (hs : Sl H (.sl b 0 l.length n true) l) (hn : n = l.length) (hv : Sl H v m) {z : Nat} (hz : Cell.z α = z) (bytes lo : Nat) (hb : (l.length + m.length) * (bytes + 1) ≤ 2 ^ 40) :
    ∃ H2 u, ev1 (.append e z bytes) [.slice b 0 l.length n true, v.iv] lo H = some (SV.iv u, H2) ∧ Keep H.n H H2 ∧ Sl H2 u (l ++ m) := by
  by_cases hm : m = []
  · subst hm
    refine ⟨H, .sl b 0 l.length n true, ?_, Keep.refl _ _, by simpa using hs⟩
    simp only [ev1, hv.lenI, hv.srcI hz, Option.bind_some, appendI]
    rw [if_neg (by rw [flat_all]; decide)]
    rfl
  · have hpos : 0 < m.length := List.length_pos_iff.2 hm
    obtain ⟨H2, e1, e2, e3, e4⟩ := append_full (e := e) hs hv hz bytes lo hm (by omega) hb
    exact ⟨H2, .sl H.n 0 (l.length + m.length) (l.length + m.length) false, e1, e3, by rw [← List.length_append]; rw [← List.length_append] at e4; exact e4.sl false⟩
end Go.Iso
namespace Go.Iso.Gen
open Go.Iso
set_option maxHeartbeats 2000000
set_option maxRecDepth 10000

def joinE (fs bs : List (List Id)) (fb fa tb ta : Int) : Int :=
  if checkE fs bs ≠ 0 then checkE fs bs
  else if needleE fb fa ≠ 0 ∨ needleE tb ta ≠ 0 ∨ fb = tb then 1
  else if (atL fs bs fb fa).length = 0 then 13
  else if (atL fs bs fb fa).length + (atL fs bs tb ta).length > 4 then 9 else 0
def joinS (fs bs : List (List Id)) (fb fa tb ta : Int) : List Id := if fb = 1 then atL fs bs fb fa ++ atL fs bs tb ta else atL fs bs tb ta ++ atL fs bs fb fa
def joinF (fs bs : List (List Id)) (fb fa tb ta : Int) : List (List Id) := placeF (placeF fs fb fa.toNat []) tb ta.toNat (joinS fs bs fb fa tb ta)
def joinB (fs bs : List (List Id)) (fb fa tb ta : Int) : List (List Id) := placeB (placeB bs fb fa.toNat []) tb ta.toNat (joinS fs bs fb fa tb ta)

theorem needle_ok {b a : Int} (h : needleE b a = 0) : (b = 0 ∨ b = 1) ∧ 1 ≤ a ∧ a ≤ 40 := by
  unfold needleE at h
  split at h
  · assumption
  · omega
theorem needle_01 (b a : Int) : needleE b a = 0 ∨ needleE b a = 1 := by
  unfold needleE
  split
  · exact .inl rfl
  · exact .inr rfl
theorem check_len {fs bs : List (List Id)} (h : checkE fs bs = 0) : fs.length ≤ 40 ∧ bs.length ≤ 40 ∧ (∀ l ∈ fs, l.length ≤ 4) ∧ (∀ l ∈ bs, l.length ≤ 4) ∧ (∀ a ∈ (fs ++ bs).flatten, namedB a = true) ∧ (fs ++ bs).flatten.Nodup := by
  unfold checkE at h
  split at h
  · omega
  split at h
  · omega
  split at h
  · rename_i h1 h2 h3
    rw [not_or, Bool.not_eq_true, Bool.not_eq_true] at h1
    have key : ∀ ls : List (List Id), fullB ls = false → ls.length ≤ 40 ∧ ∀ l ∈ ls, l.length ≤ 4 := fun ls h => by
      unfold fullB at h
      rw [Bool.or_eq_false_iff, List.any_eq_false] at h
      refine ⟨by simpa using h.1, fun l hl => by have := h.2 l hl; simpa using this⟩
    obtain ⟨a1, a2⟩ := key fs h1.1
    obtain ⟨a3, a4⟩ := key bs h1.2
    rw [Bool.not_eq_false, List.all_eq_true] at h2
    exact ⟨a1, a3, a2, a4, h2, h3⟩
  · omega
theorem putL_len (ls : List (List Id)) (at_ : Nat) (l : List Id) : (putL ls at_ l).length ≤ max ls.length at_ := by
  unfold putL
  rw [List.length_take, padL_length]; omega
theorem putL_mem (ls : List (List Id)) (at_ : Nat) (l : List Id) (m : Nat) (h : ∀ x ∈ ls, x.length ≤ m) (hl : l.length ≤ m) : ∀ x ∈ putL ls at_ l, x.length ≤ m := fun x hx => padL_mem ls at_ l m h hl x (List.mem_of_mem_take hx)
theorem atL_len (fs bs : List (List Id)) (b a : Int) (m : Nat) (h : ∀ x ∈ fs, x.length ≤ m) (h' : ∀ x ∈ bs, x.length ≤ m) : (atL fs bs b a).length ≤ m := by
  unfold atL
  split
  · have key : ∀ (ls : List (List Id)) (i : Nat), (∀ x ∈ ls, x.length ≤ m) → ((ls[i]?).getD []).length ≤ m := fun ls i h => by
      by_cases hi : i < ls.length
      · rw [List.getElem?_eq_getElem hi]; exact h _ (List.getElem_mem hi)
      · rw [List.getElem?_eq_none (by omega)]; simp
    split
    · exact key _ _ h'
    · exact key _ _ h
  · simp

theorem expl68 (tm : List IV) (h : tm.length = 68) : tm = [tm.getD 0 IV.undef, tm.getD 1 IV.undef, tm.getD 2 IV.undef, tm.getD 3 IV.undef, tm.getD 4 IV.undef, tm.getD 5 IV.undef, tm.getD 6 IV.undef, tm.getD 7 IV.undef, tm.getD 8 IV.undef, tm.getD 9 IV.undef, tm.getD 10 IV.undef, tm.getD 11 IV.undef, tm.getD 12 IV.undef, tm.getD 13 IV.undef, tm.getD 14 IV.undef, tm.getD 15 IV.undef, tm.getD 16 IV.undef, tm.getD 17 IV.undef, tm.getD 18 IV.undef, tm.getD 19 IV.undef, tm.getD 20 IV.undef, tm.getD 21 IV.undef, tm.getD 22 IV.undef, tm.getD 23 IV.undef, tm.getD 24 IV.undef, tm.getD 25 IV.undef, tm.getD 26 IV.undef, tm.getD 27 IV.undef, tm.getD 28 IV.undef, tm.getD 29 IV.undef, tm.getD 30 IV.undef, tm.getD 31 IV.undef, tm.getD 32 IV.undef, tm.getD 33 IV.undef, tm.getD 34 IV.undef, tm.getD 35 IV.undef, tm.getD 36 IV.undef, tm.getD 37 IV.undef, tm.getD 38 IV.undef, tm.getD 39 IV.undef, tm.getD 40 IV.undef, tm.getD 41 IV.undef, tm.getD 42 IV.undef, tm.getD 43 IV.undef, tm.getD 44 IV.undef, tm.getD 45 IV.undef, tm.getD 46 IV.undef, tm.getD 47 IV.undef, tm.getD 48 IV.undef, tm.getD 49 IV.undef, tm.getD 50 IV.undef, tm.getD 51 IV.undef, tm.getD 52 IV.undef, tm.getD 53 IV.undef, tm.getD 54 IV.undef, tm.getD 55 IV.undef, tm.getD 56 IV.undef, tm.getD 57 IV.undef, tm.getD 58 IV.undef, tm.getD 59 IV.undef, tm.getD 60 IV.undef, tm.getD 61 IV.undef, tm.getD 62 IV.undef, tm.getD 63 IV.undef, tm.getD 64 IV.undef, tm.getD 65 IV.undef, tm.getD 66 IV.undef, tm.getD 67 IV.undef] := (expl tm 68 h).trans rfl
theorem join_sp {f b : SV} {fs bs : List (List Id)} (fb fa tb ta : Int) {H : Heap} {lo : Nat} {Q : Out → Heap → Prop} (hf : Sl2 H f fs) (hb : Sl2 H b bs) (hlf : fs.length ≤ 100000) (hlb : bs.length ≤ 100000) (hll : ∀ x ∈ fs, x.length ≤ 1000000) (hll' : ∀ x ∈ bs, x.length ≤ 1000000) (hlo : lo ≤ H.n)
    (he : ∀ H', Keep H.n H H' → joinE fs bs fb fa tb ta ≠ 0 → Q (.val (.tuple [bv .nil .nil, .int .i64 (joinE fs bs fb fa tb ta)])) H')
    (h : ∀ H' f' b', Keep H.n H H' → joinE fs bs fb fa tb ta = 0 → Beds H.n H' f' b' (joinF fs bs fb fa tb ta) (joinB fs bs fb fa tb ta) → Q (.val (.tuple [bv f' b', .int .i64 0])) H') : W E0 lo (.call 19 [bv f b, .agg [.int .u8 fb, .int .i64 fa], .agg [.int .u8 tb, .int .i64 ta]]) H Q := by
  refine W.pure plain hlo ?_
  rw [c19]
  simp (disch := omega) only [F19b, bv, F19, List.length_cons, List.length_nil, Nat.zero_add, Nat.reduceAdd, Nat.reduceSub, undefs, List.cons_append, List.nil_append, W_seq, wF19o0, F19p0, W_segs_cons, freeI_s, W_op, wantedI_n, guardC_t, evalAll, IA.eval, List.getD_cons_zero, optC_s, argC_a, nextOf, lowOf, goC_a, opW, ev1, cellsV_agg, pairC_p, opC_a, Fr.put, List.set, List.getD_cons_succ, Heap.n_new, Nat.add_assoc, W_ops_nil, segC_n, W_segs_nil, thenC_n, wF19o1, F19p1, Option.getD_some, read_new, cEqL, readO_c, Nat.le_refl, List.drop, List.take_succ_cons, List.take, if_true, if_false, mkAgg, Option.map_some, Option.bind_some, W_apply, List.append_nil]
  generalize hH_H1 : Heap.new _ _ = H1
  have hnH1 : H1.n = H.n + 4 := by rw [← hH_H1]; rfl
  have g0 := congrArg (fun h0 => Heap.get h0 (H.n)) hH_H1.symm
  simp (disch := omega) only [Heap.get_new, Heap.n_new, Nat.add_assoc, Nat.reduceAdd, cEqL, if_true, if_false] at g0
  have g1 := congrArg (fun h0 => Heap.get h0 (H.n + 1)) hH_H1.symm
  simp (disch := omega) only [Heap.get_new, Heap.n_new, Nat.add_assoc, Nat.reduceAdd, cEqL, cEqR, if_false, if_true] at g1
  have g2 := congrArg (fun h0 => Heap.get h0 (H.n + 2)) hH_H1.symm
  simp (disch := omega) only [Heap.get_new, Heap.n_new, Nat.add_assoc, Nat.reduceAdd, cEqL, cEqR, if_false, if_true] at g2
  have g3 := congrArg (fun h0 => Heap.get h0 (H.n + 3)) hH_H1.symm
  simp (disch := omega) only [Heap.get_new, Heap.n_new, Nat.add_assoc, Nat.reduceAdd, cEqR, if_false, if_true] at g3
  have kH1 : Keep H.n H H1 := ⟨by omega, fun x hx _ => by
    have gx := congrArg (fun h0 => Heap.get h0 x) hH_H1.symm
    simp (disch := omega) only [Heap.get_new, Heap.n_new, Nat.add_assoc, Nat.reduceAdd, cEqL, if_false] at gx
    exact gx⟩
  clear hH_H1
  rw [show IV.agg [f.iv, b.iv] = bv f b from rfl]
  refine check_sp (hf.keep kH1) (hb.keep kH1) (by omega) (by omega) hll hll' (by omega) fun H2 k2 => ?_
  have hn2 := k2.1
  replace g0 := (k2.2 _ (by omega) (by omega)).trans g0
  replace g1 := (k2.2 _ (by omega) (by omega)).trans g1
  replace g2 := (k2.2 _ (by omega) (by omega)).trans g2
  replace g3 := (k2.2 _ (by omega) (by omega)).trans g3
  replace kH1 : Keep H.n H H2 := kH1.trans (k2.lower (by omega))
  clear k2
  by_cases hc : checkE fs bs = 0
  case neg =>
    have e0 : (checkE fs bs != 0) = true := by simp [hc]
    have ej : joinE fs bs fb fa tb ta = checkE fs bs := by unfold joinE; rw [if_pos hc]
    rw [ej] at he
    simp (disch := omega) only [valC_v, opC_a, Fr.put, List.set, W_op, wantedI_n, guardC_t, evalAll, IA.eval, List.getD_cons_succ, List.getD_cons_zero, optC_s, argC_a, nextOf, lowOf, goC_a, opW, ev1, pairC_p, W_ops_nil, segC_n, W_segs_nil, thenC_n, W_seq, wF19o2, F19p2, W_segs_cons, freeI_s, binI, e0, if_true, Option.map_some, W_cond, condC_t, wF19o3, F19p3, fillI, cellsV_agg, List.length_cons, List.length_nil, Nat.zero_add, Nat.reduceAdd, Heap.write, g3, cLe, Nat.le_refl, List.all_cons, oneV_nilSlice, List.all_nil, Bool.and_self, and_true, splice, W_ret, thenC_j, retC_r, unmark, leaveC_a, resultsOf, resultOf, Option.getD_some, read_put, readO_c, List.drop, List.take_succ_cons, List.take, Option.bind_some, mkAgg, valsC_a, tupled]
    exact fun hk => he _ hk hc
  have hlen := check_len hc
  have r1 := read_get g1
  have r2 := read_get g2
  simp (disch := omega) only [hc, valC_v, opC_a, Fr.put, List.set, W_op, wantedI_n, guardC_t, evalAll, IA.eval, List.getD_cons_succ, List.getD_cons_zero, optC_s, argC_a, nextOf, lowOf, goC_a, opW, ev1, pairC_p, W_ops_nil, segC_n, W_segs_nil, thenC_n, W_seq, wF19o2, F19p2, W_segs_cons, freeI_s, binI, bne_self_eq_false, if_true, Option.map_some, W_cond, condC_f, W_skip, wF19o4, F19p4, Option.getD_some, r1, Nat.zero_add, List.length_cons, List.length_nil, Nat.reduceAdd, Nat.le_refl, List.drop, List.take_succ_cons, List.take, mkAgg, Option.bind_some, W_apply, List.nil_append, List.append_nil]
  refine ncheck_sp fb fa (by omega) fun H3 k3 => ?_
  have hn3 := k3.1
  replace g0 := (k3.2 _ (by omega) (by omega)).trans g0
  replace g1 := (k3.2 _ (by omega) (by omega)).trans g1
  replace g2 := (k3.2 _ (by omega) (by omega)).trans g2
  replace g3 := (k3.2 _ (by omega) (by omega)).trans g3
  replace kH1 : Keep H.n H H3 := kH1.trans (k3.lower (by omega))
  clear k3 r1 r2
  have r1 := read_get g1
  have r2 := read_get g2
  have ej1 : needleE fb fa ≠ 0 ∨ needleE tb ta ≠ 0 ∨ fb = tb → joinE fs bs fb fa tb ta = 1 := fun h => by unfold joinE; rw [if_neg (by simp [hc]), if_pos h]
  rcases needle_01 fb fa with hfa | hfa
  case inr =>
    rw [ej1 (.inl (by omega))] at he
    simp (disch := omega) only [hfa, valC_v, opC_a, Fr.put, List.set, W_op, wantedI_n, guardC_t, evalAll, IA.eval, List.getD_cons_succ, List.getD_cons_zero, optC_s, argC_a, nextOf, lowOf, goC_a, opW, ev1, binI, iBne, if_true, Option.map_some, pairC_p, wantedI_s, wantV_b, bb_tf, guardC_f, W_ops_nil, segC_n, W_segs_nil, thenC_n, W_cond, condC_t, W_seq, wF19o5, F19p5, W_segs_cons, freeI_s, fillI, cellsV_agg, List.length_cons, List.length_nil, Nat.zero_add, Nat.reduceAdd, Heap.write, g3, cLe, Nat.le_refl, List.all_cons, oneV_nilSlice, List.all_nil, Bool.and_self, and_true, splice, W_ret, thenC_j, retC_r, unmark, leaveC_a, resultsOf, resultOf, Option.getD_some, read_put, readO_c, List.drop, List.take_succ_cons, List.take, Option.bind_some, mkAgg, valsC_a, tupled]
    exact fun hk => he _ hk (by omega)
  simp (disch := omega) only [hfa, valC_v, opC_a, Fr.put, List.set, W_op, wantedI_n, guardC_t, evalAll, IA.eval, List.getD_cons_succ, List.getD_cons_zero, optC_s, argC_a, nextOf, lowOf, goC_a, opW, ev1, binI, bne_self_eq_false, if_true, Option.map_some, pairC_p, wantedI_s, wantV_b, beq_self_eq_true, Option.getD_some, r2, Nat.zero_add, List.length_cons, List.length_nil, Nat.reduceAdd, Nat.le_refl, List.drop, List.take_succ_cons, List.take, mkAgg, Option.bind_some, W_apply, List.nil_append, List.append_nil]
  refine ncheck_sp tb ta (by omega) fun H4 k4 => ?_
  have hn4 := k4.1
  replace g0 := (k4.2 _ (by omega) (by omega)).trans g0
  replace g1 := (k4.2 _ (by omega) (by omega)).trans g1
  replace g2 := (k4.2 _ (by omega) (by omega)).trans g2
  replace g3 := (k4.2 _ (by omega) (by omega)).trans g3
  replace kH1 : Keep H.n H H4 := kH1.trans (k4.lower (by omega))
  clear k4 r1 r2
  have r1 := read_get g1
  have r2 := read_get g2
  rcases needle_01 tb ta with hta | hta
  case inr =>
    rw [ej1 (.inr (.inl (by omega)))] at he
    simp (disch := omega) only [hta, valC_v, opC_a, Fr.put, List.set, W_op, wantedI_s, List.getD_cons_succ, List.getD_cons_zero, wantV_b, beq_self_eq_true, guardC_t, evalAll, IA.eval, optC_s, argC_a, nextOf, lowOf, goC_a, opW, ev1, binI, iBne, if_true, Option.map_some, pairC_p, wantedI_n, Bool.false_eq_true, if_false, bb_tf, guardC_f, W_ops_nil, segC_n, W_segs_nil, thenC_n, W_cond, condC_t, W_seq, wF19o5, F19p5, W_segs_cons, freeI_s, fillI, cellsV_agg, List.length_cons, List.length_nil, Nat.zero_add, Nat.reduceAdd, Heap.write, g3, cLe, Nat.le_refl, List.all_cons, oneV_nilSlice, List.all_nil, Bool.and_self, and_true, splice, W_ret, thenC_j, retC_r, unmark, leaveC_a, resultsOf, resultOf, Option.getD_some, read_put, readO_c, List.drop, List.take_succ_cons, List.take, Option.bind_some, mkAgg, valsC_a, tupled]
    exact fun hk => he _ hk (by omega)
  by_cases hbb : fb = tb
  · rw [ej1 (.inr (.inr hbb))] at he
    simp (disch := omega) only [hbb, hta, valC_v, opC_a, Fr.put, List.set, W_op, wantedI_s, List.getD_cons_succ, List.getD_cons_zero, wantV_b, beq_self_eq_true, guardC_t, evalAll, IA.eval, optC_s, argC_a, nextOf, lowOf, goC_a, opW, ev1, binI, bne_self_eq_false, if_true, Option.map_some, pairC_p, wantedI_n, Bool.false_eq_true, if_false, Nat.add_zero, Option.getD_none, r1, Nat.zero_add, List.length_cons, List.length_nil, Nat.reduceAdd, cLe, List.drop, List.take_succ_cons, List.take, mkAgg, Option.bind_some, r2, W_ops_nil, segC_n, W_segs_nil, thenC_n, W_cond, condC_t, W_seq, wF19o5, F19p5, W_segs_cons, freeI_s, fillI, cellsV_agg, Heap.write, g3, Nat.le_refl, List.all_cons, oneV_nilSlice, List.all_nil, Bool.and_self, and_true, splice, W_ret, thenC_j, retC_r, unmark, leaveC_a, resultsOf, resultOf, Option.getD_some, read_put, readO_c, valsC_a, tupled]
    exact fun hk => he _ hk (by omega)
  have ebb : (fb == tb) = false := by simp [hbb]
  have r0 := read_get g0
  simp (disch := omega) only [hta, valC_v, opC_a, Fr.put, List.set, W_op, wantedI_s, List.getD_cons_succ, List.getD_cons_zero, wantV_b, beq_self_eq_true, guardC_t, evalAll, IA.eval, optC_s, argC_a, nextOf, lowOf, goC_a, opW, ev1, binI, bne_self_eq_false, if_true, Option.map_some, pairC_p, wantedI_n, Bool.false_eq_true, if_false, Nat.add_zero, Option.getD_none, r1, Nat.zero_add, List.length_cons, List.length_nil, Nat.reduceAdd, cLe, List.drop, List.take_succ_cons, List.take, mkAgg, Option.bind_some, r2, ebb, W_ops_nil, segC_n, W_segs_nil, thenC_n, W_cond, condC_f, W_skip, W_seq, wF19o6, F19p6, W_segs_cons, freeI_f, freeNext, fpOf, Option.getD_some, pairOk, ne_eq, List.all_nil, r0, Nat.le_refl, List.all_cons, Bool.or_true, Bool.and_self, W_apply, List.nil_append, List.append_nil]
  rw [show IV.agg [f.iv, b.iv] = bv f b from rfl]
  refine at_sp fb fa (hf.keep kH1) (hb.keep kH1) hll hll' (by omega) fun H5 v5 k5 s5 => ?_
  have hn5 := k5.1
  replace g0 := (k5.2 _ (by omega) (by omega)).trans g0
  replace g1 := (k5.2 _ (by omega) (by omega)).trans g1
  replace g2 := (k5.2 _ (by omega) (by omega)).trans g2
  replace g3 := (k5.2 _ (by omega) (by omega)).trans g3
  replace kH1 : Keep H.n H H5 := kH1.trans (k5.lower (by omega))
  clear k5 r0 r1 r2
  have r0 := read_get g0
  have r1 := read_get g1
  have r2 := read_get g2
  simp (disch := omega) only [valC_v, opC_a, Fr.put, List.set, W_op, wantedI_n, guardC_t, evalAll, IA.eval, List.getD_cons_succ, List.getD_cons_zero, optC_s, argC_a, nextOf, freeNext, fpOf, Option.getD_some, pairOk, ne_eq, List.all_cons, Bool.or_true, List.all_nil, Bool.and_self, if_true, Option.map_some, lowOf, Bool.false_eq_true, if_false, goC_a, opW, ev1, r0, Nat.zero_add, List.length_cons, List.length_nil, Nat.reduceAdd, Nat.le_refl, List.drop, List.take_succ_cons, List.take, mkAgg, Option.bind_some, pairC_p, r2, W_ops_nil, segC_n, W_segs_cons, freeI_s, W_apply, List.nil_append, List.append_nil]
  rw [show IV.agg [f.iv, b.iv] = bv f b from rfl]
  refine at_sp tb ta (hf.keep kH1) (hb.keep kH1) hll hll' (by omega) fun H6 v6 k6 s6 => ?_
  have hn6 := k6.1
  replace g0 := (k6.2 _ (by omega) (by omega)).trans g0
  replace g1 := (k6.2 _ (by omega) (by omega)).trans g1
  replace g2 := (k6.2 _ (by omega) (by omega)).trans g2
  replace g3 := (k6.2 _ (by omega) (by omega)).trans g3
  replace kH1 : Keep H.n H H6 := kH1.trans (k6.lower (by omega))
  replace s5 := s5.keep k6
  clear k6 r0 r1 r2
  have r0 := read_get g0
  have r1 := read_get g1
  have r2 := read_get g2
  have hs5 := s5.sl
  have hs6 := s6.sl
  have hl5 := atL_len fs bs fb fa 4 hlen.2.2.1 hlen.2.2.2.1
  have hl6 := atL_len fs bs tb ta 4 hlen.2.2.1 hlen.2.2.2.1
  by_cases h0 : (atL fs bs fb fa).length = 0
  · have ej : joinE fs bs fb fa tb ta = 13 := by unfold joinE; rw [if_neg (by simp [hc]), if_neg (by simp [hfa, hta, hbb]), if_pos h0]
    rw [ej] at he
    simp (disch := omega) only [valC_v, opC_a, Fr.put, List.set, W_ops_nil, segC_n, W_segs_cons, freeI_s, W_op, wantedI_n, guardC_t, evalAll, IA.eval, List.getD_cons_succ, List.getD_cons_zero, optC_s, argC_a, nextOf, lowOf, goC_a, opW, ev1, pairC_p, W_segs_nil, thenC_n, W_seq, wF19o7, F19p7, ↓hs5.ln, binI, iBeq, if_true, Option.map_some, W_cond, condC_t, wF19o8, F19p8, fillI, cellsV_agg, List.length_cons, List.length_nil, Nat.zero_add, Nat.reduceAdd, Heap.write, g3, cLe, Nat.le_refl, List.all_cons, oneV_nilSlice, List.all_nil, Bool.and_self, and_true, splice, W_ret, thenC_j, retC_r, unmark, leaveC_a, resultsOf, resultOf, Option.getD_some, read_put, readO_c, List.drop, List.take_succ_cons, List.take, Option.bind_some, mkAgg, valsC_a, tupled]
    exact fun hk => he _ hk (by omega)
  by_cases h4 : (atL fs bs fb fa).length + (atL fs bs tb ta).length > 4
  · have ej : joinE fs bs fb fa tb ta = 9 := by unfold joinE; rw [if_neg (by simp [hc]), if_neg (by simp [hfa, hta, hbb]), if_neg h0, if_pos h4]
    rw [ej] at he
    simp (disch := omega) only [valC_v, opC_a, Fr.put, List.set, W_ops_nil, segC_n, W_segs_cons, freeI_s, W_op, wantedI_n, guardC_t, evalAll, IA.eval, List.getD_cons_succ, List.getD_cons_zero, optC_s, argC_a, nextOf, lowOf, goC_a, opW, ev1, pairC_p, W_segs_nil, thenC_n, W_seq, wF19o7, F19p7, ↓hs5.ln, binI, iBeqF, if_true, Option.map_some, W_cond, condC_f, W_skip, wF19o9, F19p9, ↓hs6.ln, wI64, iLt, decide_true, condC_t, wF19o10, F19p10, fillI, cellsV_agg, List.length_cons, List.length_nil, Nat.zero_add, Nat.reduceAdd, Heap.write, g3, cLe, Nat.le_refl, List.all_cons, oneV_nilSlice, List.all_nil, Bool.and_self, and_true, splice, W_ret, thenC_j, retC_r, unmark, leaveC_a, resultsOf, resultOf, Option.getD_some, read_put, readO_c, List.drop, List.take_succ_cons, List.take, Option.bind_some, mkAgg, valsC_a, tupled]
    exact fun hk => he _ hk (by omega)
  have ej : joinE fs bs fb fa tb ta = 0 := by unfold joinE; rw [if_neg (by simp [hc]), if_neg (by simp [hfa, hta, hbb]), if_neg h0, if_neg h4]
  simp (disch := omega) only [valC_v, opC_a, Fr.put, List.set, W_ops_nil, segC_n, W_segs_cons, freeI_s, W_op, wantedI_n, guardC_t, evalAll, IA.eval, List.getD_cons_succ, List.getD_cons_zero, optC_s, argC_a, nextOf, lowOf, goC_a, opW, ev1, pairC_p, W_segs_nil, thenC_n, W_seq, wF19o7, F19p7, ↓hs5.ln, binI, iBeqF, if_true, Option.map_some, W_cond, condC_f, W_skip, wF19o9, F19p9, ↓hs6.ln, wI64, iLtF, decide_false, wF19o11, F19p11, W_apply, List.nil_append, List.append_nil]
  obtain ⟨hfb, hfa1, hfa2⟩ := needle_ok hfa
  obtain ⟨htb, hta1, hta2⟩ := needle_ok hta
  -- the stack is there
  have key : ∀ (H9 : Heap) (u : SV), H6.n ≤ H9.n → Keep H.n H H9 → H9.get H.n = some (.cells false 35 2 [f.iv, b.iv]) → H9.get (H.n + 1) = some (.cells false 26 2 [.int .u8 fb, .int .i64 fa]) → H9.get (H.n + 2) = some (.cells false 26 2 [.int .u8 tb, .int .i64 ta]) → H9.get (H.n + 3) = some (.cells false 35 2 [.nilSlice, .nilSlice]) → Sl H9 u (joinS fs bs fb fa tb ta) →
      ∀ tm, tm.length = 68 → tm.getD 3 IV.undef = .ptr H.n 0 → tm.getD 4 IV.undef = .ptr (H.n + 1) 0 → tm.getD 5 IV.undef = .ptr (H.n + 2) 0 → tm.getD 6 IV.undef = .ptr (H.n + 3) 0 → tm.getD 11 IV.undef = u.iv → W E0 H.n (.code (.seq F19o14 .ret) none ⟨tm, []⟩) H9 (retC H.n F19.results fun o H' => Keep H.n H H' → Q o H') := by
    intro H9 u hn9 k9 g0 g1 g2 g3 hu tm htm t3 t4 t5 t6 t11
    have r0 := read_get g0
    have r1 := read_get g1
    have r2 := read_get g2
    have hjs : (joinS fs bs fb fa tb ta).length ≤ 4 := by unfold joinS; split <;> rw [List.length_append] <;> omega
    rw [expl68 tm htm, t3, t4, t5, t6, t11]
    simp (disch := omega) only [F19, F19b, W_seq, wF19o14, F19p14, W_segs_cons, freeI_f, W_op, wantedI_n, guardC_t, evalAll, IA.eval, List.getD_cons_succ, List.getD_cons_zero, optC_s, argC_a, nextOf, freeNext, fpOf, Option.getD_some, pairOk, ne_eq, List.all_nil, if_true, Option.map_some, lowOf, Bool.false_eq_true, if_false, goC_a, opW, ev1, r0, Nat.zero_add, List.length_cons, List.length_nil, Nat.reduceAdd, Nat.le_refl, List.drop, List.take_succ_cons, List.take, mkAgg, Option.bind_some, pairC_p, opC_a, Fr.put, List.set, List.all_cons, Bool.or_true, Bool.and_self, r1, W_apply, List.nil_append, List.append_nil]
    have efa : fa = ((fa.toNat : Nat) : Int) := by omega
    have eta : ta = ((ta.toNat : Nat) : Int) := by omega
    rw [show IV.agg [f.iv, b.iv] = bv f b from rfl, efa]
    refine placed_sp (w := .nil) (l := []) fb fa.toNat (hf.keep k9) (hb.keep k9) Sl.empty hlf hlb (by omega) hll hll' (by simp) (by omega) fun H10 f10 b10 k10 s10 => ?_
    rw [← efa]
    have hn10 := k10.1
    replace g0 := (k10.2 _ (by omega) (by omega)).trans g0
    replace g1 := (k10.2 _ (by omega) (by omega)).trans g1
    replace g2 := (k10.2 _ (by omega) (by omega)).trans g2
    replace g3 := (k10.2 _ (by omega) (by omega)).trans g3
    have r2 := read_get g2
    have k10' : Keep H.n H H10 := k9.trans (k10.lower (by omega))
    simp (disch := omega) only [valC_v, opC_a, Fr.put, List.set, W_op, wantedI_n, guardC_t, evalAll, IA.eval, List.getD_cons_succ, List.getD_cons_zero, optC_s, argC_a, nextOf, freeNext, fpOf, Option.getD_some, pairOk, ne_eq, List.all_cons, Bool.or_true, List.all_nil, Bool.and_self, if_true, Option.map_some, lowOf, Bool.false_eq_true, if_false, goC_a, opW, ev1, r2, Nat.zero_add, List.length_cons, List.length_nil, Nat.reduceAdd, Nat.le_refl, List.drop, List.take_succ_cons, List.take, mkAgg, Option.bind_some, pairC_p, W_ops_nil, segC_n, W_segs_cons, freeI_s, W_apply, List.nil_append, List.append_nil]
    have hF : (placeF fs fb fa.toNat []).length ≤ 100000 ∧ ∀ x ∈ placeF fs fb fa.toNat [], x.length ≤ 1000000 := by
      unfold placeF
      split
      · exact ⟨Nat.le_trans (putL_len _ _ _) (by omega), putL_mem _ _ _ _ hll (by simp)⟩
      · exact ⟨Nat.le_trans (putL_len _ _ _) (by omega), putL_mem _ _ _ _ hll (by simp)⟩
    have hB : (placeB bs fb fa.toNat []).length ≤ 100000 ∧ ∀ x ∈ placeB bs fb fa.toNat [], x.length ≤ 1000000 := by
      unfold placeB
      split
      · exact ⟨Nat.le_trans (putL_len _ _ _) (by omega), putL_mem _ _ _ _ hll' (by simp)⟩
      · exact ⟨Nat.le_trans (putL_len _ _ _) (by omega), putL_mem _ _ _ _ hll' (by simp)⟩
    rw [eta]
    refine placed_sp tb ta.toNat s10.1.sl2 s10.2.1.sl2 (hu.keep k10) hF.1 hB.1 (by omega) hF.2 hB.2 (by omega) (by omega) fun H11 f11 b11 k11 s11 => ?_
    rw [← eta]
    have hn11 := k11.1
    replace g3 := (k11.2 _ (by omega) (by omega)).trans g3
    simp (disch := omega) only [bv, valC_v, opC_a, Fr.put, List.set, W_ops_nil, segC_n, W_segs_cons, freeI_s, W_op, wantedI_n, guardC_t, evalAll, IA.eval, List.getD_cons_succ, List.getD_cons_zero, optC_s, argC_a, nextOf, lowOf, goC_a, opW, ev1, cellsV_agg, List.length_cons, List.length_nil, Nat.zero_add, Nat.reduceAdd, Heap.write, g3, cLe, Nat.le_refl, List.all_cons, SV.iv_one, List.all_nil, Bool.and_self, and_true, splice, if_true, Option.map_some, pairC_p, W_segs_nil, thenC_n, W_ret, retC_r, unmark, leaveC_a, resultsOf, resultOf, Option.getD_some, read_put, readO_c, List.drop, List.take_succ_cons, List.take, Option.bind_some, mkAgg, valsC_a, tupled]
    exact fun hk => h _ f11 b11 hk ej ⟨(s11.1.put (by omega)).lower (by omega), (s11.2.1.put (by omega)).lower (by omega), s11.2.2⟩
  refine copiedId_sp hs6 (by omega) (by omega) fun H7 c7 k7 hc7 o7 => ?_
  have hn7 := k7.1
  replace g0 := (k7.2 _ (by omega) (by omega)).trans g0
  replace g1 := (k7.2 _ (by omega) (by omega)).trans g1
  replace g2 := (k7.2 _ (by omega) (by omega)).trans g2
  replace g3 := (k7.2 _ (by omega) (by omega)).trans g3
  have kk7 : Keep H.n H H7 := kH1.trans (k7.lower (by omega))
  obtain ⟨H8, u8, e8, k8, s8⟩ := append_any (e := 28) (o7.sl true) rfl (hs5.keep k7) z_Id 16 H.n (by omega)
  have hn8 := k8.1
  replace g0 := (k8.2 _ (by omega) (by omega)).trans g0
  replace g1 := (k8.2 _ (by omega) (by omega)).trans g1
  replace g2 := (k8.2 _ (by omega) (by omega)).trans g2
  replace g3 := (k8.2 _ (by omega) (by omega)).trans g3
  have kk8 : Keep H.n H H8 := kk7.trans (k8.lower (by omega))
  have r1 := read_get g1
  by_cases hb1 : fb = 1
  · have ebb1 : (fb == 1) = true := by simp [hb1]
    simp (disch := omega) only [SV.sl_iv, valC_v, opC_a, Fr.put, List.set, W_op, wantedI_n, guardC_t, evalAll, IA.eval, List.getD_cons_succ, List.getD_cons_zero, optC_s, argC_a, nextOf, lowOf, goC_a, opW, ev1, pairC_p, ↓e8, W_ops_nil, segC_n, W_segs_nil, thenC_n, W_seq, wF19o12, F19p12, W_segs_cons, freeI_s, Nat.add_zero, Option.getD_none, r1, Nat.zero_add, List.length_cons, List.length_nil, Nat.reduceAdd, cLe, List.drop, List.take_succ_cons, List.take, if_true, mkAgg, Option.bind_some, Option.map_some, binI, ebb1, W_cond, condC_t, wF19o13, F19p13, W_apply, List.nil_append, List.append_nil]
    refine copiedId_sp ((hs5.keep k7).keep k8) (by omega) (by omega) fun H9 c9 k9 hc9 o9 => ?_
    have hn9 := k9.1
    replace g0 := (k9.2 _ (by omega) (by omega)).trans g0
    replace g1 := (k9.2 _ (by omega) (by omega)).trans g1
    replace g2 := (k9.2 _ (by omega) (by omega)).trans g2
    replace g3 := (k9.2 _ (by omega) (by omega)).trans g3
    have kk9 : Keep H.n H H9 := kk8.trans (k9.lower (by omega))
    obtain ⟨H10, u10, e10, k10, s10⟩ := append_any (e := 28) (o9.sl true) rfl (((hs6.keep k7).keep k8).keep k9) z_Id 16 H.n (by omega)
    have hn10 := k10.1
    replace g0 := (k10.2 _ (by omega) (by omega)).trans g0
    replace g1 := (k10.2 _ (by omega) (by omega)).trans g1
    replace g2 := (k10.2 _ (by omega) (by omega)).trans g2
    replace g3 := (k10.2 _ (by omega) (by omega)).trans g3
    simp (disch := omega) only [SV.sl_iv, valC_v, opC_a, Fr.put, List.set, W_op, wantedI_n, guardC_t, evalAll, IA.eval, List.getD_cons_succ, List.getD_cons_zero, optC_s, argC_a, nextOf, lowOf, goC_a, opW, ev1, pairC_p, ↓e10, W_ops_nil, segC_n, W_segs_nil, thenC_n, W_seq]
    rw [← W_seq]
    exact key H10 u10 (by omega) (kk9.trans (k10.lower (by omega))) g0 g1 g2 g3 (by rw [joinS, if_pos hb1]; exact s10) _ rfl rfl rfl rfl rfl rfl
  · have ebb1 : (fb == 1) = false := by simp [hb1]
    simp (disch := omega) only [SV.sl_iv, valC_v, opC_a, Fr.put, List.set, W_op, wantedI_n, guardC_t, evalAll, IA.eval, List.getD_cons_succ, List.getD_cons_zero, optC_s, argC_a, nextOf, lowOf, goC_a, opW, ev1, pairC_p, ↓e8, W_ops_nil, segC_n, W_segs_nil, thenC_n, W_seq, wF19o12, F19p12, W_segs_cons, freeI_s, Nat.add_zero, Option.getD_none, r1, Nat.zero_add, List.length_cons, List.length_nil, Nat.reduceAdd, cLe, List.drop, List.take_succ_cons, List.take, if_true, mkAgg, Option.bind_some, Option.map_some, binI, ebb1, W_cond, condC_f, W_skip]
    rw [← W_seq]
    exact key H8 u8 (by omega) kk8 g0 g1 g2 g3 (by rw [joinS, if_neg hb1]; exact s8) _ rfl rfl rfl rfl rfl rfl
end Go.Iso.Gen
end

section
namespace Go.Iso.Gen
open Go.Iso
set_option maxHeartbeats 2000000
set_option maxRecDepth 10000

theorem expl26 (tm : List IV) (h : tm.length = 26) : tm = [tm.getD 0 IV.undef, tm.getD 1 IV.undef, tm.getD 2 IV.undef, tm.getD 3 IV.undef, tm.getD 4 IV.undef, tm.getD 5 IV.undef, tm.getD 6 IV.undef, tm.getD 7 IV.undef, tm.getD 8 IV.undef, tm.getD 9 IV.undef, tm.getD 10 IV.undef, tm.getD 11 IV.undef, tm.getD 12 IV.undef, tm.getD 13 IV.undef, tm.getD 14 IV.undef, tm.getD 15 IV.undef, tm.getD 16 IV.undef, tm.getD 17 IV.undef, tm.getD 18 IV.undef, tm.getD 19 IV.undef, tm.getD 20 IV.undef, tm.getD 21 IV.undef, tm.getD 22 IV.undef, tm.getD 23 IV.undef, tm.getD 24 IV.undef, tm.getD 25 IV.undef] := (expl tm 26 h).trans rfl
theorem equal_sp {va vb : SV} {l m : List Id} {H : Heap} {lo : Nat} {Q : Out → Heap → Prop} (ha : Sl H va l) (hb : Sl H vb m) (hl : l.length ≤ 1000000) (hm : m.length ≤ 1000000)
    (h : Q (.val (.bool (decide (l = m)))) H) : W E0 lo (.call 32 [va.iv, vb.iv]) H Q := by
  rw [c32]
  by_cases hlen : l.length = m.length
  case neg =>
    have : l ≠ m := fun e => hlen (by rw [e])
    rw [decide_eq_false this] at h
    simp (disch := omega) only [F32b, F32, List.length_cons, List.length_nil, Nat.zero_add, Nat.reduceAdd, Nat.reduceSub, undefs, List.cons_append, List.nil_append, W_seq, wF32o0, F32p0, W_segs_cons, freeI_s, W_op, wantedI_n, guardC_t, evalAll, IA.eval, optC_s, argC_a, nextOf, lowOf, goC_a, opW, ev1, pairC_p, opC_a, Fr.put, List.set, W_ops_nil, segC_n, W_segs_nil, thenC_n, wF32o1, F32p1, List.getD_cons_zero, List.getD_cons_succ, ↓ha.ln, ↓hb.ln, binI, iBne, if_true, Option.map_some, W_cond, condC_t, wF32o2, F32p2, W_ret, thenC_j, retC_r, unmark, leaveC_a, resultsOf, resultOf, valsC_a, tupled]
    exact h
  simp (disch := omega) only [F32b, F32, List.length_cons, List.length_nil, Nat.zero_add, Nat.reduceAdd, Nat.reduceSub, undefs, List.cons_append, List.nil_append, W_seq, wF32o0, F32p0, W_segs_cons, freeI_s, W_op, wantedI_n, guardC_t, evalAll, IA.eval, optC_s, argC_a, nextOf, lowOf, goC_a, opW, ev1, pairC_p, opC_a, Fr.put, List.set, W_ops_nil, segC_n, W_segs_nil, thenC_n, wF32o1, F32p1, List.getD_cons_zero, List.getD_cons_succ, ↓ha.ln, ↓hb.ln, binI, iBneF, if_true, Option.map_some, W_cond, condC_f, W_skip, wF32o3, F32p3, W_block]
  refine W_inv (fun k fr H' => ∃ i, i + k = l.length ∧ l.take i = m.take i ∧ H' = H ∧ fr.marks = [] ∧ fr.tm.length = 26 ∧ fr.tm.getD 0 IV.undef = va.iv ∧ fr.tm.getD 1 IV.undef = vb.iv ∧ fr.tm.getD 12 IV.undef = .int .i64 l.length ∧ fr.tm.getD 13 IV.undef = .int .i64 i) ?_ l.length ⟨0, by omega, rfl, rfl, rfl, rfl, rfl, rfl, rfl, rfl⟩
  rintro k ⟨tm, mk⟩ H' ⟨i, hi, hp, rfl, rfl, htm, h0, h1, h12, h13⟩ L hN hJ
  rw [expl26 tm htm, h0, h1, h12, h13]
  by_cases hil : i < l.length
  · have r1 := ha.read z_Id i hil
    have r2 := hb.read z_Id i (by omega)
    by_cases he : l[i] = m[i]'(by omega)
    · have : l.take (i + 1) = m.take (i + 1) := by rw [List.take_succ_eq_append_getElem hil, List.take_succ_eq_append_getElem (by omega), hp, he]
      simp (disch := omega) only [F32l9, W_seq, wF32o4, F32p4, W_segs_cons, freeI_s, W_op, wantedI_n, guardC_t, evalAll, IA.eval, List.getD_cons_succ, List.getD_cons_zero, optC_s, argC_a, nextOf, lowOf, goC_a, opW, ev1, binI, iLt, decide_true, if_true, Option.map_some, pairC_p, opC_a, Fr.put, List.set, W_ops_nil, segC_n, W_segs_nil, thenC_n, W_cond, condC_t, W_skip, W_block, wF32o5, F32p5, wF32o6, F32p6, freeI_f, freeNext, fpOf, pairOk, ne_eq, List.all_nil, Bool.false_eq_true, if_false, List.all_cons, Bool.or_true, Bool.and_self, ↓ha.idx, Int.toNat_natCast, Option.getD_some, r1, he, cs_Id, mkAgg, Option.bind_some, ↓hb.idx, r2, eqKs, eqK, beq_self_eq_true, bne_self_eq_false, condC_f, blkC_n, wF32o8, F32p8, wI64]
      exact hN (k - 1) _ _ (by omega) ⟨i + 1, by omega, this, rfl, rfl, rfl, rfl, rfl, rfl, rfl⟩
    · have hne := id_ne he
      have : l ≠ m := fun e => he (by subst e; rfl)
      rw [decide_eq_false this] at h
      simp (disch := omega) only [F32l9, W_seq, wF32o4, F32p4, W_segs_cons, freeI_s, W_op, wantedI_n, guardC_t, evalAll, IA.eval, List.getD_cons_succ, List.getD_cons_zero, optC_s, argC_a, nextOf, lowOf, goC_a, opW, ev1, binI, iLt, decide_true, if_true, Option.map_some, pairC_p, opC_a, Fr.put, List.set, W_ops_nil, segC_n, W_segs_nil, thenC_n, W_cond, condC_t, W_skip, W_block, wF32o5, F32p5, wF32o6, F32p6, freeI_f, freeNext, fpOf, pairOk, ne_eq, List.all_nil, Bool.false_eq_true, if_false, List.all_cons, Bool.or_true, Bool.and_self, ↓ha.idx, Int.toNat_natCast, Option.getD_some, r1, cs_Id, mkAgg, Option.bind_some, ↓hb.idx, r2, eqKs, eqK, Bool.and_true, hne, Bool.bne_false, wF32o7, F32p7, W_ret, blkC_r, thenC_j, hJ, retC_r, unmark, leaveC_a, resultsOf, resultOf, valsC_a, tupled]
      exact h
  · have : l = m := by
      rw [List.take_of_length_le (by omega), List.take_of_length_le (by omega)] at hp; exact hp
    rw [decide_eq_true this] at h
    simp (disch := omega) only [F32l9, W_seq, wF32o4, F32p4, W_segs_cons, freeI_s, W_op, wantedI_n, guardC_t, evalAll, IA.eval, List.getD_cons_succ, List.getD_cons_zero, optC_s, argC_a, nextOf, lowOf, goC_a, opW, ev1, binI, iLtF, decide_false, if_true, Option.map_some, pairC_p, opC_a, Fr.put, List.set, W_ops_nil, segC_n, W_segs_nil, thenC_n, W_cond, condC_f, W_exit, thenC_j, hJ, blkC_e, wF32o10, F32p10, W_ret, retC_r, unmark, leaveC_a, resultsOf, resultOf, valsC_a, tupled]
    exact h

theorem expl32 (tm : List IV) (h : tm.length = 32) : tm = [tm.getD 0 IV.undef, tm.getD 1 IV.undef, tm.getD 2 IV.undef, tm.getD 3 IV.undef, tm.getD 4 IV.undef, tm.getD 5 IV.undef, tm.getD 6 IV.undef, tm.getD 7 IV.undef, tm.getD 8 IV.undef, tm.getD 9 IV.undef, tm.getD 10 IV.undef, tm.getD 11 IV.undef, tm.getD 12 IV.undef, tm.getD 13 IV.undef, tm.getD 14 IV.undef, tm.getD 15 IV.undef, tm.getD 16 IV.undef, tm.getD 17 IV.undef, tm.getD 18 IV.undef, tm.getD 19 IV.undef, tm.getD 20 IV.undef, tm.getD 21 IV.undef, tm.getD 22 IV.undef, tm.getD 23 IV.undef, tm.getD 24 IV.undef, tm.getD 25 IV.undef, tm.getD 26 IV.undef, tm.getD 27 IV.undef, tm.getD 28 IV.undef, tm.getD 29 IV.undef, tm.getD 30 IV.undef, tm.getD 31 IV.undef] := (expl tm 32 h).trans rfl
theorem equalF_sp {va vb : SV} {ls ms : List (List Id)} {H : Heap} {lo : Nat} {Q : Out → Heap → Prop} (ha : Sl2 H va ls) (hb : Sl2 H vb ms) (hl : ls.length ≤ 1000000) (hm : ms.length ≤ 1000000) (hll : ∀ x ∈ ls, x.length ≤ 1000000) (hmm : ∀ x ∈ ms, x.length ≤ 1000000)
    (h : Q (.val (.bool (decide (ls = ms)))) H) : W E0 lo (.call 30 [va.iv, vb.iv, .fn 32 [] []]) H Q := by
  rw [c30]
  by_cases hlen : ls.length = ms.length
  case neg =>
    have : ls ≠ ms := fun e => hlen (by rw [e])
    rw [decide_eq_false this] at h
    simp (disch := omega) only [F30b, F30, List.length_cons, List.length_nil, Nat.zero_add, Nat.reduceAdd, Nat.reduceSub, undefs, List.cons_append, List.nil_append, W_seq, wF30o0, F30p0, W_segs_cons, freeI_s, W_op, wantedI_n, guardC_t, evalAll, IA.eval, optC_s, argC_a, nextOf, lowOf, goC_a, opW, ev1, pairC_p, opC_a, Fr.put, List.set, W_ops_nil, segC_n, W_segs_nil, thenC_n, wF30o1, F30p1, List.getD_cons_zero, List.getD_cons_succ, ↓ha.ln, ↓hb.ln, binI, iBne, if_true, Option.map_some, W_cond, condC_t, wF30o2, F30p2, W_ret, thenC_j, retC_r, unmark, leaveC_a, resultsOf, resultOf, valsC_a, tupled]
    exact h
  simp (disch := omega) only [F30b, F30, List.length_cons, List.length_nil, Nat.zero_add, Nat.reduceAdd, Nat.reduceSub, undefs, List.cons_append, List.nil_append, W_seq, wF30o0, F30p0, W_segs_cons, freeI_s, W_op, wantedI_n, guardC_t, evalAll, IA.eval, optC_s, argC_a, nextOf, lowOf, goC_a, opW, ev1, pairC_p, opC_a, Fr.put, List.set, W_ops_nil, segC_n, W_segs_nil, thenC_n, wF30o1, F30p1, List.getD_cons_zero, List.getD_cons_succ, ↓ha.ln, ↓hb.ln, binI, iBneF, if_true, Option.map_some, W_cond, condC_f, W_skip, wF30o3, F30p3, W_block]
  refine W_inv (fun k fr H' => ∃ i, i + k = ls.length ∧ ls.take i = ms.take i ∧ H' = H ∧ fr.marks = [] ∧ fr.tm.length = 32 ∧ fr.tm.getD 0 IV.undef = va.iv ∧ fr.tm.getD 1 IV.undef = vb.iv ∧ fr.tm.getD 2 IV.undef = .fn 32 [] [] ∧ fr.tm.getD 15 IV.undef = va.iv ∧ fr.tm.getD 16 IV.undef = .int .i64 ls.length ∧ fr.tm.getD 17 IV.undef = .int .i64 i) ?_ ls.length ⟨0, by omega, rfl, rfl, rfl, rfl, rfl, rfl, rfl, rfl, rfl, rfl⟩
  rintro k ⟨tm, mk⟩ H' ⟨i, hi, hp, rfl, rfl, htm, h0, h1, h2, h15, h16, h17⟩ L hN hJ
  rw [expl32 tm htm, h0, h1, h2, h15, h16, h17]
  by_cases hil : i < ls.length
  · obtain ⟨w, r1, s1, _⟩ := ha.elem i hil
    obtain ⟨u, r2, s2, _⟩ := hb.elem i (by omega)
    simp (disch := omega) only [F30l10, W_seq, wF30o4, F30p4, W_segs_cons, freeI_s, W_op, wantedI_n, guardC_t, evalAll, IA.eval, List.getD_cons_succ, List.getD_cons_zero, optC_s, argC_a, nextOf, lowOf, goC_a, opW, ev1, binI, iLt, decide_true, if_true, Option.map_some, pairC_p, opC_a, Fr.put, List.set, W_ops_nil, segC_n, W_segs_nil, thenC_n, W_cond, condC_t, W_skip, W_block, wF30o5, F30p5, ↓ha.idx, Int.toNat_natCast, Option.getD_none, r1, mkAgg, Option.bind_some, wF30o6, F30p6, ↓hb.idx, r2, wF30o7, F30p7, W_apply, List.nil_append, List.append_nil]
    refine equal_sp s1 s2 (hll _ (List.getElem_mem _)) (hmm _ (List.getElem_mem _)) ?_
    by_cases he : ls[i] = ms[i]'(by omega)
    · have : ls.take (i + 1) = ms.take (i + 1) := by rw [List.take_succ_eq_append_getElem hil, List.take_succ_eq_append_getElem (by omega), hp, he]
      rw [decide_eq_true he]
      simp (disch := omega) only [valC_v, opC_a, Fr.put, List.set, W_op, wantedI_n, guardC_t, evalAll, IA.eval, List.getD_cons_succ, List.getD_cons_zero, optC_s, argC_a, nextOf, lowOf, goC_a, opW, ev1, unI, Bool.not_true, Option.map_some, pairC_p, W_ops_nil, segC_n, W_segs_nil, thenC_n, W_cond, condC_f, W_skip, blkC_n, wF30o9, F30p9, W_segs_cons, freeI_s, binI, wI64, if_true]
      exact hN (k - 1) _ _ (by omega) ⟨i + 1, by omega, this, rfl, rfl, rfl, rfl, rfl, rfl, rfl, rfl, rfl⟩
    · have : ls ≠ ms := fun e => he (by subst e; rfl)
      rw [decide_eq_false this] at h
      rw [decide_eq_false he]
      simp (disch := omega) only [valC_v, opC_a, Fr.put, List.set, W_op, wantedI_n, guardC_t, evalAll, IA.eval, List.getD_cons_succ, List.getD_cons_zero, optC_s, argC_a, nextOf, lowOf, goC_a, opW, ev1, unI, Bool.not_false, Option.map_some, pairC_p, W_ops_nil, segC_n, W_segs_nil, thenC_n, W_cond, condC_t, W_seq, wF30o8, F30p8, W_segs_cons, freeI_s, W_ret, blkC_r, thenC_j, hJ, retC_r, unmark, leaveC_a, resultsOf, resultOf, valsC_a, tupled]
      exact h
  · have : ls = ms := by
      rw [List.take_of_length_le (by omega), List.take_of_length_le (by omega)] at hp; exact hp
    rw [decide_eq_true this] at h
    simp (disch := omega) only [F30l10, W_seq, wF30o4, F30p4, W_segs_cons, freeI_s, W_op, wantedI_n, guardC_t, evalAll, IA.eval, List.getD_cons_succ, List.getD_cons_zero, optC_s, argC_a, nextOf, lowOf, goC_a, opW, ev1, binI, iLtF, decide_false, if_true, Option.map_some, pairC_p, opC_a, Fr.put, List.set, W_ops_nil, segC_n, W_segs_nil, thenC_n, W_cond, condC_f, W_exit, thenC_j, hJ, blkC_e, wF30o11, F30p11, W_ret, retC_r, unmark, leaveC_a, resultsOf, resultOf, valsC_a, tupled]
    exact h

/-- A bed without the empty needles at its end. -/
def shortL (ls : List (List Id)) : List (List Id) := ls.take (shortN ls)

/-- A slice whose room is known, or whose block has elements of one cell. -/
def Cut (H : Heap) (v : SV) : Prop := match v with | .nil => True | .sl b _ _ _ ex => ex = true ∨ (b < H.n ∧ ezAt H b 1 = true)
theorem Cut.keep {H H' : Heap} {v : SV} (h : Cut H v) (k : Keep H.n H H') : Cut H' v := by
  cases v with
  | nil => trivial
  | sl b o n c ex =>
    rcases h with h | ⟨h1, h2⟩
    · exact .inl h
    · refine .inr ⟨Nat.lt_of_lt_of_le h1 k.1, ?_⟩
      unfold ezAt at *
      rw [k.2 b h1 h1]; exact h2
theorem Cut.tight {H : Heap} {v : SV} (h : v.tight) : Cut H v := by
  cases v with
  | nil => trivial
  | sl b o n c ex => exact .inl h.2
theorem cut_sl {H : Heap} {v : SV} {ls : List (List Id)} (hv : Sl2 H v ls) (hc : Cut H v) (lo : Nat) : ∃ w, ev1 (.slc 1 false true false) [v.iv, .int .i64 (shortN ls)] lo H = some (SV.iv w, H) ∧ Sl2 H w (shortL ls) := by
  obtain ⟨vs, h1, h2, h3⟩ := hv
  have hs := shortN_le ls
  cases v with
  | nil =>
    have h1 : vs = [] := h1
    subst h1
    have : ls = [] := List.length_eq_zero_iff.1 h2.symm
    subst this
    exact ⟨.nil, rfl, ⟨[], rfl, rfl, fun i h => by simp [shortL] at h⟩⟩
  | sl b o n c ex =>
    have hc : (ex || ezAt H b 1) = true := by rcases hc with hc | ⟨_, hc⟩ <;> simp [hc]
    have hn := h1.1
    have hn' := h1.2.1
    refine ⟨.sl b (o + 0 * 1) (shortN ls - 0) (c - 0) ex, ?_, vs.take (shortN ls), ?_, by simp [shortL]; omega, fun i a b => ?_⟩
    · simp only [ev1, SV.iv]
      rw [if_pos hc]
      simp only [boundsI, boundI]
      rw [if_pos ⟨by omega, by omega⟩]
      simp
    · have := Sl.part (ex' := ex) (c' := c) h1 z_SV (a := 0) (m := shortN ls) (by omega) (by omega)
      simpa using this
    · have a' : i < shortN ls := by simp [shortL] at a; omega
      simp only [shortL, List.getElem_take]
      exact h3 i (by omega) (by omega)

theorem sameB_sp {va vb : SV} {ls ms : List (List Id)} {H : Heap} {lo : Nat} {Q : Out → Heap → Prop} (ha : Sl2 H va ls) (hb : Sl2 H vb ms) (ca : Cut H va) (cb : Cut H vb) (hl : ls.length ≤ 1000000) (hm : ms.length ≤ 1000000) (hll : ∀ x ∈ ls, x.length ≤ 1000000) (hmm : ∀ x ∈ ms, x.length ≤ 1000000)
    (h : Q (.val (.bool (decide (shortL ls = shortL ms)))) H) : W E0 lo (.call 29 [va.iv, vb.iv]) H Q := by
  rw [c29]
  obtain ⟨w, e1, s1⟩ := cut_sl ha ca H.n
  obtain ⟨u, e2, s2⟩ := cut_sl hb cb H.n
  simp (disch := omega) only [F29b, F29, List.length_cons, List.length_nil, Nat.zero_add, Nat.reduceAdd, Nat.reduceSub, undefs, List.cons_append, List.nil_append, W_seq, wF29o0, F29p0, W_segs_cons, freeI_s, W_op, wantedI_n, guardC_t, evalAll, IA.eval, optC_s, argC_a, nextOf, lowOf, goC_a, opW, ev1, pairC_p, opC_a, Fr.put, List.set, W_ops_nil, segC_n, W_segs_nil, thenC_n, wF29o1, F29p1, freeI_f, List.getD_cons_zero, freeNext, fpOf, pairOk, ne_eq, List.all_nil, if_true, Option.map_some, Bool.false_eq_true, if_false, List.all_cons, Bool.or_true, Bool.and_self, List.getD_cons_succ, W_apply, List.append_nil]
  refine short_sp ha hl ?_
  simp (disch := omega) only [valC_v, opC_a, Fr.put, List.set, W_op, wantedI_n, guardC_t, evalAll, IA.eval, List.getD_cons_succ, List.getD_cons_zero, optC_s, argC_a, nextOf, freeNext, fpOf, pairOk, ne_eq, List.all_cons, Bool.or_true, List.all_nil, Bool.and_self, if_true, Option.map_some, lowOf, Bool.false_eq_true, if_false, goC_a, opW, ↓e1, pairC_p, ev1, W_apply, List.nil_append, List.append_nil]
  refine short_sp hb hm ?_
  simp (disch := omega) only [valC_v, opC_a, Fr.put, List.set, W_op, wantedI_n, guardC_t, evalAll, IA.eval, List.getD_cons_succ, List.getD_cons_zero, optC_s, argC_a, nextOf, freeNext, fpOf, pairOk, ne_eq, List.all_cons, Bool.or_true, List.all_nil, Bool.and_self, if_true, Option.map_some, lowOf, Bool.false_eq_true, if_false, goC_a, opW, ↓e2, pairC_p, W_ops_nil, segC_n, W_segs_cons, freeI_s, W_apply, List.nil_append, List.append_nil]
  refine equalF_sp s1 s2 (by simp [shortL]; omega) (by simp [shortL]; omega) (fun x hx => hll x (List.mem_of_mem_take hx)) (fun x hx => hmm x (List.mem_of_mem_take hx)) ?_
  simp (disch := omega) only [valC_v, opC_a, Fr.put, List.set, W_ops_nil, segC_n, W_segs_cons, freeI_s, W_op, wantedI_n, guardC_t, evalAll, IA.eval, List.getD_cons_succ, List.getD_cons_zero, optC_s, argC_a, nextOf, lowOf, goC_a, opW, ev1, pairC_p, W_segs_nil, thenC_n, W_ret, retC_r, unmark, leaveC_a, resultsOf, resultOf, valsC_a, tupled]
  exact h

theorem Same_sp {fa ba fb bb : SV} {fs bs fs' bs' : List (List Id)} {H : Heap} {lo : Nat} {Q : Out → Heap → Prop} (h1 : Sl2 H fa fs) (h2 : Sl2 H ba bs) (h3 : Sl2 H fb fs') (h4 : Sl2 H bb bs') (c1 : Cut H fa) (c2 : Cut H ba) (c3 : Cut H fb) (c4 : Cut H bb)
    (l1 : fs.length ≤ 1000000 ∧ ∀ x ∈ fs, x.length ≤ 1000000) (l2 : bs.length ≤ 1000000 ∧ ∀ x ∈ bs, x.length ≤ 1000000) (l3 : fs'.length ≤ 1000000 ∧ ∀ x ∈ fs', x.length ≤ 1000000) (l4 : bs'.length ≤ 1000000 ∧ ∀ x ∈ bs', x.length ≤ 1000000) (hlo : lo ≤ H.n)
    (h : ∀ H', Keep H.n H H' → Q (.val (.bool (decide (shortL fs = shortL fs' ∧ shortL bs = shortL bs')))) H') : W E0 lo (.call 18 [bv fa ba, bv fb bb]) H Q := by
  refine pureQ _ hlo h fun R hR => ?_
  rw [c18]
  simp (disch := omega) only [F18b, bv, F18, List.length_cons, List.length_nil, Nat.zero_add, Nat.reduceAdd, Nat.reduceSub, undefs, List.cons_append, List.nil_append, W_seq, wF18o0, F18p0, W_segs_cons, freeI_s, W_op, wantedI_n, guardC_t, evalAll, IA.eval, List.getD_cons_zero, optC_s, argC_a, nextOf, lowOf, goC_a, opW, ev1, cellsV_agg, pairC_p, opC_a, Fr.put, List.set, List.getD_cons_succ, Heap.n_new, W_ops_nil, segC_n, W_segs_nil, thenC_n, wF18o1, F18p1, wF18o2, F18p2, Nat.add_zero, Option.getD_none, read_new, cEqL, readO_c, cLe, List.drop, List.take_succ_cons, List.take, if_true, if_false, mkAgg, Option.bind_some, Option.map_some, cEqR, W_apply, List.append_nil]
  generalize hH_H1 : Heap.new _ _ = H1
  have hnH1 : H1.n = H.n + 2 := by rw [← hH_H1]; rfl
  have g0 := congrArg (fun h0 => Heap.get h0 (H.n)) hH_H1.symm
  simp (disch := omega) only [Heap.get_new, Heap.n_new, cEqL, if_true, if_false] at g0
  have g1 := congrArg (fun h0 => Heap.get h0 (H.n + 1)) hH_H1.symm
  simp (disch := omega) only [Heap.get_new, Heap.n_new, cEqR, if_false, if_true] at g1
  have kH1 : Keep H.n H H1 := ⟨by omega, fun x hx _ => by
    have gx := congrArg (fun h0 => Heap.get h0 x) hH_H1.symm
    simp (disch := omega) only [Heap.get_new, Heap.n_new, cEqL, if_false] at gx
    exact gx⟩
  clear hH_H1
  have r0 := read_get g0
  have r1 := read_get g1
  refine sameB_sp (h1.keep kH1) (h3.keep kH1) (c1.keep kH1) (c3.keep kH1) l1.1 l3.1 l1.2 l3.2 ?_
  by_cases e1 : shortL fs = shortL fs'
  · rw [decide_eq_true e1]
    simp (disch := omega) only [valC_v, opC_a, Fr.put, List.set, W_op, wantedI_n, guardC_t, evalAll, IA.eval, List.getD_cons_succ, List.getD_cons_zero, optC_s, argC_a, nextOf, lowOf, goC_a, opW, ev1, pairC_p, wantedI_s, wantV_b, beq_self_eq_true, Nat.zero_add, Option.getD_none, r0, Nat.reduceAdd, List.length_cons, List.length_nil, Nat.le_refl, List.drop, List.take_succ_cons, List.take, if_true, mkAgg, Option.bind_some, Option.map_some, r1, W_apply, List.nil_append, List.append_nil]
    refine sameB_sp (h2.keep kH1) (h4.keep kH1) (c2.keep kH1) (c4.keep kH1) l2.1 l4.1 l2.2 l4.2 ?_
    by_cases e2 : shortL bs = shortL bs'
    · rw [decide_eq_true ⟨e1, e2⟩] at hR
      rw [decide_eq_true e2]
      simp (disch := omega) only [valC_v, opC_a, Fr.put, List.set, W_op, wantedI_n, guardC_t, evalAll, IA.eval, List.getD_cons_succ, List.getD_cons_zero, optC_s, argC_a, nextOf, lowOf, goC_a, opW, ev1, if_true, pairC_p, W_ops_nil, segC_n, W_segs_nil, thenC_n, W_ret, retC_r, unmark, leaveC_a, resultsOf, resultOf, valsC_a, tupled]
      exact hR _
    · rw [decide_eq_false (fun h => e2 h.2)] at hR
      rw [decide_eq_false e2]
      simp (disch := omega) only [valC_v, opC_a, Fr.put, List.set, W_op, wantedI_n, guardC_t, evalAll, IA.eval, List.getD_cons_succ, List.getD_cons_zero, optC_s, argC_a, nextOf, lowOf, goC_a, opW, ev1, if_true, pairC_p, W_ops_nil, segC_n, W_segs_nil, thenC_n, W_ret, retC_r, unmark, leaveC_a, resultsOf, resultOf, valsC_a, tupled]
      exact hR _
  · rw [decide_eq_false (fun h => e1 h.1)] at hR
    rw [decide_eq_false e1]
    simp (disch := omega) only [valC_v, opC_a, Fr.put, List.set, W_op, wantedI_n, guardC_t, evalAll, IA.eval, List.getD_cons_succ, List.getD_cons_zero, optC_s, argC_a, nextOf, lowOf, goC_a, opW, ev1, pairC_p, wantedI_s, wantV_b, bb_ft, guardC_f, Bool.false_eq_true, if_false, W_ops_nil, segC_n, W_segs_nil, thenC_n, W_ret, retC_r, unmark, leaveC_a, resultsOf, resultOf, valsC_a, tupled]
    exact hR _
end Go.Iso.Gen
end
