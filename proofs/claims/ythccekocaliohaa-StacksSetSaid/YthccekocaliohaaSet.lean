/-
  ganseylaw03.StacksSet returns true for every input and leaves its arguments as they were; no condition.
-/
import Derived.Test.YthccekocaliohaaSetA
import Derived.Test.YthccekocaliohaaRow
set_option linter.unusedSimpArgs false
set_option linter.unusedVariables false

section
namespace Go.Iso.Gen
open Go.Iso
set_option maxHeartbeats 4000000
set_option maxRecDepth 10000

theorem setE_ok {t : List (List Id)} {nb na : Int} {l : List Id} (h : setE t nb na l = 0) : needleE nb na = 0 ∧ l.all namedB = true ∧ l.length ≤ 4 ∧ (∀ a ∈ l, a ∉ (t.set (ix nb na) []).flatten) ∧ l.Nodup := by
  unfold setE at h
  split at h
  · omega
  split at h
  · omega
  split at h
  · omega
  split at h
  · rename_i c1 c2 c3 c4
    exact ⟨Classical.not_not.1 c1, by simpa using c2, by omega, c4⟩
  · omega
theorem setE_zero {t : List (List Id)} {nb na : Int} {l : List Id} (h : needleE nb na = 0 ∧ l.all namedB = true ∧ l.length ≤ 4 ∧ (∀ a ∈ l, a ∉ (t.set (ix nb na) []).flatten) ∧ l.Nodup) : setE t nb na l = 0 := by
  unfold setE
  rw [if_neg (by simp [h.1]), if_neg (by simp [h.2.1]), if_neg (by omega), if_pos h.2.2.2]
theorem set_valid {t : List (List Id)} (hV : Valid t) {nb na : Int} {l : List Id} (h : setE t nb na l = 0) : Valid (t.set (ix nb na) l) := by
  obtain ⟨h1, h2, h3, h4, h5⟩ := setE_ok h
  have hq : ix nb na < t.length := by rw [hV.len]; exact (n_ix h1).2.2
  have hp := set_split hq l
  have hs := flat_split hq
  have hnd := (hs.nodup_iff).1 hV.nd
  rw [List.nodup_append] at hnd
  refine ⟨by rw [List.length_set, hV.len], fun x hx => ?_, fun a ha => ?_, (hp.nodup_iff).2 ?_⟩
  · rcases List.mem_or_eq_of_mem_set hx with hx | rfl
    · exact hV.four x hx
    · exact h3
  · rcases List.mem_append.1 ((hp.mem_iff).1 ha) with ha | ha
    · exact List.all_eq_true.1 h2 a ha
    · exact hV.named a ((hs.mem_iff).2 (List.mem_append.2 (.inr ha)))
  · rw [List.nodup_append]
    exact ⟨h5, hnd.2.1, fun a ha b hb e => h4 a ha (e ▸ hb)⟩
theorem set_again {t : List (List Id)} {nb na : Int} {l : List Id} (h : setE t nb na l = 0) : setE (t.set (ix nb na) l) nb na l = 0 := by
  obtain ⟨h1, h2, h3, h4, h5⟩ := setE_ok h
  exact setE_zero ⟨h1, h2, h3, by rw [List.set_set]; exact h4, h5⟩

theorem tab_set {H : Heap} {vs : List SV} {t : List (List Id)} (h : Tab H vs t) (i : Nat) (w : SV) (l : List Id) (hw : Sl H w l) : Tab H (vs.set i w) (t.set i l) := by
  refine ⟨by rw [List.length_set]; exact h.1, by rw [List.length_set]; exact h.2.1, fun j a b => ?_⟩
  rw [List.length_set] at a b
  by_cases hj : i = j
  · subst hj; rw [List.getElem_set_self, List.getElem_set_self]; exact hw
  · rw [List.getElem_set_ne hj, List.getElem_set_ne hj]; exact h.2.2 j a b

/-- What comes behind the loops if Set has no error. -/
theorem set_tail {nb na : Int} {p T G lo n2 q : Nat} {t : List (List Id)} {l : List Id} {vs : List SV} {v f' b' : SV} {H : Heap} {tm : List IV} (hV : Valid t) (hE : setE t nb na l = 0) (hq : q = ix nb na) (hv : Sl H v l)
    (gp : H.get p = some (.cells false 26 2 [.int .u8 nb, .int .i64 na])) (hT : Tab H vs t) (gt : H.get T = some (.cells false 31 80 (flat vs))) (hTne : ∀ j (a : j < vs.length) (b : j < t.length), t[j] ≠ [] → vs[j].blk < T)
    (gg : H.get G = some (.cells false 35 2 [f'.iv, b'.iv])) (s2 : ∀ H', H.n ≤ H'.n → (∀ x, x < H.n → x ≠ T → H'.get x = H.get x) → Beds n2 H' f' b' (bedF (t.set q l)) (bedB (t.set q l)))
    (hp : p < T) (hTn : T < H.n) (hG : G < H.n) (hGT : T < G) (hlo : lo ≤ T)
    (htm : tm.length = 194) (t2 : tm.getD 2 IV.undef = v.iv) (t4 : tm.getD 4 IV.undef = .ptr p 0) (t7 : tm.getD 7 IV.undef = .ptr T 0) (t9 : tm.getD 9 IV.undef = .ptr G 0) (t12 : tm.getD 12 IV.undef = .int .i64 q) :
    W E0 lo (.code (.seq F4o48 (.seq (.seq F4o49 (.cond (.tmp 174) (.seq F4o50 .ret) .skip)) (.seq F4o51 (.seq F4o52 .ret)))) none ⟨tm, []⟩) H (retC lo F4.results fun o _ => o = .val (.bool true)) := by
  have hV2 := set_valid hV hE
  have hE2 := set_again hE
  obtain ⟨h1, h2, h3, h4, h5⟩ := setE_ok hE
  have hq80 : q < 80 := by rw [hq]; exact (n_ix h1).2.2
  have eat := atL_eq (t.set (ix nb na) l) h1
  rw [set_getD _ _ (by rw [hV.len]; omega), if_pos rfl] at eat
  rw [← hq] at hV2 hE2 eat h4
  clear h4 h5 h2
  have hvl := hT.1
  have htl := hV.len
  have hfl : (flat vs).length = 80 := by rw [flat_length, z_SV]; omega
  rw [expl194 tm htm, t2, t4, t7, t9, t12]
  obtain ⟨H2, u2, e2, k2, s2u, b2⟩ := append_e0 (e := 28) (H := H.new (.cells false 28 2 [])) (hv.keep (Keep.new _ _)) z_Id 16 lo H.n (by omega)
  have hn2 := k2.1
  rw [Heap.n_new] at hn2
  have kk2 : Keep H.n H H2 := (Keep.new _ _).trans (k2.lower (by rw [Heap.n_new]; omega))
  have gt2 := (kk2.2 _ hTn hTn).trans gt
  have hput := tab_put (vs := vs) q (by omega) u2
  simp (disch := omega) only [F4, F4b, W_seq, wF4o48, F4p48, W_segs_cons, freeI_s, W_op, wantedI_n, guardC_t, evalAll, IA.eval, List.getD_cons_succ, List.getD_cons_zero, optC_s, argC_a, nextOf, lowOf, goC_a, opW, ev1, pairC_p, opC_a, Fr.put, List.set, fillI, Option.map_some, ↓e2, iLe, iLt, and_true, Int.toNat_natCast, Nat.zero_add, if_true, SV.iv_cells, List.length_cons, List.length_nil, Heap.write, gt2, cLe, hfl, List.all_cons, SV.iv_one, List.all_nil, Bool.and_self, hput, W_ops_nil, segC_n, W_segs_nil, thenC_n]
  generalize hH3 : Heap.put _ _ _ = H3
  have n3 : H3.n = H2.n := by rw [← hH3]; rfl
  have k3 : ∀ x, x ≠ T → H3.get x = H2.get x := fun x hx => by rw [← hH3, Heap.get_put, if_neg (Ne.symm hx)]
  have gt3 : H3.get T = some (.cells false 31 80 (flat (vs.set q u2))) := by rw [← hH3, Heap.get_put, if_pos rfl]
  clear hH3
  have k03 : ∀ x, x < H.n → x ≠ T → H3.get x = H.get x := fun x hx h => (k3 x h).trans (kk2.2 x hx hx)
  have s3 := s2 H3 (by omega) k03
  have gp3 := (k03 p (by omega) (by omega)).trans gp
  have gg3 := (k03 G hG (by omega)).trans gg
  have hT3 : Tab H3 (vs.set q u2) (t.set q l) := by
    refine tab_set ⟨hT.1, hT.2.1, fun j a b => (hT.2.2 j a b).same (by omega) fun hl => k03 _ (by have := hTne j a b hl; omega) (by have := hTne j a b hl; omega)⟩ q u2 l (s2u.same (by omega) fun hl => k3 _ ?_)
    have := b2 hl
    rw [Heap.n_new] at this
    omega
  generalize hw : vs.set q u2 = ws at *
  generalize hu : t.set q l = u at *
  have hl6 : ∀ l ∈ u, l.length ≤ 1000000 := fun l hl => by have := hV2.four l hl; omega
  have hlF := bedF_len u
  have hlB := bedB_len hV2.len
  have h6F : ∀ l ∈ bedF u, l.length ≤ 1000000 := fun l hl => hl6 l (bedF_mem hl)
  have h6B : ∀ l ∈ bedB u, l.length ≤ 1000000 := fun l hl => hl6 l (bedB_mem hl)
  have hwl := hT3.1
  have hflw : (flat ws).length = 80 := by rw [flat_length, z_SV]; omega
  have htkw : (flat ws).take 80 = flat ws := List.take_of_length_le (by omega)
  clear gt2 hput e2 k2 b2 s2 s2u gt gp gg hT hTne kk2 k3 k03 hfl hvl
  have rt := read_get gt3
  have rg := read_get gg3
  simp (disch := omega) only [wF4o49, F4p49, W_segs_cons, freeI_s, W_op, wantedI_n, guardC_t, evalAll, IA.eval, List.getD_cons_succ, List.getD_cons_zero, optC_s, argC_a, nextOf, lowOf, goC_a, opW, ev1, Option.getD_some, rt, Nat.zero_add, hflw, Nat.le_refl, List.drop, htkw, if_true, mkAgg, Option.map_some, Option.bind_some, pairC_p, opC_a, Fr.put, List.set, rg, List.length_cons, List.length_nil, Nat.reduceAdd, List.take_succ_cons, List.take, W_apply, List.nil_append, List.append_nil]
  rw [show IV.agg [f'.iv, b'.iv] = bv f' b' from rfl]
  refine differs_sp hT3 hl6 s3.1.sl2 s3.2.1.sl2 s3.2.2.1 s3.2.2.2 (by omega) (by omega) h6F h6B (by omega) fun H4 n4 k4 hn0 => ?_
  have hn0 := hn0.2 (fits_beds hV2.len)
  subst hn0
  have hn4 := k4.1
  replace gp3 := (k4.2 _ (by omega) (by omega)).trans gp3
  replace gg3 := (k4.2 _ (by omega) (by omega)).trans gg3
  have s4 := s3.keep k4
  have rp := read_get gp3
  have rg := read_get gg3
  simp (disch := omega) only [valC_v, opC_a, Fr.put, List.set, W_op, wantedI_n, guardC_t, evalAll, IA.eval, List.getD_cons_succ, List.getD_cons_zero, optC_s, argC_a, nextOf, lowOf, goC_a, opW, ev1, binI, iBneF, if_true, Option.map_some, pairC_p, W_ops_nil, segC_n, W_segs_nil, thenC_n, W_cond, condC_f, W_skip, W_seq, wF4o51, F4p51, W_segs_cons, freeI_f, freeNext, fpOf, Option.getD_some, pairOk, ne_eq, List.all_nil, Bool.false_eq_true, if_false, rg, Nat.zero_add, List.length_cons, List.length_nil, Nat.reduceAdd, Nat.le_refl, List.drop, List.take_succ_cons, List.take, mkAgg, Option.bind_some, List.all_cons, Bool.or_true, Bool.and_self, rp, W_apply, List.nil_append, List.append_nil]
  rw [show IV.agg [f'.iv, b'.iv] = bv f' b' from rfl]
  refine at_sp nb na s4.1.sl2 s4.2.1.sl2 h6F h6B (by omega) fun H5 v5 k5 s5 => ?_
  rw [eat] at s5
  have hn5 := k5.1
  replace gp3 := (k5.2 _ (by omega) (by omega)).trans gp3
  replace gg3 := (k5.2 _ (by omega) (by omega)).trans gg3
  replace s4 := s4.keep k5
  simp (disch := omega) only [valC_v, opC_a, Fr.put, List.set, W_op, wantedI_n, guardC_t, evalAll, IA.eval, List.getD_cons_succ, List.getD_cons_zero, optC_s, argC_a, nextOf, freeNext, fpOf, pairOk, ne_eq, List.all_cons, Bool.or_true, List.all_nil, Bool.and_self, if_true, Option.map_some, lowOf, Bool.false_eq_true, if_false, goC_a, opW, W_apply, List.nil_append, List.append_nil]
  refine set_sp nb na hV2 s4.1.sl2 s4.2.1.sl2 s5.sl (by omega) (by omega) (fun H6 k6 he => absurd hE2 he) fun H6 f6 b6 k6 _ s6 => ?_
  rw [← hq, ← hu, List.set_set, hu] at s6
  have hn6 := k6.1
  replace gg3 := (k6.2 _ (by omega) (by omega)).trans gg3
  replace s4 := s4.keep k6
  have b0 : Nat.testBit 767 0 = true := by decide
  have b1 : Nat.testBit 767 1 = true := by decide
  have b2 : Nat.testBit 767 2 = true := by decide
  have b3 : Nat.testBit 767 3 = true := by decide
  simp (disch := omega) only [bv, valC_v, opC_a, Fr.put, List.set, W_op, wantedI_n, guardC_t, evalAll, IA.eval, List.getD_cons_succ, List.getD_cons_zero, optC_s, argC_a, nextOf, freeNext, fpOf, pairOk, ne_eq, List.all_cons, Bool.or_true, List.all_nil, Bool.and_self, if_true, Option.map_some, lowOf, Bool.false_eq_true, if_false, goC_a, opW, ev1, pairC_p, List.getElem?_cons_zero, List.getElem?_cons_succ, b3, Bool.true_or, b2, b1, b0, Heap.n_new, cellsV_agg, List.length_cons, List.length_nil, Nat.zero_add, Nat.reduceAdd, Heap.write, Heap.get_new, cLe, Nat.le_refl, SV.iv_one, and_true, splice, W_ops_nil, segC_n, W_segs_cons, freeI_s, W_segs_nil, thenC_n, W_seq]
  generalize hH_H7 : Heap.put _ _ _ = H7
  have hnH7 : H7.n = H6.n + 1 := by rw [← hH_H7]; rfl
  have g7 := congrArg (fun h0 => Heap.get h0 (H6.n)) hH_H7.symm
  simp (disch := omega) only [Heap.get_put, Heap.get_new, if_true] at g7
  have kH7 : Keep H6.n H6 H7 := ⟨by omega, fun x hx _ => by
    have gx := congrArg (fun h0 => Heap.get h0 x) hH_H7.symm
    simp (disch := omega) only [Heap.get_put, cEqL, Heap.get_new, if_false] at gx
    exact gx⟩
  clear hH_H7
  replace gg3 := (kH7.2 _ (by omega) (by omega)).trans gg3
  replace s4 := s4.keep kH7
  replace s6 := s6.keep kH7
  have r7 := read_get g7
  have rg := read_get gg3
  simp (disch := omega) only [wF4o52, F4p52, W_segs_cons, freeI_s, W_op, wantedI_n, guardC_t, evalAll, IA.eval, List.getD_cons_succ, List.getD_cons_zero, optC_s, argC_a, nextOf, lowOf, goC_a, opW, ev1, pairC_p, opC_a, Fr.put, List.set, binI, beq_self_eq_true, if_true, Option.map_some, wantedI_s, wantV_b, Option.getD_some, r7, Nat.zero_add, List.length_cons, List.length_nil, Nat.reduceAdd, Nat.le_refl, List.drop, List.take_succ_cons, List.take, mkAgg, Option.bind_some, rg, W_apply, List.nil_append, List.append_nil]
  rw [show IV.agg [f6.iv, b6.iv] = bv f6 b6 from rfl, show IV.agg [f'.iv, b'.iv] = bv f' b' from rfl]
  refine Same_sp s6.1.sl2 s6.2.1.sl2 s4.1.sl2 s4.2.1.sl2 (Cut.tight s6.2.2.1) (Cut.tight s6.2.2.2) (Cut.tight s4.2.2.1) (Cut.tight s4.2.2.2) ⟨by omega, h6F⟩ ⟨by omega, h6B⟩ ⟨by omega, h6F⟩ ⟨by omega, h6B⟩ (by omega) fun H8 k8 => ?_
  rw [decide_eq_true ⟨rfl, rfl⟩]
  simp (disch := omega) only [valC_v, opC_a, Fr.put, List.set, W_op, wantedI_n, guardC_t, evalAll, IA.eval, List.getD_cons_succ, List.getD_cons_zero, optC_s, argC_a, nextOf, lowOf, goC_a, opW, ev1, if_true, pairC_p, wantedI_s, wantV_b, beq_self_eq_true, W_apply, List.append_nil]
  refine c16 ?_
  simp (disch := omega) only [valC_v, opC_a, Fr.put, List.set, W_op, wantedI_n, guardC_t, evalAll, IA.eval, List.getD_cons_succ, List.getD_cons_zero, optC_s, argC_a, nextOf, lowOf, goC_a, opW, ev1, if_true, pairC_p, W_ops_nil, segC_n, W_segs_nil, thenC_n, W_ret, retC_r, unmark, leaveC_a, resultsOf, resultOf, valsC_a, tupled]
end Go.Iso.Gen
end

section
namespace Go.Iso
theorem Sl2F.above {α : Type} [Cell α] {n0 : Nat} {H H' : Heap} {v : SV} {ls : List (List α)} (h : Sl2F n0 H v ls) (hn : H.n ≤ H'.n) (hk : ∀ x, n0 ≤ x → x < H.n → H'.get x = H.get x) : Sl2F n0 H' v ls := by
  obtain ⟨vs, h1, h2, h3, h4⟩ := h
  refine ⟨vs, h1.same hn fun hl => hk _ (h3 hl) (h1.blk_lt hl), h2, h3, fun i a b => ⟨(h4 i a b).1.same hn fun hl => hk _ ((h4 i a b).2 hl) ((h4 i a b).1.blk_lt hl), (h4 i a b).2⟩⟩
end Go.Iso
namespace Go.Iso.Gen
open Go.Iso
set_option maxHeartbeats 4000000
set_option maxRecDepth 10000

theorem set_skip {v : SV} {l : List Id} {lo : Nat} {w : Int} {H0 : Heap} {Q : Out → Heap → Prop} {tm : List IV} {y4 y7 y8 y9 y10 y12 : IV} (hw : 0 < w) (hv : Sl H0 v l) (hl : l.length ≤ 6)
    (htm : tm.length = 194) (t2 : tm.getD 2 IV.undef = v.iv) (t4 : tm.getD 4 IV.undef = y4) (t7 : tm.getD 7 IV.undef = y7) (t8 : tm.getD 8 IV.undef = y8) (t9 : tm.getD 9 IV.undef = y9) (t10 : tm.getD 10 IV.undef = y10) (t11 : tm.getD 11 IV.undef = .int .i64 w) (t12 : tm.getD 12 IV.undef = y12) (t15 : tm.getD 15 IV.undef = .int .i64 0)
    (hQ : ∀ tm', tm'.length = 194 → tm'.getD 2 IV.undef = v.iv → tm'.getD 4 IV.undef = y4 → tm'.getD 7 IV.undef = y7 → tm'.getD 8 IV.undef = y8 → tm'.getD 9 IV.undef = y9 → tm'.getD 10 IV.undef = y10 → tm'.getD 11 IV.undef = .int .i64 w → tm'.getD 12 IV.undef = y12 → Q (.ex (.jmp (.exit 4)) ⟨tm', []⟩) H0) : W E0 lo (.code (.loop F4l43) none ⟨tm, []⟩) H0 Q := by
  refine W_inv (fun k fr H' => H' = H0 ∧ fr.marks = [] ∧ fr.tm.length = 194 ∧ fr.tm.getD 2 IV.undef = v.iv ∧ fr.tm.getD 4 IV.undef = y4 ∧ fr.tm.getD 7 IV.undef = y7 ∧ fr.tm.getD 8 IV.undef = y8 ∧ fr.tm.getD 9 IV.undef = y9 ∧ fr.tm.getD 10 IV.undef = y10 ∧ fr.tm.getD 11 IV.undef = .int .i64 w ∧ fr.tm.getD 12 IV.undef = y12 ∧ fr.tm.getD 15 IV.undef = .int .i64 0) ?_ 0 ⟨rfl, rfl, htm, t2, t4, t7, t8, t9, t10, t11, t12, t15⟩
  clear htm t2 t4 t7 t8 t9 t10 t11 t12 t15
  rintro k ⟨tm, mk⟩ H' ⟨rfl, rfl, htm, t2, t4, t7, t8, t9, t10, t11, t12, t15⟩ L hN hJ
  rw [expl194 tm htm, t2, t4, t7, t8, t9, t10, t11, t12, t15]
  by_cases hl0 : 0 < l.length
  · simp (disch := omega) only [F4l43, W_seq, wF4o25, F4p25, W_segs_cons, freeI_s, W_op, wantedI_n, guardC_t, evalAll, IA.eval, List.getD_cons_succ, List.getD_cons_zero, optC_s, argC_a, nextOf, lowOf, goC_a, opW, ev1, pairC_p, opC_a, Fr.put, List.set, ↓hv.ln, binI, iLt, decide_true, if_true, Option.map_some, wantedI_s, wantV_b, beq_self_eq_true, iBeqF, W_ops_nil, segC_n, W_segs_nil, thenC_n, W_cond, condC_f, W_exit, thenC_j, hJ]
    refine hQ _ ?_ ?_ ?_ ?_ ?_ ?_ ?_ ?_ ?_ <;> rfl
  · simp (disch := omega) only [F4l43, W_seq, wF4o25, F4p25, W_segs_cons, freeI_s, W_op, wantedI_n, guardC_t, evalAll, IA.eval, List.getD_cons_succ, List.getD_cons_zero, optC_s, argC_a, nextOf, lowOf, goC_a, opW, ev1, pairC_p, opC_a, Fr.put, List.set, ↓hv.ln, binI, iLtF, decide_false, if_true, Option.map_some, wantedI_s, wantV_b, bb_ft, guardC_f, Bool.false_eq_true, if_false, W_ops_nil, segC_n, W_segs_nil, thenC_n, W_cond, condC_f, W_exit, thenC_j, hJ]
    refine hQ _ ?_ ?_ ?_ ?_ ?_ ?_ ?_ ?_ ?_ <;> rfl

theorem stacksSet_run {x v : SV} {xs : List Pt} {l : List Id} (nb na : Int) {H : Heap} (hx : Sl H x xs) (hxb : ∀ p ∈ xs, p.a ≤ 255 ∧ p.m ≤ 255) (hv : Sl H v l) (hl9 : l.length ≤ 9223372036854775807) : W E0 H.n (.call 4 [x.iv, .agg [.int .u8 nb, .int .i64 na], v.iv]) H (fun o _ => o = .val (.bool true)) := by
  rw [c4]
  by_cases hl6' : l.length > 6
  · simp (disch := omega) only [F4b, F4, List.length_cons, List.length_nil, Nat.zero_add, Nat.reduceAdd, Nat.reduceSub, undefs, List.cons_append, List.nil_append, W_seq, wF4o0, F4p0, W_segs_cons, freeI_s, W_op, wantedI_n, guardC_t, evalAll, IA.eval, List.getD_cons_succ, List.getD_cons_zero, optC_s, argC_a, nextOf, lowOf, goC_a, opW, ev1, cellsV_agg, pairC_p, opC_a, Fr.put, List.set, W_ops_nil, segC_n, W_segs_nil, thenC_n, wF4o1, F4p1, ↓hv.ln, binI, iLt, decide_true, if_true, Option.map_some, W_cond, condC_t, wF4o2, F4p2, W_apply, List.append_nil]
    refine c16 ?_
    simp (disch := omega) only [valC_v, opC_a, Fr.put, List.set, W_op, wantedI_n, guardC_t, evalAll, IA.eval, List.getD_cons_succ, List.getD_cons_zero, optC_s, argC_a, nextOf, lowOf, goC_a, opW, ev1, pairC_p, W_ops_nil, segC_n, W_segs_nil, thenC_n, W_ret, thenC_j, retC_r, unmark, leaveC_a, resultsOf, resultOf, valsC_a, tupled]
  have hl : l.length ≤ 6 := by omega
  clear hl6'
  simp (disch := omega) only [F4b, F4, List.length_cons, List.length_nil, Nat.zero_add, Nat.reduceAdd, Nat.reduceSub, undefs, List.cons_append, List.nil_append, W_seq, wF4o0, F4p0, W_segs_cons, freeI_s, W_op, wantedI_n, guardC_t, evalAll, IA.eval, List.getD_cons_succ, List.getD_cons_zero, optC_s, argC_a, nextOf, lowOf, goC_a, opW, ev1, cellsV_agg, pairC_p, opC_a, Fr.put, List.set, W_ops_nil, segC_n, W_segs_nil, thenC_n, wF4o1, F4p1, ↓hv.ln, binI, iLtF, decide_false, if_true, Option.map_some, W_cond, condC_f, W_skip, wF4o3, F4p3, W_apply, List.append_nil]
  generalize hH_H1 : Heap.new _ _ = H1
  have hnH1 : H1.n = H.n + 1 := by rw [← hH_H1]; rfl
  have g0 := congrArg (fun h0 => Heap.get h0 (H.n)) hH_H1.symm
  simp (disch := omega) only [Heap.get_new, if_true] at g0
  have kH1 : Keep H.n H H1 := ⟨by omega, fun x hx _ => by
    have gx := congrArg (fun h0 => Heap.get h0 x) hH_H1.symm
    simp (disch := omega) only [Heap.get_new, cEqL, if_false] at gx
    exact gx⟩
  clear hH_H1
  refine of_sp (hx.keep kH1) hxb (by omega) (fun i _ => good_all xs i) fun H2 vs k2 hT2 => ?_
  have hV := ofT_valid xs
  generalize (ofT xs).1 = t at *
  have hn2 := k2.1
  replace g0 := (k2.2 _ (by omega) (by omega)).trans g0
  have hvl := hT2.1
  have hfl : (flat vs).length = 80 := by rw [flat_length, z_SV]; omega
  have hall := flat_all vs
  have hspl : splice [IV.nilSlice, IV.nilSlice, IV.nilSlice, IV.nilSlice, IV.nilSlice, IV.nilSlice, IV.nilSlice, IV.nilSlice, IV.nilSlice, IV.nilSlice, IV.nilSlice, IV.nilSlice, IV.nilSlice, IV.nilSlice, IV.nilSlice, IV.nilSlice, IV.nilSlice, IV.nilSlice, IV.nilSlice, IV.nilSlice, IV.nilSlice, IV.nilSlice, IV.nilSlice, IV.nilSlice, IV.nilSlice, IV.nilSlice, IV.nilSlice, IV.nilSlice, IV.nilSlice, IV.nilSlice, IV.nilSlice, IV.nilSlice, IV.nilSlice, IV.nilSlice, IV.nilSlice, IV.nilSlice, IV.nilSlice, IV.nilSlice, IV.nilSlice, IV.nilSlice, IV.nilSlice, IV.nilSlice, IV.nilSlice, IV.nilSlice, IV.nilSlice, IV.nilSlice, IV.nilSlice, IV.nilSlice, IV.nilSlice, IV.nilSlice, IV.nilSlice, IV.nilSlice, IV.nilSlice, IV.nilSlice, IV.nilSlice, IV.nilSlice, IV.nilSlice, IV.nilSlice, IV.nilSlice, IV.nilSlice, IV.nilSlice, IV.nilSlice, IV.nilSlice, IV.nilSlice, IV.nilSlice, IV.nilSlice, IV.nilSlice, IV.nilSlice, IV.nilSlice, IV.nilSlice, IV.nilSlice, IV.nilSlice, IV.nilSlice, IV.nilSlice, IV.nilSlice, IV.nilSlice, IV.nilSlice, IV.nilSlice, IV.nilSlice, IV.nilSlice] 0 (flat vs) = flat vs := tab_splice hvl _ rfl
  have htk : (flat vs).take 80 = flat vs := List.take_of_length_le (by omega)
  simp (disch := omega) only [valC_v, opC_a, Fr.put, List.set, W_op, wantedI_n, guardC_t, evalAll, optC_s, argC_a, nextOf, lowOf, goC_a, opW, ev1, pairC_p, IA.eval, List.getD_cons_succ, List.getD_cons_zero, cellsV_agg, hfl, Heap.write, Heap.get_new, if_true, cLe, Nat.zero_add, List.length_cons, List.length_nil, Nat.reduceAdd, Nat.le_refl, hall, and_true, hspl, Option.map_some, W_ops_nil, segC_n, W_segs_nil, thenC_n, W_seq, wF4o4, F4p4, W_segs_cons, freeI_s, Option.getD_some, read_put, readO_c, List.drop, htk, read_new, List.take_succ_cons, List.take, mkAgg, Option.bind_some, W_apply, List.nil_append, List.append_nil]
  have hl6 : ∀ l ∈ t, l.length ≤ 1000000 := fun l hl => by have := hV.four l hl; omega
  generalize hH_H3 : Heap.put _ _ _ = H3
  have hnH3 : H3.n = H2.n + 1 := by rw [← hH_H3]; rfl
  have gt := congrArg (fun h0 => Heap.get h0 (H2.n)) hH_H3.symm
  simp (disch := omega) only [Heap.get_put, Heap.get_new, if_true] at gt
  have k3 : Keep H2.n H2 H3 := ⟨by omega, fun x hx _ => by
    have gx := congrArg (fun h0 => Heap.get h0 x) hH_H3.symm
    simp (disch := omega) only [Heap.get_put, cEqL, Heap.get_new, if_false] at gx
    exact gx⟩
  clear hH_H3
  replace g0 := (k3.2 _ (by omega) (by omega)).trans g0
  have hTne : ∀ j (a : j < vs.length) (b : j < t.length), t[j] ≠ [] → vs[j].blk < H2.n := fun j a b hl => (hT2.tab.2.2 j a b).blk_lt hl
  have hT3 := hT2.tab.keep k3
  refine bedsT_sp hT3 hl6 (by omega) fun H4 f b k4 s4 => ?_
  have hn4 := k4.1
  replace g0 := (k4.2 _ (by omega) (by omega)).trans g0
  replace gt := (k4.2 _ (by omega) (by omega)).trans gt
  have hT4 := hT3.keep k4
  have hF := fits_beds hV.len
  have hlF := bedF_len t
  have hlB := bedB_len hV.len
  have h6F : ∀ l ∈ bedF t, l.length ≤ 1000000 := fun l hl => hl6 l (bedF_mem hl)
  have h6B : ∀ l ∈ bedB t, l.length ≤ 1000000 := fun l hl => hl6 l (bedB_mem hl)
  simp (disch := omega) only [bv, valC_v, opC_a, Fr.put, List.set, W_op, wantedI_n, guardC_t, evalAll, optC_s, argC_a, nextOf, lowOf, goC_a, opW, ev1, pairC_p, IA.eval, List.getD_cons_succ, List.getD_cons_zero, cellsV_agg, List.length_cons, List.length_nil, Nat.zero_add, Nat.reduceAdd, Heap.write, Heap.get_new, if_true, cLe, Nat.le_refl, List.all_cons, SV.iv_one, List.all_nil, Bool.and_self, and_true, splice, Option.map_some, W_ops_nil, segC_n, W_segs_nil, thenC_n, W_seq]
  generalize hH_H5 : Heap.put _ _ _ = H5
  have hnH5 : H5.n = H4.n + 1 := by rw [← hH_H5]; rfl
  have gb := congrArg (fun h0 => Heap.get h0 (H4.n)) hH_H5.symm
  simp (disch := omega) only [Heap.get_put, Heap.get_new, if_true] at gb
  have kH5 : Keep H4.n H4 H5 := ⟨by omega, fun x hx _ => by
    have gx := congrArg (fun h0 => Heap.get h0 x) hH_H5.symm
    simp (disch := omega) only [Heap.get_put, cEqL, Heap.get_new, if_false] at gx
    exact gx⟩
  clear hH_H5
  replace g0 := (kH5.2 _ (by omega) (by omega)).trans g0
  replace gt := (kH5.2 _ (by omega) (by omega)).trans gt
  have hT5 := hT4.keep kH5
  have s5 := s4.keep kH5
  have kv : Keep H.n H H5 := kH1.trans ((k2.trans ((k3.trans ((k4.trans (kH5.lower (by omega))).lower (by omega))).lower (by omega))).lower (by omega))
  have hv5 := hv.keep kv
  clear hT2 hT3 hT4 s4 k2 k3 k4 kH5 kH1 kv
  have rb := read_get gb
  have r0 := read_get g0
  simp (disch := omega) only [wF4o5, F4p5, W_segs_cons, freeI_s, W_op, wantedI_n, guardC_t, evalAll, IA.eval, List.getD_cons_succ, List.getD_cons_zero, optC_s, argC_a, nextOf, lowOf, goC_a, opW, ev1, Option.getD_some, rb, Nat.zero_add, List.length_cons, List.length_nil, Nat.reduceAdd, Nat.le_refl, List.drop, List.take_succ_cons, List.take, if_true, mkAgg, Option.map_some, Option.bind_some, pairC_p, opC_a, Fr.put, List.set, r0, W_apply, List.nil_append, List.append_nil]
  rw [show IV.agg [f.iv, b.iv] = bv f b from rfl]
  -- behind Set
  have rest : ∀ (H6 : Heap) (f6 b6 : SV) (e : Int) (tm : List IV), Keep H5.n H5 H6 → e = setE t nb na l → (e ≠ 0 → f6 = .nil ∧ b6 = .nil) → (e = 0 → Beds H5.n H6 f6 b6 (bedF (t.set (ix nb na) l)) (bedB (t.set (ix nb na) l))) → tm.length = 194 → tm.getD 2 IV.undef = v.iv → tm.getD 4 IV.undef = .ptr H.n 0 → tm.getD 7 IV.undef = .ptr H2.n 0 → tm.getD 8 IV.undef = .ptr H4.n 0 → tm.getD 9 IV.undef = .ptr H6.n 0 → tm.getD 10 IV.undef = .int .i64 e →
      W E0 H.n (.code (.seq F4o6 (.seq F4o7 (.seq (.seq F4o8 (.block 0 (.loop F4l13))) (.seq (.seq F4o14 (.cond (.tmp 46) F4o15 .skip)) (.seq (.seq F4o16 (.block 2 (.loop F4l21))) (.seq (.seq F4o22 (.cond (.tmp 89) F4o23 .skip)) (.seq (.seq F4o24 (.block 4 (.loop F4l43))) (.seq (.seq F4o44 (.cond (.tmp 150) (.seq F4o45 .ret) .skip)) (.seq (.seq F4o46 (.cond (.tmp 152) (.seq F4o47 .ret) .skip)) (.seq F4o48 (.seq (.seq F4o49 (.cond (.tmp 174) (.seq F4o50 .ret) .skip)) (.seq F4o51 (.seq F4o52 .ret))))))))))))) none ⟨tm, []⟩) ((H6.new (.cells false 35 2 [.nilSlice, .nilSlice])).put H6.n (.cells false 35 2 [f6.iv, b6.iv])) (retC H.n F4.results fun o _ => o = .val (.bool true)) := by
    intro H6 f6 b6 e tm k6 he hnil hok htm t2 t4 t7 t8 t9 t10
    have hn6 := k6.1
    replace g0 := (k6.2 _ (by omega) (by omega)).trans g0
    replace gt := (k6.2 _ (by omega) (by omega)).trans gt
    replace gb := (k6.2 _ (by omega) (by omega)).trans gb
    have hT6 := hT5.keep k6
    have s6 := s5.keep k6
    have hv6 := hv5.keep k6
    generalize hH_H7 : Heap.put _ _ _ = H7
    have hnH7 : H7.n = H6.n + 1 := by rw [← hH_H7]; rfl
    have g7 := congrArg (fun h0 => Heap.get h0 (H6.n)) hH_H7.symm
    simp (disch := omega) only [Heap.get_put, Heap.get_new, if_true] at g7
    have kH7 : Keep H6.n H6 H7 := ⟨by omega, fun x hx _ => by
      have gx := congrArg (fun h0 => Heap.get h0 x) hH_H7.symm
      simp (disch := omega) only [Heap.get_put, cEqL, Heap.get_new, if_false] at gx
      exact gx⟩
    clear hH_H7
    replace g0 := (kH7.2 _ (by omega) (by omega)).trans g0
    replace gt := (kH7.2 _ (by omega) (by omega)).trans gt
    replace gb := (kH7.2 _ (by omega) (by omega)).trans gb
    have hT7 := hT6.keep kH7
    have s7 := s6.keep kH7
    have hv7 := hv6.keep kH7
    rw [expl194 tm htm, t2, t4, t7, t8, t9, t10]
    simp (disch := omega) only [F4, F4b, W_seq, wF4o6, F4p6, W_segs_cons, freeI_s, W_op, wantedI_n, guardC_t, evalAll, IA.eval, optC_s, argC_a, nextOf, lowOf, goC_a, opW, ev1, pairC_p, opC_a, Fr.put, List.set, W_ops_nil, segC_n, W_segs_nil, thenC_n, wF4o7, F4p7, wF4o8, F4p8, W_block]
    refine set_seek (p := H.n) (by omega) g0 (by omega) rfl rfl rfl rfl rfl rfl rfl rfl rfl rfl ?_
    intro H8 tm8 k8 htm8 u2 u4 u7 u8 u9 u10 u11 u12
    have hn8 := k8.1
    replace g0 := (k8.2 _ (by omega) (by omega)).trans g0
    replace gt := (k8.2 _ (by omega) (by omega)).trans gt
    replace gb := (k8.2 _ (by omega) (by omega)).trans gb
    replace g7 := (k8.2 _ (by omega) (by omega)).trans g7
    have hT8 := hT7.keep k8
    have s8 := s7.keep k8
    have hv8 := hv7.keep k8
    rw [expl194 tm8 htm8, u2, u4, u7, u8, u9, u10, u11, u12]
    -- behind the loops
    have rest2 : ∀ (tm : List IV), tm.length = 194 → tm.getD 2 IV.undef = v.iv → tm.getD 4 IV.undef = .ptr H.n 0 → tm.getD 7 IV.undef = .ptr H2.n 0 → tm.getD 8 IV.undef = .ptr H4.n 0 → tm.getD 9 IV.undef = .ptr H6.n 0 → tm.getD 10 IV.undef = .int .i64 e → tm.getD 11 IV.undef = .int .i64 e → tm.getD 12 IV.undef = .int .i64 (seek nb na 80) →
        W E0 H.n (.code (.seq (.seq F4o44 (.cond (.tmp 150) (.seq F4o45 .ret) .skip)) (.seq (.seq F4o46 (.cond (.tmp 152) (.seq F4o47 .ret) .skip)) (.seq F4o48 (.seq (.seq F4o49 (.cond (.tmp 174) (.seq F4o50 .ret) .skip)) (.seq F4o51 (.seq F4o52 .ret)))))) none ⟨tm, []⟩) H8 (retC H.n F4.results fun o _ => o = .val (.bool true)) := by
      intro tm htm t2 t4 t7 t8 t9 t10 t11 t12
      have rt := read_get gt
      have rb := read_get gb
      rw [expl194 tm htm, t2, t4, t7, t8, t9, t10, t11, t12]
      simp (disch := omega) only [F4, F4b, W_seq, wF4o44, F4p44, W_segs_cons, freeI_s, W_op, wantedI_n, guardC_t, evalAll, IA.eval, List.getD_cons_succ, List.getD_cons_zero, optC_s, argC_a, nextOf, lowOf, goC_a, opW, ev1, pairC_p, opC_a, Fr.put, List.set, binI, bne_self_eq_false, if_true, Option.map_some, wantedI_s, wantV_b, beq_self_eq_true, Option.getD_some, rt, Nat.zero_add, hfl, Nat.le_refl, List.drop, htk, mkAgg, Option.bind_some, rb, List.length_cons, List.length_nil, Nat.reduceAdd, List.take_succ_cons, List.take, W_apply, List.nil_append, List.append_nil]
      rw [show IV.agg [f.iv, b.iv] = bv f b from rfl]
      refine differs_sp hT8 hl6 s8.1.sl2 s8.2.1.sl2 s8.2.2.1 s8.2.2.2 (by omega) (by omega) h6F h6B (by omega) fun H9 n9 k9 hn0 => ?_
      have hn0 := hn0.2 hF
      subst hn0
      have hn9 := k9.1
      replace g0 := (k9.2 _ (by omega) (by omega)).trans g0
      replace gt := (k9.2 _ (by omega) (by omega)).trans gt
      replace gb := (k9.2 _ (by omega) (by omega)).trans gb
      replace g7 := (k9.2 _ (by omega) (by omega)).trans g7
      have hT9 := hT8.keep k9
      have hv9 := hv8.keep k9
      by_cases he0 : e = 0
      · subst he0
        simp (disch := omega) only [valC_v, opC_a, Fr.put, List.set, W_op, wantedI_s, List.getD_cons_succ, List.getD_cons_zero, wantV_b, beq_self_eq_true, guardC_t, evalAll, IA.eval, optC_s, argC_a, nextOf, lowOf, goC_a, opW, ev1, binI, iBneF, if_true, Option.map_some, pairC_p, wantedI_n, Bool.false_eq_true, if_false, W_ops_nil, segC_n, W_segs_nil, thenC_n, W_cond, condC_f, W_skip, W_seq, wF4o46, F4p46, W_segs_cons, freeI_s, bne_self_eq_false]
        rw [← W_seq]
        have hE := he.symm
        have h1 := (setE_ok hE).1
        have k69 : Keep H6.n H6 H9 := kH7.trans ((k8.lower (by omega)).trans (k9.lower (by omega)))
        have s9 := (hok rfl).keep k69
        rw [seek_v h1]
        exact set_tail (p := H.n) (T := H2.n) (G := H6.n) (n2 := H5.n) hV hE rfl hv9 g0 hT9 gt hTne g7 (fun H' q1 q2 => ⟨s9.1.above q1 fun x a b => q2 x b (by omega), s9.2.1.above q1 fun x a b => q2 x b (by omega), s9.2.2⟩) (by omega) (by omega) (by omega) (by omega) (by omega) rfl rfl rfl rfl rfl rfl
      · obtain ⟨rfl, rfl⟩ := hnil he0
        have ene : (e != 0) = true := by simp [he0]
        have r7 := read_get g7
        simp (disch := omega) only [valC_v, opC_a, Fr.put, List.set, W_op, wantedI_s, List.getD_cons_succ, List.getD_cons_zero, wantV_b, beq_self_eq_true, guardC_t, evalAll, IA.eval, optC_s, argC_a, nextOf, lowOf, goC_a, opW, ev1, binI, iBneF, if_true, Option.map_some, pairC_p, wantedI_n, Bool.false_eq_true, if_false, W_ops_nil, segC_n, W_segs_nil, thenC_n, W_cond, condC_f, W_skip, W_seq, wF4o46, F4p46, W_segs_cons, freeI_s, ene, condC_t, wF4o47, F4p47, Nat.add_zero, Option.getD_none, r7, Nat.zero_add, SV.nil_iv, List.length_cons, List.length_nil, Nat.reduceAdd, cLe, List.drop, List.take_succ_cons, List.take, mkAgg, Option.bind_some, Nat.le_refl, W_apply, List.append_nil]
        refine c16 ?_
        simp (disch := omega) only [valC_v, opC_a, Fr.put, List.set, W_op, wantedI_n, guardC_t, evalAll, IA.eval, List.getD_cons_succ, List.getD_cons_zero, optC_s, argC_a, nextOf, lowOf, goC_a, opW, ev1, if_true, pairC_p, W_ops_nil, segC_n, W_segs_nil, thenC_n, W_ret, thenC_j, retC_r, unmark, leaveC_a, resultsOf, resultOf, valsC_a, tupled]
    clear hnil hok k6 kH7 k8 gb g7 s8 s7 s6 hT7 hT6 hv7 hv6
    -- an error ahead of the last loop
    have skip : ∀ (w : Int), 0 < w → e = w → ∀ (tm : List IV), tm.length = 194 → tm.getD 2 IV.undef = v.iv → tm.getD 4 IV.undef = .ptr H.n 0 → tm.getD 7 IV.undef = .ptr H2.n 0 → tm.getD 8 IV.undef = .ptr H4.n 0 → tm.getD 9 IV.undef = .ptr H6.n 0 → tm.getD 10 IV.undef = .int .i64 e → tm.getD 11 IV.undef = .int .i64 w → tm.getD 12 IV.undef = .int .i64 (seek nb na 80) →
        W E0 H.n (.code (.seq (.seq F4o24 (.block 4 (.loop F4l43))) (.seq (.seq F4o44 (.cond (.tmp 150) (.seq F4o45 .ret) .skip)) (.seq (.seq F4o46 (.cond (.tmp 152) (.seq F4o47 .ret) .skip)) (.seq F4o48 (.seq (.seq F4o49 (.cond (.tmp 174) (.seq F4o50 .ret) .skip)) (.seq F4o51 (.seq F4o52 .ret))))))) none ⟨tm, []⟩) H8 (retC H.n F4.results fun o _ => o = .val (.bool true)) := by
      intro w hw hew tm htm t2 t4 t7 t8 t9 t10 t11 t12
      rw [expl194 tm htm, t2, t4, t7, t8, t9, t10, t11, t12]
      simp (disch := omega) only [F4, F4b, W_seq, wF4o24, F4p24, W_segs_cons, freeI_s, W_op, wantedI_n, guardC_t, evalAll, IA.eval, optC_s, argC_a, nextOf, lowOf, goC_a, opW, ev1, pairC_p, opC_a, Fr.put, List.set, W_ops_nil, segC_n, W_segs_nil, thenC_n, W_block]
      refine set_skip (w := w) hw hv8 hl rfl rfl rfl rfl rfl rfl rfl rfl rfl rfl ?_
      intro tm' b1 b2 b3 b4 b5 b6 b7 b8 b9
      simp (disch := omega) only [blkC_e, thenC_n, W_seq, thenC_j, if_true]
      rw [← W_seq, ← W_seq]
      exact rest2 tm' b1 b2 b3 b4 b5 b6 b7 (by rw [hew]; exact b8) b9
    by_cases c1 : needleE nb na = 0
    case neg =>
      have he1 : e = 1 := by rw [he]; unfold setE; rw [if_pos c1]
      have hs := seek_n c1
      rw [hs]
      rw [hs] at skip
      simp (disch := omega) only [List.getD_cons_succ, List.getD_cons_zero, blkC_e, thenC_n, W_seq, wF4o14, F4p14, W_segs_cons, freeI_s, W_op, wantedI_n, guardC_t, evalAll, IA.eval, optC_s, argC_a, nextOf, lowOf, goC_a, opW, ev1, pairC_p, opC_a, Fr.put, List.set, binI, iLt, decide_true, if_true, Option.map_some, W_ops_nil, segC_n, W_segs_nil, W_cond, condC_t, wF4o15, F4p15, wF4o16, F4p16, W_block, thenC_j]
      refine set_names (w0 := 1) hv8 hl rfl rfl rfl rfl rfl rfl rfl rfl rfl rfl ?_
      intro tm' b1 b2 b3 b4 b5 b6 b7 b8 b9
      rw [ite_self] at b8
      rw [expl194 tm' b1, b2, b3, b4, b5, b6, b7, b8, b9]
      simp (disch := omega) only [List.getD_cons_succ, List.getD_cons_zero, blkC_e, thenC_n, W_seq, wF4o22, F4p22, W_segs_cons, freeI_s, W_op, wantedI_n, guardC_t, evalAll, IA.eval, optC_s, argC_a, nextOf, lowOf, goC_a, opW, ev1, pairC_p, opC_a, Fr.put, List.set, binI, iBeqF, if_true, Option.map_some, wantedI_s, wantV_b, bb_ft, guardC_f, Bool.false_eq_true, if_false, W_ops_nil, segC_n, W_segs_nil, W_cond, condC_f, W_skip, thenC_j]
      rw [← W_seq, ← W_seq]
      exact skip 1 (by omega) he1 _ rfl rfl rfl rfl rfl rfl rfl rfl rfl
    have hs := seek_v c1
    have hq80 := (n_ix c1).2.2
    have hall80 := fun a => InS.all hV.len hq80 a
    have hiff : ((∀ a ∈ l, a ∉ (t.set (ix nb na) []).flatten) ∧ l.Nodup) ↔ ((∀ a ∈ l, ¬ InS t (ix nb na) 80 a) ∧ l.Nodup) := and_congr_left fun _ => forall_congr' fun a => imp_congr_right fun _ => not_congr (hall80 a).symm
    have hb1 : l.all namedB ≠ true → e = 1 := fun h => by rw [he]; unfold setE; rw [if_neg (by simp [c1]), if_pos (by simpa using h)]
    have hb2 : l.all namedB = true → l.length > 4 → e = 9 := fun h1 h2 => by rw [he]; unfold setE; rw [if_neg (by simp [c1]), if_neg (by simp [h1]), if_pos h2]
    have hyes : l.all namedB = true → ¬ l.length > 4 → ((∀ a ∈ l, ¬ InS t (ix nb na) 80 a) ∧ l.Nodup) → e = 0 := fun h1 h2 h3 => by rw [he]; unfold setE; rw [if_neg (by simp [c1]), if_neg (by simp [h1]), if_neg h2, if_pos (hiff.2 h3)]
    have hno : l.all namedB = true → ¬ l.length > 4 → ¬ ((∀ a ∈ l, ¬ InS t (ix nb na) 80 a) ∧ l.Nodup) → e = 8 := fun h1 h2 h3 => by rw [he]; unfold setE; rw [if_neg (by simp [c1]), if_neg (by simp [h1]), if_neg h2, if_neg fun h => h3 (hiff.1 h)]
    clear he hall80 hiff
    rw [hs] at skip rest2 ⊢
    generalize ix nb na = q at *
    generalize needleE nb na = z at *
    generalize seek nb na 80 = z2 at *
    simp (disch := omega) only [List.getD_cons_succ, List.getD_cons_zero, blkC_e, thenC_n, W_seq, wF4o14, F4p14, W_segs_cons, freeI_s, W_op, wantedI_n, guardC_t, evalAll, IA.eval, optC_s, argC_a, nextOf, lowOf, goC_a, opW, ev1, pairC_p, opC_a, Fr.put, List.set, binI, iLtF, decide_false, if_true, Option.map_some, W_ops_nil, segC_n, W_segs_nil, W_cond, condC_f, W_skip, wF4o16, F4p16, W_block, thenC_j]
    refine set_names (w0 := 0) hv8 hl rfl rfl rfl rfl rfl rfl rfl rfl rfl rfl ?_
    intro tm' b1 b2 b3 b4 b5 b6 b7 b8 b9
    by_cases c2 : l.all namedB = true
    case neg =>
      rw [if_neg c2] at b8
      have he1 := hb1 c2
      rw [expl194 tm' b1, b2, b3, b4, b5, b6, b7, b8, b9]
      simp (disch := omega) only [List.getD_cons_succ, List.getD_cons_zero, blkC_e, thenC_n, W_seq, wF4o22, F4p22, W_segs_cons, freeI_s, W_op, wantedI_n, guardC_t, evalAll, IA.eval, optC_s, argC_a, nextOf, lowOf, goC_a, opW, ev1, pairC_p, opC_a, Fr.put, List.set, binI, iBeqF, if_true, Option.map_some, wantedI_s, wantV_b, bb_ft, guardC_f, Bool.false_eq_true, if_false, W_ops_nil, segC_n, W_segs_nil, W_cond, condC_f, W_skip, thenC_j]
      rw [← W_seq, ← W_seq]
      exact skip 1 (by omega) he1 _ rfl rfl rfl rfl rfl rfl rfl rfl rfl
    rw [if_pos c2] at b8
    rw [expl194 tm' b1, b2, b3, b4, b5, b6, b7, b8, b9]
    by_cases c3 : l.length > 4
    · have he1 := hb2 c2 c3
      simp (disch := omega) only [List.getD_cons_succ, List.getD_cons_zero, blkC_e, thenC_n, W_seq, wF4o22, F4p22, W_segs_cons, freeI_s, W_op, wantedI_n, guardC_t, evalAll, IA.eval, optC_s, argC_a, nextOf, lowOf, goC_a, opW, ev1, pairC_p, opC_a, Fr.put, List.set, binI, beq_self_eq_true, if_true, Option.map_some, wantedI_s, wantV_b, ↓hv8.ln, iLt, decide_true, W_ops_nil, segC_n, W_segs_nil, W_cond, condC_t, wF4o23, F4p23, thenC_j]
      rw [← W_seq, ← W_seq]
      exact skip 9 (by omega) he1 _ rfl rfl rfl rfl rfl rfl rfl rfl rfl
    replace hyes := hyes c2 c3
    replace hno := hno c2 c3
    simp (disch := omega) only [List.getD_cons_succ, List.getD_cons_zero, blkC_e, thenC_n, W_seq, wF4o22, F4p22, W_segs_cons, freeI_s, W_op, wantedI_n, guardC_t, evalAll, IA.eval, optC_s, argC_a, nextOf, lowOf, goC_a, opW, ev1, pairC_p, opC_a, Fr.put, List.set, binI, beq_self_eq_true, if_true, Option.map_some, wantedI_s, wantV_b, ↓hv8.ln, iLtF, decide_false, W_ops_nil, segC_n, W_segs_nil, W_cond, condC_f, W_skip, wF4o24, F4p24, W_block, thenC_j]
    refine set_all (q := q) (T := H2.n) hv8 hl hT8 hV.four gt hq80 rfl rfl rfl rfl rfl rfl rfl rfl rfl rfl ?_
    intro tm' w a1 a2 b1 b2 b3 b4 b5 b6 b7 b8 b9
    have hew : e = w := by
      by_cases hh : (∀ a ∈ l, ¬ InS t q 80 a) ∧ l.Nodup
      · rw [hyes hh, a1 hh]
      · rw [hno hh, a2 hh]
    simp (disch := omega) only [blkC_e, thenC_n, W_seq, thenC_j, if_true]
    rw [← W_seq, ← W_seq]
    exact rest2 tm' b1 b2 b3 b4 b5 b6 b7 (by rw [hew]; exact b8) b9
  refine set_sp nb na hV s5.1.sl2 s5.2.1.sl2 hv5 (by omega) (by omega) (fun H6 k6 he => ?_) fun H6 f6 b6 k6 he s6 => ?_
  · have hn6 := k6.1
    simp (disch := omega) only [bv, SV.nil_iv, valC_v, opC_a, Fr.put, List.set, W_op, wantedI_n, guardC_t, evalAll, IA.eval, List.getD_cons_succ, List.getD_cons_zero, optC_s, argC_a, nextOf, lowOf, goC_a, opW, ev1, pairC_p, List.getElem?_cons_zero, Option.map_some, List.getElem?_cons_succ, cellsV_agg, List.length_cons, List.length_nil, Nat.zero_add, Nat.reduceAdd, Heap.write, Heap.get_new, if_true, cLe, Nat.le_refl, List.all_cons, oneV_nilSlice, List.all_nil, Bool.and_self, and_true, splice, W_ops_nil, segC_n, W_segs_nil, thenC_n, W_seq]
    rw [← W_seq]
    exact rest H6 .nil .nil _ _ k6 rfl (fun _ => ⟨rfl, rfl⟩) (fun h => absurd h he) rfl rfl rfl rfl rfl rfl rfl
  · have hn6 := k6.1
    simp (disch := omega) only [bv, valC_v, opC_a, Fr.put, List.set, W_op, wantedI_n, guardC_t, evalAll, IA.eval, List.getD_cons_succ, List.getD_cons_zero, optC_s, argC_a, nextOf, lowOf, goC_a, opW, ev1, pairC_p, List.getElem?_cons_zero, Option.map_some, List.getElem?_cons_succ, cellsV_agg, List.length_cons, List.length_nil, Nat.zero_add, Nat.reduceAdd, Heap.write, Heap.get_new, if_true, cLe, Nat.le_refl, List.all_cons, SV.iv_one, List.all_nil, Bool.and_self, and_true, splice, W_ops_nil, segC_n, W_segs_nil, thenC_n, W_seq]
    rw [← W_seq]
    exact rest H6 f6 b6 0 _ k6 he.symm (fun h => absurd rfl h) (fun _ => s6) rfl rfl rfl rfl rfl rfl rfl
end Go.Iso.Gen
end

section
namespace Go.Iso.Gen
open Go.Iso Go.Proofs
set_option maxRecDepth 100000
set_option maxHeartbeats 4000000

theorem rd_ids {H : Heap} (hro : Ro H) {c : List IV} {d : PD} (h : Rd H (.slice idT) c d) : ∃ (v : SV) (l : List Id), c = [v.iv] ∧ Sl H v l ∧ l.length ≤ 9223372036854775807 := by
  obtain ⟨v, l, h1, h2, _⟩ := rd_sl hro (P := fun _ => True) (fun _ _ h => (rd_id h).imp fun _ h => ⟨h.1, trivial⟩) h
  refine ⟨v, l, h1, h2, ?_⟩
  cases h with
  | nil =>
    cases v with
    | nil => have h2 : l = [] := h2; rw [h2]; simp
    | sl b o n c ex => cases h1
  | slice e b cap l' css h3 h4 hb he =>
    cases v with
    | nil => cases h1
    | sl b o n c ex =>
      have e1 : IV.slice _ _ _ _ _ = _ := (List.cons.inj h1).1
      have hn := h2.1
      simp only [SV.iv] at e1
      injection e1 with q1 q2 q3 q4 q5
      have hm : maxLen ≤ 9223372036854775807 := by decide
      omega

theorem params4 : Try.f4.params.toList.mapM (tyOf Try.prog 8) = some [.slice putT, idT, .slice idT] := by kernel_rfl
theorem types4 : typesOk Try.prog Try.f4 = true := by kernel_rfl

theorem set_lifted (os : Os) (started : os.Started) (T : Type) (enc : TypeId × Value → T) :
    ReturnsInHanded {} Try.checked os 4 .any (Ythccekocaliohaa.Rows.stacksSetSpec.pre6 enc Try.prog Try.f4 [] false) (Ythccekocaliohaa.Rows.stacksSetSpec.post enc Try.prog Try.f4 false true false false) := by
  refine returnsInHanded_of_change (C := Try.checked) own_knob started (by kernel_rfl) Try.func4
    (ChangeSpec.witness6 (enc := enc) (C := Try.checked) false ⟨#[], #[.slice none 0 0, .agg #[.int .u8 0, .int .i64 0], .slice none 0 0], []⟩ 8 (by kernel_rfl) (by kernel_rfl) (by kernel_rfl) (by kernel_rfl)) ?_
  intro W base args ds gs before hval hW _ _
  refine law_calls (P := Try.prog) (tb := 4) (s := Ythccekocaliohaa.Rows.stacksSetSpec) env0 rfl params4 (by kernel_rfl) (by kernel_rfl) types4 rfl ?_ (fun _ => True) ?_ W base args ds gs before hval hW trivial
  · intro T ds hd
    match ds, hd with
    | [a, b, c], _ => rfl
  · intro H css ds hro hrd _
    cases hrd with
    | cons h1 hrd =>
      cases hrd with
      | cons h2 hrd =>
        cases hrd with
        | cons h3 hrd =>
          cases hrd
          obtain ⟨v, l, rfl, hl, hx⟩ := rd_B hro h1
          obtain ⟨n, rfl, hn⟩ := rd_id h2
          obtain ⟨w, m, rfl, hm, hm9⟩ := rd_ids hro h3
          obtain ⟨n, o, H', h, rfl⟩ := stacksSet_run n.y n.n hl hx hm hm9
          exact ⟨n, H', h⟩

theorem set_holds : Ythccekocaliohaa.Rows.StacksSetSaid :=
  OpenClaim.holds_of_wide 4 Try.f4 rfl rfl rfl rfl rfl rfl rfl ⟨rfl, rfl, rfl, rfl, rfl⟩ rfl rfl rfl rfl rfl (by kernel_rfl) Try.func4 (by kernel_rfl)
    (of_decide_eq_true (by kernel_rfl)) (by unfold Func.isWrapper; first | (rw [if_pos (by decide +kernel)]; kernel_rfl) | (rw [if_neg (by decide +kernel)]; exact ⟨rfl, rfl⟩))
    (fun os started H enc _ => set_lifted os started H enc)
end Go.Iso.Gen

namespace Go.Proofs.Ythccekocaliohaa
theorem stacksSet_holds : Rows.StacksSetSaid := Go.Iso.Gen.set_holds
end Go.Proofs.Ythccekocaliohaa
end
