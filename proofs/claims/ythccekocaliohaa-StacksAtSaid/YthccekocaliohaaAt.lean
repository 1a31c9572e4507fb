/-
  ganseylaw03.StacksAt returns true for every input and leaves its arguments as they were; no condition.
-/
import Derived.Test.YthccekocaliohaaFnB
import Derived.Test.YthccekocaliohaaRow
set_option linter.unusedSimpArgs false
set_option linter.unusedVariables false

section
namespace Go.Iso.Gen
open Go.Iso
set_option maxHeartbeats 4000000
set_option maxRecDepth 10000

/-- What has been found of a name. -/
def Acc (t : List (List Id)) (a : Id) (i k fd : Nat) (wb wa : Int) : Prop :=
  (fd = 0 ∧ wb = 0 ∧ wa = 0 ∧ (∀ j, j < i → a ∉ t.getD j []) ∧ a ∉ (t.getD i []).take k) ∨ (0 < fd ∧ ∃ j, j ≤ i ∧ j < 80 ∧ a ∈ t.getD j [] ∧ wb = nB j ∧ wa = nA j)

theorem expl104 (tm : List IV) (h : tm.length = 104) : tm = [tm.getD 0 IV.undef, tm.getD 1 IV.undef, tm.getD 2 IV.undef, tm.getD 3 IV.undef, tm.getD 4 IV.undef, tm.getD 5 IV.undef, tm.getD 6 IV.undef, tm.getD 7 IV.undef, tm.getD 8 IV.undef, tm.getD 9 IV.undef, tm.getD 10 IV.undef, tm.getD 11 IV.undef, tm.getD 12 IV.undef, tm.getD 13 IV.undef, tm.getD 14 IV.undef, tm.getD 15 IV.undef, tm.getD 16 IV.undef, tm.getD 17 IV.undef, tm.getD 18 IV.undef, tm.getD 19 IV.undef, tm.getD 20 IV.undef, tm.getD 21 IV.undef, tm.getD 22 IV.undef, tm.getD 23 IV.undef, tm.getD 24 IV.undef, tm.getD 25 IV.undef, tm.getD 26 IV.undef, tm.getD 27 IV.undef, tm.getD 28 IV.undef, tm.getD 29 IV.undef, tm.getD 30 IV.undef, tm.getD 31 IV.undef, tm.getD 32 IV.undef, tm.getD 33 IV.undef, tm.getD 34 IV.undef, tm.getD 35 IV.undef, tm.getD 36 IV.undef, tm.getD 37 IV.undef, tm.getD 38 IV.undef, tm.getD 39 IV.undef, tm.getD 40 IV.undef, tm.getD 41 IV.undef, tm.getD 42 IV.undef, tm.getD 43 IV.undef, tm.getD 44 IV.undef, tm.getD 45 IV.undef, tm.getD 46 IV.undef, tm.getD 47 IV.undef, tm.getD 48 IV.undef, tm.getD 49 IV.undef, tm.getD 50 IV.undef, tm.getD 51 IV.undef, tm.getD 52 IV.undef, tm.getD 53 IV.undef, tm.getD 54 IV.undef, tm.getD 55 IV.undef, tm.getD 56 IV.undef, tm.getD 57 IV.undef, tm.getD 58 IV.undef, tm.getD 59 IV.undef, tm.getD 60 IV.undef, tm.getD 61 IV.undef, tm.getD 62 IV.undef, tm.getD 63 IV.undef, tm.getD 64 IV.undef, tm.getD 65 IV.undef, tm.getD 66 IV.undef, tm.getD 67 IV.undef, tm.getD 68 IV.undef, tm.getD 69 IV.undef, tm.getD 70 IV.undef, tm.getD 71 IV.undef, tm.getD 72 IV.undef, tm.getD 73 IV.undef, tm.getD 74 IV.undef, tm.getD 75 IV.undef, tm.getD 76 IV.undef, tm.getD 77 IV.undef, tm.getD 78 IV.undef, tm.getD 79 IV.undef, tm.getD 80 IV.undef, tm.getD 81 IV.undef, tm.getD 82 IV.undef, tm.getD 83 IV.undef, tm.getD 84 IV.undef, tm.getD 85 IV.undef, tm.getD 86 IV.undef, tm.getD 87 IV.undef, tm.getD 88 IV.undef, tm.getD 89 IV.undef, tm.getD 90 IV.undef, tm.getD 91 IV.undef, tm.getD 92 IV.undef, tm.getD 93 IV.undef, tm.getD 94 IV.undef, tm.getD 95 IV.undef, tm.getD 96 IV.undef, tm.getD 97 IV.undef, tm.getD 98 IV.undef, tm.getD 99 IV.undef, tm.getD 100 IV.undef, tm.getD 101 IV.undef, tm.getD 102 IV.undef, tm.getD 103 IV.undef] := (expl tm 104 h).trans rfl
theorem at_inner {tb ib w i lo fd : Nat} {wb wa many : Int} {a : Id} {H0 H : Heap} {vs : List SV} {t : List (List Id)} {Q : Out → Heap → Prop} {tm : List IV} {y8 : IV} (hlo : lo ≤ w) (hT : Tab H0 vs t) (four : ∀ l ∈ t, l.length ≤ 4) (gt : H0.get tb = some (.cells false 31 80 (flat vs))) (gi : H0.get ib = some (.cells false 28 2 [.int .u8 a.y, .int .i64 a.n])) (htb : tb < w) (hib : ib < w) (hw : H0.n = w) (hi : i < 80) (hfd : fd ≤ 4 * i)
    (hk : Keep H0.n H0 H) (gw : H.get w = some (.cells false 26 2 [.int .u8 wb, .int .i64 wa])) (hwn : w < H.n) (hacc : Acc t a i 0 fd wb wa)
    (htm : tm.length = 104) (t5 : tm.getD 5 IV.undef = .ptr ib 0) (t7 : tm.getD 7 IV.undef = .ptr tb 0) (t8 : tm.getD 8 IV.undef = y8) (t9 : tm.getD 9 IV.undef = .int .i64 many) (t10 : tm.getD 10 IV.undef = .ptr w 0) (t11 : tm.getD 11 IV.undef = .int .i64 fd) (t12 : tm.getD 12 IV.undef = .int .i64 i) (t13 : tm.getD 13 IV.undef = .int .i64 0)
    (hQ : ∀ H' tm' fd' wb' wa', Keep H0.n H0 H' → H'.get w = some (.cells false 26 2 [.int .u8 wb', .int .i64 wa']) → w < H'.n → fd' ≤ 4 * i + 4 → Acc t a i (t.getD i []).length fd' wb' wa' → tm'.length = 104 → tm'.getD 5 IV.undef = .ptr ib 0 → tm'.getD 7 IV.undef = .ptr tb 0 → tm'.getD 8 IV.undef = y8 → tm'.getD 9 IV.undef = .int .i64 many → tm'.getD 10 IV.undef = .ptr w 0 → tm'.getD 11 IV.undef = .int .i64 (fd' : Nat) → tm'.getD 12 IV.undef = .int .i64 i → Q (.ex (.jmp (.exit 2)) ⟨tm', []⟩) H') : W E0 lo (.code (.loop F3l20) none ⟨tm, []⟩) H Q := by
  have hvl := hT.1
  have htl := hT.2.1
  have hgd := getD_in (ls := t) (i := i) (by omega)
  have h4 := four _ (List.getElem_mem (show i < t.length by omega))
  refine W_inv (fun k fr H' => ∃ (j fd : Nat) (wb wa : Int), j + k = (t.getD i []).length ∧ fd ≤ 4 * i + j ∧ Keep H0.n H0 H' ∧ H'.get w = some (.cells false 26 2 [.int .u8 wb, .int .i64 wa]) ∧ w < H'.n ∧ Acc t a i j fd wb wa ∧ fr.marks = [] ∧ fr.tm.length = 104 ∧ fr.tm.getD 5 IV.undef = .ptr ib 0 ∧ fr.tm.getD 7 IV.undef = .ptr tb 0 ∧ fr.tm.getD 8 IV.undef = y8 ∧ fr.tm.getD 9 IV.undef = .int .i64 many ∧ fr.tm.getD 10 IV.undef = .ptr w 0 ∧ fr.tm.getD 11 IV.undef = .int .i64 fd ∧ fr.tm.getD 12 IV.undef = .int .i64 i ∧ fr.tm.getD 13 IV.undef = .int .i64 j) ?_ (t.getD i []).length ⟨0, fd, wb, wa, by omega, by omega, hk, gw, hwn, hacc, rfl, htm, t5, t7, t8, t9, t10, t11, t12, t13⟩
  clear hacc hk gw hwn htm t5 t7 t8 t9 t10 t11 t12 t13
  rintro k ⟨tm, mk⟩ H' ⟨j, fd, wb, wa, hjk, hfd, hk, gw, hwn, hacc, rfl, htm, t5, t7, t8, t9, t10, t11, t12, t13⟩ L hN hJ
  rw [expl104 tm htm, t5, t7, t8, t9, t10, t11, t12, t13]
  have gt' := (hk.2 tb (by omega) (by omega)).trans gt
  have gi' := (hk.2 ib (by omega) (by omega)).trans gi
  have hc := tab_read gt' i (by omega)
  have hsl := (hT.keep hk).2.2 i (by omega) (by omega)
  rw [hgd] at hjk
  by_cases hj : j < (t[i]'(by omega)).length
  · have r1 := hsl.read z_Id j hj
    have r2 := read_get gi'
    by_cases he : (t[i]'(by omega))[j] = a
    · have hee : ((((t[i]'(by omega))[j]).y == a.y) && (((t[i]'(by omega))[j]).n == a.n)) = true := by rw [he]; exact id_eq a
      simp (disch := omega) only [F3l20, W_seq, wF3o15, F3p15, W_segs_cons, freeI_s, W_op, wantedI_n, guardC_t, evalAll, IA.eval, List.getD_cons_succ, List.getD_cons_zero, optC_s, argC_a, nextOf, lowOf, goC_a, opW, ev1, pairC_p, opC_a, Fr.put, List.set, iLe, iLt, and_true, Int.toNat_natCast, Nat.zero_add, if_true, Option.getD_none, hc, mkAgg, Option.bind_some, Option.map_some, ↓hsl.ln, binI, decide_true, W_ops_nil, segC_n, W_segs_nil, thenC_n, W_cond, condC_t, W_skip, W_block, wF3o16, F3p16, freeI_f, freeNext, fpOf, pairOk, ne_eq, List.all_nil, Bool.false_eq_true, if_false, List.all_cons, Bool.or_true, Bool.and_self, ↓hsl.idx, Option.getD_some, r1, cs_Id, r2, List.length_cons, List.length_nil, Nat.reduceAdd, Nat.le_refl, List.drop, List.take_succ_cons, List.take, Bool.false_bne, eqKs, eqK, Bool.and_true, hee, wF3o17, F3p17, wU8, W_apply, List.nil_append, List.append_nil]
      refine needle_sp i (by omega) (by omega) fun H2 k2 => ?_
      have hn2 := k2.1
      replace gw := (k2.2 _ (by omega) (by omega)).trans gw
      simp (disch := omega) only [valC_v, opC_a, Fr.put, List.set, W_op, wantedI_n, guardC_t, evalAll, IA.eval, List.getD_cons_succ, List.getD_cons_zero, optC_s, argC_a, nextOf, lowOf, goC_a, opW, ev1, cellsV_agg, List.length_cons, List.length_nil, Nat.zero_add, Nat.reduceAdd, Heap.write, gw, cLe, Nat.le_refl, List.all_cons, oneV_int, List.all_nil, Bool.and_self, and_true, splice, if_true, Option.map_some, pairC_p, W_ops_nil, segC_n, W_segs_nil, thenC_n, wF3o18, F3p18, W_segs_cons, freeI_s, binI, wI64, blkC_n, wF3o19, F3p19]
      refine hN (k - 1) _ _ (by omega) ⟨j + 1, fd + 1, nB i, nA i, by rw [hgd]; omega, by omega, (hk.trans (k2.lower (by omega))).trans (.put _ _ (by omega)), by rw [Heap.get_put, if_pos rfl], by rw [Heap.n_put]; omega, .inr ⟨by omega, i, by omega, hi, ?_, rfl, rfl⟩, rfl, rfl, rfl, rfl, rfl, rfl, rfl, rfl, rfl, rfl⟩
      rw [hgd, ← he]
      exact List.getElem_mem hj
    · have hee := id_ne he
      simp (disch := omega) only [F3l20, W_seq, wF3o15, F3p15, W_segs_cons, freeI_s, W_op, wantedI_n, guardC_t, evalAll, IA.eval, List.getD_cons_succ, List.getD_cons_zero, optC_s, argC_a, nextOf, lowOf, goC_a, opW, ev1, pairC_p, opC_a, Fr.put, List.set, iLe, iLt, and_true, Int.toNat_natCast, Nat.zero_add, if_true, Option.getD_none, hc, mkAgg, Option.bind_some, Option.map_some, ↓hsl.ln, binI, decide_true, W_ops_nil, segC_n, W_segs_nil, thenC_n, W_cond, condC_t, W_skip, W_block, wF3o16, F3p16, freeI_f, freeNext, fpOf, pairOk, ne_eq, List.all_nil, Bool.false_eq_true, if_false, List.all_cons, Bool.or_true, Bool.and_self, ↓hsl.idx, Option.getD_some, r1, cs_Id, r2, List.length_cons, List.length_nil, Nat.reduceAdd, Nat.le_refl, List.drop, List.take_succ_cons, List.take, Bool.false_bne, eqKs, eqK, Bool.and_true, hee, condC_f, blkC_n, wF3o19, F3p19, wI64]
      refine hN (k - 1) _ _ (by omega) ⟨j + 1, fd, wb, wa, by rw [hgd]; omega, by omega, hk, gw, hwn, ?_, rfl, rfl, rfl, rfl, rfl, rfl, rfl, rfl, rfl, rfl⟩
      rcases hacc with ⟨a1, a2, a3, a4, a5⟩ | h
      · refine .inl ⟨a1, a2, a3, a4, ?_⟩
        rw [hgd] at a5 ⊢
        rw [List.take_succ_eq_append_getElem hj, List.mem_append, List.mem_singleton]
        exact fun h => h.elim a5 fun e => he e.symm
      · exact .inr h
  · have hjl : j = (t.getD i []).length := by rw [hgd]; omega
    subst hjl
    rw [hgd] at hj hfd
    simp (disch := omega) only [F3l20, hgd, W_seq, wF3o15, F3p15, W_segs_cons, freeI_s, W_op, wantedI_n, guardC_t, evalAll, IA.eval, List.getD_cons_succ, List.getD_cons_zero, optC_s, argC_a, nextOf, lowOf, goC_a, opW, ev1, pairC_p, opC_a, Fr.put, List.set, iLe, iLt, and_true, Int.toNat_natCast, Nat.zero_add, if_true, Option.getD_none, hc, mkAgg, Option.bind_some, Option.map_some, ↓hsl.ln, binI, iLtF, decide_false, W_ops_nil, segC_n, W_segs_nil, thenC_n, W_cond, condC_f, W_exit, thenC_j, hJ]
    refine hQ _ _ fd wb wa hk gw hwn (by omega) hacc ?_ ?_ ?_ ?_ ?_ ?_ ?_ ?_ <;> first | rfl | skip

theorem stacksAt_run {x : SV} {xs : List Pt} (nb na : Int) (a : Id) {H : Heap} (hx : Sl H x xs) (hxb : ∀ p ∈ xs, p.a ≤ 255 ∧ p.m ≤ 255) : W E0 H.n (.call 3 [x.iv, .agg [.int .u8 nb, .int .i64 na], .agg (Cell.cs a)]) H (fun o _ => o = .val (.bool true)) := by
  rw [c3]
  simp (disch := omega) only [F3b, cs_Id, F3, List.length_cons, List.length_nil, Nat.zero_add, Nat.reduceAdd, Nat.reduceSub, undefs, List.cons_append, List.nil_append, W_seq, wF3o0, F3p0, W_segs_cons, freeI_s, W_op, wantedI_n, guardC_t, evalAll, IA.eval, List.getD_cons_succ, List.getD_cons_zero, optC_s, argC_a, nextOf, lowOf, goC_a, opW, ev1, cellsV_agg, pairC_p, opC_a, Fr.put, List.set, Heap.n_new, W_ops_nil, segC_n, W_segs_nil, thenC_n, wF3o1, F3p1, W_apply, List.append_nil]
  generalize hH_H1 : Heap.new _ _ = H1
  have hnH1 : H1.n = H.n + 2 := by rw [← hH_H1]; rfl
  have g0 := congrArg (fun h0 => Heap.get h0 (H.n)) hH_H1.symm
  simp (disch := omega) only [Heap.get_new, Heap.n_new, cEqL, if_true, if_false] at g0
  have g1 := congrArg (fun h0 => Heap.get h0 (H.n + 1)) hH_H1.symm
  simp (disch := omega) only [Heap.get_new, Heap.n_new, cEqR, if_false, if_true] at g1
  have kH1 : Keep H.n H H1 := ⟨by omega, fun x hx _ => by
    have gx := congrArg (fun h0 => Heap.get h0 x) hH_H1.symm
    simp (disch := omega) only [Heap.get_new, Heap.n_new, cEqL, if_false] at gx
    exact gx⟩
  clear hH_H1
  refine of_sp (hx.keep kH1) hxb (by omega) (fun i _ => good_all xs i) fun H2 vs k2 hT2 => ?_
  obtain ⟨t, ht⟩ : ∃ t, t = (ofT xs).1 := ⟨_, rfl⟩
  have hV : Valid t := by rw [ht]; exact ofT_valid xs
  rw [← ht] at hT2
  have hn2 := k2.1
  replace g0 := (k2.2 _ (by omega) (by omega)).trans g0
  replace g1 := (k2.2 _ (by omega) (by omega)).trans g1
  have kk : Keep H.n H H2 := kH1.trans (k2.lower (by omega))
  have hvl := hT2.1
  have hfl : (flat vs).length = 80 := by rw [flat_length, z_SV]; omega
  have hall := flat_all vs
  have hspl : splice [IV.nilSlice, IV.nilSlice, IV.nilSlice, IV.nilSlice, IV.nilSlice, IV.nilSlice, IV.nilSlice, IV.nilSlice, IV.nilSlice, IV.nilSlice, IV.nilSlice, IV.nilSlice, IV.nilSlice, IV.nilSlice, IV.nilSlice, IV.nilSlice, IV.nilSlice, IV.nilSlice, IV.nilSlice, IV.nilSlice, IV.nilSlice, IV.nilSlice, IV.nilSlice, IV.nilSlice, IV.nilSlice, IV.nilSlice, IV.nilSlice, IV.nilSlice, IV.nilSlice, IV.nilSlice, IV.nilSlice, IV.nilSlice, IV.nilSlice, IV.nilSlice, IV.nilSlice, IV.nilSlice, IV.nilSlice, IV.nilSlice, IV.nilSlice, IV.nilSlice, IV.nilSlice, IV.nilSlice, IV.nilSlice, IV.nilSlice, IV.nilSlice, IV.nilSlice, IV.nilSlice, IV.nilSlice, IV.nilSlice, IV.nilSlice, IV.nilSlice, IV.nilSlice, IV.nilSlice, IV.nilSlice, IV.nilSlice, IV.nilSlice, IV.nilSlice, IV.nilSlice, IV.nilSlice, IV.nilSlice, IV.nilSlice, IV.nilSlice, IV.nilSlice, IV.nilSlice, IV.nilSlice, IV.nilSlice, IV.nilSlice, IV.nilSlice, IV.nilSlice, IV.nilSlice, IV.nilSlice, IV.nilSlice, IV.nilSlice, IV.nilSlice, IV.nilSlice, IV.nilSlice, IV.nilSlice, IV.nilSlice, IV.nilSlice, IV.nilSlice] 0 (flat vs) = flat vs := tab_splice hvl _ rfl
  have htk : (flat vs).take 80 = flat vs := List.take_of_length_le (by omega)
  simp (disch := omega) only [valC_v, opC_a, Fr.put, List.set, W_op, wantedI_n, guardC_t, evalAll, optC_s, argC_a, nextOf, lowOf, goC_a, opW, ev1, pairC_p, IA.eval, List.getD_cons_succ, List.getD_cons_zero, cellsV_agg, hfl, Heap.write, Heap.get_new, if_true, cLe, Nat.zero_add, List.length_cons, List.length_nil, Nat.reduceAdd, Nat.le_refl, hall, and_true, hspl, Option.map_some, W_ops_nil, segC_n, W_segs_nil, thenC_n, W_seq, wF3o2, F3p2, W_segs_cons, freeI_s, Option.getD_some, read_put, readO_c, List.drop, htk, read_new, List.take_succ_cons, List.take, mkAgg, Option.bind_some, W_apply, List.nil_append, List.append_nil]
  have hl6 : ∀ l ∈ t, l.length ≤ 1000000 := fun l hl => by have := hV.four l hl; omega
  generalize hH_H3 : Heap.put _ _ _ = H3
  have hnH3 : H3.n = H2.n + 1 := by rw [← hH_H3]; rfl
  have gt := congrArg (fun h0 => Heap.get h0 (H2.n)) hH_H3.symm
  simp (disch := omega) only [Heap.get_put, Heap.get_new, if_true] at gt
  have k3 : Keep H2.n H2 H3 := ⟨by omega, fun x hx _ => by
    have gx := congrArg (fun h0 => Heap.get h0 x) hH_H3.symm
    simp (disch := omega) only [Heap.get_put, cEqL, Heap.get_new, if_false] at gx
    exact gx⟩
  clear hH_H3
  replace g0 := (k3.2 _ (by omega) (by omega)).trans g0
  replace g1 := (k3.2 _ (by omega) (by omega)).trans g1
  replace kk : Keep H.n H H3 := kk.trans (k3.lower (by omega))
  have hT3 := hT2.tab.keep k3
  refine bedsT_sp hT3 hl6 (by omega) fun H4 f b k4 s4 => ?_
  have hn4 := k4.1
  replace g0 := (k4.2 _ (by omega) (by omega)).trans g0
  replace g1 := (k4.2 _ (by omega) (by omega)).trans g1
  replace gt := (k4.2 _ (by omega) (by omega)).trans gt
  replace kk : Keep H.n H H4 := kk.trans (k4.lower (by omega))
  have hT4 := hT3.keep k4
  have hF := fits_beds hV.len
  have hlF := bedF_len t
  have hlB := bedB_len hV.len
  have h6F : ∀ l ∈ bedF t, l.length ≤ 1000000 := fun l hl => hl6 l (bedF_mem hl)
  have h6B : ∀ l ∈ bedB t, l.length ≤ 1000000 := fun l hl => hl6 l (bedB_mem hl)
  simp (disch := omega) only [bv, valC_v, opC_a, Fr.put, List.set, W_op, wantedI_n, guardC_t, evalAll, optC_s, argC_a, nextOf, lowOf, goC_a, opW, ev1, pairC_p, IA.eval, List.getD_cons_succ, List.getD_cons_zero, cellsV_agg, List.length_cons, List.length_nil, Nat.zero_add, Nat.reduceAdd, Heap.write, Heap.get_new, if_true, cLe, Nat.le_refl, List.all_cons, SV.iv_one, List.all_nil, Bool.and_self, and_true, splice, Option.map_some, W_ops_nil, segC_n, W_segs_nil, thenC_n, W_seq]
  generalize hH_H5 : Heap.put _ _ _ = H5
  have hnH5 : H5.n = H4.n + 1 := by rw [← hH_H5]; rfl
  have gb := congrArg (fun h0 => Heap.get h0 (H4.n)) hH_H5.symm
  simp (disch := omega) only [Heap.get_put, Heap.get_new, if_true] at gb
  have kH5 : Keep H4.n H4 H5 := ⟨by omega, fun x hx _ => by
    have gx := congrArg (fun h0 => Heap.get h0 x) hH_H5.symm
    simp (disch := omega) only [Heap.get_put, cEqL, Heap.get_new, if_false] at gx
    exact gx⟩
  clear hH_H5
  replace g0 := (kH5.2 _ (by omega) (by omega)).trans g0
  replace g1 := (kH5.2 _ (by omega) (by omega)).trans g1
  replace gt := (kH5.2 _ (by omega) (by omega)).trans gt
  replace kk : Keep H.n H H5 := kk.trans (kH5.lower (by omega))
  have hT5 := hT4.keep kH5
  have s5 := s4.keep kH5
  clear hT2 hT3 hT4 s4 k2 k3 k4
  have rb := read_get gb
  simp (disch := omega) only [wF3o3, F3p3, W_segs_cons, freeI_s, W_op, wantedI_n, guardC_t, evalAll, IA.eval, List.getD_cons_succ, List.getD_cons_zero, optC_s, argC_a, nextOf, lowOf, goC_a, opW, ev1, Option.getD_some, rb, Nat.zero_add, List.length_cons, List.length_nil, Nat.reduceAdd, Nat.le_refl, List.drop, List.take_succ_cons, List.take, if_true, mkAgg, Option.map_some, Option.bind_some, pairC_p, opC_a, Fr.put, List.set, W_apply, List.nil_append, List.append_nil]
  rw [show IV.agg [f.iv, b.iv] = bv f b from rfl]
  refine check_sp s5.1.sl2 s5.2.1.sl2 (by omega) (by omega) h6F h6B (by omega) fun H6 k6 => ?_
  have hn6 := k6.1
  rw [hV.check]
  replace g0 := (k6.2 _ (by omega) (by omega)).trans g0
  replace g1 := (k6.2 _ (by omega) (by omega)).trans g1
  replace gt := (k6.2 _ (by omega) (by omega)).trans gt
  replace gb := (k6.2 _ (by omega) (by omega)).trans gb
  replace kk : Keep H.n H H6 := kk.trans (k6.lower (by omega))
  have hT6 := hT5.keep k6
  have s6 := s5.keep k6
  clear hT5 s5 k6 kH5 rb
  have rb := read_get gb
  have rt := read_get gt
  simp (disch := omega) only [valC_v, opC_a, Fr.put, List.set, W_op, wantedI_n, guardC_t, evalAll, IA.eval, List.getD_cons_succ, List.getD_cons_zero, optC_s, argC_a, nextOf, lowOf, goC_a, opW, ev1, binI, bne_self_eq_false, if_true, Option.map_some, pairC_p, wantedI_s, wantV_b, beq_self_eq_true, Option.getD_some, rt, Nat.zero_add, hfl, Nat.le_refl, List.drop, htk, mkAgg, Option.bind_some, rb, List.length_cons, List.length_nil, Nat.reduceAdd, List.take_succ_cons, List.take, W_apply, List.nil_append, List.append_nil]
  rw [show IV.agg [f.iv, b.iv] = bv f b from rfl]
  refine differs_sp hT6 hl6 s6.1.sl2 s6.2.1.sl2 s6.2.2.1 s6.2.2.2 (by omega) (by omega) h6F h6B (by omega) fun H7 n7 k7 hn0 => ?_
  have hn0 := hn0.2 hF
  subst hn0
  have hn7 := k7.1
  replace g0 := (k7.2 _ (by omega) (by omega)).trans g0
  replace g1 := (k7.2 _ (by omega) (by omega)).trans g1
  replace gt := (k7.2 _ (by omega) (by omega)).trans gt
  replace gb := (k7.2 _ (by omega) (by omega)).trans gb
  replace kk : Keep H.n H H7 := kk.trans (k7.lower (by omega))
  have hT7 := hT6.keep k7
  have s7 := s6.keep k7
  clear hT6 s6 k7 rb rt
  have rest : ∀ (H8 : Heap) (tm : List IV), Keep H7.n H7 H8 → tm.length = 104 → tm.getD 5 IV.undef = .ptr (H.n + 1) 0 → tm.getD 7 IV.undef = .ptr H2.n 0 → tm.getD 8 IV.undef = .ptr H4.n 0 →
      W E0 H.n (.code (.seq F3o8 (.seq F3o9 (.seq F3o10 (.seq (.seq F3o11 (.block 0 (.loop F3l22))) (.seq F3o23 (.seq F3o24 (.seq (.seq F3o25 (.cond (.tmp 86) F3o26 .skip)) (.seq F3o27 .ret)))))))) none ⟨tm, []⟩) H8 (retC H.n F3.results fun o _ => o = .val (.bool true)) := by
    intro H8 tm k8 htm t5 t7 t8
    have hn8 := k8.1
    replace g0 := (k8.2 _ (by omega) (by omega)).trans g0
    replace g1 := (k8.2 _ (by omega) (by omega)).trans g1
    replace gt := (k8.2 _ (by omega) (by omega)).trans gt
    replace gb := (k8.2 _ (by omega) (by omega)).trans gb
    have kk8 : Keep H.n H H8 := kk.trans (k8.lower (by omega))
    have hT8 := hT7.keep k8
    have s8 := s7.keep k8
    rw [expl104 tm htm, t5, t7, t8]
    simp (disch := omega) only [F3, F3b, W_seq, wF3o8, F3p8, W_segs_cons, freeI_s, W_op, wantedI_n, guardC_t, evalAll, IA.eval, optC_s, argC_a, nextOf, lowOf, goC_a, opW, ev1, pairC_p, opC_a, Fr.put, List.set, W_ops_nil, segC_n, W_segs_nil, thenC_n, wF3o9, F3p9, wF3o10, F3p10, wF3o11, F3p11, W_block]
    generalize hH_H9 : Heap.new _ _ = H9
    have hnH9 : H9.n = H8.n + 1 := by rw [← hH_H9]; rfl
    have gw := congrArg (fun h0 => Heap.get h0 (H8.n)) hH_H9.symm
    simp (disch := omega) only [Heap.get_new, if_true] at gw
    have kH9 : Keep H8.n H8 H9 := ⟨by omega, fun x hx _ => by
      have gx := congrArg (fun h0 => Heap.get h0 x) hH_H9.symm
      simp (disch := omega) only [Heap.get_new, cEqL, if_false] at gx
      exact gx⟩
    clear hH_H9
    refine W_inv (fun k fr H' => ∃ (i fd : Nat) (wb wa : Int), i + k = 80 ∧ fd ≤ 4 * i ∧ Keep H8.n H8 H' ∧ H'.get H8.n = some (.cells false 26 2 [.int .u8 wb, .int .i64 wa]) ∧ H8.n < H'.n ∧ Acc t a i 0 fd wb wa ∧ fr.marks = [] ∧ fr.tm.length = 104 ∧ fr.tm.getD 5 IV.undef = .ptr (H.n + 1) 0 ∧ fr.tm.getD 7 IV.undef = .ptr H2.n 0 ∧ fr.tm.getD 8 IV.undef = .ptr H4.n 0 ∧ fr.tm.getD 9 IV.undef = .int .i64 (lens (t.take i) : Nat) ∧ fr.tm.getD 10 IV.undef = .ptr H8.n 0 ∧ fr.tm.getD 11 IV.undef = .int .i64 fd ∧ fr.tm.getD 12 IV.undef = .int .i64 i) ?_ 80 ⟨0, 0, 0, 0, by omega, by omega, kH9, gw, by omega, .inl ⟨rfl, rfl, rfl, fun j hj => by omega, by simp⟩, rfl, rfl, rfl, rfl, rfl, rfl, rfl, rfl, rfl⟩
    clear kH9 gw hnH9
    rintro k ⟨tm, mk⟩ H' ⟨i, fd, wb, wa, hik, hfd, hk, gw, hwn, hacc, rfl, htm, t5, t7, t8, t9, t10, t11, t12⟩ L hN hJ
    rw [expl104 tm htm, t5, t7, t8, t9, t10, t11, t12]
    have gt' := (hk.2 _ (by omega) (by omega)).trans gt
    have htl := hV.len
    have hle := lens_le t 4 hV.four
    have hlei := hle i
    by_cases hi : i < 80
    · have hc := tab_read gt' i (by omega)
      have hsl := (hT8.keep hk).2.2 i (by omega) (by omega)
      have h4 := hV.four _ (List.getElem_mem (show i < t.length by omega))
      simp (disch := omega) only [F3l22, W_seq, wF3o12, F3p12, W_segs_cons, freeI_s, W_op, wantedI_n, guardC_t, evalAll, IA.eval, List.getD_cons_succ, List.getD_cons_zero, optC_s, argC_a, nextOf, lowOf, goC_a, opW, ev1, pairC_p, opC_a, Fr.put, List.set, binI, iLt, decide_true, if_true, Option.map_some, W_ops_nil, segC_n, W_segs_nil, thenC_n, W_cond, condC_t, W_skip, W_block, wF3o13, F3p13, iLe, and_true, Int.toNat_natCast, Nat.zero_add, Option.getD_none, hc, mkAgg, Option.bind_some, ↓hsl.ln, wI64, wF3o14, F3p14]
      refine at_inner (H0 := H8) (tb := H2.n) (ib := H.n + 1) (w := H8.n) (fd := fd) (wb := wb) (wa := wa) (by omega) hT8 hV.four gt g1 (by omega) (by omega) rfl hi hfd hk gw hwn hacc rfl rfl rfl rfl rfl rfl rfl rfl rfl ?_
      intro H2' tm2 fd2 wb2 wa2 b1 b2 b3 b4 b5 b6 b7 b8 b9 b10 b11 b12 b13
      rw [expl104 tm2 b6, b7, b8, b9, b10, b11, b12, b13]
      simp (disch := omega) only [List.getD_cons_succ, List.getD_cons_zero, blkC_e, blkC_n, thenC_n, wF3o21, F3p21, W_segs_cons, freeI_s, W_op, wantedI_n, guardC_t, evalAll, IA.eval, optC_s, argC_a, nextOf, lowOf, goC_a, opW, ev1, pairC_p, opC_a, Fr.put, List.set, binI, wI64, if_true, Option.map_some, W_ops_nil, segC_n, W_segs_nil, cEqL, thenC_j, if_false]
      refine hN (k - 1) _ _ (by omega) ⟨i + 1, fd2, wb2, wa2, by omega, by omega, b1, b2, b3, ?_, rfl, rfl, rfl, rfl, rfl, ?_, rfl, rfl, rfl⟩
      · rcases b5 with ⟨a1, a2, a3, a4, a5⟩ | ⟨a1, j, a2, a3⟩
        · refine .inl ⟨a1, a2, a3, fun j hj => ?_, by simp⟩
          by_cases hji : j < i
          · exact a4 j hji
          · have : j = i := by omega
            subst this
            rwa [List.take_length] at a5
        · exact .inr ⟨a1, j, by omega, a3⟩
      · rw [lens_take t i (by omega)]
        simp
    · have hi80 : i = 80 := by omega
      subst hi80
      have gb' := (hk.2 _ (by omega) (by omega)).trans gb
      have g1' := (hk.2 _ (by omega) (by omega)).trans g1
      have r1 := read_get g1'
      have rb := read_get gb'
      have hkk := s8.keep hk
      have hsum : lens (t.take 80) = t.flatten.length := by rw [List.take_of_length_le (by omega), lens_flatten]
      rw [hsum] at hlei ⊢
      simp (disch := omega) only [F3l22, F3l20, W_seq, wF3o12, F3p12, W_segs_cons, freeI_s, W_op, wantedI_n, guardC_t, evalAll, IA.eval, List.getD_cons_succ, List.getD_cons_zero, optC_s, argC_a, nextOf, lowOf, goC_a, opW, ev1, pairC_p, opC_a, Fr.put, List.set, binI, iLtF, decide_false, if_true, Option.map_some, W_ops_nil, segC_n, W_segs_nil, thenC_n, W_cond, condC_f, W_exit, thenC_j, hJ, blkC_e, wF3o23, F3p23, Option.getD_some, rb, Nat.zero_add, List.length_cons, List.length_nil, Nat.reduceAdd, Nat.le_refl, List.drop, List.take_succ_cons, List.take, mkAgg, Option.bind_some, r1, W_apply, List.nil_append, List.append_nil]
      rw [show IV.agg [f.iv, b.iv] = bv f b from rfl, ← cs_Id]
      refine find_sp a hkk.1.sl2 hkk.2.1.sl2 (by omega) (by omega) h6F h6B (by omega) ?_ ?_
      · intro H10 bed j l k10 hl ha
        have hJ : ∃ J, J < 80 ∧ a ∈ t.getD J [] ∧ nB J = bed ∧ nA J = (j : Int) + 1 := by
          rcases hl with ⟨rfl, hl⟩ | ⟨rfl, hl⟩
          · rw [List.take_of_length_le hlF] at hl
            have hjl := (List.getElem?_eq_some_iff.1 hl).1
            refine ⟨j, by omega, ?_, by unfold nB; omega, by unfold nA; omega⟩
            have := atL_eq t (b := 0) (a := (j : Int) + 1) (by unfold needleE; rw [if_pos (by omega)])
            unfold atL at this
            rw [if_pos (by unfold needleE; rw [if_pos (by omega)]), if_neg (by omega), show ((j : Int) + 1 - 1).toNat = j by omega, hl, Option.getD_some, show ix 0 ((j : Int) + 1) = j by unfold ix; omega] at this
            rw [← this]; exact ha
          · rw [List.take_of_length_le hlB] at hl
            have hjl := (List.getElem?_eq_some_iff.1 hl).1
            refine ⟨40 + j, by omega, ?_, by unfold nB; omega, by unfold nA; omega⟩
            have := atL_eq t (b := 1) (a := (j : Int) + 1) (by unfold needleE; rw [if_pos (by omega)])
            unfold atL at this
            rw [if_pos (by unfold needleE; rw [if_pos (by omega)]), if_pos rfl, show ((j : Int) + 1 - 1).toNat = j by omega, hl, Option.getD_some, show ix 1 ((j : Int) + 1) = 40 + j by unfold ix; omega] at this
            rw [← this]; exact ha
        obtain ⟨J, hJ1, hJ2, hJ3, hJ4⟩ := hJ
        have hw : 0 < fd ∧ wb = bed ∧ wa = (j : Int) + 1 := by
          rcases hacc with ⟨_, _, _, a4, _⟩ | ⟨a1, j', _, a2, a3, a4, a5⟩
          · exact absurd hJ2 (a4 J hJ1)
          · have := nd_uniq hV.nd hJ2 a3
            subst this
            exact ⟨a1, a4.trans hJ3, a5.trans hJ4⟩
        obtain ⟨hfd0, rfl, rfl⟩ := hw
        have hn10 := k10.1
        replace gw := (k10.2 _ (by omega) (by omega)).trans gw
        replace gb' := (k10.2 _ (by omega) (by omega)).trans gb'
        have hk10 := hkk.keep k10
        simp (disch := omega) only [valC_v, opC_a, Fr.put, List.set, W_op, wantedI_n, guardC_t, evalAll, IA.eval, List.getD_cons_succ, List.getD_cons_zero, optC_s, argC_a, nextOf, lowOf, goC_a, opW, ev1, pairC_p, List.getElem?_cons_zero, Option.map_some, List.getElem?_cons_succ, cellsV_agg, List.length_cons, List.length_nil, Nat.zero_add, Nat.reduceAdd, Heap.write, Heap.get_new, if_true, cLe, Nat.le_refl, List.all_cons, oneV_int, List.all_nil, Bool.and_self, and_true, splice, W_ops_nil, segC_n, W_segs_nil, thenC_n, W_seq]
        generalize hH_H11 : Heap.put _ _ _ = H11
        have hnH11 : H11.n = H10.n + 1 := by rw [← hH_H11]; rfl
        have gm := congrArg (fun h0 => Heap.get h0 (H10.n)) hH_H11.symm
        simp (disch := omega) only [Heap.get_put, Heap.get_new, if_true] at gm
        have kH11 : Keep H10.n H10 H11 := ⟨by omega, fun x hx _ => by
          have gx := congrArg (fun h0 => Heap.get h0 x) hH_H11.symm
          simp (disch := omega) only [Heap.get_put, cEqL, Heap.get_new, if_false] at gx
          exact gx⟩
        clear hH_H11
        replace gw := (kH11.2 _ (by omega) (by omega)).trans gw
        replace gb' := (kH11.2 _ (by omega) (by omega)).trans gb'
        have hk11 := hk10.keep kH11
        have rw1 := read_get gw
        have rb1 := read_get gb'
        have rm1 := read_get gm
        simp (disch := omega) only [wF3o24, F3p24, W_segs_cons, freeI_s, W_op, wantedI_n, guardC_t, evalAll, IA.eval, optC_s, argC_a, nextOf, lowOf, goC_a, opW, ev1, pairC_p, opC_a, Fr.put, List.set, W_ops_nil, segC_n, W_segs_nil, thenC_n, W_seq, wF3o25, F3p25, List.getD_cons_succ, List.getD_cons_zero, binI, iBeqF, if_true, Option.map_some, W_cond, condC_f, W_skip, wF3o27, F3p27, beq_self_eq_true, wantedI_s, wantV_b, Option.getD_some, rm1, Nat.zero_add, List.length_cons, List.length_nil, Nat.reduceAdd, Nat.le_refl, List.drop, List.take_succ_cons, List.take, mkAgg, Option.bind_some, rw1, Bool.false_bne, eqKs, eqK, Bool.and_self, rb1, W_apply, List.nil_append, List.append_nil]
        rw [show IV.agg [f.iv, b.iv] = bv f b from rfl]
        refine count_sp hk11.1.sl2 hk11.2.1.sl2 (by omega) (by omega) h6F h6B (by omega) fun H12 k12 => ?_
        rw [count_eq hV.len]
        simp (disch := omega) only [valC_v, opC_a, Fr.put, List.set, W_op, wantedI_s, List.getD_cons_succ, List.getD_cons_zero, wantV_b, beq_self_eq_true, guardC_t, evalAll, IA.eval, optC_s, argC_a, nextOf, lowOf, goC_a, opW, ev1, pairC_p, binI, if_true, Option.map_some, wantedI_n, W_apply, List.append_nil]
        refine c16 ?_
        simp (disch := omega) only [valC_v, opC_a, Fr.put, List.set, W_op, wantedI_n, guardC_t, evalAll, IA.eval, List.getD_cons_succ, List.getD_cons_zero, optC_s, argC_a, nextOf, lowOf, goC_a, opW, ev1, if_true, pairC_p, W_ops_nil, segC_n, W_segs_nil, thenC_n, W_ret, retC_r, unmark, leaveC_a, resultsOf, resultOf, valsC_a, tupled]
      · intro H10 k10 n1 n2
        have hw : fd = 0 ∧ wb = 0 ∧ wa = 0 := by
          rcases hacc with ⟨a1, a2, a3, _⟩ | ⟨a1, j', _, a2, a3, a4, a5⟩
          · exact ⟨a1, a2, a3⟩
          · exfalso
            obtain ⟨q1, q2⟩ := getD_ne (List.ne_nil_of_mem a3)
            rw [q2] at a3
            have hm : a ∈ t.flatten := List.mem_flatten.2 ⟨_, List.getElem_mem q1, a3⟩
            rw [← beds_flatten, List.mem_flatten] at hm
            obtain ⟨l, hl, hal⟩ := hm
            rw [List.take_of_length_le hlF] at n1
            rw [List.take_of_length_le hlB] at n2
            rcases List.mem_append.1 hl with hl | hl
            · exact n1 l hl hal
            · exact n2 l hl hal
        obtain ⟨rfl, rfl, rfl⟩ := hw
        have hn10 := k10.1
        replace gw := (k10.2 _ (by omega) (by omega)).trans gw
        replace gb' := (k10.2 _ (by omega) (by omega)).trans gb'
        have hk10 := hkk.keep k10
        simp (disch := omega) only [valC_v, opC_a, Fr.put, List.set, W_op, wantedI_n, guardC_t, evalAll, IA.eval, List.getD_cons_succ, List.getD_cons_zero, optC_s, argC_a, nextOf, lowOf, goC_a, opW, ev1, pairC_p, List.getElem?_cons_zero, Option.map_some, List.getElem?_cons_succ, cellsV_agg, List.length_cons, List.length_nil, Nat.zero_add, Nat.reduceAdd, Heap.write, Heap.get_new, if_true, cLe, Nat.le_refl, List.all_cons, oneV_int, List.all_nil, Bool.and_self, and_true, splice, W_ops_nil, segC_n, W_segs_nil, thenC_n, W_seq]
        generalize hH_H11 : Heap.put _ _ _ = H11
        have hnH11 : H11.n = H10.n + 1 := by rw [← hH_H11]; rfl
        have gm := congrArg (fun h0 => Heap.get h0 (H10.n)) hH_H11.symm
        simp (disch := omega) only [Heap.get_put, Heap.get_new, if_true] at gm
        have kH11 : Keep H10.n H10 H11 := ⟨by omega, fun x hx _ => by
          have gx := congrArg (fun h0 => Heap.get h0 x) hH_H11.symm
          simp (disch := omega) only [Heap.get_put, cEqL, Heap.get_new, if_false] at gx
          exact gx⟩
        clear hH_H11
        replace gw := (kH11.2 _ (by omega) (by omega)).trans gw
        replace gb' := (kH11.2 _ (by omega) (by omega)).trans gb'
        have hk11 := hk10.keep kH11
        have rw1 := read_get gw
        have rb1 := read_get gb'
        have rm1 := read_get gm
        simp (disch := omega) only [wF3o24, F3p24, W_segs_cons, freeI_s, W_op, wantedI_n, guardC_t, evalAll, IA.eval, optC_s, argC_a, nextOf, lowOf, goC_a, opW, ev1, pairC_p, opC_a, Fr.put, List.set, W_ops_nil, segC_n, W_segs_nil, thenC_n, W_seq, wF3o25, F3p25, List.getD_cons_succ, List.getD_cons_zero, binI, iBeq, if_true, Option.map_some, W_cond, condC_t, wF3o26, F3p26, wF3o27, F3p27, beq_self_eq_true, wantedI_s, wantV_b, Option.getD_some, rm1, Nat.zero_add, List.length_cons, List.length_nil, Nat.reduceAdd, Nat.le_refl, List.drop, List.take_succ_cons, List.take, mkAgg, Option.bind_some, rw1, Bool.false_bne, eqKs, eqK, Bool.and_self, rb1, W_apply, List.nil_append, List.append_nil]
        rw [show IV.agg [f.iv, b.iv] = bv f b from rfl]
        refine count_sp hk11.1.sl2 hk11.2.1.sl2 (by omega) (by omega) h6F h6B (by omega) fun H12 k12 => ?_
        rw [count_eq hV.len]
        simp (disch := omega) only [valC_v, opC_a, Fr.put, List.set, W_op, wantedI_s, List.getD_cons_succ, List.getD_cons_zero, wantV_b, beq_self_eq_true, guardC_t, evalAll, IA.eval, optC_s, argC_a, nextOf, lowOf, goC_a, opW, ev1, pairC_p, binI, if_true, Option.map_some, wantedI_n, W_apply, List.append_nil]
        refine c16 ?_
        simp (disch := omega) only [valC_v, opC_a, Fr.put, List.set, W_op, wantedI_n, guardC_t, evalAll, IA.eval, List.getD_cons_succ, List.getD_cons_zero, optC_s, argC_a, nextOf, lowOf, goC_a, opW, ev1, if_true, pairC_p, W_ops_nil, segC_n, W_segs_nil, thenC_n, W_ret, retC_r, unmark, leaveC_a, resultsOf, resultOf, valsC_a, tupled]
  have r0 := read_get g0
  by_cases h1 : nb > 1 ∨ na < 1 ∨ na > 40
  · have hne : needleE nb na ≠ 0 := by unfold needleE; rw [if_neg (by omega)]; omega
    have step : ∀ (hc : True), True := fun _ => trivial
    have hAt : ∀ (Q' : Out → Heap → Prop), (∀ H8 v, Keep H7.n H7 H8 → Sl H8 v ([] : List Id) → Q' (.val v.iv) H8) → W E0 H.n (.call 12 [bv f b, .agg [.int .u8 nb, .int .i64 na]]) H7 Q' := fun Q' hQ' => by
      refine at_sp nb na s7.1.sl2 s7.2.1.sl2 h6F h6B (by omega) fun H8 v8 k8 s8 => ?_
      rw [atL_none _ _ hne] at s8
      exact hQ' H8 v8 k8 s8.sl
    have rb := read_get gb
    by_cases c1 : nb > 1
    · simp (disch := omega) only [valC_v, opC_a, Fr.put, List.set, W_op, wantedI_s, List.getD_cons_succ, List.getD_cons_zero, wantV_b, beq_self_eq_true, guardC_t, evalAll, IA.eval, optC_s, argC_a, nextOf, lowOf, goC_a, opW, ev1, binI, iBneF, if_true, Option.map_some, pairC_p, wantedI_n, Bool.false_eq_true, if_false, W_ops_nil, segC_n, W_segs_nil, thenC_n, W_cond, condC_f, W_skip, W_seq, wF3o5, F3p5, W_segs_cons, freeI_s, Nat.add_zero, Option.getD_none, r0, Nat.zero_add, List.length_cons, List.length_nil, Nat.reduceAdd, cLe, List.drop, List.take_succ_cons, List.take, mkAgg, Option.bind_some, iLt, decide_true, bb_tf, guardC_f, condC_t, wF3o6, F3p6, Option.getD_some, rb, Nat.le_refl, W_apply, List.nil_append, List.append_nil]
      rw [show IV.agg [f.iv, b.iv] = bv f b from rfl]
      refine hAt _ fun H8 v8 k8 s8 => ?_
      simp (disch := omega) only [valC_v, opC_a, Fr.put, List.set, W_op, wantedI_n, guardC_t, evalAll, IA.eval, List.getD_cons_succ, List.getD_cons_zero, optC_s, argC_a, nextOf, lowOf, goC_a, opW, ↓s8.ln, List.length_nil, pairC_p, ev1, binI, iBneF, if_true, Option.map_some, W_ops_nil, segC_n, W_segs_nil, thenC_n, W_cond, condC_f, W_skip, W_seq]
      rw [← W_seq]
      exact rest H8 _ k8 rfl rfl rfl rfl
    · by_cases c2 : na < 1
      · simp (disch := omega) only [valC_v, opC_a, Fr.put, List.set, W_op, wantedI_s, List.getD_cons_succ, List.getD_cons_zero, wantV_b, beq_self_eq_true, guardC_t, evalAll, IA.eval, optC_s, argC_a, nextOf, lowOf, goC_a, opW, ev1, binI, iBneF, if_true, Option.map_some, pairC_p, wantedI_n, Bool.false_eq_true, if_false, W_ops_nil, segC_n, W_segs_nil, thenC_n, W_cond, condC_f, W_skip, W_seq, wF3o5, F3p5, W_segs_cons, freeI_s, Nat.add_zero, Option.getD_none, r0, Nat.zero_add, List.length_cons, List.length_nil, Nat.reduceAdd, cLe, List.drop, List.take_succ_cons, List.take, mkAgg, Option.bind_some, iLtF, decide_false, Nat.le_refl, iLt, decide_true, bb_tf, guardC_f, condC_t, wF3o6, F3p6, Option.getD_some, rb, W_apply, List.nil_append, List.append_nil]
        rw [show IV.agg [f.iv, b.iv] = bv f b from rfl]
        refine hAt _ fun H8 v8 k8 s8 => ?_
        simp (disch := omega) only [valC_v, opC_a, Fr.put, List.set, W_op, wantedI_n, guardC_t, evalAll, IA.eval, List.getD_cons_succ, List.getD_cons_zero, optC_s, argC_a, nextOf, lowOf, goC_a, opW, ↓s8.ln, List.length_nil, pairC_p, ev1, binI, iBneF, if_true, Option.map_some, W_ops_nil, segC_n, W_segs_nil, thenC_n, W_cond, condC_f, W_skip, W_seq]
        rw [← W_seq]
        exact rest H8 _ k8 rfl rfl rfl rfl
      · simp (disch := omega) only [valC_v, opC_a, Fr.put, List.set, W_op, wantedI_s, List.getD_cons_succ, List.getD_cons_zero, wantV_b, beq_self_eq_true, guardC_t, evalAll, IA.eval, optC_s, argC_a, nextOf, lowOf, goC_a, opW, ev1, binI, iBneF, if_true, Option.map_some, pairC_p, wantedI_n, Bool.false_eq_true, if_false, W_ops_nil, segC_n, W_segs_nil, thenC_n, W_cond, condC_f, W_skip, W_seq, wF3o5, F3p5, W_segs_cons, freeI_s, Nat.add_zero, Option.getD_none, r0, Nat.zero_add, List.length_cons, List.length_nil, Nat.reduceAdd, cLe, List.drop, List.take_succ_cons, List.take, mkAgg, Option.bind_some, iLtF, decide_false, Nat.le_refl, iLt, decide_true, condC_t, wF3o6, F3p6, Option.getD_some, rb, W_apply, List.nil_append, List.append_nil]
        rw [show IV.agg [f.iv, b.iv] = bv f b from rfl]
        refine hAt _ fun H8 v8 k8 s8 => ?_
        simp (disch := omega) only [valC_v, opC_a, Fr.put, List.set, W_op, wantedI_n, guardC_t, evalAll, IA.eval, List.getD_cons_succ, List.getD_cons_zero, optC_s, argC_a, nextOf, lowOf, goC_a, opW, ↓s8.ln, List.length_nil, pairC_p, ev1, binI, iBneF, if_true, Option.map_some, W_ops_nil, segC_n, W_segs_nil, thenC_n, W_cond, condC_f, W_skip, W_seq]
        rw [← W_seq]
        exact rest H8 _ k8 rfl rfl rfl rfl
  · simp (disch := omega) only [valC_v, opC_a, Fr.put, List.set, W_op, wantedI_s, List.getD_cons_succ, List.getD_cons_zero, wantV_b, beq_self_eq_true, guardC_t, evalAll, IA.eval, optC_s, argC_a, nextOf, lowOf, goC_a, opW, ev1, binI, iBneF, if_true, Option.map_some, pairC_p, wantedI_n, Bool.false_eq_true, if_false, W_ops_nil, segC_n, W_segs_nil, thenC_n, W_cond, condC_f, W_skip, W_seq, wF3o5, F3p5, W_segs_cons, freeI_s, Nat.add_zero, Option.getD_none, r0, Nat.zero_add, List.length_cons, List.length_nil, Nat.reduceAdd, cLe, List.drop, List.take_succ_cons, List.take, mkAgg, Option.bind_some, iLtF, decide_false, Nat.le_refl]
    rw [← W_seq]
    exact rest H7 _ (Keep.refl _ _) rfl rfl rfl rfl
end Go.Iso.Gen
end

section
namespace Go.Iso.Gen
open Go.Iso Go.Proofs
set_option maxRecDepth 100000
set_option maxHeartbeats 4000000

theorem params3 : Try.f3.params.toList.mapM (tyOf Try.prog 8) = some [.slice putT, idT, idT] := by kernel_rfl
theorem types3 : typesOk Try.prog Try.f3 = true := by kernel_rfl

theorem at_lifted (os : Os) (started : os.Started) (T : Type) (enc : TypeId × Value → T) :
    ReturnsInHanded {} Try.checked os 3 .any (Ythccekocaliohaa.Rows.stacksAtSpec.pre6 enc Try.prog Try.f3 [] false) (Ythccekocaliohaa.Rows.stacksAtSpec.post enc Try.prog Try.f3 false true false false) := by
  refine returnsInHanded_of_change (C := Try.checked) own_knob started (by kernel_rfl) Try.func3
    (ChangeSpec.witness6 (enc := enc) (C := Try.checked) false ⟨#[], #[.slice none 0 0, .agg #[.int .u8 0, .int .i64 0], .agg #[.int .u8 0, .int .i64 0]], []⟩ 8 (by kernel_rfl) (by kernel_rfl) (by kernel_rfl) (by kernel_rfl)) ?_
  intro W base args ds gs before hval hW _ _
  refine law_calls (P := Try.prog) (tb := 4) (s := Ythccekocaliohaa.Rows.stacksAtSpec) env0 rfl params3 (by kernel_rfl) (by kernel_rfl) types3 rfl ?_ (fun _ => True) ?_ W base args ds gs before hval hW trivial
  · intro T ds hd
    match ds, hd with
    | [a, b, c], _ => rfl
  · intro H css ds hro hrd _
    cases hrd with
    | cons h1 hrd =>
      cases hrd with
      | cons h2 hrd =>
        cases hrd with
        | cons h3 hrd =>
          cases hrd
          obtain ⟨v, l, rfl, hl, hx⟩ := rd_B hro h1
          obtain ⟨n, rfl, hn⟩ := rd_id h2
          obtain ⟨a, rfl, ha⟩ := rd_id h3
          obtain ⟨n, o, H', h, rfl⟩ := stacksAt_run n.y n.n a hl hx
          exact ⟨n, H', h⟩

theorem at_holds : Ythccekocaliohaa.Rows.StacksAtSaid :=
  OpenClaim.holds_of_wide 3 Try.f3 rfl rfl rfl rfl rfl rfl rfl ⟨rfl, rfl, rfl, rfl, rfl⟩ rfl rfl rfl rfl rfl (by kernel_rfl) Try.func3 (by kernel_rfl)
    (of_decide_eq_true (by kernel_rfl)) (by unfold Func.isWrapper; first | (rw [if_pos (by decide +kernel)]; kernel_rfl) | (rw [if_neg (by decide +kernel)]; exact ⟨rfl, rfl⟩))
    (fun os started H enc _ => at_lifted os started H enc)
end Go.Iso.Gen

namespace Go.Proofs.Ythccekocaliohaa
theorem stacksAt_holds : Rows.StacksAtSaid := Go.Iso.Gen.at_holds
end Go.Proofs.Ythccekocaliohaa
end
