/-
  ganseylaw03.StacksBack returns true for every input and leaves its arguments as they were; no condition.
-/
import Derived.Test.YthccekocaliohaaFnB
import Derived.Test.YthccekocaliohaaRow
set_option linter.unusedSimpArgs false
set_option linter.unusedVariables false

section
namespace Go.Iso.Gen
open Go.Iso
set_option maxHeartbeats 4000000
set_option maxRecDepth 10000

/-- Plain laws of Join on tables. -/
def joinL (fb : Int) (a b : List Id) : List Id := if fb = 1 then a ++ b else b ++ a
def joinT (t : List (List Id)) (fb : Int) (i k : Nat) : List (List Id) := (t.set i []).set k (joinL fb (t.getD i []) (t.getD k []))
theorem ix_ne {fb fa tb ta : Int} (hf : needleE fb fa = 0) (ht : needleE tb ta = 0) (hb : fb ≠ tb) : ix fb fa ≠ ix tb ta := by
  intro e
  have h1 := n_ix hf
  have h2 := n_ix ht
  rw [e] at h1
  exact hb (h1.1.symm.trans h2.1)
theorem joinE_eq {t : List (List Id)} (hV : Valid t) (fb fa tb ta : Int) : joinE (bedF t) (bedB t) fb fa tb ta =
    if needleE fb fa ≠ 0 ∨ needleE tb ta ≠ 0 ∨ fb = tb then 1 else if (t.getD (ix fb fa) []).length = 0 then 13 else if (t.getD (ix fb fa) []).length + (t.getD (ix tb ta) []).length > 4 then 9 else 0 := by
  unfold joinE
  rw [if_neg (by rw [hV.check]; simp)]
  by_cases h : needleE fb fa ≠ 0 ∨ needleE tb ta ≠ 0 ∨ fb = tb
  · rw [if_pos h, if_pos h]
  · rw [if_neg h, if_neg h]
    rw [not_or, not_or, Classical.not_not, Classical.not_not] at h
    rw [atL_eq t h.1, atL_eq t h.2.1]
theorem joinS_eq {t : List (List Id)} {fb fa tb ta : Int} (hf : needleE fb fa = 0) (ht : needleE tb ta = 0) : joinS (bedF t) (bedB t) fb fa tb ta = joinL fb (t.getD (ix fb fa) []) (t.getD (ix tb ta) []) := by
  unfold joinS joinL
  rw [atL_eq t hf, atL_eq t ht]
theorem joinFB_eq {t : List (List Id)} (hV : Valid t) {fb fa tb ta : Int} (hf : needleE fb fa = 0) (ht : needleE tb ta = 0) :
    joinF (bedF t) (bedB t) fb fa tb ta = bedF (joinT t fb (ix fb fa) (ix tb ta)) ∧ joinB (bedF t) (bedB t) fb fa tb ta = bedB (joinT t fb (ix fb fa) (ix tb ta)) := by
  unfold joinF joinB joinT
  have h1 := place_eq hV.len hf []
  rw [h1.1, h1.2, joinS_eq hf ht]
  exact place_eq (by rw [List.length_set]; exact hV.len) ht _
theorem set_split {t : List (List Id)} {i : Nat} (hi : i < t.length) (l : List Id) : (t.set i l).flatten.Perm (l ++ (t.set i []).flatten) := by
  have := perm_set_flatten (t := t.set i []) (i := i) (by rw [List.length_set]; exact hi) l
  rw [List.getElem_set_self, List.nil_append, List.set_set] at this
  exact this.trans List.perm_append_comm
theorem flat_split {t : List (List Id)} {i : Nat} (hi : i < t.length) : t.flatten.Perm (t.getD i [] ++ (t.set i []).flatten) := by
  have := set_split hi (t.getD i [])
  rw [getD_in hi, List.set_getElem_self] at this
  rw [getD_in hi]
  exact this
theorem joinL_perm (fb : Int) (a b : List Id) : (joinL fb a b).Perm (a ++ b) := by
  unfold joinL
  split
  · exact .refl _
  · exact List.perm_append_comm
theorem joinL_len (fb : Int) (a b : List Id) : (joinL fb a b).length = a.length + b.length := by rw [(joinL_perm fb a b).length_eq, List.length_append]
theorem joinT_perm {t : List (List Id)} {i k : Nat} (fb : Int) (hi : i < t.length) (hk : k < t.length) (hik : i ≠ k) : (joinT t fb i k).flatten.Perm t.flatten := by
  unfold joinT
  have h1 := set_split (t := t.set i []) (i := k) (by rw [List.length_set]; exact hk) (joinL fb (t.getD i []) (t.getD k []))
  have h2 := flat_split hi
  have h3 := flat_split (t := t.set i []) (i := k) (by rw [List.length_set]; exact hk)
  rw [set_getD t i hi, if_neg hik] at h3
  refine h1.trans ?_
  refine (List.Perm.append_right _ (joinL_perm _ _ _)).trans ?_
  rw [List.append_assoc]
  refine .trans ?_ h2.symm
  exact List.Perm.append_left _ h3.symm
theorem joinT_len (t : List (List Id)) (fb : Int) (i k : Nat) : (joinT t fb i k).length = t.length := by unfold joinT; rw [List.length_set, List.length_set]
theorem joinT_valid {t : List (List Id)} (hV : Valid t) {i k : Nat} (fb : Int) (hi : i < 80) (hk : k < 80) (hik : i ≠ k) (h4 : (t.getD i []).length + (t.getD k []).length ≤ 4) : Valid (joinT t fb i k) := by
  have hp := joinT_perm fb (by rw [hV.len]; exact hi) (by rw [hV.len]; exact hk) hik
  refine ⟨by rw [joinT_len, hV.len], fun l hl => ?_, fun a ha => hV.named a ((hp.mem_iff).1 ha), (hp.nodup_iff).2 hV.nd⟩
  unfold joinT at hl
  rcases List.mem_or_eq_of_mem_set hl with hl | rfl
  · rcases List.mem_or_eq_of_mem_set hl with hl | rfl
    · exact hV.four l hl
    · simp
  · rw [joinL_len]; exact h4
theorem joinT_at {t : List (List Id)} {i k : Nat} (fb : Int) (hi : i < t.length) (hk : k < t.length) (j : Nat) : (joinT t fb i k).getD j [] = if k = j then joinL fb (t.getD i []) (t.getD k []) else if i = j then [] else t.getD j [] := by
  unfold joinT
  rw [set_getD _ _ (by rw [List.length_set]; exact hk), set_getD _ _ hi]
theorem tab_ext {t u : List (List Id)} (h : t.length = u.length) (hg : ∀ j, t.getD j [] = u.getD j []) : t = u := by
  refine List.ext_getElem h fun j h1 h2 => ?_
  have := hg j
  rwa [getD_in h1, getD_in h2] at this
/-- Joined and back again. -/
theorem join_back {t : List (List Id)} {i k : Nat} (fb tb : Int) (hi : i < t.length) (hk : k < t.length) (hik : i ≠ k) (h0 : t.getD k [] = []) : joinT (joinT t fb i k) tb k i = t := by
  refine tab_ext (by rw [joinT_len, joinT_len]) fun j => ?_
  rw [joinT_at _ (by rw [joinT_len]; exact hk) (by rw [joinT_len]; exact hi), joinT_at _ hi hk, joinT_at _ hi hk, joinT_at _ hi hk, if_pos rfl, if_neg (Ne.symm hik), if_pos rfl, h0]
  have e1 : joinL fb (t.getD i []) [] = t.getD i [] := by unfold joinL; split <;> simp
  have e2 : joinL tb (t.getD i []) [] = t.getD i [] := by unfold joinL; split <;> simp
  rw [e1, e2]
  by_cases h1 : i = j
  · subst h1; rw [if_pos rfl]
  · rw [if_neg h1]
    by_cases h2 : k = j
    · subst h2; rw [if_pos rfl, h0]
    · rw [if_neg h2, if_neg h2, if_neg h1]
/-- Which needle of a table a needle is, among the first j. -/
def seek (b a : Int) (j : Nat) : Int := if needleE b a = 0 ∧ ix b a < j then ix b a else -1
theorem seek_zero (b a : Int) : seek b a 0 = -1 := by unfold seek; rw [if_neg (by omega)]
theorem seek_eq {b a : Int} {j : Nat} (hj : j < 80) (h : nB j = b ∧ nA j = a) : seek b a (j + 1) = j := by
  obtain ⟨rfl, rfl⟩ := h
  unfold seek
  rw [if_pos ⟨needle_v j, by rw [ix_n j hj]; omega⟩, ix_n j hj]
theorem seek_ne {b a : Int} {j : Nat} (h : ¬ (nB j = b ∧ nA j = a)) : seek b a (j + 1) = seek b a j := by
  unfold seek
  by_cases hv : needleE b a = 0
  · have := n_ix hv
    have hne : ix b a ≠ j := fun e => h (by rw [← e]; exact ⟨this.1, this.2.1⟩)
    by_cases hl : ix b a < j
    · rw [if_pos ⟨hv, by omega⟩, if_pos ⟨hv, hl⟩]
    · rw [if_neg (by omega), if_neg (by omega)]
  · rw [if_neg (fun h => hv h.1), if_neg (fun h => hv h.1)]
theorem seek_v {b a : Int} (h : needleE b a = 0) : seek b a 80 = ix b a := by unfold seek; rw [if_pos ⟨h, (n_ix h).2.2⟩]
theorem seek_n {b a : Int} (h : needleE b a ≠ 0) : seek b a 80 = -1 := by unfold seek; rw [if_neg fun h' => h h'.1]
theorem seek_lt (b a : Int) (j : Nat) : -1 ≤ seek b a j ∧ seek b a j ≤ 80 := by
  unfold seek
  split
  · rename_i h; have := (n_ix h.1).2.2; omega
  · omega
end Go.Iso.Gen
end

section
namespace Go.Iso.Gen
open Go.Iso
set_option maxHeartbeats 4000000
set_option maxRecDepth 10000

theorem Of_sp {x : SV} {xs : List Pt} {H : Heap} {lo : Nat} {Q : Out → Heap → Prop} (hx : Sl H x xs) (hb : ∀ p ∈ xs, p.a ≤ 255 ∧ p.m ≤ 255) (hlo : lo ≤ H.n)
    (h : ∀ H' f b, Keep H.n H H' → Beds H.n H' f b (bedF (ofT xs).1) (bedB (ofT xs).1) → Q (.val (bv f b)) H') : W E0 lo (.call 21 [x.iv]) H Q := by
  refine W.pure plain hlo ?_
  rw [c21]
  simp (disch := omega) only [F21b, F21, List.length_cons, List.length_nil, Nat.zero_add, Nat.reduceSub, undefs, List.cons_append, List.nil_append, W_seq, wF21o0, F21p0, W_segs_cons, freeI_s, W_op, wantedI_n, guardC_t, evalAll, optC_s, argC_a, nextOf, lowOf, goC_a, opW, ev1, pairC_p, opC_a, Fr.put, List.set, W_ops_nil, segC_n, W_segs_nil, thenC_n, wF21o1, F21p1, IA.eval, List.getD_cons_zero, List.getD_cons_succ, W_apply, List.append_nil]
  generalize hH_H1 : Heap.new _ _ = H1
  have hnH1 : H1.n = H.n + 1 := by rw [← hH_H1]; rfl
  have g0 := congrArg (fun h0 => Heap.get h0 (H.n)) hH_H1.symm
  simp (disch := omega) only [Heap.get_new, if_true] at g0
  have kH1 : Keep H.n H H1 := ⟨by omega, fun x hx _ => by
    have gx := congrArg (fun h0 => Heap.get h0 x) hH_H1.symm
    simp (disch := omega) only [Heap.get_new, cEqL, if_false] at gx
    exact gx⟩
  clear hH_H1
  refine of_sp (hx.keep kH1) hb (by omega) (fun i _ => good_all xs i) fun H2 vs k2 hT2 => ?_
  have hV := ofT_valid xs
  have hn2 := k2.1
  replace g0 := (k2.2 _ (by omega) (by omega)).trans g0
  simp (disch := omega) only [valC_v, opC_a, Fr.put, List.set, W_op, wantedI_n, guardC_t, evalAll, IA.eval, List.getD_cons_succ, List.getD_cons_zero, optC_s, argC_a, nextOf, lowOf, goC_a, opW, W_apply, List.nil_append, List.append_nil]
  refine bedsT_sp hT2.tab (fun l hl => by have := hV.four l hl; omega) (by omega) fun H4 f b k4 s4 => ?_
  have hn4 := k4.1
  replace g0 := (k4.2 _ (by omega) (by omega)).trans g0
  simp (disch := omega) only [bv, valC_v, opC_a, Fr.put, List.set, W_op, wantedI_n, guardC_t, evalAll, IA.eval, List.getD_cons_succ, List.getD_cons_zero, optC_s, argC_a, nextOf, lowOf, goC_a, opW, ev1, cellsV_agg, List.length_cons, List.length_nil, Nat.zero_add, Nat.reduceAdd, Heap.write, g0, Nat.le_refl, List.all_cons, SV.iv_one, List.all_nil, Bool.and_self, and_true, splice, if_true, Option.map_some, pairC_p, W_ops_nil, segC_n, W_segs_nil, thenC_n, W_ret, retC_r, unmark, leaveC_a, resultsOf, resultOf, Option.getD_some, read_put, readO_c, List.drop, List.take_succ_cons, List.take, Option.bind_some, mkAgg, valsC_a, tupled]
  exact fun hk => h _ f b hk ⟨(s4.1.put (by omega)).lower (by omega), (s4.2.1.put (by omega)).lower (by omega), s4.2.2⟩

theorem fill_len (m : Nat) : ∀ (l : List Id) (n : Nat), l.length + m ≤ 4 → (fillL l n m).1.length = l.length + m := by
  induction m with
  | zero => intro l n h; rfl
  | succ m ih =>
    intro l n h
    unfold fillL
    rw [if_pos (by omega), ih _ _ (by simp; omega)]
    simp; omega
/-- Two needles of a table. -/
theorem two_t (a c n m : Nat) (ha : a < 40) (hc : c < 40) (hn : n ≤ 4) (hm : m ≤ 4) : ((ofT [⟨a, n⟩, ⟨40 + c, m⟩]).1.getD a []).length = n ∧ ((ofT [⟨a, n⟩, ⟨40 + c, m⟩]).1.getD (40 + c) []).length = m := by
  have e1 : a % 80 = a := by omega
  have e2 : (40 + c) % 80 = 40 + c := by omega
  have e3 : n % 5 = n := by omega
  have e4 : m % 5 = m := by omega
  have r0 : ∀ i, (List.replicate 80 ([] : List Id)).getD i [] = [] := fun i => by
    rw [List.getD_eq_getElem?_getD, List.getElem?_replicate]; split <;> rfl
  have key : (ofT [⟨a, n⟩, ⟨40 + c, m⟩]).1 = ((List.replicate 80 ([] : List Id)).set a (fillL [] 0 n).1).set (40 + c) (fillL [] (fillL [] 0 n).2 m).1 := by
    show (ofStep (ofStep (List.replicate 80 [], 0) ⟨a, n⟩) ⟨40 + c, m⟩).1 = _
    simp only [ofStep]
    rw [e1, e2, e3, e4, r0, set_getD _ _ (by rw [List.length_replicate]; omega), if_neg (by omega), r0]
  have hl : (List.replicate 80 ([] : List Id)).length = 80 := List.length_replicate
  rw [key]
  constructor
  · rw [set_getD _ _ (by simp; omega), if_neg (by omega), set_getD _ _ (by simp; omega), if_pos rfl, fill_len _ _ _ (by simp; omega)]
    simp
  · rw [set_getD _ _ (by simp; omega), if_pos rfl, fill_len _ _ _ (by simp; omega)]
    simp
end Go.Iso.Gen
end

section
namespace Go.Iso.Gen
open Go.Iso
set_option maxHeartbeats 4000000
set_option maxRecDepth 10000

theorem stacksBack_run (m0 m1 a0 a1 : Nat) {H : Heap} (h1 : m0 ≤ 255) (h2 : m1 ≤ 255) (h3 : a0 ≤ 255) (h4 : a1 ≤ 255) : W E0 H.n (.call 7 [.agg [.int .u8 m0, .int .u8 m1], .agg [.int .u8 a0, .int .u8 a1]]) H (fun o _ => o = .val (.bool true)) := by
  rw [c7]
  obtain ⟨a, ha⟩ : ∃ a, a = a0 % 40 := ⟨_, rfl⟩
  obtain ⟨c, hc⟩ : ∃ c, c = a1 % 40 := ⟨_, rfl⟩
  obtain ⟨n, hn⟩ : ∃ n, n = m0 % 5 := ⟨_, rfl⟩
  obtain ⟨m, hm⟩ : ∃ m, m = m1 % 5 := ⟨_, rfl⟩
  have ea : (a0 : Int).tmod 40 = (a : Int) := by rw [tm40, ha]
  have ec : (a1 : Int).tmod 40 = (c : Int) := by rw [tm40, hc]
  have en : (m0 : Int).tmod 5 = (n : Int) := by rw [tm5, hn]
  have em : (m1 : Int).tmod 5 = (m : Int) := by rw [tm5, hm]
  have ha' : a < 40 := by omega
  have hc' : c < 40 := by omega
  have hn' : n ≤ 4 := by omega
  have hm' : m ≤ 4 := by omega
  clear ha hc hn hm
  simp (disch := omega) only [F7b, F7, List.length_cons, List.length_nil, Nat.zero_add, Nat.reduceAdd, Nat.reduceSub, undefs, List.cons_append, List.nil_append, W_seq, wF7o0, F7p0, W_segs_cons, freeI_s, W_op, wantedI_n, guardC_t, evalAll, IA.eval, List.getD_cons_zero, optC_s, argC_a, nextOf, lowOf, goC_a, opW, ev1, cellsV_agg, pairC_p, opC_a, Fr.put, List.set, List.getD_cons_succ, Heap.n_new, W_ops_nil, segC_n, W_segs_nil, thenC_n, wF7o1, F7p1, freeI_f, freeNext, fpOf, pairOk, ne_eq, List.all_nil, if_true, Option.map_some, Bool.false_eq_true, Nat.add_assoc, if_false, iLe, iLt, and_true, Int.reduceToNat, Nat.zero_mul, Nat.add_zero, Option.getD_none, List.all_cons, Bool.or_true, Bool.and_self, read_new, readO_c, cLe, List.drop, List.take_succ_cons, List.take, cEqR, mkAgg, Option.bind_some, binI, Int.reduceEq, ea, W_apply, List.append_nil]
  generalize hH_H1 : Heap.new _ _ = H1
  have hnH1 : H1.n = H.n + 2 := by rw [← hH_H1]; rfl
  have g0 := congrArg (fun h0 => Heap.get h0 (H.n)) hH_H1.symm
  simp (disch := omega) only [Heap.get_new, Heap.n_new, cEqL, if_true, if_false] at g0
  have g1 := congrArg (fun h0 => Heap.get h0 (H.n + 1)) hH_H1.symm
  simp (disch := omega) only [Heap.get_new, Heap.n_new, cEqR, if_false, if_true] at g1
  have kH1 : Keep H.n H H1 := ⟨by omega, fun x hx _ => by
    have gx := congrArg (fun h0 => Heap.get h0 x) hH_H1.symm
    simp (disch := omega) only [Heap.get_new, Heap.n_new, cEqL, if_false] at gx
    exact gx⟩
  clear hH_H1
  refine needle_sp a (by omega) (by omega) fun H2 k2 => ?_
  have hn2 := k2.1
  replace g0 := (k2.2 _ (by omega) (by omega)).trans g0
  replace g1 := (k2.2 _ (by omega) (by omega)).trans g1
  have r1 := read_get g1
  simp (disch := omega) only [valC_v, opC_a, Fr.put, List.set, W_op, wantedI_n, guardC_t, evalAll, IA.eval, List.getD_cons_succ, List.getD_cons_zero, optC_s, argC_a, nextOf, freeNext, fpOf, pairOk, ne_eq, List.all_cons, Bool.or_true, List.all_nil, Bool.and_self, if_true, Option.map_some, lowOf, Bool.false_eq_true, if_false, goC_a, opW, ev1, iLe, iLt, and_true, Int.reduceToNat, Nat.reduceMul, Nat.zero_add, pairC_p, Option.getD_none, r1, Nat.reduceAdd, List.length_cons, List.length_nil, Nat.le_refl, List.drop, List.take_succ_cons, List.take, mkAgg, Option.bind_some, binI, Int.reduceEq, ec, wU8, W_apply, List.nil_append, List.append_nil]
  have e40 : (40 : Int) + (c : Int) = ((40 + c : Nat) : Int) := by omega
  rw [e40]
  refine needle_sp (40 + c) (by omega) (by omega) fun H3 k3 => ?_
  have hn3 := k3.1
  replace g0 := (k3.2 _ (by omega) (by omega)).trans g0
  replace g1 := (k3.2 _ (by omega) (by omega)).trans g1
  have r0 := read_get g0
  replace r1 := read_get g1
  simp (disch := omega) only [valC_v, opC_a, Fr.put, List.set, W_op, wantedI_n, guardC_t, evalAll, optC_s, argC_a, nextOf, freeNext, fpOf, pairOk, ne_eq, List.all_cons, Bool.or_true, List.all_nil, Bool.and_self, if_true, Option.map_some, lowOf, Bool.false_eq_true, if_false, goC_a, opW, ev1, pairC_p, Heap.n_new, W_ops_nil, segC_n, W_segs_cons, freeI_s, IA.eval, List.getD_cons_succ, List.getD_cons_zero, cellsV_agg, List.length_cons, List.length_nil, Nat.zero_add, Nat.reduceAdd, Heap.write, Heap.get_new, cEqL, cLe, Nat.le_refl, oneV_int, and_true, splice, Heap.get_put, cEqR, W_segs_nil, thenC_n, W_seq, wF7o2, F7p2, iLe, iLt, Int.reduceToNat, Nat.zero_mul, Nat.add_zero, Option.getD_none, read_put, readO_c, List.drop, List.take_succ_cons, List.take, read_new, r1, mkAgg, Option.bind_some, binI, Int.reduceEq, ea, r0, en, fillI, cellsV_int, Nat.reduceMul, ec, e40, wU8, em, Heap.n_put, Nat.add_assoc]
  generalize hH_H4 : Heap.new _ _ = H4
  have hnH4 : H4.n = H3.n + 3 := by rw [← hH_H4]; rfl
  have gf := congrArg (fun h0 => Heap.get h0 (H3.n)) hH_H4.symm
  simp (disch := omega) only [Heap.get_new, Heap.n_put, Heap.n_new, Nat.add_assoc, Nat.reduceAdd, cEqL, Heap.get_put, if_true, if_false] at gf
  have gg := congrArg (fun h0 => Heap.get h0 (H3.n + 1)) hH_H4.symm
  simp (disch := omega) only [Heap.get_new, Heap.n_put, Heap.n_new, Nat.add_assoc, Nat.reduceAdd, cEqL, Heap.get_put, cEqR, if_false, if_true] at gg
  have gx := congrArg (fun h0 => Heap.get h0 (H3.n + 2)) hH_H4.symm
  simp (disch := omega) only [Heap.get_new, Heap.n_put, Heap.n_new, Nat.add_assoc, Nat.reduceAdd, Heap.get_put, cEqR, if_false, if_true] at gx
  have kH4 : Keep H3.n H3 H4 := ⟨by omega, fun x hx _ => by
    have gx := congrArg (fun h0 => Heap.get h0 x) hH_H4.symm
    simp (disch := omega) only [Heap.get_new, Heap.n_put, Heap.n_new, Nat.add_assoc, Nat.reduceAdd, cEqL, Heap.get_put, if_false] at gx
    exact gx⟩
  clear hH_H4
  replace g0 := (kH4.2 _ (by omega) (by omega)).trans g0
  replace g1 := (kH4.2 _ (by omega) (by omega)).trans g1
  clear r0 r1
  obtain ⟨xs, hxs⟩ : ∃ xs : List Pt, xs = [⟨a, n⟩, ⟨40 + c, m⟩] := ⟨_, rfl⟩
  have sx : Sl H4 (.sl (H3.n + 2) 0 2 2 true) xs := by
    have := (Own.mk' (l := xs) (b := H3.n + 2) (by omega) z_Pt gx (by rw [hxs]; rfl)).sl true
    rw [hxs] at this ⊢
    exact this
  have hxb : ∀ p ∈ xs, p.a ≤ 255 ∧ p.m ≤ 255 := fun p hp => by
    rw [hxs] at hp
    rcases List.mem_cons.1 hp with rfl | hp
    · exact ⟨by show a ≤ 255; omega, by show n ≤ 255; omega⟩
    · rw [List.mem_singleton] at hp
      subst hp
      exact ⟨by show 40 + c ≤ 255; omega, by show m ≤ 255; omega⟩
  simp (disch := omega) only [wF7o3, F7p3, W_segs_cons, freeI_s, W_op, wantedI_n, guardC_t, evalAll, IA.eval, List.getD_cons_succ, List.getD_cons_zero, optC_s, argC_a, nextOf, lowOf, goC_a, opW, ev1, pairC_p, opC_a, Fr.put, List.set, W_apply, List.nil_append, List.append_nil]
  rw [← SV.sl_iv]
  refine Of_sp sx hxb (by omega) fun H5 f b k5 s5 => ?_
  have hn5 := k5.1
  replace g0 := (k5.2 _ (by omega) (by omega)).trans g0
  replace g1 := (k5.2 _ (by omega) (by omega)).trans g1
  replace gf := (k5.2 _ (by omega) (by omega)).trans gf
  replace gg := (k5.2 _ (by omega) (by omega)).trans gg
  obtain ⟨hl1, hl2⟩ := two_t a c n m ha' hc' hn' hm'
  rw [← hxs] at hl1 hl2
  obtain ⟨t, ht⟩ : ∃ t, t = (ofT xs).1 := ⟨_, rfl⟩
  have hV : Valid t := by rw [ht]; exact ofT_valid xs
  rw [← ht] at hl1 hl2 s5
  clear ht sx hxs
  simp (disch := omega) only [SV.sl_iv, bv, valC_v, opC_a, Fr.put, List.set, W_op, wantedI_n, guardC_t, evalAll, optC_s, argC_a, nextOf, lowOf, goC_a, opW, ev1, pairC_p, IA.eval, List.getD_cons_succ, List.getD_cons_zero, cellsV_agg, List.length_cons, List.length_nil, Nat.zero_add, Nat.reduceAdd, Heap.write, Heap.get_new, if_true, cLe, Nat.le_refl, List.all_cons, SV.iv_one, List.all_nil, Bool.and_self, and_true, splice, Option.map_some, W_ops_nil, segC_n, W_segs_nil, thenC_n, W_seq]
  generalize hH_H6 : Heap.put _ _ _ = H6
  have hnH6 : H6.n = H5.n + 1 := by rw [← hH_H6]; rfl
  have gb := congrArg (fun h0 => Heap.get h0 (H5.n)) hH_H6.symm
  simp (disch := omega) only [Heap.get_put, Heap.get_new, if_true] at gb
  have kH6 : Keep H5.n H5 H6 := ⟨by omega, fun x hx _ => by
    have gx := congrArg (fun h0 => Heap.get h0 x) hH_H6.symm
    simp (disch := omega) only [Heap.get_put, cEqL, Heap.get_new, if_false] at gx
    exact gx⟩
  clear hH_H6
  replace g0 := (kH6.2 _ (by omega) (by omega)).trans g0
  replace g1 := (kH6.2 _ (by omega) (by omega)).trans g1
  replace gf := (kH6.2 _ (by omega) (by omega)).trans gf
  replace gg := (kH6.2 _ (by omega) (by omega)).trans gg
  have s6 := s5.keep kH6
  clear s5
  have r0 := read_get g0
  have rb := read_get gb
  have rf := read_get gf
  have rg := read_get gg
  simp (disch := omega) only [wF7o4, F7p4, W_segs_cons, freeI_f, W_op, wantedI_n, guardC_t, evalAll, IA.eval, List.getD_cons_succ, List.getD_cons_zero, optC_s, argC_a, nextOf, freeNext, fpOf, pairOk, ne_eq, List.all_nil, if_true, Option.map_some, lowOf, Bool.false_eq_true, if_false, goC_a, opW, ev1, iLe, iLt, and_true, Int.reduceToNat, Nat.zero_mul, Nat.add_zero, pairC_p, opC_a, Fr.put, List.set, Option.getD_none, List.all_cons, Bool.or_true, Bool.and_self, r0, Nat.zero_add, List.length_cons, List.length_nil, Nat.reduceAdd, cLe, List.drop, List.take_succ_cons, List.take, mkAgg, Option.bind_some, binI, Int.reduceEq, en, wI64, Nat.reduceMul, Nat.le_refl, em, W_ops_nil, segC_n, freeI_s, W_segs_nil, thenC_n, W_seq, wF7o5, F7p5, Option.getD_some, rb, rf, rg, W_apply, List.nil_append, List.append_nil]
  rw [show IV.agg [f.iv, b.iv] = bv f b from rfl]
  have hl6 : ∀ l ∈ t, l.length ≤ 1000000 := fun l hl => by have := hV.four l hl; omega
  have hlF := bedF_len t
  have hlB := bedB_len hV.len
  have h6F : ∀ l ∈ bedF t, l.length ≤ 1000000 := fun l hl => hl6 l (bedF_mem hl)
  have h6B : ∀ l ∈ bedB t, l.length ≤ 1000000 := fun l hl => hl6 l (bedB_mem hl)
  have na : needleE (nB a) (nA a) = 0 := needle_v a
  have nc : needleE (nB (40 + c)) (nA (40 + c)) = 0 := needle_v (40 + c)
  have ia : ix (nB a) (nA a) = a := ix_n a (by omega)
  have ic : ix (nB (40 + c)) (nA (40 + c)) = 40 + c := ix_n (40 + c) (by omega)
  have hbb : nB a ≠ nB (40 + c) := by unfold nB; omega
  have hE := joinE_eq hV (nB a) (nA a) (nB (40 + c)) (nA (40 + c))
  rw [if_neg (by simp [na, nc, hbb]), ia, ic, hl1, hl2] at hE
  obtain ⟨hF1, hB1⟩ := joinFB_eq hV na nc
  rw [ia, ic] at hF1 hB1
  -- what is in the way of omega
  generalize nB a = fb at *
  generalize nA a = fa at *
  generalize nB (40 + c) = gb' at *
  generalize nA (40 + c) = ga at *
  have hnE : ∀ z : Int, joinE (bedF t) (bedB t) fb fa gb' ga = z → z ≠ 0 → ∀ (Q' : Out → Heap → Prop), (∀ H7, Keep H6.n H6 H7 → Q' (.val (.tuple [bv .nil .nil, .int .i64 z])) H7) → W E0 H.n (.call 19 [bv f b, .agg [.int .u8 fb, .int .i64 fa], .agg [.int .u8 gb', .int .i64 ga]]) H6 Q' := fun z hz hz0 Q' hQ' => by
    refine join_sp fb fa gb' ga s6.1.sl2 s6.2.1.sl2 (by omega) (by omega) h6F h6B (by omega) (fun H7 k7 he => ?_) fun H7 f7 b7 k7 he s7 => absurd (hz.symm.trans he) hz0
    rw [hz]
    exact hQ' H7 k7
  by_cases c1 : n = 0
  · rw [if_pos c1] at hE
    refine hnE 13 hE (by omega) _ fun H7 k7 => ?_
    have hn7 := k7.1
    clear hE
    simp (disch := omega) only [bv, SV.nil_iv, valC_v, opC_a, Fr.put, List.set, W_op, wantedI_n, guardC_t, evalAll, IA.eval, List.getD_cons_succ, List.getD_cons_zero, optC_s, argC_a, nextOf, lowOf, goC_a, opW, ev1, pairC_p, List.getElem?_cons_zero, Option.map_some, List.getElem?_cons_succ, cellsV_agg, List.length_cons, List.length_nil, Nat.zero_add, Nat.reduceAdd, Heap.write, Heap.get_new, if_true, cLe, Nat.le_refl, List.all_cons, oneV_nilSlice, List.all_nil, Bool.and_self, and_true, splice, W_ops_nil, segC_n, W_segs_nil, thenC_n, W_seq, W_block, wF7o6, F7p6, W_segs_cons, freeI_s, binI, iBeq, W_cond, condC_t, wF7o7, F7p7, beq_self_eq_true, wantedI_s, wantV_b, W_apply, List.append_nil]
    refine c16 ?_
    simp (disch := omega) only [valC_v, opC_a, Fr.put, List.set, W_op, wantedI_n, guardC_t, evalAll, IA.eval, List.getD_cons_succ, List.getD_cons_zero, optC_s, argC_a, nextOf, lowOf, goC_a, opW, ev1, if_true, pairC_p, W_ops_nil, segC_n, W_segs_nil, thenC_n, W_ret, blkC_r, thenC_j, retC_r, unmark, leaveC_a, resultsOf, resultOf, valsC_a, tupled]
  rw [if_neg c1] at hE
  by_cases c2 : n + m > 4
  · rw [if_pos c2] at hE
    refine hnE 9 hE (by omega) _ fun H7 k7 => ?_
    have hn7 := k7.1
    clear hE
    simp (disch := omega) only [bv, SV.nil_iv, valC_v, opC_a, Fr.put, List.set, W_op, wantedI_n, guardC_t, evalAll, IA.eval, List.getD_cons_succ, List.getD_cons_zero, optC_s, argC_a, nextOf, lowOf, goC_a, opW, ev1, pairC_p, List.getElem?_cons_zero, Option.map_some, List.getElem?_cons_succ, cellsV_agg, List.length_cons, List.length_nil, Nat.zero_add, Nat.reduceAdd, Heap.write, Heap.get_new, if_true, cLe, Nat.le_refl, List.all_cons, oneV_nilSlice, List.all_nil, Bool.and_self, and_true, splice, W_ops_nil, segC_n, W_segs_nil, thenC_n, W_seq, W_block, wF7o6, F7p6, W_segs_cons, freeI_s, binI, iBeqF, W_cond, condC_f, wF7o8, F7p8, wI64, iLt, decide_true, condC_t, wF7o9, F7p9, beq_self_eq_true, wantedI_s, wantV_b, W_apply, List.append_nil]
    refine c16 ?_
    simp (disch := omega) only [valC_v, opC_a, Fr.put, List.set, W_op, wantedI_n, guardC_t, evalAll, IA.eval, List.getD_cons_succ, List.getD_cons_zero, optC_s, argC_a, nextOf, lowOf, goC_a, opW, ev1, if_true, pairC_p, W_ops_nil, segC_n, W_segs_nil, thenC_n, W_ret, blkC_r, thenC_j, retC_r, unmark, leaveC_a, resultsOf, resultOf, valsC_a, tupled]
  rw [if_neg c2] at hE
  refine join_sp fb fa gb' ga s6.1.sl2 s6.2.1.sl2 (by omega) (by omega) h6F h6B (by omega) (fun H7 k7 he => absurd hE he) fun H7 f7 b7 k7 he s7 => ?_
  rw [hF1, hB1] at s7
  have hn7 := k7.1
  replace gf := (k7.2 _ (by omega) (by omega)).trans gf
  replace gg := (k7.2 _ (by omega) (by omega)).trans gg
  replace gb := (k7.2 _ (by omega) (by omega)).trans gb
  replace s6 := s6.keep k7
  have hne : a ≠ 40 + c := by omega
  obtain ⟨u, hu⟩ : ∃ u, u = joinT t fb a (40 + c) := ⟨_, rfl⟩
  have hV2 : Valid u := by rw [hu]; exact joinT_valid hV fb (by omega) (by omega) hne (by omega)
  have htl := hV.len
  have ua : u.getD a [] = [] := by rw [hu, joinT_at fb (by omega) (by omega), if_neg (by omega), if_pos rfl]
  have uc : (u.getD (40 + c) []).length = n + m := by rw [hu, joinT_at fb (by omega) (by omega), if_pos rfl, joinL_len]; omega
  rw [← hu] at s7
  have hl6u : ∀ l ∈ u, l.length ≤ 1000000 := fun l hl => by have := hV2.four l hl; omega
  have hlFu := bedF_len u
  have hlBu := bedB_len hV2.len
  have h6Fu : ∀ l ∈ bedF u, l.length ≤ 1000000 := fun l hl => hl6u l (bedF_mem hl)
  have h6Bu : ∀ l ∈ bedB u, l.length ≤ 1000000 := fun l hl => hl6u l (bedB_mem hl)
  have cn : 0 < n := by omega
  have e1 := atL_eq u na
  rw [ia, ua] at e1
  have e2 := atL_eq u nc
  rw [ic] at e2
  have hE2 := joinE_eq hV2 gb' ga fb fa
  rw [if_neg (by simp [na, nc, Ne.symm hbb]), ia, ic, uc, ua, if_neg (by omega), if_neg (by rw [List.length_nil]; omega)] at hE2
  obtain ⟨hF2, hB2⟩ := joinFB_eq hV2 nc na
  rw [ia, ic] at hF2 hB2
  clear ic nc hbb c1 hE he k7 hnE hF1 hB1
  simp (disch := omega) only [bv, valC_v, opC_a, Fr.put, List.set, W_op, wantedI_n, guardC_t, evalAll, IA.eval, List.getD_cons_succ, List.getD_cons_zero, optC_s, argC_a, nextOf, lowOf, goC_a, opW, ev1, pairC_p, List.getElem?_cons_zero, Option.map_some, List.getElem?_cons_succ, cellsV_agg, List.length_cons, List.length_nil, Nat.zero_add, Nat.reduceAdd, Heap.write, Heap.get_new, if_true, cLe, Nat.le_refl, List.all_cons, SV.iv_one, List.all_nil, Bool.and_self, and_true, splice, W_ops_nil, segC_n, W_segs_nil, thenC_n, W_seq, W_block, wF7o6, F7p6, W_segs_cons, freeI_s, binI, iBeqF, W_cond, condC_f, wF7o8, F7p8, wI64, iLtF, decide_false, W_skip, blkC_n]
  generalize hH_H8 : Heap.put _ _ _ = H8
  have hnH8 : H8.n = H7.n + 1 := by rw [← hH_H8]; rfl
  have g8 := congrArg (fun h0 => Heap.get h0 (H7.n)) hH_H8.symm
  simp (disch := omega) only [Heap.get_put, Heap.get_new, if_true] at g8
  have kH8 : Keep H7.n H7 H8 := ⟨by omega, fun x hx _ => by
    have gx := congrArg (fun h0 => Heap.get h0 x) hH_H8.symm
    simp (disch := omega) only [Heap.get_put, cEqL, Heap.get_new, if_false] at gx
    exact gx⟩
  clear hH_H8
  replace gf := (kH8.2 _ (by omega) (by omega)).trans gf
  replace gg := (kH8.2 _ (by omega) (by omega)).trans gg
  replace gb := (kH8.2 _ (by omega) (by omega)).trans gb
  replace s6 := s6.keep kH8
  replace s7 := s7.keep kH8
  have r8 := read_get g8
  have rf := read_get gf
  simp (disch := omega) only [wF7o10, F7p10, W_segs_cons, freeI_s, W_op, wantedI_n, guardC_t, evalAll, IA.eval, List.getD_cons_succ, List.getD_cons_zero, optC_s, argC_a, nextOf, lowOf, goC_a, opW, ev1, pairC_p, opC_a, Fr.put, List.set, binI, bne_self_eq_false, if_true, Option.map_some, wantedI_s, wantV_b, beq_self_eq_true, Option.getD_some, r8, Nat.zero_add, List.length_cons, List.length_nil, Nat.reduceAdd, Nat.le_refl, List.drop, List.take_succ_cons, List.take, mkAgg, Option.bind_some, rf, W_apply, List.nil_append, List.append_nil]
  rw [show IV.agg [f7.iv, b7.iv] = bv f7 b7 from rfl]
  refine at_sp fb fa s7.1.sl2 s7.2.1.sl2 h6Fu h6Bu (by omega) fun H9 v9 k9 s9 => ?_
  rw [e1] at s9
  have hn9 := k9.1
  replace gf := (k9.2 _ (by omega) (by omega)).trans gf
  replace gg := (k9.2 _ (by omega) (by omega)).trans gg
  replace gb := (k9.2 _ (by omega) (by omega)).trans gb
  replace g8 := (k9.2 _ (by omega) (by omega)).trans g8
  replace s6 := s6.keep k9
  replace s7 := s7.keep k9
  clear k9 r8 rf
  have r8 := read_get g8
  have rg := read_get gg
  have l9 := s9.sl
  simp (disch := omega) only [valC_v, opC_a, Fr.put, List.set, W_op, wantedI_s, List.getD_cons_succ, List.getD_cons_zero, wantV_b, beq_self_eq_true, guardC_t, evalAll, IA.eval, optC_s, argC_a, nextOf, lowOf, goC_a, opW, ↓l9.ln, List.length_nil, pairC_p, ev1, binI, iBneF, if_true, Option.map_some, wantedI_n, Bool.false_eq_true, if_false, Option.getD_some, r8, Nat.zero_add, List.length_cons, Nat.reduceAdd, Nat.le_refl, List.drop, List.take_succ_cons, List.take, mkAgg, Option.bind_some, rg, W_apply, List.nil_append, List.append_nil]
  rw [show IV.agg [f7.iv, b7.iv] = bv f7 b7 from rfl]
  refine at_sp gb' ga s7.1.sl2 s7.2.1.sl2 h6Fu h6Bu (by omega) fun H10 v10 k10 s10 => ?_
  rw [e2] at s10
  have hn10 := k10.1
  replace gf := (k10.2 _ (by omega) (by omega)).trans gf
  replace gg := (k10.2 _ (by omega) (by omega)).trans gg
  replace gb := (k10.2 _ (by omega) (by omega)).trans gb
  replace g8 := (k10.2 _ (by omega) (by omega)).trans g8
  replace s6 := s6.keep k10
  replace s7 := s7.keep k10
  clear k10 r8 rg
  have r8 := read_get g8
  have rg := read_get gg
  have rf := read_get gf
  have l10 := s10.sl
  simp (disch := omega) only [valC_v, opC_a, Fr.put, List.set, W_op, wantedI_s, List.getD_cons_succ, List.getD_cons_zero, wantV_b, beq_self_eq_true, guardC_t, evalAll, IA.eval, optC_s, argC_a, nextOf, lowOf, goC_a, opW, ↓l10.ln, uc, pairC_p, ev1, binI, wI64, if_true, Option.map_some, iBneF, wantedI_n, Bool.false_eq_true, if_false, W_ops_nil, segC_n, W_segs_nil, thenC_n, W_cond, condC_f, W_skip, W_seq, wF7o12, F7p12, W_segs_cons, freeI_s, Option.getD_some, r8, Nat.zero_add, List.length_cons, List.length_nil, Nat.reduceAdd, Nat.le_refl, List.drop, List.take_succ_cons, List.take, mkAgg, Option.bind_some, rg, rf, W_apply, List.nil_append, List.append_nil]
  rw [show IV.agg [f7.iv, b7.iv] = bv f7 b7 from rfl]
  refine join_sp gb' ga fb fa s7.1.sl2 s7.2.1.sl2 (by omega) (by omega) h6Fu h6Bu (by omega) (fun H7 k7 he => absurd hE2 he) fun H11 f11 b11 k11 he s11 => ?_
  rw [hF2, hB2] at s11
  have hn11 := k11.1
  replace gf := (k11.2 _ (by omega) (by omega)).trans gf
  replace gb := (k11.2 _ (by omega) (by omega)).trans gb
  replace s6 := s6.keep k11
  obtain ⟨w, hw⟩ : ∃ w, w = joinT u gb' (40 + c) a := ⟨_, rfl⟩
  have hul := hV2.len
  have hV3 : Valid w := by rw [hw]; exact joinT_valid hV2 gb' (by omega) (by omega) (by omega) (by rw [uc, ua]; simp; omega)
  have wa : (w.getD a []).length = n + m := by rw [hw, joinT_at gb' (by omega) (by omega), if_pos rfl, joinL_len, uc, ua]; rfl
  have wc : w.getD (40 + c) [] = [] := by rw [hw, joinT_at gb' (by omega) (by omega), if_neg (by omega), if_pos rfl]
  rw [← hw] at s11
  have hl6w : ∀ l ∈ w, l.length ≤ 1000000 := fun l hl => by have := hV3.four l hl; omega
  have hlFw := bedF_len w
  have hlBw := bedB_len hV3.len
  have h6Fw : ∀ l ∈ bedF w, l.length ≤ 1000000 := fun l hl => hl6w l (bedF_mem hl)
  have h6Bw : ∀ l ∈ bedB w, l.length ≤ 1000000 := fun l hl => hl6w l (bedB_mem hl)
  have e3 := atL_eq w na
  rw [ia] at e3
  clear na ia
  have hS : decide (shortL (bedF w) = shortL (bedF t) ∧ shortL (bedB w) = shortL (bedB t)) = ((m : Int) == 0) := by
    by_cases hm0 : m = 0
    · have ht0 : t.getD (40 + c) [] = [] := List.length_eq_zero_iff.1 (by omega)
      have : w = t := by rw [hw, hu]; exact join_back fb gb' (by omega) (by omega) hne ht0
      rw [this, decide_eq_true ⟨rfl, rfl⟩, hm0]
      rfl
    · rw [decide_eq_false]
      · symm; simp; omega
      · rintro ⟨_, h⟩
        have := short_iff.1 h c
        unfold bedB at this
        rw [shortL_getD, shortL_getD, getD_drop, getD_drop, wc] at this
        rw [← this] at hl2
        exact hm0 hl2.symm
  simp (disch := omega) only [bv, valC_v, opC_a, Fr.put, List.set, W_op, wantedI_n, guardC_t, evalAll, IA.eval, List.getD_cons_succ, List.getD_cons_zero, optC_s, argC_a, nextOf, lowOf, goC_a, opW, ev1, pairC_p, List.getElem?_cons_zero, Option.map_some, List.getElem?_cons_succ, cellsV_agg, List.length_cons, List.length_nil, Nat.zero_add, Nat.reduceAdd, Heap.write, Heap.get_new, if_true, cLe, Nat.le_refl, List.all_cons, SV.iv_one, List.all_nil, Bool.and_self, and_true, splice, W_ops_nil, segC_n, W_segs_nil, thenC_n, W_seq]
  generalize hH_H12 : Heap.put _ _ _ = H12
  have hnH12 : H12.n = H11.n + 1 := by rw [← hH_H12]; rfl
  have g12 := congrArg (fun h0 => Heap.get h0 (H11.n)) hH_H12.symm
  simp (disch := omega) only [Heap.get_put, Heap.get_new, if_true] at g12
  have kH12 : Keep H11.n H11 H12 := ⟨by omega, fun x hx _ => by
    have gx := congrArg (fun h0 => Heap.get h0 x) hH_H12.symm
    simp (disch := omega) only [Heap.get_put, cEqL, Heap.get_new, if_false] at gx
    exact gx⟩
  clear hH_H12
  replace gf := (kH12.2 _ (by omega) (by omega)).trans gf
  replace gb := (kH12.2 _ (by omega) (by omega)).trans gb
  replace s6 := s6.keep kH12
  replace s11 := s11.keep kH12
  have r12 := read_get g12
  have rf := read_get gf
  simp (disch := omega) only [wF7o13, F7p13, W_segs_cons, freeI_s, W_op, wantedI_n, guardC_t, evalAll, IA.eval, List.getD_cons_succ, List.getD_cons_zero, optC_s, argC_a, nextOf, lowOf, goC_a, opW, ev1, pairC_p, opC_a, Fr.put, List.set, binI, beq_self_eq_true, if_true, Option.map_some, wantedI_s, wantV_b, Option.getD_some, r12, Nat.zero_add, List.length_cons, List.length_nil, Nat.reduceAdd, Nat.le_refl, List.drop, List.take_succ_cons, List.take, mkAgg, Option.bind_some, rf, W_apply, List.nil_append, List.append_nil]
  rw [show IV.agg [f11.iv, b11.iv] = bv f11 b11 from rfl]
  refine at_sp fb fa s11.1.sl2 s11.2.1.sl2 h6Fw h6Bw (by omega) fun H13 v13 k13 s13 => ?_
  rw [e3] at s13
  have hn13 := k13.1
  replace gb := (k13.2 _ (by omega) (by omega)).trans gb
  replace g12 := (k13.2 _ (by omega) (by omega)).trans g12
  replace s6 := s6.keep k13
  replace s11 := s11.keep k13
  clear k13 r12 rf
  have r12 := read_get g12
  have rb := read_get gb
  have l13 := s13.sl
  simp (disch := omega) only [valC_v, opC_a, Fr.put, List.set, W_op, wantedI_s, List.getD_cons_succ, List.getD_cons_zero, wantV_b, beq_self_eq_true, guardC_t, evalAll, IA.eval, optC_s, argC_a, nextOf, lowOf, goC_a, opW, ↓l13.ln, wa, pairC_p, ev1, binI, wI64, if_true, Option.map_some, iBeq, wantedI_n, Option.getD_some, r12, Nat.zero_add, List.length_cons, List.length_nil, Nat.reduceAdd, Nat.le_refl, List.drop, List.take_succ_cons, List.take, mkAgg, Option.bind_some, rb, W_apply, List.nil_append, List.append_nil]
  rw [show IV.agg [f11.iv, b11.iv] = bv f11 b11 from rfl, show IV.agg [f.iv, b.iv] = bv f b from rfl]
  refine Same_sp s11.1.sl2 s11.2.1.sl2 s6.1.sl2 s6.2.1.sl2 (Cut.tight s11.2.2.1) (Cut.tight s11.2.2.2) (Cut.tight s6.2.2.1) (Cut.tight s6.2.2.2) ⟨by omega, h6Fw⟩ ⟨by omega, h6Bw⟩ ⟨by omega, h6F⟩ ⟨by omega, h6B⟩ (by omega) fun H14 k14 => ?_
  rw [hS]
  simp (disch := omega) only [valC_v, opC_a, Fr.put, List.set, W_op, wantedI_s, List.getD_cons_succ, List.getD_cons_zero, wantV_b, beq_self_eq_true, guardC_t, evalAll, IA.eval, optC_s, argC_a, nextOf, lowOf, goC_a, opW, ev1, pairC_p, binI, if_true, Option.map_some, Bool.false_bne, wantedI_n, W_apply, List.append_nil]
  refine c16 ?_
  simp (disch := omega) only [valC_v, opC_a, Fr.put, List.set, W_op, wantedI_n, guardC_t, evalAll, IA.eval, List.getD_cons_succ, List.getD_cons_zero, optC_s, argC_a, nextOf, lowOf, goC_a, opW, ev1, if_true, pairC_p, W_ops_nil, segC_n, W_segs_nil, thenC_n, W_ret, retC_r, unmark, leaveC_a, resultsOf, resultOf, valsC_a, tupled]
end Go.Iso.Gen
end

section
namespace Go.Iso.Gen
open Go.Iso Go.Proofs
set_option maxRecDepth 100000
set_option maxHeartbeats 4000000

theorem rd_u8 {H : Heap} {c : List IV} {d : PD} (h : Rd H (.int .u8) c d) : ∃ x : Nat, c = [.int .u8 (x : Int)] ∧ x ≤ 255 := by
  cases h with
  | int k x hx =>
    have e1 : IntKind.u8.min = 0 := rfl
    have e2 : IntKind.u8.max = 255 := rfl
    rw [e1, e2] at hx
    exact ⟨x.toNat, by rw [Int.toNat_of_nonneg hx.1], by omega⟩
theorem rd_two {H : Heap} {c : List IV} {d : PD} (h : Rd H (.arr 2 (.int .u8)) c d) : ∃ x y : Nat, c = [.int .u8 (x : Int), .int .u8 (y : Int)] ∧ x ≤ 255 ∧ y ≤ 255 := by
  cases h with
  | arr n e css l he =>
    cases he with
    | cons h1 he =>
      cases he with
      | cons h2 he =>
        cases he
        obtain ⟨x, rfl, hx⟩ := rd_u8 h1
        obtain ⟨y, rfl, hy⟩ := rd_u8 h2
        exact ⟨x, y, rfl, hx, hy⟩

theorem params7 : Try.f7.params.toList.mapM (tyOf Try.prog 8) = some [.arr 2 (.int .u8), .arr 2 (.int .u8)] := by kernel_rfl
theorem types7 : typesOk Try.prog Try.f7 = true := by kernel_rfl

theorem back_lifted (os : Os) (started : os.Started) (T : Type) (enc : TypeId × Value → T) :
    ReturnsInHanded {} Try.checked os 7 .any (Ythccekocaliohaa.Rows.stacksBackSpec.pre6 enc Try.prog Try.f7 [] false) (Ythccekocaliohaa.Rows.stacksBackSpec.post enc Try.prog Try.f7 false true false false) := by
  refine returnsInHanded_of_change (C := Try.checked) own_knob started (by kernel_rfl) Try.func7
    (ChangeSpec.witness6 (enc := enc) (C := Try.checked) false ⟨#[], #[.agg #[.int .u8 0, .int .u8 0], .agg #[.int .u8 0, .int .u8 0]], []⟩ 8 (by kernel_rfl) (by kernel_rfl) (by kernel_rfl) (by kernel_rfl)) ?_
  intro W base args ds gs before hval hW _ _
  refine law_calls (P := Try.prog) (tb := 4) (s := Ythccekocaliohaa.Rows.stacksBackSpec) env0 rfl params7 (by kernel_rfl) (by kernel_rfl) types7 rfl ?_ (fun _ => True) ?_ W base args ds gs before hval hW trivial
  · intro T ds hd
    match ds, hd with
    | [a, b], _ => rfl
  · intro H css ds hro hrd _
    cases hrd with
    | cons h1 hrd =>
      cases hrd with
      | cons h2 hrd =>
        cases hrd
        obtain ⟨m0, m1, rfl, hm0, hm1⟩ := rd_two h1
        obtain ⟨a0, a1, rfl, ha0, ha1⟩ := rd_two h2
        obtain ⟨n, o, H', h, rfl⟩ := stacksBack_run (H := H) m0 m1 a0 a1 hm0 hm1 ha0 ha1
        exact ⟨n, H', h⟩

theorem back_holds : Ythccekocaliohaa.Rows.StacksBackSaid :=
  OpenClaim.holds_of_wide 7 Try.f7 rfl rfl rfl rfl rfl rfl rfl ⟨rfl, rfl, rfl, rfl, rfl⟩ rfl rfl rfl rfl rfl (by kernel_rfl) Try.func7 (by kernel_rfl)
    (of_decide_eq_true (by kernel_rfl)) (by unfold Func.isWrapper; first | (rw [if_pos (by decide +kernel)]; kernel_rfl) | (rw [if_neg (by decide +kernel)]; exact ⟨rfl, rfl⟩))
    (fun os started H enc _ => back_lifted os started H enc)
end Go.Iso.Gen

namespace Go.Proofs.Ythccekocaliohaa
theorem stacksBack_holds : Rows.StacksBackSaid := Go.Iso.Gen.back_holds
end Go.Proofs.Ythccekocaliohaa
end
