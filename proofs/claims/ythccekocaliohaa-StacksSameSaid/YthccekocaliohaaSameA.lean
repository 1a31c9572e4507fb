/-
  what the parts of StacksSame give.
-/
import Derived.Test.YthccekocaliohaaFnB
set_option linter.unusedSimpArgs false
set_option linter.unusedVariables false

section
namespace Go.Iso.Gen
open Go.Iso
set_option maxHeartbeats 4000000
set_option maxRecDepth 10000

/-- Plain laws of Join on tables. -/
def joinL (fb : Int) (a b : List Id) : List Id := if fb = 1 then a ++ b else b ++ a
def joinT (t : List (List Id)) (fb : Int) (i k : Nat) : List (List Id) := (t.set i []).set k (joinL fb (t.getD i []) (t.getD k []))
theorem ix_ne {fb fa tb ta : Int} (hf : needleE fb fa = 0) (ht : needleE tb ta = 0) (hb : fb ≠ tb) : ix fb fa ≠ ix tb ta := by
  intro e
  have h1 := n_ix hf
  have h2 := n_ix ht
  rw [e] at h1
  exact hb (h1.1.symm.trans h2.1)
theorem joinE_eq {t : List (List Id)} (hV : Valid t) (fb fa tb ta : Int) : joinE (bedF t) (bedB t) fb fa tb ta =
    if needleE fb fa ≠ 0 ∨ needleE tb ta ≠ 0 ∨ fb = tb then 1 else if (t.getD (ix fb fa) []).length = 0 then 13 else if (t.getD (ix fb fa) []).length + (t.getD (ix tb ta) []).length > 4 then 9 else 0 := by
  unfold joinE
  rw [if_neg (by rw [hV.check]; simp)]
  by_cases h : needleE fb fa ≠ 0 ∨ needleE tb ta ≠ 0 ∨ fb = tb
  · rw [if_pos h, if_pos h]
  · rw [if_neg h, if_neg h]
    rw [not_or, not_or, Classical.not_not, Classical.not_not] at h
    rw [atL_eq t h.1, atL_eq t h.2.1]
theorem joinS_eq {t : List (List Id)} {fb fa tb ta : Int} (hf : needleE fb fa = 0) (ht : needleE tb ta = 0) : joinS (bedF t) (bedB t) fb fa tb ta = joinL fb (t.getD (ix fb fa) []) (t.getD (ix tb ta) []) := by
  unfold joinS joinL
  rw [atL_eq t hf, atL_eq t ht]
theorem joinFB_eq {t : List (List Id)} (hV : Valid t) {fb fa tb ta : Int} (hf : needleE fb fa = 0) (ht : needleE tb ta = 0) :
    joinF (bedF t) (bedB t) fb fa tb ta = bedF (joinT t fb (ix fb fa) (ix tb ta)) ∧ joinB (bedF t) (bedB t) fb fa tb ta = bedB (joinT t fb (ix fb fa) (ix tb ta)) := by
  unfold joinF joinB joinT
  have h1 := place_eq hV.len hf []
  rw [h1.1, h1.2, joinS_eq hf ht]
  exact place_eq (by rw [List.length_set]; exact hV.len) ht _
theorem set_split {t : List (List Id)} {i : Nat} (hi : i < t.length) (l : List Id) : (t.set i l).flatten.Perm (l ++ (t.set i []).flatten) := by
  have := perm_set_flatten (t := t.set i []) (i := i) (by rw [List.length_set]; exact hi) l
  rw [List.getElem_set_self, List.nil_append, List.set_set] at this
  exact this.trans List.perm_append_comm
theorem flat_split {t : List (List Id)} {i : Nat} (hi : i < t.length) : t.flatten.Perm (t.getD i [] ++ (t.set i []).flatten) := by
  have := set_split hi (t.getD i [])
  rw [getD_in hi, List.set_getElem_self] at this
  rw [getD_in hi]
  exact this
theorem joinL_perm (fb : Int) (a b : List Id) : (joinL fb a b).Perm (a ++ b) := by
  unfold joinL
  split
  · exact .refl _
  · exact List.perm_append_comm
theorem joinL_len (fb : Int) (a b : List Id) : (joinL fb a b).length = a.length + b.length := by rw [(joinL_perm fb a b).length_eq, List.length_append]
theorem joinT_perm {t : List (List Id)} {i k : Nat} (fb : Int) (hi : i < t.length) (hk : k < t.length) (hik : i ≠ k) : (joinT t fb i k).flatten.Perm t.flatten := by
  unfold joinT
  have h1 := set_split (t := t.set i []) (i := k) (by rw [List.length_set]; exact hk) (joinL fb (t.getD i []) (t.getD k []))
  have h2 := flat_split hi
  have h3 := flat_split (t := t.set i []) (i := k) (by rw [List.length_set]; exact hk)
  rw [set_getD t i hi, if_neg hik] at h3
  refine h1.trans ?_
  refine (List.Perm.append_right _ (joinL_perm _ _ _)).trans ?_
  rw [List.append_assoc]
  refine .trans ?_ h2.symm
  exact List.Perm.append_left _ h3.symm
theorem joinT_len (t : List (List Id)) (fb : Int) (i k : Nat) : (joinT t fb i k).length = t.length := by unfold joinT; rw [List.length_set, List.length_set]
theorem joinT_valid {t : List (List Id)} (hV : Valid t) {i k : Nat} (fb : Int) (hi : i < 80) (hk : k < 80) (hik : i ≠ k) (h4 : (t.getD i []).length + (t.getD k []).length ≤ 4) : Valid (joinT t fb i k) := by
  have hp := joinT_perm fb (by rw [hV.len]; exact hi) (by rw [hV.len]; exact hk) hik
  refine ⟨by rw [joinT_len, hV.len], fun l hl => ?_, fun a ha => hV.named a ((hp.mem_iff).1 ha), (hp.nodup_iff).2 hV.nd⟩
  unfold joinT at hl
  rcases List.mem_or_eq_of_mem_set hl with hl | rfl
  · rcases List.mem_or_eq_of_mem_set hl with hl | rfl
    · exact hV.four l hl
    · simp
  · rw [joinL_len]; exact h4
theorem joinT_at {t : List (List Id)} {i k : Nat} (fb : Int) (hi : i < t.length) (hk : k < t.length) (j : Nat) : (joinT t fb i k).getD j [] = if k = j then joinL fb (t.getD i []) (t.getD k []) else if i = j then [] else t.getD j [] := by
  unfold joinT
  rw [set_getD _ _ (by rw [List.length_set]; exact hk), set_getD _ _ hi]
theorem tab_ext {t u : List (List Id)} (h : t.length = u.length) (hg : ∀ j, t.getD j [] = u.getD j []) : t = u := by
  refine List.ext_getElem h fun j h1 h2 => ?_
  have := hg j
  rwa [getD_in h1, getD_in h2] at this
/-- Joined and back again. -/
theorem join_back {t : List (List Id)} {i k : Nat} (fb tb : Int) (hi : i < t.length) (hk : k < t.length) (hik : i ≠ k) (h0 : t.getD k [] = []) : joinT (joinT t fb i k) tb k i = t := by
  refine tab_ext (by rw [joinT_len, joinT_len]) fun j => ?_
  rw [joinT_at _ (by rw [joinT_len]; exact hk) (by rw [joinT_len]; exact hi), joinT_at _ hi hk, joinT_at _ hi hk, joinT_at _ hi hk, if_pos rfl, if_neg (Ne.symm hik), if_pos rfl, h0]
  have e1 : joinL fb (t.getD i []) [] = t.getD i [] := by unfold joinL; split <;> simp
  have e2 : joinL tb (t.getD i []) [] = t.getD i [] := by unfold joinL; split <;> simp
  rw [e1, e2]
  by_cases h1 : i = j
  · subst h1; rw [if_pos rfl]
  · rw [if_neg h1]
    by_cases h2 : k = j
    · subst h2; rw [if_pos rfl, h0]
    · rw [if_neg h2, if_neg h2, if_neg h1]
/-- Which needle of a table a needle is, among the first j. -/
def seek (b a : Int) (j : Nat) : Int := if needleE b a = 0 ∧ ix b a < j then ix b a else -1
theorem seek_zero (b a : Int) : seek b a 0 = -1 := by unfold seek; rw [if_neg (by omega)]
theorem seek_eq {b a : Int} {j : Nat} (hj : j < 80) (h : nB j = b ∧ nA j = a) : seek b a (j + 1) = j := by
  obtain ⟨rfl, rfl⟩ := h
  unfold seek
  rw [if_pos ⟨needle_v j, by rw [ix_n j hj]; omega⟩, ix_n j hj]
theorem seek_ne {b a : Int} {j : Nat} (h : ¬ (nB j = b ∧ nA j = a)) : seek b a (j + 1) = seek b a j := by
  unfold seek
  by_cases hv : needleE b a = 0
  · have := n_ix hv
    have hne : ix b a ≠ j := fun e => h (by rw [← e]; exact ⟨this.1, this.2.1⟩)
    by_cases hl : ix b a < j
    · rw [if_pos ⟨hv, by omega⟩, if_pos ⟨hv, hl⟩]
    · rw [if_neg (by omega), if_neg (by omega)]
  · rw [if_neg (fun h => hv h.1), if_neg (fun h => hv h.1)]
theorem seek_v {b a : Int} (h : needleE b a = 0) : seek b a 80 = ix b a := by unfold seek; rw [if_pos ⟨h, (n_ix h).2.2⟩]
theorem seek_n {b a : Int} (h : needleE b a ≠ 0) : seek b a 80 = -1 := by unfold seek; rw [if_neg fun h' => h h'.1]
theorem seek_lt (b a : Int) (j : Nat) : -1 ≤ seek b a j ∧ seek b a j ≤ 80 := by
  unfold seek
  split
  · rename_i h; have := (n_ix h.1).2.2; omega
  · omega
end Go.Iso.Gen
end

section
namespace Go.Iso.Gen
open Go.Iso
set_option maxHeartbeats 4000000
set_option maxRecDepth 10000

theorem nd_t {a b c d : Int} (h : a = c ∧ b = d) : ((a == c) && (b == d)) = true := by simp [h.1, h.2]
theorem nd_f {a b c d : Int} (h : ¬ (a = c ∧ b = d)) : ((a == c) && (b == d)) = false := by
  rw [Bool.and_eq_false_iff]
  by_cases h1 : a = c
  · right; simp; exact fun e => h ⟨h1, e⟩
  · left; simpa using h1

theorem expl163 (tm : List IV) (h : tm.length = 163) : tm = [tm.getD 0 IV.undef, tm.getD 1 IV.undef, tm.getD 2 IV.undef, tm.getD 3 IV.undef, tm.getD 4 IV.undef, tm.getD 5 IV.undef, tm.getD 6 IV.undef, tm.getD 7 IV.undef, tm.getD 8 IV.undef, tm.getD 9 IV.undef, tm.getD 10 IV.undef, tm.getD 11 IV.undef, tm.getD 12 IV.undef, tm.getD 13 IV.undef, tm.getD 14 IV.undef, tm.getD 15 IV.undef, tm.getD 16 IV.undef, tm.getD 17 IV.undef, tm.getD 18 IV.undef, tm.getD 19 IV.undef, tm.getD 20 IV.undef, tm.getD 21 IV.undef, tm.getD 22 IV.undef, tm.getD 23 IV.undef, tm.getD 24 IV.undef, tm.getD 25 IV.undef, tm.getD 26 IV.undef, tm.getD 27 IV.undef, tm.getD 28 IV.undef, tm.getD 29 IV.undef, tm.getD 30 IV.undef, tm.getD 31 IV.undef, tm.getD 32 IV.undef, tm.getD 33 IV.undef, tm.getD 34 IV.undef, tm.getD 35 IV.undef, tm.getD 36 IV.undef, tm.getD 37 IV.undef, tm.getD 38 IV.undef, tm.getD 39 IV.undef, tm.getD 40 IV.undef, tm.getD 41 IV.undef, tm.getD 42 IV.undef, tm.getD 43 IV.undef, tm.getD 44 IV.undef, tm.getD 45 IV.undef, tm.getD 46 IV.undef, tm.getD 47 IV.undef, tm.getD 48 IV.undef, tm.getD 49 IV.undef, tm.getD 50 IV.undef, tm.getD 51 IV.undef, tm.getD 52 IV.undef, tm.getD 53 IV.undef, tm.getD 54 IV.undef, tm.getD 55 IV.undef, tm.getD 56 IV.undef, tm.getD 57 IV.undef, tm.getD 58 IV.undef, tm.getD 59 IV.undef, tm.getD 60 IV.undef, tm.getD 61 IV.undef, tm.getD 62 IV.undef, tm.getD 63 IV.undef, tm.getD 64 IV.undef, tm.getD 65 IV.undef, tm.getD 66 IV.undef, tm.getD 67 IV.undef, tm.getD 68 IV.undef, tm.getD 69 IV.undef, tm.getD 70 IV.undef, tm.getD 71 IV.undef, tm.getD 72 IV.undef, tm.getD 73 IV.undef, tm.getD 74 IV.undef, tm.getD 75 IV.undef, tm.getD 76 IV.undef, tm.getD 77 IV.undef, tm.getD 78 IV.undef, tm.getD 79 IV.undef, tm.getD 80 IV.undef, tm.getD 81 IV.undef, tm.getD 82 IV.undef, tm.getD 83 IV.undef, tm.getD 84 IV.undef, tm.getD 85 IV.undef, tm.getD 86 IV.undef, tm.getD 87 IV.undef, tm.getD 88 IV.undef, tm.getD 89 IV.undef, tm.getD 90 IV.undef, tm.getD 91 IV.undef, tm.getD 92 IV.undef, tm.getD 93 IV.undef, tm.getD 94 IV.undef, tm.getD 95 IV.undef, tm.getD 96 IV.undef, tm.getD 97 IV.undef, tm.getD 98 IV.undef, tm.getD 99 IV.undef, tm.getD 100 IV.undef, tm.getD 101 IV.undef, tm.getD 102 IV.undef, tm.getD 103 IV.undef, tm.getD 104 IV.undef, tm.getD 105 IV.undef, tm.getD 106 IV.undef, tm.getD 107 IV.undef, tm.getD 108 IV.undef, tm.getD 109 IV.undef, tm.getD 110 IV.undef, tm.getD 111 IV.undef, tm.getD 112 IV.undef, tm.getD 113 IV.undef, tm.getD 114 IV.undef, tm.getD 115 IV.undef, tm.getD 116 IV.undef, tm.getD 117 IV.undef, tm.getD 118 IV.undef, tm.getD 119 IV.undef, tm.getD 120 IV.undef, tm.getD 121 IV.undef, tm.getD 122 IV.undef, tm.getD 123 IV.undef, tm.getD 124 IV.undef, tm.getD 125 IV.undef, tm.getD 126 IV.undef, tm.getD 127 IV.undef, tm.getD 128 IV.undef, tm.getD 129 IV.undef, tm.getD 130 IV.undef, tm.getD 131 IV.undef, tm.getD 132 IV.undef, tm.getD 133 IV.undef, tm.getD 134 IV.undef, tm.getD 135 IV.undef, tm.getD 136 IV.undef, tm.getD 137 IV.undef, tm.getD 138 IV.undef, tm.getD 139 IV.undef, tm.getD 140 IV.undef, tm.getD 141 IV.undef, tm.getD 142 IV.undef, tm.getD 143 IV.undef, tm.getD 144 IV.undef, tm.getD 145 IV.undef, tm.getD 146 IV.undef, tm.getD 147 IV.undef, tm.getD 148 IV.undef, tm.getD 149 IV.undef, tm.getD 150 IV.undef, tm.getD 151 IV.undef, tm.getD 152 IV.undef, tm.getD 153 IV.undef, tm.getD 154 IV.undef, tm.getD 155 IV.undef, tm.getD 156 IV.undef, tm.getD 157 IV.undef, tm.getD 158 IV.undef, tm.getD 159 IV.undef, tm.getD 160 IV.undef, tm.getD 161 IV.undef, tm.getD 162 IV.undef] := (expl tm 163 h).trans rfl
theorem join_seek {fb fa tb ta : Int} {p q lo : Nat} {H0 : Heap} {Q : Out → Heap → Prop} {tm : List IV} {y7 y8 y9 y10 : IV} (hlo : lo ≤ H0.n) (gp : H0.get p = some (.cells false 26 2 [.int .u8 fb, .int .i64 fa])) (gq : H0.get q = some (.cells false 26 2 [.int .u8 tb, .int .i64 ta])) (hp : p < H0.n) (hq : q < H0.n)
    (htm : tm.length = 163) (t4 : tm.getD 4 IV.undef = .ptr p 0) (t5 : tm.getD 5 IV.undef = .ptr q 0) (t7 : tm.getD 7 IV.undef = y7) (t8 : tm.getD 8 IV.undef = y8) (t9 : tm.getD 9 IV.undef = y9) (t10 : tm.getD 10 IV.undef = y10) (t11 : tm.getD 11 IV.undef = .int .i64 (-1)) (t12 : tm.getD 12 IV.undef = .int .i64 (-1)) (t13 : tm.getD 13 IV.undef = .int .i64 0)
    (hQ : ∀ H' tm', Keep H0.n H0 H' → tm'.length = 163 → tm'.getD 4 IV.undef = .ptr p 0 → tm'.getD 5 IV.undef = .ptr q 0 → tm'.getD 7 IV.undef = y7 → tm'.getD 8 IV.undef = y8 → tm'.getD 9 IV.undef = y9 → tm'.getD 10 IV.undef = y10 → tm'.getD 11 IV.undef = .int .i64 (seek fb fa 80) → tm'.getD 12 IV.undef = .int .i64 (seek tb ta 80) → Q (.ex (.jmp (.exit 0)) ⟨tm', []⟩) H') : W E0 lo (.code (.loop F5l12) none ⟨tm, []⟩) H0 Q := by
  refine W_inv (fun k fr H' => ∃ j, j + k = 80 ∧ Keep H0.n H0 H' ∧ fr.marks = [] ∧ fr.tm.length = 163 ∧ fr.tm.getD 4 IV.undef = .ptr p 0 ∧ fr.tm.getD 5 IV.undef = .ptr q 0 ∧ fr.tm.getD 7 IV.undef = y7 ∧ fr.tm.getD 8 IV.undef = y8 ∧ fr.tm.getD 9 IV.undef = y9 ∧ fr.tm.getD 10 IV.undef = y10 ∧ fr.tm.getD 11 IV.undef = .int .i64 (seek fb fa j) ∧ fr.tm.getD 12 IV.undef = .int .i64 (seek tb ta j) ∧ fr.tm.getD 13 IV.undef = .int .i64 j) ?_ 80 ⟨0, rfl, Keep.refl _ _, rfl, htm, t4, t5, t7, t8, t9, t10, by rw [seek_zero]; exact t11, by rw [seek_zero]; exact t12, t13⟩
  clear htm t4 t5 t7 t8 t9 t10 t11 t12 t13
  rintro k ⟨tm, mk⟩ H' ⟨j, hjk, hk, rfl, htm, t4, t5, t7, t8, t9, t10, t11, t12, t13⟩ L hN hJ
  rw [expl163 tm htm, t4, t5, t7, t8, t9, t10, t11, t12, t13]
  have hn := hk.1
  by_cases hj : j < 80
  · simp (disch := omega) only [F5l12, W_seq, wF5o6, F5p6, W_segs_cons, freeI_s, W_op, wantedI_n, guardC_t, evalAll, IA.eval, List.getD_cons_succ, List.getD_cons_zero, optC_s, argC_a, nextOf, lowOf, goC_a, opW, ev1, pairC_p, opC_a, Fr.put, List.set, binI, iLt, decide_true, if_true, Option.map_some, W_ops_nil, segC_n, W_segs_nil, thenC_n, W_cond, condC_t, W_skip, W_block, wF5o7, F5p7, freeI_f, freeNext, fpOf, pairOk, ne_eq, List.all_nil, Bool.false_eq_true, if_false, List.all_cons, Bool.or_true, Bool.and_self, wU8, W_apply, List.nil_append, List.append_nil]
    refine needle_sp j (by omega) (by omega) fun H2 k2 => ?_
    have hn2 := k2.1
    have kk2 := hk.trans (k2.lower hn)
    have r1 := read_get ((kk2.2 p (by omega) (by omega)).trans gp)
    by_cases h1 : nB j = fb ∧ nA j = fa
    · have e1 := nd_t h1
      simp (disch := omega) only [valC_v, opC_a, Fr.put, List.set, W_op, wantedI_n, guardC_t, evalAll, IA.eval, List.getD_cons_succ, List.getD_cons_zero, optC_s, argC_a, nextOf, freeNext, fpOf, Option.getD_some, pairOk, ne_eq, List.all_cons, Bool.or_true, List.all_nil, Bool.and_self, if_true, Option.map_some, lowOf, Bool.false_eq_true, if_false, goC_a, opW, ev1, r1, Nat.zero_add, List.length_cons, List.length_nil, Nat.reduceAdd, Nat.le_refl, List.drop, List.take_succ_cons, List.take, mkAgg, Option.bind_some, pairC_p, W_ops_nil, segC_n, W_segs_cons, freeI_s, Bool.false_bne, eqKs, eqK, iBeq, W_segs_nil, thenC_n, W_cond, condC_t, wF5o8, F5p8, W_seq, wF5o9, F5p9, freeI_f, wU8, W_apply, List.nil_append, List.append_nil]
      refine needle_sp j (by omega) (by omega) fun H3 k3 => ?_
      have hn3 := k3.1
      have kk3 := kk2.trans (k3.lower (by omega))
      have r2 := read_get ((kk3.2 q (by omega) (by omega)).trans gq)
      by_cases h2 : nB j = tb ∧ nA j = ta
      · have e2 := nd_t h2
        simp (disch := omega) only [valC_v, opC_a, Fr.put, List.set, W_op, wantedI_n, guardC_t, evalAll, IA.eval, List.getD_cons_succ, List.getD_cons_zero, optC_s, argC_a, nextOf, freeNext, fpOf, Option.getD_some, pairOk, ne_eq, List.all_cons, Bool.or_true, List.all_nil, Bool.and_self, if_true, Option.map_some, lowOf, Bool.false_eq_true, if_false, goC_a, opW, ev1, r2, Nat.zero_add, List.length_cons, List.length_nil, Nat.reduceAdd, Nat.le_refl, List.drop, List.take_succ_cons, List.take, mkAgg, Option.bind_some, pairC_p, W_ops_nil, segC_n, W_segs_cons, freeI_s, Bool.false_bne, eqKs, eqK, iBeq, W_segs_nil, thenC_n, W_cond, condC_t, wF5o10, F5p10, blkC_n, wF5o11, F5p11, binI, wI64]
        exact hN (k - 1) _ _ (by omega) ⟨j + 1, by omega, kk3, rfl, rfl, rfl, rfl, rfl, rfl, rfl, rfl, by rw [seek_eq hj h1]; rfl, by rw [seek_eq hj h2]; rfl, rfl⟩
      · have e2 := nd_f h2
        simp (disch := omega) only [valC_v, opC_a, Fr.put, List.set, W_op, wantedI_n, guardC_t, evalAll, IA.eval, List.getD_cons_succ, List.getD_cons_zero, optC_s, argC_a, nextOf, freeNext, fpOf, Option.getD_some, pairOk, ne_eq, List.all_cons, Bool.or_true, List.all_nil, Bool.and_self, if_true, Option.map_some, lowOf, Bool.false_eq_true, if_false, goC_a, opW, ev1, r2, Nat.zero_add, List.length_cons, List.length_nil, Nat.reduceAdd, Nat.le_refl, List.drop, List.take_succ_cons, List.take, mkAgg, Option.bind_some, pairC_p, W_ops_nil, segC_n, W_segs_cons, freeI_s, Bool.false_bne, eqKs, eqK, Bool.and_true, e2, W_segs_nil, thenC_n, W_cond, condC_f, W_skip, blkC_n, wF5o11, F5p11, binI, wI64]
        exact hN (k - 1) _ _ (by omega) ⟨j + 1, by omega, kk3, rfl, rfl, rfl, rfl, rfl, rfl, rfl, rfl, by rw [seek_eq hj h1]; rfl, by rw [seek_ne h2]; rfl, rfl⟩
    · have e1 := nd_f h1
      simp (disch := omega) only [valC_v, opC_a, Fr.put, List.set, W_op, wantedI_n, guardC_t, evalAll, IA.eval, List.getD_cons_succ, List.getD_cons_zero, optC_s, argC_a, nextOf, freeNext, fpOf, Option.getD_some, pairOk, ne_eq, List.all_cons, Bool.or_true, List.all_nil, Bool.and_self, if_true, Option.map_some, lowOf, Bool.false_eq_true, if_false, goC_a, opW, ev1, r1, Nat.zero_add, List.length_cons, List.length_nil, Nat.reduceAdd, Nat.le_refl, List.drop, List.take_succ_cons, List.take, mkAgg, Option.bind_some, pairC_p, W_ops_nil, segC_n, W_segs_cons, freeI_s, Bool.false_bne, eqKs, eqK, Bool.and_true, e1, W_segs_nil, thenC_n, W_cond, condC_f, W_skip, W_seq, wF5o9, F5p9, freeI_f, wU8, W_apply, List.nil_append, List.append_nil]
      refine needle_sp j (by omega) (by omega) fun H3 k3 => ?_
      have hn3 := k3.1
      have kk3 := kk2.trans (k3.lower (by omega))
      have r2 := read_get ((kk3.2 q (by omega) (by omega)).trans gq)
      by_cases h2 : nB j = tb ∧ nA j = ta
      · have e2 := nd_t h2
        simp (disch := omega) only [valC_v, opC_a, Fr.put, List.set, W_op, wantedI_n, guardC_t, evalAll, IA.eval, List.getD_cons_succ, List.getD_cons_zero, optC_s, argC_a, nextOf, freeNext, fpOf, Option.getD_some, pairOk, ne_eq, List.all_cons, Bool.or_true, List.all_nil, Bool.and_self, if_true, Option.map_some, lowOf, Bool.false_eq_true, if_false, goC_a, opW, ev1, r2, Nat.zero_add, List.length_cons, List.length_nil, Nat.reduceAdd, Nat.le_refl, List.drop, List.take_succ_cons, List.take, mkAgg, Option.bind_some, pairC_p, W_ops_nil, segC_n, W_segs_cons, freeI_s, Bool.false_bne, eqKs, eqK, iBeq, W_segs_nil, thenC_n, W_cond, condC_t, wF5o10, F5p10, blkC_n, wF5o11, F5p11, binI, wI64]
        exact hN (k - 1) _ _ (by omega) ⟨j + 1, by omega, kk3, rfl, rfl, rfl, rfl, rfl, rfl, rfl, rfl, by rw [seek_ne h1]; rfl, by rw [seek_eq hj h2]; rfl, rfl⟩
      · have e2 := nd_f h2
        simp (disch := omega) only [valC_v, opC_a, Fr.put, List.set, W_op, wantedI_n, guardC_t, evalAll, IA.eval, List.getD_cons_succ, List.getD_cons_zero, optC_s, argC_a, nextOf, freeNext, fpOf, Option.getD_some, pairOk, ne_eq, List.all_cons, Bool.or_true, List.all_nil, Bool.and_self, if_true, Option.map_some, lowOf, Bool.false_eq_true, if_false, goC_a, opW, ev1, r2, Nat.zero_add, List.length_cons, List.length_nil, Nat.reduceAdd, Nat.le_refl, List.drop, List.take_succ_cons, List.take, mkAgg, Option.bind_some, pairC_p, W_ops_nil, segC_n, W_segs_cons, freeI_s, Bool.false_bne, eqKs, eqK, Bool.and_true, e2, W_segs_nil, thenC_n, W_cond, condC_f, W_skip, blkC_n, wF5o11, F5p11, binI, wI64]
        exact hN (k - 1) _ _ (by omega) ⟨j + 1, by omega, kk3, rfl, rfl, rfl, rfl, rfl, rfl, rfl, rfl, by rw [seek_ne h1]; rfl, by rw [seek_ne h2]; rfl, rfl⟩
  · obtain rfl : j = 80 := by omega
    simp (disch := omega) only [F5l12, W_seq, wF5o6, F5p6, W_segs_cons, freeI_s, W_op, wantedI_n, guardC_t, evalAll, IA.eval, List.getD_cons_succ, List.getD_cons_zero, optC_s, argC_a, nextOf, lowOf, goC_a, opW, ev1, pairC_p, opC_a, Fr.put, List.set, binI, iLtF, decide_false, if_true, Option.map_some, W_ops_nil, segC_n, W_segs_nil, thenC_n, W_cond, condC_f, W_exit, thenC_j, hJ]
    refine hQ _ _ hk ?_ ?_ ?_ ?_ ?_ ?_ ?_ ?_ ?_ <;> rfl

theorem tab_set {H : Heap} {vs : List SV} {t : List (List Id)} (h : Tab H vs t) (i : Nat) (w : SV) (l : List Id) (hw : Sl H w l) : Tab H (vs.set i w) (t.set i l) := by
  refine ⟨by rw [List.length_set]; exact h.1, by rw [List.length_set]; exact h.2.1, fun j a b => ?_⟩
  rw [List.length_set] at a b
  by_cases hj : i = j
  · subst hj; rw [List.getElem_set_self, List.getElem_set_self]; exact hw
  · rw [List.getElem_set_ne hj, List.getElem_set_ne hj]; exact h.2.2 j a b
theorem tab_put1 {H : Heap} {vs : List SV} {t : List (List Id)} {x : Nat} {e ez : Nat} {cs : List IV} {ob : IObj} (h : Tab H vs t) (hx : H.get x = some (.cells false e ez cs)) (hne : ∀ i (a : i < vs.length) (b : i < t.length), t[i] ≠ [] → vs[i].blk ≠ x) : Tab (H.put x ob) vs t :=
  ⟨h.1, h.2.1, fun i a b => (h.2.2 i a b).same (Nat.le_refl _) fun hl => by rw [Heap.get_put, if_neg (Ne.symm (hne i a b hl))]⟩
end Go.Iso.Gen
end

section
namespace Go.Iso.Gen
open Go.Iso
set_option maxHeartbeats 4000000
set_option maxRecDepth 10000

/-- Two lists are appended to an empty slice. -/
theorem append_two {α : Type} [Cell α] {H : Heap} {e b lo : Nat} {m1 m2 : List α} {v1 v2 : SV} (h1 : Sl H v1 m1) (h2 : Sl H v2 m2) {z : Nat} (hz : Cell.z α = z) (bytes : Nat) (hb : (m1.length + m2.length) * (bytes + 1) ≤ 2 ^ 40) (hlo : lo ≤ H.n) (hbn : b ≤ H.n) :
    ∃ H1 c1 ex H2 u2, b ≤ c1 ∧ ev1 (.append e z bytes) [.slice b 0 0 0 true, v1.iv] lo H = some (.slice c1 0 m1.length m1.length ex, H1) ∧ ev1 (.append e z bytes) [.slice c1 0 m1.length m1.length ex, v2.iv] lo H1 = some (SV.iv u2, H2) ∧ Keep H.n H H1 ∧ Keep H.n H H2 ∧ Sl H2 u2 (m1 ++ m2) ∧ (m1 ++ m2 ≠ [] → H.n ≤ u2.blk) := by
  have hs : Sl H (.sl b 0 ([] : List α).length 0 true) ([] : List α) := ⟨rfl, Nat.le_refl _, fun h => absurd rfl h⟩
  have hmul : ∀ a, a ≤ m1.length + m2.length → a * (bytes + 1) ≤ 2 ^ 40 := fun a ha => Nat.le_trans (Nat.mul_le_mul_right _ ha) hb
  by_cases hm : m1 = []
  · subst hm
    obtain ⟨H2, u2, a1, a2, a3, a4⟩ := append_e0 (e := e) h2 hz bytes lo b (hmul _ (by omega))
    refine ⟨H, b, true, H2, u2, Nat.le_refl _, ?_, a1, Keep.refl _ _, a2, a3, a4⟩
    simp only [ev1, h1.lenI, h1.srcI hz, Option.bind_some, appendI]
    rw [if_neg (by rw [flat_all]; decide)]
    rfl
  · obtain ⟨H1, e1, e2, e3, e4⟩ := append_full (e := e) hs h1 hz bytes lo hm (by rw [List.length_nil]; have : 0 < m1.length := List.length_pos_iff.2 hm; omega) (by rw [List.length_nil, Nat.zero_add]; exact hmul _ (by omega))
    simp only [List.length_nil, Nat.zero_add, List.nil_append] at e1 e4
    by_cases hm2 : m2 = []
    · subst hm2
      refine ⟨H1, H.n, false, H1, .sl H.n 0 m1.length m1.length false, hbn, e1, ?_, e3, e3, by rw [List.append_nil]; exact e4.sl false, fun _ => Nat.le_refl _⟩
      have h2' := h2.keep e3
      simp only [ev1, h2'.lenI, h2'.srcI hz, Option.bind_some, appendI]
      rw [if_neg (by rw [flat_all]; decide)]
      rfl
    · obtain ⟨H2, a1, a2, a3, a4⟩ := append_grow (n := m1.length) e4 rfl (h2.keep e3) hz bytes lo hm2 hb hlo
      refine ⟨H1, H.n, false, H2, .sl H1.n 0 (m1.length + m2.length) (m1.length + m2.length) false, hbn, e1, a1, e3, ⟨by omega, fun x h3 h4 => ?_⟩, ?_, fun _ => e3.1⟩
      · rw [a3 x (by omega) (by omega)]; exact e3.2 x h3 h4
      · rw [← List.length_append]; rw [← List.length_append] at a4; exact a4.sl false

theorem tb5 : Nat.testBit 510 5 = true := by decide
theorem joinT_comm (t : List (List Id)) (fb : Int) {i k : Nat} (hik : i ≠ k) : joinT t fb i k = (t.set k (joinL fb (t.getD i []) (t.getD k []))).set i [] := by
  unfold joinT
  rw [List.set_comm _ _ hik]
theorem join_tail2 {fb fa tb ta : Int} {p q B G U lo n1 n2 : Nat} {t u : List (List Id)} {i k : Nat} {vs : List SV} {f b f' b' : SV} {H : Heap} {tm : List IV} {al : Bool} (hV : Valid t) (hf : needleE fb fa = 0) (ht : needleE tb ta = 0) (hb : fb ≠ tb) (hi : i = ix fb fa) (hk : k = ix tb ta) (hu : u = joinT t fb i k) (h0 : (t.getD i []).length ≠ 0) (h4 : (t.getD i []).length + (t.getD k []).length ≤ 4) (hal : al = true → t.getD k [] = [])
    (gp : H.get p = some (.cells false 26 2 [.int .u8 fb, .int .i64 fa])) (gq : H.get q = some (.cells false 26 2 [.int .u8 tb, .int .i64 ta])) (hT : Tab H vs (t.set k (joinL fb (t.getD i []) (t.getD k [])))) (gu : H.get U = some (.cells false 31 80 (flat vs))) (hne : ∀ j (a : j < vs.length) (b : j < (t.set k (joinL fb (t.getD i []) (t.getD k []))).length), (t.set k (joinL fb (t.getD i []) (t.getD k [])))[j] ≠ [] → vs[j].blk ≠ U)
    (gb : H.get B = some (.cells false 35 2 [f.iv, b.iv])) (gg : H.get G = some (.cells false 35 2 [f'.iv, b'.iv])) (s1 : Beds n1 H f b (bedF t) (bedB t)) (s2 : Beds n2 H f' b' (bedF u) (bedB u))
    (hp : p < U) (hq : q < U) (hB : B < U) (hG : G < U) (hU : U < H.n) (hlo : lo ≤ U) (hs1 : Beds n1 (H.put U (.cells false 31 80 (flat (vs.set i SV.nil)))) f b (bedF t) (bedB t)) (hs2 : Beds n2 (H.put U (.cells false 31 80 (flat (vs.set i SV.nil)))) f' b' (bedF u) (bedB u))
    (htm : tm.length = 163) (t4 : tm.getD 4 IV.undef = .ptr p 0) (t5 : tm.getD 5 IV.undef = .ptr q 0) (t8 : tm.getD 8 IV.undef = .ptr B 0) (t9 : tm.getD 9 IV.undef = .ptr G 0) (t11 : tm.getD 11 IV.undef = .int .i64 i) (t15 : tm.getD 15 IV.undef = .bool al) (t16 : tm.getD 16 IV.undef = .ptr U 0) :
    W E0 lo (.code (.seq F5o29 (.seq (.seq F5o30 (.cond (.tmp 143) (.seq F5o31 .ret) .skip)) (.seq F5o32 (.seq (.seq F5o33 (.cond (.tmp 152) (.seq F5o34 .ret) .skip)) (.seq F5o35 .ret))))) none ⟨tm, []⟩) H (retC lo F5.results fun o _ => o = .val (.bool true)) := by
  have hvl := hT.1
  have htl := hV.len
  have hi80 : i < 80 := by rw [hi]; exact (n_ix hf).2.2
  have hk80 : k < 80 := by rw [hk]; exact (n_ix ht).2.2
  have hik : i ≠ k := by rw [hi, hk]; exact ix_ne hf ht hb
  have hfl : (flat vs).length = 80 := by rw [flat_length, z_SV]; omega
  have hput := tab_put (vs := vs) i (by omega) .nil
  rw [SV.nil_iv] at hput
  rw [expl163 tm htm, t4, t5, t8, t9, t11, t15, t16]
  have hT2 := tab_set (tab_put1 (ob := .cells false 31 80 (flat (vs.set i SV.nil))) hT gu hne) i .nil [] Sl.empty
  rw [← joinT_comm t fb hik, ← hu] at hT2
  have hfl2 : (flat (vs.set i SV.nil)).length = 80 := by rw [flat_length, z_SV, List.length_set]; omega
  have htk : (flat (vs.set i SV.nil)).take 80 = flat (vs.set i SV.nil) := List.take_of_length_le (by omega)
  have hV2 : Valid u := by rw [hu]; exact joinT_valid hV fb hi80 hk80 hik h4
  have hl6 : ∀ l ∈ u, l.length ≤ 1000000 := fun l hl => by have := hV2.four l hl; omega
  have hl6t : ∀ l ∈ t, l.length ≤ 1000000 := fun l hl => by have := hV.four l hl; omega
  have hlF := bedF_len u
  have hlB := bedB_len hV2.len
  have h6F : ∀ l ∈ bedF u, l.length ≤ 1000000 := fun l hl => hl6 l (bedF_mem hl)
  have h6B : ∀ l ∈ bedB u, l.length ≤ 1000000 := fun l hl => hl6 l (bedB_mem hl)
  have hlFt := bedF_len t
  have hlBt := bedB_len hV.len
  have h6Ft : ∀ l ∈ bedF t, l.length ≤ 1000000 := fun l hl => hl6t l (bedF_mem hl)
  have h6Bt : ∀ l ∈ bedB t, l.length ≤ 1000000 := fun l hl => hl6t l (bedB_mem hl)
  simp (disch := omega) only [F5, F5b, W_seq, wF5o29, F5p29, W_segs_cons, freeI_s, W_op, wantedI_n, guardC_t, evalAll, IA.eval, List.getD_cons_succ, List.getD_cons_zero, optC_s, argC_a, nextOf, lowOf, goC_a, opW, ev1, pairC_p, opC_a, Fr.put, List.set, iLe, iLt, and_true, Int.toNat_natCast, Nat.zero_add, if_true, cellsV_nilSlice, List.length_cons, List.length_nil, Heap.write, gu, cLe, hfl, List.all_cons, oneV_nilSlice, List.all_nil, Bool.and_self, hput, Option.map_some, W_ops_nil, segC_n, W_segs_nil, thenC_n]
  generalize hH2 : Heap.put _ _ _ = H2 at hT2 hs1 hs2 ⊢
  have hn2 : H2.n = H.n := by rw [← hH2]; rfl
  have gu2 := congrArg (fun h0 => Heap.get h0 (U)) hH2.symm
  simp (disch := omega) only [Heap.get_put, if_true] at gu2
  have gp2 := congrArg (fun h0 => Heap.get h0 p) hH2.symm
  simp (disch := omega) only [Heap.get_put, cEqL, if_false] at gp2
  have gq2 := congrArg (fun h0 => Heap.get h0 q) hH2.symm
  simp (disch := omega) only [Heap.get_put, cEqL, if_false] at gq2
  have gb2 := congrArg (fun h0 => Heap.get h0 B) hH2.symm
  simp (disch := omega) only [Heap.get_put, cEqL, if_false] at gb2
  have gg2 := congrArg (fun h0 => Heap.get h0 G) hH2.symm
  simp (disch := omega) only [Heap.get_put, cEqL, if_false] at gg2
  rw [gp] at gp2
  rw [gq] at gq2
  rw [gb] at gb2
  rw [gg] at gg2
  clear hH2 gp gq gb gg gu s1 s2 hT
  have ru := read_get gu2
  have rg := read_get gg2
  simp (disch := omega) only [wF5o30, F5p30, W_segs_cons, freeI_f, W_op, wantedI_n, guardC_t, evalAll, IA.eval, List.getD_cons_succ, List.getD_cons_zero, optC_s, argC_a, nextOf, freeNext, fpOf, Option.getD_some, pairOk, ne_eq, List.all_nil, if_true, Option.map_some, lowOf, Bool.false_eq_true, if_false, goC_a, opW, ev1, ru, Nat.zero_add, hfl2, Nat.le_refl, List.drop, htk, mkAgg, Option.bind_some, pairC_p, opC_a, Fr.put, List.set, List.all_cons, Bool.or_true, Bool.and_self, rg, List.length_cons, List.length_nil, Nat.reduceAdd, List.take_succ_cons, List.take, W_ops_nil, segC_n, freeI_s, W_apply, List.nil_append, List.append_nil]
  rw [show IV.agg [f'.iv, b'.iv] = bv f' b' from rfl]
  refine differs_sp hT2 hl6 hs2.1.sl2 hs2.2.1.sl2 hs2.2.2.1 hs2.2.2.2 (by omega) (by omega) h6F h6B (by omega) fun H3 n3 k3 hn0 => ?_
  have hn0 := hn0.2 (fits_beds hV2.len)
  subst hn0
  have hn3 := k3.1
  replace gp2 := (k3.2 _ (by omega) (by omega)).trans gp2
  replace gq2 := (k3.2 _ (by omega) (by omega)).trans gq2
  replace gb2 := (k3.2 _ (by omega) (by omega)).trans gb2
  replace gg2 := (k3.2 _ (by omega) (by omega)).trans gg2
  replace hs1 := hs1.keep k3
  replace hs2 := hs2.keep k3
  clear k3 ru rg gu2 hT2
  have rg := read_get gg2
  simp (disch := omega) only [valC_v, opC_a, Fr.put, List.set, W_ops_nil, segC_n, W_segs_cons, freeI_s, W_op, wantedI_n, guardC_t, evalAll, IA.eval, List.getD_cons_succ, List.getD_cons_zero, optC_s, argC_a, nextOf, lowOf, goC_a, opW, ev1, binI, iBneF, if_true, Option.map_some, pairC_p, freeI_f, wantedI_s, wantV_b, beq_self_eq_true, freeNext, fpOf, Option.getD_some, pairOk, ne_eq, List.all_nil, Bool.false_eq_true, if_false, rg, Nat.zero_add, List.length_cons, List.length_nil, Nat.reduceAdd, Nat.le_refl, List.drop, List.take_succ_cons, List.take, mkAgg, Option.bind_some, List.all_cons, Bool.or_true, Bool.and_self, W_apply, List.nil_append, List.append_nil]
  rw [show IV.agg [f'.iv, b'.iv] = bv f' b' from rfl]
  refine count_sp hs2.1.sl2 hs2.2.1.sl2 (by omega) (by omega) h6F h6B (by omega) fun H4 k4 => ?_
  have hn4 := k4.1
  replace gp2 := (k4.2 _ (by omega) (by omega)).trans gp2
  replace gq2 := (k4.2 _ (by omega) (by omega)).trans gq2
  replace gb2 := (k4.2 _ (by omega) (by omega)).trans gb2
  replace gg2 := (k4.2 _ (by omega) (by omega)).trans gg2
  replace hs1 := hs1.keep k4
  replace hs2 := hs2.keep k4
  clear k4 rg
  have rb := read_get gb2
  simp (disch := omega) only [valC_v, opC_a, Fr.put, List.set, W_op, wantedI_s, List.getD_cons_succ, List.getD_cons_zero, wantV_b, beq_self_eq_true, guardC_t, evalAll, IA.eval, optC_s, argC_a, nextOf, freeNext, fpOf, Option.getD_some, pairOk, ne_eq, List.all_cons, Bool.or_true, List.all_nil, Bool.and_self, if_true, Option.map_some, lowOf, Bool.false_eq_true, if_false, goC_a, opW, ev1, rb, Nat.zero_add, List.length_cons, List.length_nil, Nat.reduceAdd, Nat.le_refl, List.drop, List.take_succ_cons, List.take, mkAgg, Option.bind_some, pairC_p, W_ops_nil, segC_n, W_segs_cons, freeI_s, W_apply, List.nil_append, List.append_nil]
  rw [show IV.agg [f.iv, b.iv] = bv f b from rfl]
  refine count_sp hs1.1.sl2 hs1.2.1.sl2 (by omega) (by omega) h6Ft h6Bt (by omega) fun H5 k5 => ?_
  have hn5 := k5.1
  replace gp2 := (k5.2 _ (by omega) (by omega)).trans gp2
  replace gq2 := (k5.2 _ (by omega) (by omega)).trans gq2
  replace gb2 := (k5.2 _ (by omega) (by omega)).trans gb2
  replace gg2 := (k5.2 _ (by omega) (by omega)).trans gg2
  replace hs1 := hs1.keep k5
  replace hs2 := hs2.keep k5
  clear k5 rb
  have hcnt : lens ((bedF u).take 40) + lens ((bedB u).take 40) = lens ((bedF t).take 40) + lens ((bedB t).take 40) := by
    rw [count_eq hV2.len, count_eq hV.len, hu]
    exact (joinT_perm fb (by omega) (by omega) hik).length_eq
  have rg := read_get gg2
  have rq := read_get gq2
  have rp := read_get gp2
  simp (disch := omega) only [hcnt, valC_v, opC_a, Fr.put, List.set, W_ops_nil, segC_n, W_segs_cons, freeI_s, W_op, wantedI_s, List.getD_cons_succ, List.getD_cons_zero, wantV_b, beq_self_eq_true, guardC_t, evalAll, IA.eval, optC_s, argC_a, nextOf, lowOf, goC_a, opW, ev1, binI, bne_self_eq_false, if_true, Option.map_some, pairC_p, wantedI_n, Bool.false_eq_true, if_false, W_segs_nil, thenC_n, W_cond, condC_f, W_skip, W_seq, wF5o32, F5p32, Option.getD_some, rg, Nat.zero_add, List.length_cons, List.length_nil, Nat.reduceAdd, Nat.le_refl, List.drop, List.take_succ_cons, List.take, mkAgg, Option.bind_some, rq, rp, W_apply, List.nil_append, List.append_nil]
  rw [show IV.agg [f'.iv, b'.iv] = bv f' b' from rfl]
  have hE : joinE (bedF u) (bedB u) tb ta fb fa = 0 := by
    rw [joinE_eq hV2, ← hi, ← hk, hu, joinT_at _ (by omega) (by omega), joinT_at _ (by omega) (by omega), if_pos rfl, if_neg (Ne.symm hik), if_pos rfl, joinL_len]
    rw [if_neg (by simp [hf, ht]; exact fun e => hb e.symm), if_neg (by omega), if_neg (by rw [List.length_nil]; omega)]
  refine join_sp tb ta fb fa hs2.1.sl2 hs2.2.1.sl2 (by omega) (by omega) h6F h6B (by omega) (fun H6 k6 he => absurd hE he) fun H6 f6 b6 k6 _ s6 => ?_
  obtain ⟨e1, e2⟩ := joinFB_eq hV2 ht hf
  rw [e1, e2, ← hi, ← hk] at s6
  have hn6 := k6.1
  replace gb2 := (k6.2 _ (by omega) (by omega)).trans gb2
  replace hs1 := hs1.keep k6
  clear k6
  simp (disch := omega) only [bv, valC_v, opC_a, Fr.put, List.set, W_op, wantedI_n, guardC_t, evalAll, IA.eval, List.getD_cons_succ, List.getD_cons_zero, optC_s, argC_a, nextOf, lowOf, goC_a, opW, ev1, pairC_p, List.getElem?_cons_zero, Option.map_some, List.getElem?_cons_succ, cellsV_agg, List.length_cons, List.length_nil, Nat.zero_add, Nat.reduceAdd, Heap.write, Heap.get_new, if_true, cLe, Nat.le_refl, List.all_cons, SV.iv_one, List.all_nil, Bool.and_self, and_true, splice, W_ops_nil, segC_n, W_segs_nil, thenC_n, W_seq, wF5o33, F5p33, W_segs_cons, freeI_s, binI, bne_self_eq_false, W_cond, condC_f, W_skip]
  generalize hH_H7 : Heap.put _ _ _ = H7
  have hnH7 : H7.n = H6.n + 1 := by rw [← hH_H7]; rfl
  have g7 := congrArg (fun h0 => Heap.get h0 (H6.n)) hH_H7.symm
  simp (disch := omega) only [Heap.get_put, Heap.get_new, if_true] at g7
  have kH7 : Keep H6.n H6 H7 := ⟨by omega, fun x hx _ => by
    have gx := congrArg (fun h0 => Heap.get h0 x) hH_H7.symm
    simp (disch := omega) only [Heap.get_put, cEqL, Heap.get_new, if_false] at gx
    exact gx⟩
  clear hH_H7
  replace gb2 := (kH7.2 _ (by omega) (by omega)).trans gb2
  replace hs1 := hs1.keep kH7
  replace s6 := s6.keep kH7
  have r7 := read_get g7
  have rb := read_get gb2
  cases al with
  | false =>
    simp (disch := omega) only [wF5o35, F5p35, W_segs_cons, freeI_s, W_op, wantedI_n, guardC_t, evalAll, IA.eval, List.getD_cons_succ, List.getD_cons_zero, optC_s, argC_a, nextOf, lowOf, goC_a, opW, ev1, pairC_p, opC_a, Fr.put, List.set, unI, Bool.not_false, Option.map_some, wantedI_s, wantV_b, bb_tf, guardC_f, if_true, beq_self_eq_true, W_apply, List.append_nil]
    refine c16 ?_
    simp (disch := omega) only [valC_v, opC_a, Fr.put, List.set, W_op, wantedI_n, guardC_t, evalAll, IA.eval, List.getD_cons_succ, List.getD_cons_zero, optC_s, argC_a, nextOf, lowOf, goC_a, opW, ev1, if_true, pairC_p, W_ops_nil, segC_n, W_segs_nil, thenC_n, W_ret, retC_r, unmark, leaveC_a, resultsOf, resultOf, valsC_a, tupled]
  | true =>
    have hback : joinT u tb k i = t := by rw [hu]; exact join_back fb tb (by omega) (by omega) hik (hal rfl)
    rw [hback] at s6
    simp (disch := omega) only [wF5o35, F5p35, W_segs_cons, freeI_s, W_op, wantedI_n, guardC_t, evalAll, IA.eval, List.getD_cons_succ, List.getD_cons_zero, optC_s, argC_a, nextOf, lowOf, goC_a, opW, ev1, pairC_p, opC_a, Fr.put, List.set, unI, Bool.not_true, Option.map_some, wantedI_s, wantV_b, beq_self_eq_true, Option.getD_some, r7, Nat.zero_add, List.length_cons, List.length_nil, Nat.reduceAdd, Nat.le_refl, List.drop, List.take_succ_cons, List.take, if_true, mkAgg, Option.bind_some, rb, W_apply, List.nil_append, List.append_nil]
    rw [show IV.agg [f.iv, b.iv] = bv f b from rfl, show IV.agg [f6.iv, b6.iv] = bv f6 b6 from rfl]
    refine Same_sp s6.1.sl2 s6.2.1.sl2 hs1.1.sl2 hs1.2.1.sl2 (Cut.tight s6.2.2.1) (Cut.tight s6.2.2.2) (Cut.tight hs1.2.2.1) (Cut.tight hs1.2.2.2) ⟨by omega, h6Ft⟩ ⟨by omega, h6Bt⟩ ⟨by omega, h6Ft⟩ ⟨by omega, h6Bt⟩ (by omega) fun H8 k8 => ?_
    rw [decide_eq_true ⟨rfl, rfl⟩]
    simp (disch := omega) only [valC_v, opC_a, Fr.put, List.set, W_op, wantedI_n, guardC_t, evalAll, IA.eval, List.getD_cons_succ, List.getD_cons_zero, optC_s, argC_a, nextOf, lowOf, goC_a, opW, ev1, Bool.false_eq_true, if_false, pairC_p, wantedI_s, wantV_b, beq_self_eq_true, W_apply, List.append_nil]
    refine c16 ?_
    simp (disch := omega) only [valC_v, opC_a, Fr.put, List.set, W_op, wantedI_n, guardC_t, evalAll, IA.eval, List.getD_cons_succ, List.getD_cons_zero, optC_s, argC_a, nextOf, lowOf, goC_a, opW, ev1, if_true, pairC_p, W_ops_nil, segC_n, W_segs_nil, thenC_n, W_ret, retC_r, unmark, leaveC_a, resultsOf, resultOf, valsC_a, tupled]
theorem join_tail {fb fa tb ta : Int} {p q T B G lo n1 n2 : Nat} {t u : List (List Id)} {i k : Nat} {vs : List SV} {f b f' b' : SV} {H : Heap} {tm : List IV} (hV : Valid t) (hf : needleE fb fa = 0) (ht : needleE tb ta = 0) (hb : fb ≠ tb) (hi : i = ix fb fa) (hk : k = ix tb ta) (hu : u = joinT t fb i k) (h0 : (t.getD i []).length ≠ 0) (h4 : (t.getD i []).length + (t.getD k []).length ≤ 4)
    (gp : H.get p = some (.cells false 26 2 [.int .u8 fb, .int .i64 fa])) (gq : H.get q = some (.cells false 26 2 [.int .u8 tb, .int .i64 ta])) (hT : Tab H vs t) (gt : H.get T = some (.cells false 31 80 (flat vs)))
    (gb : H.get B = some (.cells false 35 2 [f.iv, b.iv])) (gg : H.get G = some (.cells false 35 2 [f'.iv, b'.iv])) (s1 : Beds n1 H f b (bedF t) (bedB t)) (s2 : Beds n2 H f' b' (bedF u) (bedB u))
    (hp : p < H.n) (hq : q < H.n) (hTn : T < H.n) (hB : B < H.n) (hG : G < H.n) (hlo : lo ≤ H.n)
    (htm : tm.length = 163) (t4 : tm.getD 4 IV.undef = .ptr p 0) (t5 : tm.getD 5 IV.undef = .ptr q 0) (t7 : tm.getD 7 IV.undef = .ptr T 0) (t8 : tm.getD 8 IV.undef = .ptr B 0) (t9 : tm.getD 9 IV.undef = .ptr G 0) (t11 : tm.getD 11 IV.undef = .int .i64 i) (t12 : tm.getD 12 IV.undef = .int .i64 k) :
    W E0 lo (.code (.seq F5o24 (.seq F5o25 (.seq (.seq F5o26 (.cond (.tmp 108) F5o27 F5o28)) (.seq F5o29 (.seq (.seq F5o30 (.cond (.tmp 143) (.seq F5o31 .ret) .skip)) (.seq F5o32 (.seq (.seq F5o33 (.cond (.tmp 152) (.seq F5o34 .ret) .skip)) (.seq F5o35 .ret)))))))) none ⟨tm, []⟩) H (retC lo F5.results fun o _ => o = .val (.bool true)) := by
  have hvl := hT.1
  have htl := hV.len
  have hi80 : i < 80 := by rw [hi]; exact (n_ix hf).2.2
  have hk80 : k < 80 := by rw [hk]; exact (n_ix ht).2.2
  have hik : i ≠ k := by rw [hi, hk]; exact ix_ne hf ht hb
  have hfl : (flat vs).length = 80 := by rw [flat_length, z_SV]; omega
  have hall := flat_all vs
  have hspl : splice [IV.nilSlice, IV.nilSlice, IV.nilSlice, IV.nilSlice, IV.nilSlice, IV.nilSlice, IV.nilSlice, IV.nilSlice, IV.nilSlice, IV.nilSlice, IV.nilSlice, IV.nilSlice, IV.nilSlice, IV.nilSlice, IV.nilSlice, IV.nilSlice, IV.nilSlice, IV.nilSlice, IV.nilSlice, IV.nilSlice, IV.nilSlice, IV.nilSlice, IV.nilSlice, IV.nilSlice, IV.nilSlice, IV.nilSlice, IV.nilSlice, IV.nilSlice, IV.nilSlice, IV.nilSlice, IV.nilSlice, IV.nilSlice, IV.nilSlice, IV.nilSlice, IV.nilSlice, IV.nilSlice, IV.nilSlice, IV.nilSlice, IV.nilSlice, IV.nilSlice, IV.nilSlice, IV.nilSlice, IV.nilSlice, IV.nilSlice, IV.nilSlice, IV.nilSlice, IV.nilSlice, IV.nilSlice, IV.nilSlice, IV.nilSlice, IV.nilSlice, IV.nilSlice, IV.nilSlice, IV.nilSlice, IV.nilSlice, IV.nilSlice, IV.nilSlice, IV.nilSlice, IV.nilSlice, IV.nilSlice, IV.nilSlice, IV.nilSlice, IV.nilSlice, IV.nilSlice, IV.nilSlice, IV.nilSlice, IV.nilSlice, IV.nilSlice, IV.nilSlice, IV.nilSlice, IV.nilSlice, IV.nilSlice, IV.nilSlice, IV.nilSlice, IV.nilSlice, IV.nilSlice, IV.nilSlice, IV.nilSlice, IV.nilSlice, IV.nilSlice] 0 (flat vs) = flat vs := tab_splice hvl _ rfl
  have htk : (flat vs).take 80 = flat vs := List.take_of_length_le (by omega)
  rw [expl163 tm htm, t4, t5, t7, t8, t9, t11, t12]
  have rk := tab_read gt k (by omega)
  have ri := tab_read gt i (by omega)
  have sk := hT.2.2 k (by omega) (by omega)
  have si := hT.2.2 i (by omega) (by omega)
  have gik := getD_in (ls := t) (i := i) (by omega)
  have gkk := getD_in (ls := t) (i := k) (by omega)
  rw [gik] at h0 h4
  rw [gkk] at h4
  have rt := read_get gt
  have rq := read_get gq
  simp (disch := omega) only [F5, F5b, W_seq, wF5o24, F5p24, W_segs_cons, freeI_s, W_op, wantedI_n, guardC_t, evalAll, IA.eval, List.getD_cons_succ, List.getD_cons_zero, optC_s, argC_a, nextOf, lowOf, goC_a, opW, ev1, pairC_p, opC_a, Fr.put, List.set, iLe, iLt, and_true, Int.toNat_natCast, Nat.zero_add, if_true, Option.getD_none, rk, mkAgg, Option.bind_some, Option.map_some, ↓sk.ln, binI, W_ops_nil, segC_n, W_segs_nil, thenC_n, wF5o25, F5p25, Option.getD_some, rt, hfl, Nat.le_refl, List.drop, htk, cellsV_agg, Heap.write, Heap.get_new, cLe, List.length_cons, List.length_nil, Nat.reduceAdd, hall, hspl, wF5o26, F5p26, Nat.add_zero, read_put, cEqL, readO_c, read_new, List.take_succ_cons, List.take, rq, if_false, W_cond]
  generalize hH_H3 : Heap.put _ _ _ = H3
  have hn3 : H3.n = H.n + 1 := by rw [← hH_H3]; rfl
  have gu := congrArg (fun h0 => Heap.get h0 (H.n)) hH_H3.symm
  simp (disch := omega) only [Heap.get_put, Heap.get_new, if_true] at gu
  have k3 : Keep H.n H H3 := ⟨by omega, fun x hx _ => by
    have gx := congrArg (fun h0 => Heap.get h0 x) hH_H3.symm
    simp (disch := omega) only [Heap.get_put, cEqL, Heap.get_new, if_false] at gx
    exact gx⟩
  clear hH_H3 rk ri rt rq
  replace gp := (k3.2 _ (by omega) (by omega)).trans gp
  replace gq := (k3.2 _ (by omega) (by omega)).trans gq
  replace gt := (k3.2 _ (by omega) (by omega)).trans gt
  replace gb := (k3.2 _ (by omega) (by omega)).trans gb
  replace gg := (k3.2 _ (by omega) (by omega)).trans gg
  replace sk := sk.keep k3
  replace si := si.keep k3
  have rk := tab_read gt k (by omega)
  have ri := tab_read gt i (by omega)
  have hfb01 := (needle_ok hf).1
  have htb01 := (needle_ok ht).1
  have fin : ∀ (H5 : Heap) (w : SV) (tm : List IV), Keep H3.n H3 H5 → Sl H5 w (joinL fb (t.getD i []) (t.getD k [])) → H3.n ≤ w.blk → tm.length = 163 → tm.getD 4 IV.undef = .ptr p 0 → tm.getD 5 IV.undef = .ptr q 0 → tm.getD 8 IV.undef = .ptr B 0 → tm.getD 9 IV.undef = .ptr G 0 → tm.getD 11 IV.undef = .int .i64 i → tm.getD 15 IV.undef = .bool (((t[k]'(by omega)).length : Int) == 0) → tm.getD 16 IV.undef = .ptr H.n 0 →
      W E0 lo (.code (.seq F5o29 (.seq (.seq F5o30 (.cond (.tmp 143) (.seq F5o31 .ret) .skip)) (.seq F5o32 (.seq (.seq F5o33 (.cond (.tmp 152) (.seq F5o34 .ret) .skip)) (.seq F5o35 .ret))))) none ⟨tm, []⟩) (H5.put H.n (.cells false 31 80 (flat (vs.set k w)))) (retC lo F5.results fun o _ => o = .val (.bool true)) := by
    intro H5 w tm k5 s5 b5 htm t4 t5 t8 t9 t11 t15 t16
    have hn5 := k5.1
    have kk5 : Keep H.n H H5 := k3.trans (k5.lower (by omega))
    have kP : ∀ ob, Keep H.n H (H5.put H.n ob) := fun ob => kk5.trans (.put _ _ (Nat.le_refl _))
    replace gp := (k5.2 _ (by omega) (by omega)).trans gp
    replace gq := (k5.2 _ (by omega) (by omega)).trans gq
    replace gb := (k5.2 _ (by omega) (by omega)).trans gb
    replace gg := (k5.2 _ (by omega) (by omega)).trans gg
    have hput : ∀ (ob : IObj) (x : Nat), x ≠ H.n → (H5.put H.n ob).get x = H5.get x := fun ob x hx => by rw [Heap.get_put, if_neg (Ne.symm hx)]
    have hne : ∀ j (a : j < vs.length) (b : j < t.length), t[j] ≠ [] → vs[j].blk ≠ H.n := fun j a b hl => by have := (hT.2.2 j a b).blk_lt hl; omega
    have hwne : w.blk ≠ H.n := by omega
    refine join_tail2 (p := p) (q := q) (B := B) (G := G) (U := H.n) (n1 := n1) (n2 := n2) (vs := vs.set k w) (f := f) (b := b) (f' := f') (b' := b') hV hf ht hb hi hk hu (by rw [gik]; exact h0) (by rw [gik, gkk]; exact h4) (fun h => ?_) ((hput _ _ (by omega)).trans gp) ((hput _ _ (by omega)).trans gq) (tab_set (hT.keep (kP _)) k w _ (s5.same (by rw [Heap.n_put]; omega) fun _ => hput _ _ hwne)) (by rw [Heap.get_put, if_pos rfl]) ?_ ((hput _ _ (by omega)).trans gb) ((hput _ _ (by omega)).trans gg) (s1.keep (kP _)) (s2.keep (kP _)) hp hq hB hG (by rw [Heap.n_put]; omega) hlo (s1.keep ((kP _).trans (.put _ _ (Nat.le_refl _)))) (s2.keep ((kP _).trans (.put _ _ (Nat.le_refl _)))) htm t4 t5 t8 t9 t11 t15 t16
    · rw [gkk]
      have : ((t[k].length : Nat) : Int) = 0 := by simpa using h
      exact List.length_eq_zero_iff.1 (by omega)
    · intro j a b' hl
      rw [List.length_set] at a b'
      by_cases hj : k = j
      · subst hj; rw [List.getElem_set_self]; exact hwne
      · rw [List.getElem_set_ne hj] at hl ⊢; exact hne j a b' hl
  by_cases htb : tb = 1
  · have etb : (tb == 1) = true := by simp [htb]
    rw [etb]
    obtain ⟨H4, c4, ex4, H5, u5, hc4, e4, e5, k4, k5, s5, b5⟩ := append_two (e := 28) (b := H3.n) (lo := lo) (m1 := t[k]) (m2 := t[i]) (v1 := vs[k]) (v2 := vs[i]) (H := H3.new (.cells false 28 2 [])) (sk.keep (Keep.new _ _)) (si.keep (Keep.new _ _)) z_Id 16 (by omega) (by rw [Heap.n_new]; omega) (by rw [Heap.n_new]; omega)
    have rkn : (H3.new (.cells false 28 2 [])).read T (k * 1) 1 = some [vs[k].iv] := by rw [read_new, if_neg (by omega)]; exact rk
    have hn4 := k4.1
    rw [Heap.n_new] at hn4
    have gt4 := (k4.2 T (by rw [Heap.n_new]; omega) (by rw [Heap.n_new]; omega)).trans ((Heap.get_new _ _ _).trans ((if_neg (by omega)).trans gt))
    have ri4 := tab_read gt4 i (by omega)
    have kk5 : Keep H3.n H3 H5 := (Keep.new _ _).trans (k5.lower (by rw [Heap.n_new]; omega))
    have gu5 := (kk5.2 _ (by omega) (by omega)).trans gu
    have hput := tab_put (vs := vs) k (by omega) u5
    have hb5 := b5 (by intro e; rw [List.append_eq_nil_iff] at e; rw [e.2] at h0; exact h0 rfl)
    rw [Heap.n_new] at hb5
    simp (disch := omega) only [condC_t, wF5o27, F5p27, W_segs_cons, freeI_f, W_op, wantedI_n, guardC_t, evalAll, IA.eval, List.getD_cons_succ, List.getD_cons_zero, optC_s, argC_a, nextOf, freeNext, fpOf, pairOk, ne_eq, List.all_nil, if_true, Option.map_some, lowOf, Bool.false_eq_true, if_false, goC_a, opW, ev1, pairC_p, opC_a, Fr.put, List.set, List.all_cons, Bool.or_true, Bool.and_self, fillI, Heap.n_new, iLe, iLt, and_true, Int.toNat_natCast, Nat.zero_add, Option.getD_none, rkn, mkAgg, Option.bind_some, cEqL, not_false_eq_true, decide_true, ↓e4, ri4, tb5, Bool.true_or, ↓e5, W_ops_nil, segC_n, freeI_s, SV.iv_cells, List.length_cons, List.length_nil, Heap.write, gu5, cLe, hfl, SV.iv_one, hput, W_segs_nil, thenC_n, W_seq]
    rw [← W_seq]
    refine fin H5 u5 _ kk5 ?_ (by omega) rfl rfl rfl rfl rfl rfl rfl rfl
    unfold joinL
    rw [if_neg (by omega), gik, gkk]
    exact s5
  · have etb : (tb == 1) = false := by simp [htb]
    rw [etb]
    obtain ⟨H4, c4, ex4, H5, u5, hc4, e4, e5, k4, k5, s5, b5⟩ := append_two (e := 28) (b := H3.n) (lo := lo) (m1 := t[i]) (m2 := t[k]) (v1 := vs[i]) (v2 := vs[k]) (H := H3.new (.cells false 28 2 [])) (si.keep (Keep.new _ _)) (sk.keep (Keep.new _ _)) z_Id 16 (by omega) (by rw [Heap.n_new]; omega) (by rw [Heap.n_new]; omega)
    have rin : (H3.new (.cells false 28 2 [])).read T (i * 1) 1 = some [vs[i].iv] := by rw [read_new, if_neg (by omega)]; exact ri
    have hn4 := k4.1
    rw [Heap.n_new] at hn4
    have gt4 := (k4.2 T (by rw [Heap.n_new]; omega) (by rw [Heap.n_new]; omega)).trans ((Heap.get_new _ _ _).trans ((if_neg (by omega)).trans gt))
    have rk4 := tab_read gt4 k (by omega)
    have kk5 : Keep H3.n H3 H5 := (Keep.new _ _).trans (k5.lower (by rw [Heap.n_new]; omega))
    have gu5 := (kk5.2 _ (by omega) (by omega)).trans gu
    have hput := tab_put (vs := vs) k (by omega) u5
    have hb5 := b5 (by intro e; rw [List.append_eq_nil_iff] at e; rw [e.1] at h0; exact h0 rfl)
    rw [Heap.n_new] at hb5
    simp (disch := omega) only [condC_f, wF5o28, F5p28, W_segs_cons, freeI_f, W_op, wantedI_n, guardC_t, evalAll, IA.eval, List.getD_cons_succ, List.getD_cons_zero, optC_s, argC_a, nextOf, freeNext, fpOf, pairOk, ne_eq, List.all_nil, if_true, Option.map_some, lowOf, Bool.false_eq_true, if_false, goC_a, opW, ev1, pairC_p, opC_a, Fr.put, List.set, List.all_cons, Bool.or_true, Bool.and_self, fillI, Heap.n_new, iLe, iLt, and_true, Int.toNat_natCast, Nat.zero_add, Option.getD_none, rin, mkAgg, Option.bind_some, cEqL, not_false_eq_true, decide_true, ↓e4, rk4, tb5, Bool.true_or, ↓e5, W_ops_nil, segC_n, freeI_s, SV.iv_cells, List.length_cons, List.length_nil, Heap.write, gu5, cLe, hfl, SV.iv_one, hput, W_segs_nil, thenC_n, W_seq]
    rw [← W_seq]
    refine fin H5 u5 _ kk5 ?_ (by omega) rfl rfl rfl rfl rfl rfl rfl rfl
    unfold joinL
    rw [if_pos (by omega), gik, gkk]
    exact s5
end Go.Iso.Gen
end

section
namespace Go.Iso.Gen
open Go.Iso
set_option maxHeartbeats 4000000
set_option maxRecDepth 10000

theorem Of_sp {x : SV} {xs : List Pt} {H : Heap} {lo : Nat} {Q : Out → Heap → Prop} (hx : Sl H x xs) (hb : ∀ p ∈ xs, p.a ≤ 255 ∧ p.m ≤ 255) (hlo : lo ≤ H.n)
    (h : ∀ H' f b, Keep H.n H H' → Beds H.n H' f b (bedF (ofT xs).1) (bedB (ofT xs).1) → Q (.val (bv f b)) H') : W E0 lo (.call 21 [x.iv]) H Q := by
  refine W.pure plain hlo ?_
  rw [c21]
  simp (disch := omega) only [F21b, F21, List.length_cons, List.length_nil, Nat.zero_add, Nat.reduceSub, undefs, List.cons_append, List.nil_append, W_seq, wF21o0, F21p0, W_segs_cons, freeI_s, W_op, wantedI_n, guardC_t, evalAll, optC_s, argC_a, nextOf, lowOf, goC_a, opW, ev1, pairC_p, opC_a, Fr.put, List.set, W_ops_nil, segC_n, W_segs_nil, thenC_n, wF21o1, F21p1, IA.eval, List.getD_cons_zero, List.getD_cons_succ, W_apply, List.append_nil]
  generalize hH_H1 : Heap.new _ _ = H1
  have hnH1 : H1.n = H.n + 1 := by rw [← hH_H1]; rfl
  have g0 := congrArg (fun h0 => Heap.get h0 (H.n)) hH_H1.symm
  simp (disch := omega) only [Heap.get_new, if_true] at g0
  have kH1 : Keep H.n H H1 := ⟨by omega, fun x hx _ => by
    have gx := congrArg (fun h0 => Heap.get h0 x) hH_H1.symm
    simp (disch := omega) only [Heap.get_new, cEqL, if_false] at gx
    exact gx⟩
  clear hH_H1
  refine of_sp (hx.keep kH1) hb (by omega) (fun i _ => good_all xs i) fun H2 vs k2 hT2 => ?_
  have hV := ofT_valid xs
  have hn2 := k2.1
  replace g0 := (k2.2 _ (by omega) (by omega)).trans g0
  simp (disch := omega) only [valC_v, opC_a, Fr.put, List.set, W_op, wantedI_n, guardC_t, evalAll, IA.eval, List.getD_cons_succ, List.getD_cons_zero, optC_s, argC_a, nextOf, lowOf, goC_a, opW, W_apply, List.nil_append, List.append_nil]
  refine bedsT_sp hT2.tab (fun l hl => by have := hV.four l hl; omega) (by omega) fun H4 f b k4 s4 => ?_
  have hn4 := k4.1
  replace g0 := (k4.2 _ (by omega) (by omega)).trans g0
  simp (disch := omega) only [bv, valC_v, opC_a, Fr.put, List.set, W_op, wantedI_n, guardC_t, evalAll, IA.eval, List.getD_cons_succ, List.getD_cons_zero, optC_s, argC_a, nextOf, lowOf, goC_a, opW, ev1, cellsV_agg, List.length_cons, List.length_nil, Nat.zero_add, Nat.reduceAdd, Heap.write, g0, Nat.le_refl, List.all_cons, SV.iv_one, List.all_nil, Bool.and_self, and_true, splice, if_true, Option.map_some, pairC_p, W_ops_nil, segC_n, W_segs_nil, thenC_n, W_ret, retC_r, unmark, leaveC_a, resultsOf, resultOf, Option.getD_some, read_put, readO_c, List.drop, List.take_succ_cons, List.take, Option.bind_some, mkAgg, valsC_a, tupled]
  exact fun hk => h _ f b hk ⟨(s4.1.put (by omega)).lower (by omega), (s4.2.1.put (by omega)).lower (by omega), s4.2.2⟩

theorem fill_len (m : Nat) : ∀ (l : List Id) (n : Nat), l.length + m ≤ 4 → (fillL l n m).1.length = l.length + m := by
  induction m with
  | zero => intro l n h; rfl
  | succ m ih =>
    intro l n h
    unfold fillL
    rw [if_pos (by omega), ih _ _ (by simp; omega)]
    simp; omega
/-- Two needles of a table. -/
theorem two_t (a c n m : Nat) (ha : a < 40) (hc : c < 40) (hn : n ≤ 4) (hm : m ≤ 4) : ((ofT [⟨a, n⟩, ⟨40 + c, m⟩]).1.getD a []).length = n ∧ ((ofT [⟨a, n⟩, ⟨40 + c, m⟩]).1.getD (40 + c) []).length = m := by
  have e1 : a % 80 = a := by omega
  have e2 : (40 + c) % 80 = 40 + c := by omega
  have e3 : n % 5 = n := by omega
  have e4 : m % 5 = m := by omega
  have r0 : ∀ i, (List.replicate 80 ([] : List Id)).getD i [] = [] := fun i => by
    rw [List.getD_eq_getElem?_getD, List.getElem?_replicate]; split <;> rfl
  have key : (ofT [⟨a, n⟩, ⟨40 + c, m⟩]).1 = ((List.replicate 80 ([] : List Id)).set a (fillL [] 0 n).1).set (40 + c) (fillL [] (fillL [] 0 n).2 m).1 := by
    show (ofStep (ofStep (List.replicate 80 [], 0) ⟨a, n⟩) ⟨40 + c, m⟩).1 = _
    simp only [ofStep]
    rw [e1, e2, e3, e4, r0, set_getD _ _ (by rw [List.length_replicate]; omega), if_neg (by omega), r0]
  have hl : (List.replicate 80 ([] : List Id)).length = 80 := List.length_replicate
  rw [key]
  constructor
  · rw [set_getD _ _ (by simp; omega), if_neg (by omega), set_getD _ _ (by simp; omega), if_pos rfl, fill_len _ _ _ (by simp; omega)]
    simp
  · rw [set_getD _ _ (by simp; omega), if_pos rfl, fill_len _ _ _ (by simp; omega)]
    simp
end Go.Iso.Gen
end

section
namespace Go.Iso.Gen
open Go.Iso
set_option maxHeartbeats 4000000
set_option maxRecDepth 10000

/-- A slice of slices that may have grown by append. -/
def Gr (n0 : Nat) (H : Heap) (v : SV) (us : List SV) : Prop := (v.tight ∧ Sl H v us ∧ (us ≠ [] → v.blk < n0)) ∨ ∃ c, v = .sl c 0 us.length us.length false ∧ n0 ≤ c ∧ us ≠ [] ∧ Own H c 29 us.length us
theorem Gr.sl {n0 : Nat} {H : Heap} {v : SV} {us : List SV} (h : Gr n0 H v us) : Sl H v us := by
  rcases h with ⟨_, h, _⟩ | ⟨c, rfl, _, _, h⟩
  · exact h
  · exact h.sl false
theorem Gr.cut {n0 : Nat} {H : Heap} {v : SV} {us : List SV} (h : Gr n0 H v us) : Cut H v := by
  rcases h with ⟨h, _⟩ | ⟨c, rfl, _, _, h⟩
  · exact Cut.tight h
  · refine .inr ⟨h.2.1, ?_⟩
    unfold ezAt
    rw [h.full, z_SV]
    rfl
theorem Gr.same {n0 : Nat} {H H2 : Heap} {v : SV} {us : List SV} (h : Gr n0 H v us) (hn0 : n0 ≤ H.n) (hn : H.n ≤ H2.n) (hk : ∀ x, x < H.n → (x < n0 ∨ (¬ v.tight ∧ x = v.blk)) → H2.get x = H.get x) : Gr n0 H2 v us := by
  rcases h with ⟨h1, h2, h3⟩ | ⟨c, rfl, h1, h2, h3⟩
  · refine .inl ⟨h1, h2.same hn fun hl => hk _ ?_ (.inl (h3 hl)), h3⟩
    have := h3 hl
    omega
  · exact .inr ⟨c, rfl, h1, h2, h3.same hn (hk c h3.2.1 (.inr ⟨fun h => (by cases h.2), rfl⟩))⟩
theorem Gr.push {n0 lo : Nat} {H : Heap} {v s w : SV} {us : List SV} (h : Gr n0 H v us) (hn0 : n0 ≤ H.n) (hs : Sl H s [w]) (hlo : lo ≤ n0) (hl : us.length ≤ 1000000) :
    ∃ H2, ev1 (.append 29 1 24) [v.iv, s.iv] lo H = some (.slice H.n 0 (us.length + 1) (us.length + 1) false, H2) ∧ H2.n = H.n + 1 ∧ (∀ x, x < H.n → (v.tight ∨ x ≠ v.blk) → H2.get x = H.get x) ∧ Gr n0 H2 (.sl H.n 0 (us.length + 1) (us.length + 1) false) (us ++ [w]) := by
  have e : (us ++ [w]).length = us.length + 1 := by simp
  have fin : ∀ H2, Own H2 H.n 29 (us.length + 1) (us ++ [w]) → Gr n0 H2 (.sl H.n 0 (us.length + 1) (us.length + 1) false) (us ++ [w]) := fun H2 ho => .inr ⟨H.n, by rw [e], hn0, by simp, by rw [e]; exact ho⟩
  rcases h with ⟨h1, h2, h3⟩ | ⟨c, rfl, h1, h2, h3⟩
  · cases v with
    | nil =>
      have h2 : us = [] := h2
      subst h2
      obtain ⟨H2, e1, e2, e3, e4⟩ := append_nil (e := 29) hs z_SV 24 lo (by simp) (by simp)
      exact ⟨H2, e1, e2, fun x hx _ => e3.2 x hx hx, fin H2 (by simpa using e4)⟩
    | sl b o n c ex =>
      obtain ⟨rfl, rfl⟩ := h1
      have hn := h2.1
      subst hn
      obtain ⟨H2, e1, e2, e3, e4⟩ := append_full (e := 29) h2 hs z_SV 24 lo (by simp) (by simp) (by simp; omega)
      exact ⟨H2, e1, e2, fun x hx _ => e3.2 x hx hx, fin H2 e4⟩
  · obtain ⟨H2, e1, e2, e3, e4⟩ := append_grow (n := us.length) h3 rfl hs z_SV 24 lo (by simp) (by simp; omega) (by omega)
    refine ⟨H2, e1, e2, fun x hx hc => e3 x ?_ hx, fin H2 e4⟩
    rcases hc with hc | hc
    · exact absurd hc.2 (by simp)
    · exact hc

/-- Values that hold lists. -/
def Hold (n0 : Nat) (H : Heap) (us : List SV) (ls : List (List Id)) : Prop := us.length = ls.length ∧ ∀ i (a : i < ls.length) (b : i < us.length), Sl H us[i] ls[i] ∧ (ls[i] ≠ [] → us[i].blk < n0)
theorem Hold.same {n0 : Nat} {H H2 : Heap} {us : List SV} {ls : List (List Id)} (h : Hold n0 H us ls) (hn : H.n ≤ H2.n) (hk : ∀ x, x < n0 → H2.get x = H.get x) : Hold n0 H2 us ls :=
  ⟨h.1, fun i a b => ⟨(h.2 i a b).1.same hn fun hl => hk _ ((h.2 i a b).2 hl), (h.2 i a b).2⟩⟩
theorem Hold.push {n0 : Nat} {H : Heap} {us : List SV} {ls : List (List Id)} (h : Hold n0 H us ls) {w : SV} (hw : Sl H w ([] : List Id)) : Hold n0 H (us ++ [w]) (ls ++ [[]]) := by
  have hl := h.1
  refine ⟨by simp [hl], fun i a b => ?_⟩
  by_cases hi : i < ls.length
  · rw [List.getElem_append_left (by omega), List.getElem_append_left hi]; exact h.2 i hi (by omega)
  · rw [List.length_append, List.length_singleton] at a
    have hi1 : us.length ≤ i := by omega
    have hi2 : ls.length ≤ i := by omega
    rw [List.getElem_append_right hi1, List.getElem_append_right hi2]
    simp only [List.getElem_singleton]
    exact ⟨hw, fun h => absurd rfl h⟩
theorem Hold.sl2 {n0 : Nat} {H : Heap} {v : SV} {us : List SV} {ls : List (List Id)} (h : Hold n0 H us ls) (hv : Sl H v us) : Sl2 H v ls := ⟨us, hv, h.1, fun i a b => (h.2 i a b).1⟩
theorem gr_of {n0 n1 : Nat} {H : Heap} {v : SV} {ls : List (List Id)} (h : Sl2F n1 H v ls) (ht : v.tight) (hn : H.n ≤ n0) : ∃ us, Gr n0 H v us ∧ Hold n0 H us ls := by
  obtain ⟨us, h1, h2, h3, h4⟩ := h
  refine ⟨us, .inl ⟨ht, h1, fun hl => Nat.lt_of_lt_of_le (h1.blk_lt hl) hn⟩, h2, fun i a b => ⟨(h4 i a b).1, fun hl => Nat.lt_of_lt_of_le ((h4 i a b).1.blk_lt hl) hn⟩⟩
end Go.Iso.Gen
end

section
namespace Go.Iso.Gen
open Go.Iso
set_option maxHeartbeats 4000000
set_option maxRecDepth 10000

theorem expl104 (tm : List IV) (h : tm.length = 104) : tm = [tm.getD 0 IV.undef, tm.getD 1 IV.undef, tm.getD 2 IV.undef, tm.getD 3 IV.undef, tm.getD 4 IV.undef, tm.getD 5 IV.undef, tm.getD 6 IV.undef, tm.getD 7 IV.undef, tm.getD 8 IV.undef, tm.getD 9 IV.undef, tm.getD 10 IV.undef, tm.getD 11 IV.undef, tm.getD 12 IV.undef, tm.getD 13 IV.undef, tm.getD 14 IV.undef, tm.getD 15 IV.undef, tm.getD 16 IV.undef, tm.getD 17 IV.undef, tm.getD 18 IV.undef, tm.getD 19 IV.undef, tm.getD 20 IV.undef, tm.getD 21 IV.undef, tm.getD 22 IV.undef, tm.getD 23 IV.undef, tm.getD 24 IV.undef, tm.getD 25 IV.undef, tm.getD 26 IV.undef, tm.getD 27 IV.undef, tm.getD 28 IV.undef, tm.getD 29 IV.undef, tm.getD 30 IV.undef, tm.getD 31 IV.undef, tm.getD 32 IV.undef, tm.getD 33 IV.undef, tm.getD 34 IV.undef, tm.getD 35 IV.undef, tm.getD 36 IV.undef, tm.getD 37 IV.undef, tm.getD 38 IV.undef, tm.getD 39 IV.undef, tm.getD 40 IV.undef, tm.getD 41 IV.undef, tm.getD 42 IV.undef, tm.getD 43 IV.undef, tm.getD 44 IV.undef, tm.getD 45 IV.undef, tm.getD 46 IV.undef, tm.getD 47 IV.undef, tm.getD 48 IV.undef, tm.getD 49 IV.undef, tm.getD 50 IV.undef, tm.getD 51 IV.undef, tm.getD 52 IV.undef, tm.getD 53 IV.undef, tm.getD 54 IV.undef, tm.getD 55 IV.undef, tm.getD 56 IV.undef, tm.getD 57 IV.undef, tm.getD 58 IV.undef, tm.getD 59 IV.undef, tm.getD 60 IV.undef, tm.getD 61 IV.undef, tm.getD 62 IV.undef, tm.getD 63 IV.undef, tm.getD 64 IV.undef, tm.getD 65 IV.undef, tm.getD 66 IV.undef, tm.getD 67 IV.undef, tm.getD 68 IV.undef, tm.getD 69 IV.undef, tm.getD 70 IV.undef, tm.getD 71 IV.undef, tm.getD 72 IV.undef, tm.getD 73 IV.undef, tm.getD 74 IV.undef, tm.getD 75 IV.undef, tm.getD 76 IV.undef, tm.getD 77 IV.undef, tm.getD 78 IV.undef, tm.getD 79 IV.undef, tm.getD 80 IV.undef, tm.getD 81 IV.undef, tm.getD 82 IV.undef, tm.getD 83 IV.undef, tm.getD 84 IV.undef, tm.getD 85 IV.undef, tm.getD 86 IV.undef, tm.getD 87 IV.undef, tm.getD 88 IV.undef, tm.getD 89 IV.undef, tm.getD 90 IV.undef, tm.getD 91 IV.undef, tm.getD 92 IV.undef, tm.getD 93 IV.undef, tm.getD 94 IV.undef, tm.getD 95 IV.undef, tm.getD 96 IV.undef, tm.getD 97 IV.undef, tm.getD 98 IV.undef, tm.getD 99 IV.undef, tm.getD 100 IV.undef, tm.getD 101 IV.undef, tm.getD 102 IV.undef, tm.getD 103 IV.undef] := (expl tm 104 h).trans rfl
theorem same_loop {A B lo : Nat} {va vb : List SV} {ta tb : List (List Id)} {H0 : Heap} {Q : Out → Heap → Prop} {tm : List IV} {y5 : IV} (hlo : lo ≤ H0.n) (hTa : Tab H0 va ta) (hTb : Tab H0 vb tb) (la : ∀ l ∈ ta, l.length ≤ 1000000) (lb : ∀ l ∈ tb, l.length ≤ 1000000) (ga : H0.get A = some (.cells false 31 80 (flat va))) (gb : H0.get B = some (.cells false 31 80 (flat vb))) (hA : A < H0.n) (hB : B < H0.n)
    (htm : tm.length = 104) (t5 : tm.getD 5 IV.undef = y5) (t7 : tm.getD 7 IV.undef = .ptr A 0) (t8 : tm.getD 8 IV.undef = .ptr B 0) (t10 : tm.getD 10 IV.undef = .bool true) (t11 : tm.getD 11 IV.undef = .int .i64 0)
    (hQ : ∀ H' tm', Keep H0.n H0 H' → tm'.length = 104 → tm'.getD 5 IV.undef = y5 → tm'.getD 7 IV.undef = .ptr A 0 → tm'.getD 8 IV.undef = .ptr B 0 → tm'.getD 10 IV.undef = .bool (decide (ta = tb)) → Q (.ex (.jmp (.exit 0)) ⟨tm', []⟩) H') : W E0 lo (.code (.loop F6l13) none ⟨tm, []⟩) H0 Q := by
  have hal := hTa.1
  have hbl := hTb.1
  have htal := hTa.2.1
  have htbl := hTb.2.1
  refine W_inv (fun k fr H' => ∃ j, j + k = 80 ∧ Keep H0.n H0 H' ∧ fr.marks = [] ∧ fr.tm.length = 104 ∧ fr.tm.getD 5 IV.undef = y5 ∧ fr.tm.getD 7 IV.undef = .ptr A 0 ∧ fr.tm.getD 8 IV.undef = .ptr B 0 ∧ fr.tm.getD 10 IV.undef = .bool (decide (ta.take j = tb.take j)) ∧ fr.tm.getD 11 IV.undef = .int .i64 j) ?_ 80 ⟨0, rfl, Keep.refl _ _, rfl, htm, t5, t7, t8, by rw [t10]; simp, t11⟩
  clear htm t5 t7 t8 t10 t11
  rintro k ⟨tm, mk⟩ H' ⟨j, hjk, hk, rfl, htm, t5, t7, t8, t10, t11⟩ L hN hJ
  rw [expl104 tm htm, t5, t7, t8, t10, t11]
  have hn := hk.1
  by_cases hj : j < 80
  · have ga' := (hk.2 _ hA hA).trans ga
    have gb' := (hk.2 _ hB hB).trans gb
    have hc := tab_read ga' j (by omega)
    have hsl := (hTa.keep hk).2.2 j (by omega) (by omega)
    have hsb := (hTb.keep hk).2.2 j (by omega) (by omega)
    have hli := la _ (List.getElem_mem (show j < ta.length by omega))
    have hlb := lb _ (List.getElem_mem (show j < tb.length by omega))
    have ho := Own.mksl0 (α := Id) (H := H') (e := 28) (n := (ta[j]'(by omega)).length) z_Id (cs := rep (ta[j]'(by omega)).length [IV.int .u8 0, .int .i64 0]) (by rw [rep_length]; rfl)
    have hsl3 := hsl.keep (Keep.new H' (.cells false 28 2 (rep (ta[j]'(by omega)).length [IV.int .u8 0, .int .i64 0])))
    obtain ⟨H4, e4, n4, k4, o4⟩ := append_room (ex := true) ho hsl3 z_Id 16 lo (by simp) (by omega)
    simp only [List.length_nil, Nat.zero_add, List.nil_append, Heap.n_new] at e4 n4 o4
    have kk4 : Keep H'.n H' H4 := ⟨by omega, fun x hx _ => by rw [k4 x (by omega), Heap.get_new, if_neg (by omega)]⟩
    have hc4 := tab_read ((kk4.2 _ (by omega) (by omega)).trans gb') j (by omega)
    have kk : Keep H0.n H0 H4 := hk.trans (kk4.lower hn)
    have hs4 := o4.sl true
    have hsb4 := hsb.keep kk4
    simp (disch := omega) only [F6l13, W_seq, wF6o9, F6p9, W_segs_cons, freeI_s, W_op, wantedI_n, guardC_t, evalAll, IA.eval, List.getD_cons_succ, List.getD_cons_zero, optC_s, argC_a, nextOf, lowOf, goC_a, opW, ev1, pairC_p, opC_a, Fr.put, List.set, binI, iLt, decide_true, if_true, Option.map_some, W_ops_nil, segC_n, W_segs_nil, thenC_n, W_cond, condC_t, W_skip, W_block, wF6o10, F6p10, freeI_f, freeNext, fpOf, pairOk, ne_eq, List.all_nil, Bool.false_eq_true, if_false, List.all_cons, Bool.or_true, Bool.and_self, iLe, and_true, Int.toNat_natCast, Nat.zero_add, Option.getD_none, hc, mkAgg, Option.bind_some, ↓hsl.ln, Int.reduceToNat, Heap.n_new, read_new, cEqL, readO_c, not_false_eq_true, ↓e4, hc4, W_apply, List.nil_append, List.append_nil]
    rw [← SV.sl_iv]
    refine same_sp hs4 ⟨rfl, rfl⟩ hsb4 hli hlb ?_
    have e1 := List.take_succ_eq_append_getElem (l := ta) (i := j) (by omega)
    have e2 := List.take_succ_eq_append_getElem (l := tb) (i := j) (by omega)
    have hiff : (ta.take (j + 1) = tb.take (j + 1)) ↔ (ta.take j = tb.take j ∧ ta[j] = tb[j]'(by omega)) := by
      rw [e1, e2]
      refine ⟨fun h => ?_, fun h => by rw [h.1, h.2]⟩
      have := List.append_inj h (by rw [List.length_take, List.length_take]; omega)
      exact ⟨this.1, by simpa using this.2⟩
    by_cases he : ta[j] = tb[j]'(by omega)
    · rw [if_pos he]
      simp (disch := omega) only [SV.sl_iv, valC_v, opC_a, Fr.put, List.set, W_ops_nil, segC_n, W_segs_cons, freeI_s, W_op, wantedI_n, guardC_t, evalAll, IA.eval, List.getD_cons_succ, List.getD_cons_zero, optC_s, argC_a, nextOf, lowOf, goC_a, opW, ev1, binI, iBeqF, if_true, Option.map_some, pairC_p, W_segs_nil, thenC_n, W_cond, condC_f, W_skip, blkC_n, wF6o12, F6p12, wI64]
      refine hN (k - 1) _ _ (by omega) ⟨j + 1, by omega, kk, rfl, rfl, rfl, rfl, rfl, ?_, rfl⟩
      have : decide (ta.take (j + 1) = tb.take (j + 1)) = decide (ta.take j = tb.take j) := by rw [decide_eq_decide, hiff]; exact ⟨fun h => h.1, fun h => ⟨h, he⟩⟩
      rw [this]; rfl
    · rw [if_neg he]
      simp (disch := omega) only [SV.sl_iv, valC_v, opC_a, Fr.put, List.set, W_ops_nil, segC_n, W_segs_cons, freeI_s, W_op, wantedI_n, guardC_t, evalAll, IA.eval, List.getD_cons_succ, List.getD_cons_zero, optC_s, argC_a, nextOf, lowOf, goC_a, opW, ev1, binI, beq_self_eq_true, if_true, Option.map_some, pairC_p, W_segs_nil, thenC_n, W_cond, condC_t, wF6o11, F6p11, blkC_n, wF6o12, F6p12, wI64]
      refine hN (k - 1) _ _ (by omega) ⟨j + 1, by omega, kk, rfl, rfl, rfl, rfl, rfl, ?_, rfl⟩
      rw [decide_eq_false (fun h => he (hiff.1 h).2)]; rfl
  · obtain rfl : j = 80 := by omega
    rw [List.take_of_length_le (by omega), List.take_of_length_le (by omega)]
    simp (disch := omega) only [F6l13, W_seq, wF6o9, F6p9, W_segs_cons, freeI_s, W_op, wantedI_n, guardC_t, evalAll, IA.eval, List.getD_cons_succ, List.getD_cons_zero, optC_s, argC_a, nextOf, lowOf, goC_a, opW, ev1, pairC_p, opC_a, Fr.put, List.set, binI, iLtF, decide_false, if_true, Option.map_some, W_ops_nil, segC_n, W_segs_nil, thenC_n, W_cond, condC_f, W_exit, thenC_j, hJ]
    exact hQ _ _ hk rfl rfl rfl rfl rfl

/-- Empty needles are put behind. -/
theorem more_loop {P Qb M lo : Nat} {m0 m1 : Nat} {f g : SV} {uf ub : List SV} {lf lb : List (List Id)} {v w : SV} {H0 : Heap} {Q : Out → Heap → Prop} {tm : List IV} {y10 : IV} (hlo : lo ≤ P) (hQ1 : Qb = P + 1) (hM : M < P) (hn0 : P + 2 ≤ H0.n) (hlf : uf.length ≤ 40) (hlb : ub.length ≤ 40)
    (gm : H0.get M = some (.cells false 52 2 [.int .u8 m0, .int .u8 m1])) (hm : m0 ≤ 255) (gp : H0.get P = some (.cells false 35 2 [v.iv, f.iv])) (gq : H0.get Qb = some (.cells false 35 2 [g.iv, w.iv])) (hv : Gr P H0 v uf) (hw : Gr P H0 w ub) (htv : v.tight) (htw : w.tight) (hhv : Hold P H0 uf lf) (hhw : Hold P H0 ub lb)
    (htm : tm.length = 104) (t5 : tm.getD 5 IV.undef = .ptr M 0) (t10 : tm.getD 10 IV.undef = y10) (t12 : tm.getD 12 IV.undef = .ptr P 0) (t13 : tm.getD 13 IV.undef = .ptr Qb 0) (t14 : tm.getD 14 IV.undef = .int .i64 0)
    (hQ : ∀ H' tm' v' w' uf' ub', H0.n ≤ H'.n → (∀ x, x < P → H'.get x = H0.get x) → H'.get P = some (.cells false 35 2 [SV.iv v', f.iv]) → H'.get Qb = some (.cells false 35 2 [g.iv, SV.iv w']) → Gr P H' v' uf' → Gr P H' w' ub' → Hold P H' uf' (lf ++ List.replicate (m0 % 5) []) → Hold P H' ub' (lb ++ List.replicate (m0 % 5) []) → tm'.length = 104 → tm'.getD 10 IV.undef = y10 → tm'.getD 12 IV.undef = .ptr P 0 → tm'.getD 13 IV.undef = .ptr Qb 0 → Q (.ex (.jmp (.exit 2)) ⟨tm', []⟩) H') : W E0 lo (.code (.loop F6l20) none ⟨tm, []⟩) H0 Q := by
  subst hQ1
  refine W_inv (fun k fr H' => ∃ j v w uf ub, j + k = m0 % 5 ∧ H0.n ≤ H'.n ∧ (∀ x, x < P → H'.get x = H0.get x) ∧ H'.get P = some (.cells false 35 2 [SV.iv v, f.iv]) ∧ H'.get (P + 1) = some (.cells false 35 2 [g.iv, SV.iv w]) ∧ Gr P H' v uf ∧ Gr P H' w ub ∧ uf.length ≤ 40 + j ∧ ub.length ≤ 40 + j ∧ ((v.tight ∧ w.tight) ∨ (v.blk ≠ w.blk ∧ P + 2 ≤ v.blk ∧ P + 2 ≤ w.blk ∧ w.blk < H'.n)) ∧ Hold P H' uf (lf ++ List.replicate j []) ∧ Hold P H' ub (lb ++ List.replicate j []) ∧ fr.marks = [] ∧ fr.tm.length = 104 ∧ fr.tm.getD 5 IV.undef = .ptr M 0 ∧ fr.tm.getD 10 IV.undef = y10 ∧ fr.tm.getD 12 IV.undef = .ptr P 0 ∧ fr.tm.getD 13 IV.undef = .ptr (P + 1) 0 ∧ fr.tm.getD 14 IV.undef = .int .i64 j) ?_ (m0 % 5) ⟨0, v, w, uf, ub, by omega, Nat.le_refl _, fun _ _ => rfl, gp, gq, hv, hw, by omega, by omega, .inl ⟨htv, htw⟩, by simpa using hhv, by simpa using hhw, rfl, htm, t5, t10, t12, t13, t14⟩
  clear gp gq hv hw htv htw hhv hhw htm t5 t10 t12 t13 t14 hlf hlb uf ub v w
  rintro k ⟨tm, mk⟩ H' ⟨j, v, w, uf, ub, hjk, hn, hk, gp, gq, hv, hw, hlf, hlb, hd, hhv, hhw, rfl, htm, t5, t10, t12, t13, t14⟩ L hN hJ
  rw [expl104 tm htm, t5, t10, t12, t13, t14]
  have rm := read_get ((hk M hM).trans gm)
  have e5 := tm5 m0
  by_cases hj : j < m0 % 5
  · have rp := read_get gp
    have j4 : j < 4 := by omega
    -- the front bed of the first one
    generalize hHa : H'.new (.cells false 29 1 [.nilSlice]) = Ha
    have hna : Ha.n = H'.n + 1 := by rw [← hHa]; rfl
    have hka : ∀ x, x < H'.n → Ha.get x = H'.get x := fun x hx => by rw [← hHa, Heap.get_new, if_neg (by omega)]
    have gna : Ha.get H'.n = some (.cells false 29 1 [.nilSlice]) := by rw [← hHa, Heap.get_new, if_pos rfl]
    have sa : Sl Ha (.sl H'.n 0 1 1 true) [SV.nil] := (Own.mk' (l := [SV.nil]) (by omega) z_SV gna rfl).sl true
    obtain ⟨H2, e2, n2, k2, v2⟩ := Gr.push (lo := lo) (hv.same (by omega) (by omega) fun x hx _ => hka x hx) (by omega) sa (by omega) (by omega)
    have hvb : ∀ x, x < P + 2 → v.tight ∨ x ≠ v.blk := fun x hx => by
      rcases hd with h | h
      · exact .inl h.1
      · exact .inr (by omega)
    have hwb : ¬ w.tight → v.tight ∨ w.blk ≠ v.blk := fun hw => by
      rcases hd with h | h
      · exact .inl h.1
      · exact .inr (Ne.symm h.1)
    have k20 : ∀ x, x < P + 2 → H2.get x = H'.get x := fun x hx => (k2 x (by omega) (hvb x hx)).trans (hka x (by omega))
    have gp2 := (k20 P (by omega)).trans gp
    rw [hna] at e2 v2 n2 k2
    rw [← hHa, SV.sl_iv] at e2
    simp (disch := omega) only [F6l20, W_seq, wF6o16, F6p16, W_segs_cons, freeI_s, W_op, wantedI_n, guardC_t, evalAll, IA.eval, List.getD_cons_succ, List.getD_cons_zero, optC_s, argC_a, nextOf, lowOf, goC_a, opW, ev1, pairC_p, opC_a, Fr.put, List.set, iLe, iLt, and_true, Int.reduceToNat, Nat.zero_mul, Nat.add_zero, if_true, Option.getD_none, rm, Nat.zero_add, List.length_cons, List.length_nil, Nat.reduceAdd, cLe, List.drop, List.take_succ_cons, List.take, mkAgg, Option.bind_some, Option.map_some, binI, Int.reduceEq, e5, if_false, wI64, decide_true, W_ops_nil, segC_n, W_segs_nil, thenC_n, W_cond, condC_t, W_skip, W_block, wF6o17, F6p17, rp, fillI, cellsV_nilSlice, Nat.le_refl, splice, ↓e2, cellsV_slice, Heap.write, gp2, List.all_cons, oneV_slice, List.all_nil, Bool.and_self]
    generalize hH3 : H2.put P (.cells false 35 2 [IV.slice (H'.n + 1) 0 (uf.length + 1) (uf.length + 1) false, f.iv]) = H3
    have n3 : H3.n = H'.n + 2 := by rw [← hH3]; exact n2
    have g3 : ∀ x, x ≠ P → H3.get x = H2.get x := fun x hx => by rw [← hH3, Heap.get_put, if_neg (Ne.symm hx)]
    have gp3 : H3.get P = some (.cells false 35 2 [(SV.sl (H'.n + 1) 0 (uf.length + 1) (uf.length + 1) false).iv, f.iv]) := by rw [← hH3, Heap.get_put, if_pos rfl]; rfl
    have gq3 := (g3 (P + 1) (by omega)).trans ((k20 _ (by omega)).trans gq)
    have k30 : ∀ x, x < P → H3.get x = H'.get x := fun x hx => (g3 x (by omega)).trans (k20 x (by omega))
    have v3 : Gr P H3 (.sl (H'.n + 1) 0 (uf.length + 1) (uf.length + 1) false) (uf ++ [SV.nil]) := v2.same (by omega) (by omega) fun x hx hc => g3 x (by
      rcases hc with hc | hc
      · omega
      · rw [hc.2, SV.blk_sl]; omega)
    have w3 : Gr P H3 w ub := hw.same (by omega) (by omega) fun x hx hc => by
      have hxP : x ≠ P := by
        rcases hc with hc | hc
        · omega
        · rcases hd with h | h
          · exact absurd h.2 hc.1
          · omega
      refine (g3 x hxP).trans ((k2 x (by omega) ?_).trans (hka x hx))
      rcases hc with hc | hc
      · exact hvb x (by omega)
      · rw [hc.2]; exact hwb hc.1
    clear hH3 gp2 e2 k2 v2
    -- the back bed of the second one
    have rq := read_get gq3
    generalize hHb : (H3.new (.cells false 28 2 [])).new (.cells false 29 1 [.slice H3.n 0 0 0 true]) = Hb
    have hnb : Hb.n = H3.n + 2 := by rw [← hHb]; rfl
    have hkb : ∀ x, x < H3.n → Hb.get x = H3.get x := fun x hx => by rw [← hHb, Heap.get_new, if_neg (by rw [Heap.n_new]; omega), Heap.get_new, if_neg (by omega)]
    have gnb : Hb.get (H3.n + 1) = some (.cells false 29 1 [.slice H3.n 0 0 0 true]) := by rw [← hHb, Heap.get_new, if_pos (by rw [Heap.n_new])]
    have sb : Sl Hb (.sl (H3.n + 1) 0 1 1 true) [SV.sl H3.n 0 0 0 true] := (Own.mk' (l := [SV.sl H3.n 0 0 0 true]) (by omega) z_SV gnb rfl).sl true
    obtain ⟨H4, e4, n4, k4, w4⟩ := Gr.push (lo := lo) (w3.same (by omega) (by omega) fun x hx _ => hkb x hx) (by omega) sb (by omega) (by omega)
    rw [hnb] at e4 w4 n4 k4
    have hwb2 : ∀ x, x < P + 2 → w.tight ∨ x ≠ w.blk := fun x hx => by
      rcases hd with h | h
      · exact .inl h.2
      · exact .inr (by omega)
    have k40 : ∀ x, x < P + 2 → H4.get x = H3.get x := fun x hx => (k4 x (by omega) (hwb2 x hx)).trans (hkb x (by omega))
    have gq4 := (k40 (P + 1) (by omega)).trans gq3
    rw [← hHb, SV.sl_iv] at e4
    simp (disch := omega) only [wF6o18, F6p18, W_segs_cons, freeI_s, W_op, wantedI_n, guardC_t, evalAll, IA.eval, List.getD_cons_succ, List.getD_cons_zero, optC_s, argC_a, nextOf, lowOf, goC_a, opW, ev1, Nat.zero_add, pairC_p, opC_a, Fr.put, List.set, Option.getD_none, rq, Nat.reduceAdd, List.length_cons, List.length_nil, Nat.le_refl, List.drop, List.take_succ_cons, List.take, if_true, mkAgg, Option.bind_some, Option.map_some, fillI, Heap.n_new, cellsV_slice, and_true, splice, ↓e4, Heap.write, gq4, cLe, List.all_cons, oneV_slice, List.all_nil, Bool.and_self, W_ops_nil, segC_n, W_segs_nil, blkC_n, thenC_n, wF6o19, F6p19, binI, wI64]
    generalize hH5 : H4.put (P + 1) (.cells false 35 2 [g.iv, IV.slice (H3.n + 2) 0 (ub.length + 1) (ub.length + 1) false]) = H5
    have n5 : H5.n = H3.n + 3 := by rw [← hH5]; exact n4
    have g5 : ∀ x, x ≠ P + 1 → H5.get x = H4.get x := fun x hx => by rw [← hH5, Heap.get_put, if_neg (Ne.symm hx)]
    have gq5 : H5.get (P + 1) = some (.cells false 35 2 [g.iv, (SV.sl (H3.n + 2) 0 (ub.length + 1) (ub.length + 1) false).iv]) := by rw [← hH5, Heap.get_put, if_pos rfl]; rfl
    have gp5 := (g5 P (by omega)).trans ((k40 P (by omega)).trans gp3)
    have k50 : ∀ x, x < P → H5.get x = H'.get x := fun x hx => (g5 x (by omega)).trans ((k40 x (by omega)).trans (k30 x hx))
    have v5 : Gr P H5 (.sl (H'.n + 1) 0 (uf.length + 1) (uf.length + 1) false) (uf ++ [SV.nil]) := v3.same (by omega) (by omega) fun x hx hc => by
      have hx1 : x < P ∨ x = H'.n + 1 := by
        rcases hc with hc | hc
        · exact .inl hc
        · exact .inr hc.2
      have hxne : w.tight ∨ x ≠ w.blk := by
        rcases hx1 with h | h
        · exact hwb2 x (by omega)
        · rcases hd with h' | h'
          · exact .inl h'.2
          · right
            have := h'.2.2.2
            omega
      refine (g5 x ?_).trans ((k4 x (by omega) hxne).trans (hkb x hx))
      omega
    have w5 : Gr P H5 (.sl (H3.n + 2) 0 (ub.length + 1) (ub.length + 1) false) (ub ++ [SV.sl H3.n 0 0 0 true]) := w4.same (by omega) (by omega) fun x hx hc => g5 x (by
      rcases hc with hc | hc
      · omega
      · rw [hc.2, SV.blk_sl]; omega)
    refine hN (k - 1) _ _ (by omega) ⟨j + 1, _, _, _, _, by omega, by omega, fun x hx => (k50 x hx).trans (hk x hx), gp5, gq5, v5, w5, by simp; omega, by simp; omega, .inr ⟨by rw [SV.blk_sl, SV.blk_sl]; omega, by rw [SV.blk_sl]; omega, by rw [SV.blk_sl]; omega, by rw [SV.blk_sl]; omega⟩, ?_, ?_, rfl, rfl, rfl, rfl, rfl, rfl, rfl⟩
    · rw [List.replicate_succ', ← List.append_assoc]
      exact (hhv.same (by omega) k50).push Sl.empty
    · rw [List.replicate_succ', ← List.append_assoc]
      exact (hhw.same (by omega) k50).push ⟨rfl, Nat.le_refl _, fun h => absurd rfl h⟩
  · obtain rfl : j = m0 % 5 := by omega
    simp (disch := omega) only [F6l20, W_seq, wF6o16, F6p16, W_segs_cons, freeI_s, W_op, wantedI_n, guardC_t, evalAll, IA.eval, List.getD_cons_succ, List.getD_cons_zero, optC_s, argC_a, nextOf, lowOf, goC_a, opW, ev1, pairC_p, opC_a, Fr.put, List.set, iLe, iLt, and_true, Int.reduceToNat, Nat.zero_mul, Nat.add_zero, if_true, Option.getD_none, rm, Nat.zero_add, List.length_cons, List.length_nil, Nat.reduceAdd, cLe, List.drop, List.take_succ_cons, List.take, mkAgg, Option.bind_some, Option.map_some, binI, Int.reduceEq, e5, if_false, wI64, iLtF, decide_false, W_ops_nil, segC_n, W_segs_nil, thenC_n, W_cond, condC_f, W_exit, thenC_j, hJ]
    exact hQ _ _ v w uf ub hn hk gp gq hv hw hhv hhw rfl rfl rfl rfl
end Go.Iso.Gen
end
