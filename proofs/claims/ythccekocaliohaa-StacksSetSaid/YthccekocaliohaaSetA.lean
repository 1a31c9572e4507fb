/-
  what Set and the parts of StacksSet give.
-/
import Derived.Test.YthccekocaliohaaFnB
set_option linter.unusedSimpArgs false
set_option linter.unusedVariables false

section
namespace Go.Iso.Gen
open Go.Iso
set_option maxHeartbeats 4000000
set_option maxRecDepth 10000

/-- Plain laws of Join on tables. -/
def joinL (fb : Int) (a b : List Id) : List Id := if fb = 1 then a ++ b else b ++ a
def joinT (t : List (List Id)) (fb : Int) (i k : Nat) : List (List Id) := (t.set i []).set k (joinL fb (t.getD i []) (t.getD k []))
theorem ix_ne {fb fa tb ta : Int} (hf : needleE fb fa = 0) (ht : needleE tb ta = 0) (hb : fb ≠ tb) : ix fb fa ≠ ix tb ta := by
  intro e
  have h1 := n_ix hf
  have h2 := n_ix ht
  rw [e] at h1
  exact hb (h1.1.symm.trans h2.1)
theorem joinE_eq {t : List (List Id)} (hV : Valid t) (fb fa tb ta : Int) : joinE (bedF t) (bedB t) fb fa tb ta =
    if needleE fb fa ≠ 0 ∨ needleE tb ta ≠ 0 ∨ fb = tb then 1 else if (t.getD (ix fb fa) []).length = 0 then 13 else if (t.getD (ix fb fa) []).length + (t.getD (ix tb ta) []).length > 4 then 9 else 0 := by
  unfold joinE
  rw [if_neg (by rw [hV.check]; simp)]
  by_cases h : needleE fb fa ≠ 0 ∨ needleE tb ta ≠ 0 ∨ fb = tb
  · rw [if_pos h, if_pos h]
  · rw [if_neg h, if_neg h]
    rw [not_or, not_or, Classical.not_not, Classical.not_not] at h
    rw [atL_eq t h.1, atL_eq t h.2.1]
theorem joinS_eq {t : List (List Id)} {fb fa tb ta : Int} (hf : needleE fb fa = 0) (ht : needleE tb ta = 0) : joinS (bedF t) (bedB t) fb fa tb ta = joinL fb (t.getD (ix fb fa) []) (t.getD (ix tb ta) []) := by
  unfold joinS joinL
  rw [atL_eq t hf, atL_eq t ht]
theorem joinFB_eq {t : List (List Id)} (hV : Valid t) {fb fa tb ta : Int} (hf : needleE fb fa = 0) (ht : needleE tb ta = 0) :
    joinF (bedF t) (bedB t) fb fa tb ta = bedF (joinT t fb (ix fb fa) (ix tb ta)) ∧ joinB (bedF t) (bedB t) fb fa tb ta = bedB (joinT t fb (ix fb fa) (ix tb ta)) := by
  unfold joinF joinB joinT
  have h1 := place_eq hV.len hf []
  rw [h1.1, h1.2, joinS_eq hf ht]
  exact place_eq (by rw [List.length_set]; exact hV.len) ht _
theorem set_split {t : List (List Id)} {i : Nat} (hi : i < t.length) (l : List Id) : (t.set i l).flatten.Perm (l ++ (t.set i []).flatten) := by
  have := perm_set_flatten (t := t.set i []) (i := i) (by rw [List.length_set]; exact hi) l
  rw [List.getElem_set_self, List.nil_append, List.set_set] at this
  exact this.trans List.perm_append_comm
theorem flat_split {t : List (List Id)} {i : Nat} (hi : i < t.length) : t.flatten.Perm (t.getD i [] ++ (t.set i []).flatten) := by
  have := set_split hi (t.getD i [])
  rw [getD_in hi, List.set_getElem_self] at this
  rw [getD_in hi]
  exact this
theorem joinL_perm (fb : Int) (a b : List Id) : (joinL fb a b).Perm (a ++ b) := by
  unfold joinL
  split
  · exact .refl _
  · exact List.perm_append_comm
theorem joinL_len (fb : Int) (a b : List Id) : (joinL fb a b).length = a.length + b.length := by rw [(joinL_perm fb a b).length_eq, List.length_append]
theorem joinT_perm {t : List (List Id)} {i k : Nat} (fb : Int) (hi : i < t.length) (hk : k < t.length) (hik : i ≠ k) : (joinT t fb i k).flatten.Perm t.flatten := by
  unfold joinT
  have h1 := set_split (t := t.set i []) (i := k) (by rw [List.length_set]; exact hk) (joinL fb (t.getD i []) (t.getD k []))
  have h2 := flat_split hi
  have h3 := flat_split (t := t.set i []) (i := k) (by rw [List.length_set]; exact hk)
  rw [set_getD t i hi, if_neg hik] at h3
  refine h1.trans ?_
  refine (List.Perm.append_right _ (joinL_perm _ _ _)).trans ?_
  rw [List.append_assoc]
  refine .trans ?_ h2.symm
  exact List.Perm.append_left _ h3.symm
theorem joinT_len (t : List (List Id)) (fb : Int) (i k : Nat) : (joinT t fb i k).length = t.length := by unfold joinT; rw [List.length_set, List.length_set]
theorem joinT_valid {t : List (List Id)} (hV : Valid t) {i k : Nat} (fb : Int) (hi : i < 80) (hk : k < 80) (hik : i ≠ k) (h4 : (t.getD i []).length + (t.getD k []).length ≤ 4) : Valid (joinT t fb i k) := by
  have hp := joinT_perm fb (by rw [hV.len]; exact hi) (by rw [hV.len]; exact hk) hik
  refine ⟨by rw [joinT_len, hV.len], fun l hl => ?_, fun a ha => hV.named a ((hp.mem_iff).1 ha), (hp.nodup_iff).2 hV.nd⟩
  unfold joinT at hl
  rcases List.mem_or_eq_of_mem_set hl with hl | rfl
  · rcases List.mem_or_eq_of_mem_set hl with hl | rfl
    · exact hV.four l hl
    · simp
  · rw [joinL_len]; exact h4
theorem joinT_at {t : List (List Id)} {i k : Nat} (fb : Int) (hi : i < t.length) (hk : k < t.length) (j : Nat) : (joinT t fb i k).getD j [] = if k = j then joinL fb (t.getD i []) (t.getD k []) else if i = j then [] else t.getD j [] := by
  unfold joinT
  rw [set_getD _ _ (by rw [List.length_set]; exact hk), set_getD _ _ hi]
theorem tab_ext {t u : List (List Id)} (h : t.length = u.length) (hg : ∀ j, t.getD j [] = u.getD j []) : t = u := by
  refine List.ext_getElem h fun j h1 h2 => ?_
  have := hg j
  rwa [getD_in h1, getD_in h2] at this
/-- Joined and back again. -/
theorem join_back {t : List (List Id)} {i k : Nat} (fb tb : Int) (hi : i < t.length) (hk : k < t.length) (hik : i ≠ k) (h0 : t.getD k [] = []) : joinT (joinT t fb i k) tb k i = t := by
  refine tab_ext (by rw [joinT_len, joinT_len]) fun j => ?_
  rw [joinT_at _ (by rw [joinT_len]; exact hk) (by rw [joinT_len]; exact hi), joinT_at _ hi hk, joinT_at _ hi hk, joinT_at _ hi hk, if_pos rfl, if_neg (Ne.symm hik), if_pos rfl, h0]
  have e1 : joinL fb (t.getD i []) [] = t.getD i [] := by unfold joinL; split <;> simp
  have e2 : joinL tb (t.getD i []) [] = t.getD i [] := by unfold joinL; split <;> simp
  rw [e1, e2]
  by_cases h1 : i = j
  · subst h1; rw [if_pos rfl]
  · rw [if_neg h1]
    by_cases h2 : k = j
    · subst h2; rw [if_pos rfl, h0]
    · rw [if_neg h2, if_neg h2, if_neg h1]
/-- Which needle of a table a needle is, among the first j. -/
def seek (b a : Int) (j : Nat) : Int := if needleE b a = 0 ∧ ix b a < j then ix b a else -1
theorem seek_zero (b a : Int) : seek b a 0 = -1 := by unfold seek; rw [if_neg (by omega)]
theorem seek_eq {b a : Int} {j : Nat} (hj : j < 80) (h : nB j = b ∧ nA j = a) : seek b a (j + 1) = j := by
  obtain ⟨rfl, rfl⟩ := h
  unfold seek
  rw [if_pos ⟨needle_v j, by rw [ix_n j hj]; omega⟩, ix_n j hj]
theorem seek_ne {b a : Int} {j : Nat} (h : ¬ (nB j = b ∧ nA j = a)) : seek b a (j + 1) = seek b a j := by
  unfold seek
  by_cases hv : needleE b a = 0
  · have := n_ix hv
    have hne : ix b a ≠ j := fun e => h (by rw [← e]; exact ⟨this.1, this.2.1⟩)
    by_cases hl : ix b a < j
    · rw [if_pos ⟨hv, by omega⟩, if_pos ⟨hv, hl⟩]
    · rw [if_neg (by omega), if_neg (by omega)]
  · rw [if_neg (fun h => hv h.1), if_neg (fun h => hv h.1)]
theorem seek_v {b a : Int} (h : needleE b a = 0) : seek b a 80 = ix b a := by unfold seek; rw [if_pos ⟨h, (n_ix h).2.2⟩]
theorem seek_n {b a : Int} (h : needleE b a ≠ 0) : seek b a 80 = -1 := by unfold seek; rw [if_neg fun h' => h h'.1]
theorem seek_lt (b a : Int) (j : Nat) : -1 ≤ seek b a j ∧ seek b a j ≤ 80 := by
  unfold seek
  split
  · rename_i h; have := (n_ix h.1).2.2; omega
  · omega
end Go.Iso.Gen
end

section
namespace Go.Iso.Gen
open Go.Iso
set_option maxHeartbeats 4000000
set_option maxRecDepth 10000

theorem expl77 (tm : List IV) (h : tm.length = 77) : tm = [tm.getD 0 IV.undef, tm.getD 1 IV.undef, tm.getD 2 IV.undef, tm.getD 3 IV.undef, tm.getD 4 IV.undef, tm.getD 5 IV.undef, tm.getD 6 IV.undef, tm.getD 7 IV.undef, tm.getD 8 IV.undef, tm.getD 9 IV.undef, tm.getD 10 IV.undef, tm.getD 11 IV.undef, tm.getD 12 IV.undef, tm.getD 13 IV.undef, tm.getD 14 IV.undef, tm.getD 15 IV.undef, tm.getD 16 IV.undef, tm.getD 17 IV.undef, tm.getD 18 IV.undef, tm.getD 19 IV.undef, tm.getD 20 IV.undef, tm.getD 21 IV.undef, tm.getD 22 IV.undef, tm.getD 23 IV.undef, tm.getD 24 IV.undef, tm.getD 25 IV.undef, tm.getD 26 IV.undef, tm.getD 27 IV.undef, tm.getD 28 IV.undef, tm.getD 29 IV.undef, tm.getD 30 IV.undef, tm.getD 31 IV.undef, tm.getD 32 IV.undef, tm.getD 33 IV.undef, tm.getD 34 IV.undef, tm.getD 35 IV.undef, tm.getD 36 IV.undef, tm.getD 37 IV.undef, tm.getD 38 IV.undef, tm.getD 39 IV.undef, tm.getD 40 IV.undef, tm.getD 41 IV.undef, tm.getD 42 IV.undef, tm.getD 43 IV.undef, tm.getD 44 IV.undef, tm.getD 45 IV.undef, tm.getD 46 IV.undef, tm.getD 47 IV.undef, tm.getD 48 IV.undef, tm.getD 49 IV.undef, tm.getD 50 IV.undef, tm.getD 51 IV.undef, tm.getD 52 IV.undef, tm.getD 53 IV.undef, tm.getD 54 IV.undef, tm.getD 55 IV.undef, tm.getD 56 IV.undef, tm.getD 57 IV.undef, tm.getD 58 IV.undef, tm.getD 59 IV.undef, tm.getD 60 IV.undef, tm.getD 61 IV.undef, tm.getD 62 IV.undef, tm.getD 63 IV.undef, tm.getD 64 IV.undef, tm.getD 65 IV.undef, tm.getD 66 IV.undef, tm.getD 67 IV.undef, tm.getD 68 IV.undef, tm.getD 69 IV.undef, tm.getD 70 IV.undef, tm.getD 71 IV.undef, tm.getD 72 IV.undef, tm.getD 73 IV.undef, tm.getD 74 IV.undef, tm.getD 75 IV.undef, tm.getD 76 IV.undef] := (expl tm 77 h).trans rfl
theorem set_named {v : SV} {l : List Id} {R lo : Nat} {y3 y4 y7 : IV} {H0 : Heap} {Q : Out → Heap → Prop} {tm : List IV} (hlo : lo ≤ R) (hR : R < H0.n) (hv : Sl H0 v l) (hl : l.length ≤ 1000000) (gR : H0.get R = some (.cells false 35 2 [.nilSlice, .nilSlice]))
    (htm : tm.length = 77) (t2 : tm.getD 2 IV.undef = v.iv) (t3 : tm.getD 3 IV.undef = y3) (t4 : tm.getD 4 IV.undef = y4) (t6 : tm.getD 6 IV.undef = .ptr R 0) (t7 : tm.getD 7 IV.undef = y7) (t28 : tm.getD 28 IV.undef = v.iv) (t29 : tm.getD 29 IV.undef = .int .i64 l.length) (t30 : tm.getD 30 IV.undef = .int .i64 0)
    (hQ : l.all namedB = true → ∀ H' tm', Keep H0.n H0 H' → tm'.length = 77 → tm'.getD 2 IV.undef = v.iv → tm'.getD 3 IV.undef = y3 → tm'.getD 4 IV.undef = y4 → tm'.getD 6 IV.undef = .ptr R 0 → tm'.getD 7 IV.undef = y7 → Q (.ex (.jmp (.exit 0)) ⟨tm', []⟩) H')
    (hE : l.all namedB = false → ∀ H' tm', Keep R H0 H' → H'.get R = some (.cells false 35 2 [.nilSlice, .nilSlice]) → tm'.length = 77 → tm'.getD 6 IV.undef = .ptr R 0 → tm'.getD 7 IV.undef = .int .i64 1 → Q (.ex (.jmp .ret) ⟨tm', []⟩) H') : W E0 lo (.code (.loop F17l12) none ⟨tm, []⟩) H0 Q := by
  refine W_inv (fun k fr H' => ∃ j, j + k = l.length ∧ (l.take j).all namedB = true ∧ Keep H0.n H0 H' ∧ fr.marks = [] ∧ fr.tm.length = 77 ∧ fr.tm.getD 2 IV.undef = v.iv ∧ fr.tm.getD 3 IV.undef = y3 ∧ fr.tm.getD 4 IV.undef = y4 ∧ fr.tm.getD 6 IV.undef = .ptr R 0 ∧ fr.tm.getD 7 IV.undef = y7 ∧ fr.tm.getD 28 IV.undef = v.iv ∧ fr.tm.getD 29 IV.undef = .int .i64 l.length ∧ fr.tm.getD 30 IV.undef = .int .i64 j) ?_ l.length ⟨0, by omega, by simp, Keep.refl _ _, rfl, htm, t2, t3, t4, t6, t7, t28, t29, t30⟩
  clear htm t2 t3 t4 t6 t7 t28 t29 t30
  rintro k ⟨tm, mk⟩ Hc ⟨j, hjk, hall, hk, rfl, htm, t2, t3, t4, t6, t7, t28, t29, t30⟩ L hN hJ
  rw [expl77 tm htm, t2, t3, t4, t6, t7, t28, t29, t30]
  have hn := hk.1
  by_cases hj : j < l.length
  · have hv' := hv.keep hk
    have r1 := hv'.read z_Id j hj
    simp (disch := omega) only [F17l12, W_seq, wF17o7, F17p7, W_segs_cons, freeI_s, W_op, wantedI_n, guardC_t, evalAll, IA.eval, List.getD_cons_succ, List.getD_cons_zero, optC_s, argC_a, nextOf, lowOf, goC_a, opW, ev1, binI, iLt, decide_true, if_true, Option.map_some, pairC_p, opC_a, Fr.put, List.set, W_ops_nil, segC_n, W_segs_nil, thenC_n, W_cond, condC_t, W_skip, W_block, wF17o8, F17p8, ↓hv'.idx, Int.toNat_natCast, Option.getD_some, r1, cs_Id, mkAgg, Option.bind_some, cellsV_agg, List.length_cons, List.length_nil, Nat.zero_add, Nat.reduceAdd, Heap.write, Heap.get_new, cLe, Nat.le_refl, List.all_cons, oneV_int, List.all_nil, Bool.and_self, and_true, splice, wF17o9, F17p9, read_put, readO_c, List.drop, List.take_succ_cons, List.take, read_new, W_apply, List.nil_append, List.append_nil]
    generalize hH_H2 : Heap.put _ _ _ = H2
    have hnH2 : H2.n = Hc.n + 1 := by rw [← hH_H2]; rfl
    have g2 := congrArg (fun h0 => Heap.get h0 (Hc.n)) hH_H2.symm
    simp (disch := omega) only [Heap.get_put, Heap.get_new, if_true] at g2
    have kH2 : Keep Hc.n Hc H2 := ⟨by omega, fun x hx _ => by
      have gx := congrArg (fun h0 => Heap.get h0 x) hH_H2.symm
      simp (disch := omega) only [Heap.get_put, cEqL, Heap.get_new, if_false] at gx
      exact gx⟩
    clear hH_H2
    rw [← cs_Id]
    refine named_sp l[j] (by omega) fun H3 k3 => ?_
    have hn3 := k3.1
    have kk3 : Keep H0.n H0 H3 := hk.trans ((kH2.trans (k3.lower (by omega))).lower hn)
    by_cases hb : namedB l[j] = true
    · rw [hb]
      simp (disch := omega) only [valC_v, opC_a, Fr.put, List.set, W_op, wantedI_n, guardC_t, evalAll, IA.eval, List.getD_cons_succ, List.getD_cons_zero, optC_s, argC_a, nextOf, lowOf, goC_a, opW, ev1, unI, Bool.not_true, Option.map_some, pairC_p, W_ops_nil, segC_n, W_segs_nil, thenC_n, W_cond, condC_f, W_skip, blkC_n, wF17o11, F17p11, W_segs_cons, freeI_s, binI, wI64, if_true]
      refine hN (k - 1) _ _ (by omega) ⟨j + 1, by omega, ?_, kk3, rfl, rfl, rfl, rfl, rfl, rfl, rfl, rfl, rfl, rfl⟩
      rw [List.take_succ_eq_append_getElem hj, List.all_append, hall]
      simp [hb]
    · have hbf : namedB l[j] = false := by simpa using hb
      rw [hbf]
      have gR' := (kk3.2 R hR hR).trans gR
      simp (disch := omega) only [valC_v, opC_a, Fr.put, List.set, W_op, wantedI_n, guardC_t, evalAll, IA.eval, List.getD_cons_succ, List.getD_cons_zero, optC_s, argC_a, nextOf, lowOf, goC_a, opW, ev1, unI, Bool.not_false, Option.map_some, pairC_p, W_ops_nil, segC_n, W_segs_nil, thenC_n, W_cond, condC_t, W_seq, wF17o10, F17p10, W_segs_cons, freeI_s, fillI, cellsV_agg, List.length_cons, List.length_nil, Nat.zero_add, Nat.reduceAdd, Heap.write, gR', cLe, Nat.le_refl, List.all_cons, oneV_nilSlice, List.all_nil, Bool.and_self, and_true, splice, if_true, W_ret, blkC_r, thenC_j, hJ]
      refine hE ?_ _ _ ((kk3.lower (by omega)).trans (.put _ _ (Nat.le_refl _))) (by rw [Heap.get_put, if_pos rfl]) rfl rfl rfl
      rw [List.all_eq_false]
      exact ⟨l[j], List.getElem_mem hj, by simp [hbf]⟩
  · rw [List.take_of_length_le (by omega)] at hall
    simp (disch := omega) only [F17l12, W_seq, wF17o7, F17p7, W_segs_cons, freeI_s, W_op, wantedI_n, guardC_t, evalAll, IA.eval, List.getD_cons_succ, List.getD_cons_zero, optC_s, argC_a, nextOf, lowOf, goC_a, opW, ev1, binI, iLtF, decide_false, if_true, Option.map_some, pairC_p, opC_a, Fr.put, List.set, W_ops_nil, segC_n, W_segs_nil, thenC_n, W_cond, condC_f, W_exit, thenC_j, hJ]
    exact hQ hall _ _ hk rfl rfl rfl rfl rfl rfl

/-- The names of a stack are put into the set. -/
theorem set_add {w : SV} {l ks : List Id} {tb mb lo l1 : Nat} {H : Heap} {Q : Out → Heap → Prop} {mk : List Nat} {tm : List IV} (hw : Sl H w l) (hl : l.length ≤ 1000000)
    (hgt : H.get tb = some (.cells false 62 1 [.map mb])) (htb : tb < H.n) (hmb : mb < H.n) (hlm : lo ≤ mb) (hm : MapIds H mb ks) (htm : tm.length = 77) (t11 : tm.getD 11 IV.undef = .ptr tb 0) (t51 : tm.getD 51 IV.undef = w.iv) (t52 : tm.getD 52 IV.undef = .int .i64 l.length) (t53 : tm.getD 53 IV.undef = .int .i64 0)
    (hQ : ∀ H' tm' ks', KeepB mb H H' → MapIds H' mb ks' → (∀ a, a ∈ ks' ↔ a ∈ ks ∨ a ∈ l) → Q (.ex (.jmp (.exit 4)) ⟨tm', mk⟩) H') : W E0 lo (.code (.loop F17l25) (some l1) ⟨tm, mk⟩) H Q := by
  refine W_inv (fun k fr H' => ∃ i ks', i + k = l.length ∧ KeepB mb H H' ∧ MapIds H' mb ks' ∧ (∀ a, a ∈ ks' ↔ a ∈ ks ∨ a ∈ l.take i) ∧ fr.marks = mk ∧ fr.tm.length = 77 ∧ fr.tm.getD 11 IV.undef = .ptr tb 0 ∧ fr.tm.getD 51 IV.undef = w.iv ∧ fr.tm.getD 52 IV.undef = .int .i64 l.length ∧ fr.tm.getD 53 IV.undef = .int .i64 i) ?_ l.length ⟨0, ks, by omega, KeepB.refl _ _, hm, by simp, rfl, htm, t11, t51, t52, t53⟩
  clear htm t11 t51 t52 t53
  rintro k ⟨tm, mk⟩ H' ⟨i, ks', hi, hk, hm', hiff, rfl, htm, t11, t51, t52, t53⟩ L hN hJ
  have hn := hk.1
  have hw' := Sl.keepB hw hk hm
  have htm' : tb ≠ mb := fun e => by subst e; have h2 : H.get tb = _ := hm; rw [h2] at hgt; cases hgt
  have hgt' := (hk.2 tb htb htm').trans hgt
  have rt := read_get hgt'
  rw [expl77 tm htm, t11, t51, t52, t53]
  by_cases hil : i < l.length
  · have r1 := hw'.read z_Id i hil
    have kk : KeepB mb H ((H'.new (.cells false 28 2 [.int .u8 0, .int .i64 0])).put H'.n (.cells false 28 2 (Cell.cs l[i]))) := hk.trans (KeepB.of Keep.newPut)
    have hm2 : MapIds ((H'.new (.cells false 28 2 [.int .u8 0, .int .i64 0])).put H'.n (.cells false 28 2 (Cell.cs l[i]))) mb ks' := by
      show Heap.get _ _ = _
      rw [Heap.get_put, if_neg (by omega), Heap.get_new, if_neg (by omega)]
      exact hm'
    obtain ⟨ob, hup, hob⟩ := hm2.upd l[i] lo hlm
    simp only [cs_Id] at hup
    simp (disch := omega) only [F17l25, W_seq, wF17o21, F17p21, W_segs_cons, freeI_s, W_op, wantedI_n, guardC_t, evalAll, IA.eval, List.getD_cons_succ, List.getD_cons_zero, optC_s, argC_a, nextOf, lowOf, goC_a, opW, ev1, binI, iLt, decide_true, if_true, Option.map_some, pairC_p, opC_a, Fr.put, List.set, W_ops_nil, segC_n, W_segs_nil, thenC_n, W_cond, condC_t, W_skip, W_block, wF17o22, F17p22, ↓hw.idx, Int.toNat_natCast, Option.getD_some, r1, cs_Id, mkAgg, Option.bind_some, cellsV_agg, List.length_cons, List.length_nil, Nat.zero_add, Nat.reduceAdd, Heap.write, Heap.get_new, cLe, Nat.le_refl, List.all_cons, oneV_int, List.all_nil, Bool.and_self, and_true, splice, wF17o23, F17p23, Option.getD_none, read_put, cEqL, readO_c, List.drop, List.take_succ_cons, List.take, read_new, rt, if_false, ↓hup, blkC_n, wF17o24, F17p24, wI64]
    refine hN (k - 1) _ _ (by omega) ⟨i + 1, if l[i] ∈ ks' then ks' else ks' ++ [l[i]], by omega, kk.trans KeepB.put, ?_, fun a => ?_, rfl, rfl, rfl, rfl, rfl, rfl⟩
    · show Heap.get _ _ = _
      rw [Heap.get_put, if_pos rfl, hob]
    · rw [List.take_succ_eq_append_getElem hil, List.mem_append, List.mem_singleton]
      by_cases hin : l[i] ∈ ks'
      · rw [if_pos hin, hiff]
        refine ⟨fun h => h.elim .inl fun h => .inr (.inl h), fun h => ?_⟩
        rcases h with h | h | rfl
        · exact .inl h
        · exact .inr h
        · exact (hiff _).1 hin
      · rw [if_neg hin, List.mem_append, List.mem_singleton, hiff]
        exact or_assoc
  · rw [List.take_of_length_le (by omega)] at hiff
    simp (disch := omega) only [F17l25, W_seq, wF17o21, F17p21, W_segs_cons, freeI_s, W_op, wantedI_n, guardC_t, evalAll, IA.eval, List.getD_cons_succ, List.getD_cons_zero, optC_s, argC_a, nextOf, lowOf, goC_a, opW, ev1, binI, iLtF, decide_false, if_true, Option.map_some, pairC_p, opC_a, Fr.put, List.set, W_ops_nil, segC_n, W_segs_nil, thenC_n, W_cond, condC_f, W_exit, thenC_j, hJ]
    exact hQ _ _ ks' hk hm' hiff

/-- The new names are looked up, and put into the set. -/
theorem set_there {v : SV} {l ks : List Id} {R tb mb lo : Nat} {y3 y4 : IV} {mk : List Nat} {H : Heap} {Q : Out → Heap → Prop} {tm : List IV} (hv : Sl H v l) (hl : l.length ≤ 1000000) (hR : R < H.n) (hlo : lo ≤ R) (gR : H.get R = some (.cells false 35 2 [.nilSlice, .nilSlice]))
    (hgt : H.get tb = some (.cells false 62 1 [.map mb])) (htb : tb < H.n) (hmb : mb < H.n) (hlm : lo ≤ mb) (hRm : R < mb) (hm : MapIds H mb ks) (htm : tm.length = 77) (t2 : tm.getD 2 IV.undef = v.iv) (t3 : tm.getD 3 IV.undef = y3) (t4 : tm.getD 4 IV.undef = y4) (t6 : tm.getD 6 IV.undef = .ptr R 0) (t11 : tm.getD 11 IV.undef = .ptr tb 0) (t60 : tm.getD 60 IV.undef = v.iv) (t61 : tm.getD 61 IV.undef = .int .i64 l.length) (t62 : tm.getD 62 IV.undef = .int .i64 0)
    (hQ : (∀ a ∈ l, a ∉ ks) → l.Nodup → ∀ H' tm', KeepB mb H H' → tm'.length = 77 → tm'.getD 2 IV.undef = v.iv → tm'.getD 3 IV.undef = y3 → tm'.getD 4 IV.undef = y4 → tm'.getD 6 IV.undef = .ptr R 0 → Q (.ex (.jmp (.exit 6)) ⟨tm', mk⟩) H')
    (hE : ¬ ((∀ a ∈ l, a ∉ ks) ∧ l.Nodup) → ∀ H' tm', H.n ≤ H'.n → (∀ x, x < R → H'.get x = H.get x) → H'.get R = some (.cells false 35 2 [.nilSlice, .nilSlice]) → tm'.length = 77 → tm'.getD 6 IV.undef = .ptr R 0 → tm'.getD 7 IV.undef = .int .i64 8 → (∀ x, x < H.n → x ≠ mb → x ≠ R → H'.get x = H.get x) → Q (.ex (.jmp .ret) ⟨tm', mk⟩) H') : W E0 lo (.code (.loop F17l33) none ⟨tm, mk⟩) H Q := by
  refine W_inv (fun k fr H' => ∃ i ks', i + k = l.length ∧ KeepB mb H H' ∧ MapIds H' mb ks' ∧ (∀ a, a ∈ ks' ↔ a ∈ ks ∨ a ∈ l.take i) ∧ (∀ a ∈ l.take i, a ∉ ks) ∧ (l.take i).Nodup ∧ fr.marks = mk ∧ fr.tm.length = 77 ∧ fr.tm.getD 2 IV.undef = v.iv ∧ fr.tm.getD 3 IV.undef = y3 ∧ fr.tm.getD 4 IV.undef = y4 ∧ fr.tm.getD 6 IV.undef = .ptr R 0 ∧ fr.tm.getD 11 IV.undef = .ptr tb 0 ∧ fr.tm.getD 60 IV.undef = v.iv ∧ fr.tm.getD 61 IV.undef = .int .i64 l.length ∧ fr.tm.getD 62 IV.undef = .int .i64 i) ?_ l.length ⟨0, ks, by omega, KeepB.refl _ _, hm, by simp, by simp, by simp, rfl, htm, t2, t3, t4, t6, t11, t60, t61, t62⟩
  clear htm t2 t3 t4 t6 t11 t60 t61 t62
  rintro k ⟨tm, mk⟩ H' ⟨i, ks', hi, hk, hm', hiff, hno, hnd, rfl, htm, t2, t3, t4, t6, t11, t60, t61, t62⟩ L hN hJ
  have hn := hk.1
  have hw' := Sl.keepB hv hk hm
  have htm' : tb ≠ mb := fun e => by subst e; have h2 : H.get tb = _ := hm; rw [h2] at hgt; cases hgt
  have hgt' := (hk.2 tb htb htm').trans hgt
  have gR' := (hk.2 R hR (by omega)).trans gR
  have rt := read_get hgt'
  rw [expl77 tm htm, t2, t3, t4, t6, t11, t60, t61, t62]
  by_cases hil : i < l.length
  · have r1 := hw'.read z_Id i hil
    have kk : KeepB mb H ((H'.new (.cells false 28 2 [.int .u8 0, .int .i64 0])).put H'.n (.cells false 28 2 (Cell.cs l[i]))) := hk.trans (KeepB.of Keep.newPut)
    have hm2 : MapIds ((H'.new (.cells false 28 2 [.int .u8 0, .int .i64 0])).put H'.n (.cells false 28 2 (Cell.cs l[i]))) mb ks' := by
      show Heap.get _ _ = _
      rw [Heap.get_put, if_neg (by omega), Heap.get_new, if_neg (by omega)]
      exact hm'
    have hlk := hm2.look l[i]
    by_cases hin : l[i] ∈ ks'
    · rw [decide_eq_true hin] at hlk
      simp only [cs_Id] at hlk
      simp (disch := omega) only [F17l33, W_seq, wF17o27, F17p27, W_segs_cons, freeI_s, W_op, wantedI_n, guardC_t, evalAll, IA.eval, List.getD_cons_succ, List.getD_cons_zero, optC_s, argC_a, nextOf, lowOf, goC_a, opW, ev1, binI, iLt, decide_true, if_true, Option.map_some, pairC_p, opC_a, Fr.put, List.set, W_ops_nil, segC_n, W_segs_nil, thenC_n, W_cond, condC_t, W_skip, W_block, wF17o28, F17p28, ↓hv.idx, Int.toNat_natCast, Option.getD_some, r1, cs_Id, mkAgg, Option.bind_some, cellsV_agg, List.length_cons, List.length_nil, Nat.zero_add, Nat.reduceAdd, Heap.write, Heap.get_new, cLe, Nat.le_refl, List.all_cons, oneV_int, List.all_nil, Bool.and_self, and_true, splice, wF17o29, F17p29, Option.getD_none, read_put, cEqL, readO_c, List.drop, List.take_succ_cons, List.take, read_new, rt, if_false, ↓hlk, wF17o30, F17p30, fillI, Heap.get_put, gR', oneV_nilSlice, W_ret, thenC_j, blkC_r, hJ]
      refine hE ?_ _ _ (by simp only [Heap.n_put, Heap.n_new]; omega) (fun x hx => ?_) (by rw [Heap.get_put, if_pos rfl]) rfl rfl rfl (fun x h1 h2 h3 => ?_)
      · rintro ⟨h1, h2⟩
        rcases (hiff _).1 hin with h | h
        · exact h1 _ (List.getElem_mem hil) h
        · have := not_nodup (ks := []) hil (by simpa using h)
          exact this (by simpa using h2)
      · rw [Heap.get_put, if_neg (by omega), Heap.get_put, if_neg (by omega), Heap.get_new, if_neg (by omega)]
        exact hk.2 x (by omega) (by omega)
      · rw [Heap.get_put, if_neg (Ne.symm h3), Heap.get_put, if_neg (by omega), Heap.get_new, if_neg (by omega)]
        exact hk.2 x h1 h2
    · rw [decide_eq_false hin] at hlk
      obtain ⟨ob, hup, hob⟩ := hm2.upd l[i] lo hlm
      rw [if_neg hin] at hob
      simp only [cs_Id] at hup hlk
      simp (disch := omega) only [F17l33, W_seq, wF17o27, F17p27, W_segs_cons, freeI_s, W_op, wantedI_n, guardC_t, evalAll, IA.eval, List.getD_cons_succ, List.getD_cons_zero, optC_s, argC_a, nextOf, lowOf, goC_a, opW, ev1, binI, iLt, decide_true, if_true, Option.map_some, pairC_p, opC_a, Fr.put, List.set, W_ops_nil, segC_n, W_segs_nil, thenC_n, W_cond, condC_t, W_skip, W_block, wF17o28, F17p28, ↓hv.idx, Int.toNat_natCast, Option.getD_some, r1, cs_Id, mkAgg, Option.bind_some, cellsV_agg, List.length_cons, List.length_nil, Nat.zero_add, Nat.reduceAdd, Heap.write, Heap.get_new, cLe, Nat.le_refl, List.all_cons, oneV_int, List.all_nil, Bool.and_self, and_true, splice, wF17o29, F17p29, Option.getD_none, read_put, cEqL, readO_c, List.drop, List.take_succ_cons, List.take, read_new, rt, if_false, ↓hlk, condC_f, wF17o31, F17p31, ↓hup, blkC_n, wF17o32, F17p32, wI64]
      have hnk : l[i] ∉ ks := fun h => hin ((hiff _).2 (.inl h))
      have hnt : l[i] ∉ l.take i := fun h => hin ((hiff _).2 (.inr h))
      refine hN (k - 1) _ _ (by omega) ⟨i + 1, ks' ++ [l[i]], by omega, kk.trans KeepB.put, ?_, fun a => ?_, fun a ha => ?_, ?_, rfl, rfl, rfl, rfl, rfl, rfl, rfl, rfl, rfl, rfl⟩
      · show Heap.get _ _ = _
        rw [Heap.get_put, if_pos rfl, hob]
      · rw [List.take_succ_eq_append_getElem hil, List.mem_append, List.mem_append, List.mem_singleton, hiff]
        exact or_assoc
      · rw [List.take_succ_eq_append_getElem hil, List.mem_append, List.mem_singleton] at ha
        rcases ha with ha | rfl
        · exact hno a ha
        · exact hnk
      · rw [List.take_succ_eq_append_getElem hil]
        exact nodup_snoc hnd hnt
  · rw [List.take_of_length_le (by omega)] at hno hnd
    simp (disch := omega) only [F17l33, W_seq, wF17o27, F17p27, W_segs_cons, freeI_s, W_op, wantedI_n, guardC_t, evalAll, IA.eval, List.getD_cons_succ, List.getD_cons_zero, optC_s, argC_a, nextOf, lowOf, goC_a, opW, ev1, binI, iLtF, decide_false, if_true, Option.map_some, pairC_p, opC_a, Fr.put, List.set, W_ops_nil, segC_n, W_segs_nil, thenC_n, W_cond, condC_f, W_exit, thenC_j, hJ]
    exact hQ hno hnd _ _ hk rfl rfl rfl rfl rfl
end Go.Iso.Gen
end

section
namespace Go.Iso.Gen
open Go.Iso
set_option maxHeartbeats 4000000
set_option maxRecDepth 10000

theorem nd_t {a b c d : Int} (h : a = c ∧ b = d) : ((a == c) && (b == d)) = true := by simp [h.1, h.2]
theorem nd_f {a b c d : Int} (h : ¬ (a = c ∧ b = d)) : ((a == c) && (b == d)) = false := by
  rw [Bool.and_eq_false_iff]
  by_cases h1 : a = c
  · right; simp; exact fun e => h ⟨h1, e⟩
  · left; simpa using h1
/-- What Set returns for the beds of a table. -/
def setE (t : List (List Id)) (nb na : Int) (l : List Id) : Int :=
  if needleE nb na ≠ 0 then 1 else if l.all namedB = false then 1 else if l.length > 4 then 9 else if (∀ a ∈ l, a ∉ (t.set (ix nb na) []).flatten) ∧ l.Nodup then 0 else 8

/-- The names that other needles hold, of the first m. -/
def InS (t : List (List Id)) (k m : Nat) (a : Id) : Prop := ∃ j, j < m ∧ j ≠ k ∧ a ∈ t.getD j []
theorem InS.succ (t : List (List Id)) (k m : Nat) (a : Id) : InS t k (m + 1) a ↔ InS t k m a ∨ (m ≠ k ∧ a ∈ t.getD m []) := by
  constructor
  · rintro ⟨j, h1, h2, h3⟩
    by_cases hj : j = m
    · subst hj; exact .inr ⟨h2, h3⟩
    · exact .inl ⟨j, by omega, h2, h3⟩
  · rintro (⟨j, h1, h2, h3⟩ | ⟨h2, h3⟩)
    · exact ⟨j, by omega, h2, h3⟩
    · exact ⟨m, by omega, h2, h3⟩
theorem InS.ext {t : List (List Id)} {m n : Nat} (k : Nat) (a : Id) (h : m ≤ n) (h0 : ∀ j, m ≤ j → j < n → t.getD j [] = []) : InS t k m a ↔ InS t k n a := by
  constructor
  · rintro ⟨j, h1, h2, h3⟩; exact ⟨j, by omega, h2, h3⟩
  · rintro ⟨j, h1, h2, h3⟩
    refine ⟨j, ?_, h2, h3⟩
    by_cases hj : j < m
    · exact hj
    · rw [h0 j (by omega) h1] at h3; cases h3
theorem InS.all {t : List (List Id)} (ht : t.length = 80) {k : Nat} (hk : k < 80) (a : Id) : InS t k 80 a ↔ a ∈ (t.set k []).flatten := by
  rw [List.mem_flatten]
  constructor
  · rintro ⟨j, h1, h2, h3⟩
    refine ⟨t.getD j [], ?_, h3⟩
    rw [getD_in (by omega)]
    have : (t.set k [])[j]'(by rw [List.length_set]; omega) = t[j]'(by omega) := List.getElem_set_ne (Ne.symm h2) _
    rw [← this]
    exact List.getElem_mem _
  · rintro ⟨x, h1, h2⟩
    obtain ⟨j, hj, rfl⟩ := List.mem_iff_getElem.1 h1
    rw [List.length_set] at hj
    by_cases hjk : k = j
    · subst hjk; rw [List.getElem_set_self] at h2; cases h2
    · rw [List.getElem_set_ne hjk] at h2
      exact ⟨j, by omega, Ne.symm hjk, by rw [getD_in hj]; exact h2⟩
theorem bedF_at (t : List (List Id)) {i : Nat} (h : i < 40) : (bedF t).getD i [] = t.getD i [] := by
  unfold bedF; rw [shortL_getD, getD_take _ _ _ h]
theorem bedB_at (t : List (List Id)) (i : Nat) : (bedB t).getD i [] = t.getD (40 + i) [] := by
  unfold bedB; rw [shortL_getD, getD_drop]

theorem set_sp {f b v : SV} {t : List (List Id)} {l : List Id} (nb na : Int) {H : Heap} {lo : Nat} {Q : Out → Heap → Prop} (hV : Valid t) (hf : Sl2 H f (bedF t)) (hb : Sl2 H b (bedB t)) (hv : Sl H v l) (hl : l.length ≤ 1000000) (hlo : lo ≤ H.n)
    (he : ∀ H', Keep H.n H H' → setE t nb na l ≠ 0 → Q (.val (.tuple [bv .nil .nil, .int .i64 (setE t nb na l)])) H')
    (h : ∀ H' f' b', Keep H.n H H' → setE t nb na l = 0 → Beds H.n H' f' b' (bedF (t.set (ix nb na) l)) (bedB (t.set (ix nb na) l)) → Q (.val (.tuple [bv f' b', .int .i64 0])) H') : W E0 lo (.call 17 [bv f b, .agg [.int .u8 nb, .int .i64 na], v.iv]) H Q := by
  have hl6 : ∀ l ∈ t, l.length ≤ 1000000 := fun l hl => by have := hV.four l hl; omega
  have hlF := bedF_len t
  have hlB := bedB_len hV.len
  have h6F : ∀ l ∈ bedF t, l.length ≤ 1000000 := fun l hl => hl6 l (bedF_mem hl)
  have h6B : ∀ l ∈ bedB t, l.length ≤ 1000000 := fun l hl => hl6 l (bedB_mem hl)
  refine W.pure plain hlo ?_
  rw [c17]
  simp (disch := omega) only [F17b, bv, F17, List.length_cons, List.length_nil, Nat.zero_add, Nat.reduceAdd, Nat.reduceSub, undefs, List.cons_append, List.nil_append, W_seq, wF17o0, F17p0, W_segs_cons, freeI_s, W_op, wantedI_n, guardC_t, evalAll, IA.eval, List.getD_cons_zero, optC_s, argC_a, nextOf, lowOf, goC_a, opW, ev1, cellsV_agg, pairC_p, opC_a, Fr.put, List.set, List.getD_cons_succ, Heap.n_new, Nat.add_assoc, W_ops_nil, segC_n, W_segs_nil, thenC_n, wF17o1, F17p1, Option.getD_some, read_new, cEqL, readO_c, Nat.le_refl, List.drop, List.take_succ_cons, List.take, if_true, if_false, mkAgg, Option.map_some, Option.bind_some, W_apply, List.append_nil]
  generalize hH_H1 : Heap.new _ _ = H1
  have hnH1 : H1.n = H.n + 3 := by rw [← hH_H1]; rfl
  have g0 := congrArg (fun h0 => Heap.get h0 (H.n)) hH_H1.symm
  simp (disch := omega) only [Heap.get_new, Heap.n_new, Nat.add_assoc, Nat.reduceAdd, cEqL, if_true, if_false] at g0
  have g1 := congrArg (fun h0 => Heap.get h0 (H.n + 1)) hH_H1.symm
  simp (disch := omega) only [Heap.get_new, Heap.n_new, Nat.add_assoc, Nat.reduceAdd, cEqL, cEqR, if_false, if_true] at g1
  have g2 := congrArg (fun h0 => Heap.get h0 (H.n + 2)) hH_H1.symm
  simp (disch := omega) only [Heap.get_new, Heap.n_new, Nat.add_assoc, Nat.reduceAdd, cEqR, if_false, if_true] at g2
  have kH1 : Keep H.n H H1 := ⟨by omega, fun x hx _ => by
    have gx := congrArg (fun h0 => Heap.get h0 x) hH_H1.symm
    simp (disch := omega) only [Heap.get_new, Heap.n_new, Nat.add_assoc, Nat.reduceAdd, cEqL, if_false] at gx
    exact gx⟩
  clear hH_H1
  rw [show IV.agg [f.iv, b.iv] = bv f b from rfl]
  refine check_sp (hf.keep kH1) (hb.keep kH1) (by omega) (by omega) h6F h6B (by omega) fun H2 k2 => ?_
  rw [hV.check]
  have hn2 := k2.1
  replace g0 := (k2.2 _ (by omega) (by omega)).trans g0
  replace g1 := (k2.2 _ (by omega) (by omega)).trans g1
  replace g2 := (k2.2 _ (by omega) (by omega)).trans g2
  replace kH1 : Keep H.n H H2 := kH1.trans (k2.lower (by omega))
  clear k2
  have r1 := read_get g1
  simp (disch := omega) only [valC_v, opC_a, Fr.put, List.set, W_op, wantedI_n, guardC_t, evalAll, IA.eval, List.getD_cons_succ, List.getD_cons_zero, optC_s, argC_a, nextOf, lowOf, goC_a, opW, ev1, pairC_p, W_ops_nil, segC_n, W_segs_nil, thenC_n, W_seq, wF17o2, F17p2, W_segs_cons, freeI_s, binI, bne_self_eq_false, if_true, Option.map_some, W_cond, condC_f, W_skip, wF17o4, F17p4, Option.getD_some, r1, Nat.zero_add, List.length_cons, List.length_nil, Nat.reduceAdd, Nat.le_refl, List.drop, List.take_succ_cons, List.take, mkAgg, Option.bind_some, W_apply, List.nil_append, List.append_nil]
  refine ncheck_sp nb na (by omega) fun H3 k3 => ?_
  have hn3 := k3.1
  replace g0 := (k3.2 _ (by omega) (by omega)).trans g0
  replace g1 := (k3.2 _ (by omega) (by omega)).trans g1
  replace g2 := (k3.2 _ (by omega) (by omega)).trans g2
  replace kH1 : Keep H.n H H3 := kH1.trans (k3.lower (by omega))
  clear k3 r1
  by_cases c1 : needleE nb na = 0
  case neg =>
    have e1 := (needle_01 nb na).resolve_left c1
    have ej : setE t nb na l = 1 := by unfold setE; rw [if_pos c1]
    rw [ej] at he
    simp (disch := omega) only [e1, valC_v, opC_a, Fr.put, List.set, W_op, wantedI_n, guardC_t, evalAll, IA.eval, List.getD_cons_succ, List.getD_cons_zero, optC_s, argC_a, nextOf, lowOf, goC_a, opW, ev1, binI, iBne, if_true, Option.map_some, pairC_p, W_ops_nil, segC_n, W_segs_nil, thenC_n, W_cond, condC_t, W_seq, wF17o5, F17p5, W_segs_cons, freeI_s, fillI, cellsV_agg, List.length_cons, List.length_nil, Nat.zero_add, Nat.reduceAdd, Heap.write, g2, cLe, Nat.le_refl, List.all_cons, oneV_nilSlice, List.all_nil, Bool.and_self, and_true, splice, W_ret, thenC_j, retC_r, unmark, leaveC_a, resultsOf, resultOf, Option.getD_some, read_put, readO_c, List.drop, List.take_succ_cons, List.take, Option.bind_some, mkAgg, valsC_a, tupled]
    exact fun hk => he _ hk (by omega)
  simp (disch := omega) only [c1, valC_v, opC_a, Fr.put, List.set, W_op, wantedI_n, guardC_t, evalAll, IA.eval, List.getD_cons_succ, List.getD_cons_zero, optC_s, argC_a, nextOf, lowOf, goC_a, opW, ev1, binI, bne_self_eq_false, if_true, Option.map_some, pairC_p, W_ops_nil, segC_n, W_segs_nil, thenC_n, W_cond, condC_f, W_skip, W_seq, wF17o6, F17p6, W_segs_cons, freeI_s, ↓hv.ln, W_block]
  refine set_named (R := H.n + 2) (v := v) (l := l) (by omega) (by omega) (hv.keep kH1) hl g2 rfl rfl rfl rfl rfl rfl rfl rfl rfl ?_ ?_
  case _ =>
    intro hall H4 tm4 k4 htm4 u2 u3 u4 u6 u7
    have hn4 := k4.1
    replace g0 := (k4.2 _ (by omega) (by omega)).trans g0
    replace g1 := (k4.2 _ (by omega) (by omega)).trans g1
    replace g2 := (k4.2 _ (by omega) (by omega)).trans g2
    replace kH1 : Keep H.n H H4 := kH1.trans (k4.lower (by omega))
    clear k4
    rw [expl77 tm4 htm4, u2, u3, u4, u6, u7]
    by_cases c3 : l.length > 4
    · have ej : setE t nb na l = 9 := by unfold setE; rw [if_neg (by simp [c1]), if_neg (by simp [hall]), if_pos c3]
      rw [ej] at he
      simp (disch := omega) only [List.getD_cons_succ, List.getD_cons_zero, blkC_e, thenC_n, W_seq, wF17o13, F17p13, W_segs_cons, freeI_s, W_op, wantedI_n, guardC_t, evalAll, IA.eval, optC_s, argC_a, nextOf, lowOf, goC_a, opW, ev1, pairC_p, opC_a, Fr.put, List.set, ↓hv.ln, binI, iLt, decide_true, if_true, Option.map_some, W_ops_nil, segC_n, W_segs_nil, W_cond, condC_t, wF17o14, F17p14, fillI, cellsV_agg, List.length_cons, List.length_nil, Nat.zero_add, Nat.reduceAdd, Heap.write, g2, cLe, Nat.le_refl, List.all_cons, oneV_nilSlice, List.all_nil, Bool.and_self, and_true, splice, W_ret, thenC_j, retC_r, unmark, leaveC_a, resultsOf, resultOf, Option.getD_some, read_put, readO_c, List.drop, List.take_succ_cons, List.take, Option.bind_some, mkAgg, valsC_a, tupled]
      exact fun hk => he _ hk (by omega)
    have r0 := read_get g0
    simp (disch := omega) only [List.getD_cons_succ, List.getD_cons_zero, blkC_e, thenC_n, W_seq, wF17o13, F17p13, W_segs_cons, freeI_s, W_op, wantedI_n, guardC_t, evalAll, IA.eval, optC_s, argC_a, nextOf, lowOf, goC_a, opW, ev1, pairC_p, opC_a, Fr.put, List.set, ↓hv.ln, binI, iLtF, decide_false, if_true, Option.map_some, W_ops_nil, segC_n, W_segs_nil, W_cond, condC_f, W_skip, wF17o15, F17p15, Heap.n_new, cellsV_map, List.length_cons, List.length_nil, Nat.zero_add, Heap.write, Heap.get_new, cEqR, if_false, cLe, Nat.le_refl, List.all_cons, oneV_map, List.all_nil, Bool.and_self, and_true, splice, wF17o16, F17p16, Option.getD_some, read_put, cEqL, readO_c, cLeF, List.drop, List.take_succ_cons, List.take, read_new, r0, Nat.reduceAdd, mkAgg, Option.bind_some, W_apply, List.nil_append, List.append_nil, c26, F26b, F26, Nat.reduceSub, undefs, List.cons_append, wF26o0, F26p0, Heap.n_put, Nat.add_assoc, cellsV_agg, wF26o1, F26p1, W_ret, retC_r, unmark, leaveC_a, resultsOf, resultOf, valsC_a, tupled, valC_v, W_block, W_rfn0, thenC_j]
    obtain ⟨k, hk⟩ : ∃ k, k = ix nb na := ⟨_, rfl⟩
    have hk80 : k < 80 := by rw [hk]; exact (n_ix c1).2.2
    obtain ⟨hb01, hna1, hna2⟩ := needle_ok c1
    have hkk : (k : Int) = 40 * nb + na - 1 := by rw [hk]; unfold ix; omega
    generalize hH5 : Heap.new _ _ = H5
    have hn5 : H5.n = H4.n + 5 := by rw [← hH5]; rfl
    have f0 := congrArg (fun h0 => Heap.get h0 (H4.n)) hH5.symm
    simp (disch := omega) only [Heap.get_new, Heap.n_new, Heap.n_put, Nat.add_assoc, Nat.reduceAdd, cEqL, Heap.get_put, if_true, if_false] at f0
    have f1 := congrArg (fun h0 => Heap.get h0 (H4.n + 1)) hH5.symm
    simp (disch := omega) only [Heap.get_new, Heap.n_new, Heap.n_put, Nat.add_assoc, Nat.reduceAdd, cEqL, Heap.get_put, cEqR, if_false, if_true] at f1
    have f2 := congrArg (fun h0 => Heap.get h0 (H4.n + 2)) hH5.symm
    simp (disch := omega) only [Heap.get_new, Heap.n_new, Heap.n_put, Nat.add_assoc, Nat.reduceAdd, cEqL, Heap.get_put, cEqR, if_false, if_true] at f2
    have f3 := congrArg (fun h0 => Heap.get h0 (H4.n + 3)) hH5.symm
    simp (disch := omega) only [Heap.get_new, Heap.n_new, Heap.n_put, Nat.add_assoc, Nat.reduceAdd, cEqL, cEqR, Heap.get_put, if_false, if_true] at f3
    have f4 := congrArg (fun h0 => Heap.get h0 (H4.n + 4)) hH5.symm
    simp (disch := omega) only [Heap.get_new, Heap.n_new, Heap.n_put, Nat.add_assoc, Nat.reduceAdd, cEqR, Heap.get_put, if_false, if_true] at f4
    have k5 : Keep H4.n H4 H5 := ⟨by omega, fun x hx _ => by
      have gx := congrArg (fun h0 => Heap.get h0 x) hH5.symm
      simp (disch := omega) only [Heap.get_new, Heap.n_new, Heap.n_put, Nat.add_assoc, Nat.reduceAdd, cEqL, Heap.get_put, if_false] at gx
      exact gx⟩
    clear hH5
    replace g0 := (k5.2 _ (by omega) (by omega)).trans g0
    replace g1 := (k5.2 _ (by omega) (by omega)).trans g1
    replace g2 := (k5.2 _ (by omega) (by omega)).trans g2
    replace kH1 : Keep H.n H H5 := kH1.trans (k5.lower (by omega))
    clear k5
    have hstep : ∀ (bed : Int) (i : Nat) (w : SV) (s ks : List Id) (H' : Heap), s.length ≤ 1000000 → H5.n ≤ H'.n → (∀ x, x < H5.n → x ≠ H4.n → H'.get x = H5.get x) → MapIds H' H4.n ks → Sl H' w s → ∀ K : Out → Heap → Prop, (∀ H'' ks', (∀ x, x < H5.n → x ≠ H4.n → H''.get x = H5.get x) → MapIds H'' H4.n ks' → (∀ a, a ∈ ks' ↔ a ∈ ks ∨ (¬ (bed = nb ∧ (i : Int) + 1 = na) ∧ a ∈ s)) → H'.n ≤ H''.n → (∀ x, H5.n ≤ x → x < H'.n → H''.get x = H'.get x) → K (.val (.bool true)) H'') → W E0 H.n (.apply (.yield (H4.n + 4)) [.agg [.int .u8 bed, .int .i64 ((i : Int) + 1)], w.iv]) H' K := by
      intro bed i w s ks H' hs hn hkp hm hw K hK
      have e1 := (hkp (H.n + 1) (by omega) (by omega)).trans g1
      have e4 := (hkp (H4.n + 4) (by omega) (by omega)).trans f4
      have et := (hkp (H4.n + 1) (by omega) (by omega)).trans f1
      have r1 := read_get e1
      by_cases hne : bed = nb ∧ (i : Int) + 1 = na
      · have eb := nd_t hne
        simp (disch := omega) only [W_yield0, e4, yieldE_l, List.length_cons, List.length_nil, Nat.zero_add, Nat.reduceAdd, cLe, setAll, List.set, W_seq, wF17o17, F17p17, W_segs_cons, freeI_s, W_op, wantedI_n, guardC_t, evalAll, optC_s, argC_a, nextOf, lowOf, goC_a, opW, ev1, pairC_p, opC_a, Fr.put, IA.eval, List.getD_cons_succ, List.getD_cons_zero, cellsV_agg, Heap.write, Heap.get_new, if_true, Nat.le_refl, List.all_cons, oneV_int, List.all_nil, Bool.and_self, and_true, splice, Option.map_some, W_ops_nil, segC_n, W_segs_nil, thenC_n, wF17o18, F17p18, readyC_n, Heap.get_put, cEqL, if_false, readyE_l, W_block, wF17o19, F17p19, Option.getD_some, read_put, cEqR, readO_c, List.drop, List.take_succ_cons, List.take, read_new, mkAgg, Option.bind_some, r1, eqKs, eqK, iBeq, bne_self_eq_false, W_cond, condC_f, W_skip, blkC_n, turnC_e, turnE_n, true_and]
        refine hK _ ks (fun x h1 h2 => ?_) ?_ (fun a => ⟨.inl, fun h => h.elim id fun h => absurd hne h.1⟩) ?_ (fun x h1 h2 => ?_)
        · by_cases hx : x = H4.n + 4
          · subst hx; simp (disch := omega) only [Heap.get_put, cEqL, Heap.get_new, if_false, if_true, f4]
          · rw [Heap.get_put, if_neg (Ne.symm hx), Heap.get_put, if_neg (Ne.symm hx), Heap.get_put, if_neg (by omega), Heap.get_new, if_neg (by omega)]
            exact hkp x h1 h2
        · show Heap.get _ _ = _
          rw [Heap.get_put, if_neg (by omega), Heap.get_put, if_neg (by omega), Heap.get_put, if_neg (by omega), Heap.get_new, if_neg (by omega)]
          exact hm
        · simp only [Heap.n_put, Heap.n_new]; omega
        · rw [Heap.get_put, if_neg (by omega), Heap.get_put, if_neg (by omega), Heap.get_put, if_neg (by omega), Heap.get_new, if_neg (by omega)]
      · have eb := nd_f hne
        simp (disch := omega) only [W_yield0, e4, yieldE_l, List.length_cons, List.length_nil, Nat.zero_add, Nat.reduceAdd, cLe, setAll, List.set, W_seq, wF17o17, F17p17, W_segs_cons, freeI_s, W_op, wantedI_n, guardC_t, evalAll, optC_s, argC_a, nextOf, lowOf, goC_a, opW, ev1, pairC_p, opC_a, Fr.put, IA.eval, List.getD_cons_succ, List.getD_cons_zero, cellsV_agg, Heap.write, Heap.get_new, if_true, Nat.le_refl, List.all_cons, oneV_int, List.all_nil, Bool.and_self, and_true, splice, Option.map_some, W_ops_nil, segC_n, W_segs_nil, thenC_n, wF17o18, F17p18, readyC_n, Heap.get_put, cEqL, if_false, readyE_l, W_block, wF17o19, F17p19, Option.getD_some, read_put, cEqR, readO_c, List.drop, List.take_succ_cons, List.take, read_new, mkAgg, Option.bind_some, r1, eqKs, eqK, Bool.and_true, eb, Bool.bne_false, W_cond, condC_t, wF17o20, F17p20, ↓hw.ln, true_and]
        generalize hH6 : Heap.put _ _ _ = H6
        have n6 : H6.n = H'.n + 1 := by rw [← hH6]; rfl
        have q4 := congrArg (fun h0 => Heap.get h0 (H4.n + 4)) hH6.symm
        simp (disch := omega) only [Heap.get_put, cEqL, Heap.get_new, if_false, if_true] at q4
        have k6 : ∀ x, x < H'.n → x ≠ H4.n + 4 → H6.get x = H'.get x := fun x hx h4 => by
          rw [← hH6, Heap.get_put, if_neg (Ne.symm h4), Heap.get_put, if_neg (by omega), Heap.get_new, if_neg (by omega)]
        clear hH6
        have hw6 : Sl H6 w s := hw.same (by omega) fun hl => k6 _ (hw.blk_lt hl) (hw.off hl e4 (by simp))
        have hm6 : MapIds H6 H4.n ks := (k6 _ (by omega) (by omega)).trans hm
        refine set_add (ks := ks) (tb := H4.n + 1) hw6 hs ((k6 _ (by omega) (by omega)).trans et) (by omega) (by omega) (by omega) hm6 rfl rfl rfl rfl rfl ?_
        intro H7 tm7 ks7 k7 hm7 hiff
        have hn7 := k7.1
        have q7 := (k7.2 (H4.n + 4) (by omega) (by omega)).trans q4
        simp (disch := omega) only [blkC_e, blkC_n, turnC_e, q7, turnE_n, cEqL, turnE_j, if_false, if_true]
        refine hK _ ks7 (fun x h1 h2 => ?_) ?_ (fun a => (hiff a).trans (or_congr_right ⟨fun h => ⟨hne, h⟩, fun h => h.2⟩)) ?_ (fun x h1 h2 => ?_)
        · by_cases hx : x = H4.n + 4
          · subst hx; simp (disch := omega) only [Heap.get_put, if_true, f4]
          · rw [Heap.get_put, if_neg (Ne.symm hx), k7.2 x (by omega) h2, k6 x (by omega) hx]
            exact hkp x h1 h2
        · show Heap.get _ _ = _
          rw [Heap.get_put, if_neg (by omega)]
          exact hm7
        · simp only [Heap.n_put]; omega
        · rw [Heap.get_put, if_neg (by omega), k7.2 x (by omega) (by omega), k6 x h2 (by omega)]
    have r2 := read_get f2
    have kPd : ∀ H', H5.n ≤ H'.n → (∀ x, x < H5.n → x ≠ H4.n → H'.get x = H5.get x) → Keep H.n H H' := fun H' a1 a2 => ⟨by have := kH1.1; omega, fun x h1 _ => (a2 x (by omega) (by omega)).trans (kH1.2 x h1 h1)⟩
    refine needled_W (f := f) (b := b) (fs := bedF t) (bs := bedB t) (fun c i H' => H5.n ≤ H'.n ∧ (∀ x, x < H5.n → x ≠ H4.n → H'.get x = H5.get x) ∧ ∃ ks, MapIds H' H4.n ks ∧ ∀ a, a ∈ ks ↔ InS t k (40 * c + i) a) (fun _ => False) (by omega) (by omega) (by omega) (by omega) (by rw [r2]; rfl) ?_ ?_ ?_ ?_ ?_ ?_ ?_ ?_ ?_
    · rintro c i H' H'' ⟨a1, a2, ks, a3, a4⟩ b1 b2
      exact ⟨by omega, fun x h1 h2 => (b2 x h1).trans (a2 x h1 h2), ks, (b2 _ (by omega)).trans a3, a4⟩
    · exact fun _ _ h _ _ => h
    · rintro c i H' ⟨a1, a2, a3⟩
      exact ⟨hf.keep (kPd H' a1 a2), hb.keep (kPd H' a1 a2)⟩
    · rintro i w H' hi h4 hn ⟨a1, a2, ks, a3, a4⟩ hw K hK hK'
      refine hstep 0 i w (bedF t)[i] ks H' (h6F _ (List.getElem_mem _)) a1 a2 a3 hw K fun H'' ks' c1 c2 c3 c4 c5 => hK H'' ⟨by omega, c1, ks', c2, fun a => ?_⟩ c4 c5
      rw [c3, a4, show 40 * 0 + (i + 1) = 40 * 0 + i + 1 by omega, InS.succ, Nat.mul_zero, Nat.zero_add, ← bedF_at t h4, getD_in hi]
      exact or_congr_right (and_congr_left fun _ => by omega)
    · rintro i w H' hi h4 hn ⟨a1, a2, ks, a3, a4⟩ hw K hK hK'
      refine hstep 1 i w (bedB t)[i] ks H' (h6B _ (List.getElem_mem _)) a1 a2 a3 hw K fun H'' ks' c1 c2 c3 c4 c5 => hK H'' ⟨by omega, c1, ks', c2, fun a => ?_⟩ c4 c5
      rw [c3, a4, show 40 * 1 + (i + 1) = 40 * 1 + i + 1 by omega, InS.succ, Nat.mul_one, ← bedB_at t i, getD_in hi]
      exact or_congr_right (and_congr_left fun _ => by omega)
    · exact ⟨Nat.le_refl _, fun _ _ _ => rfl, [], f0, fun a => ⟨fun h => (by cases h), fun ⟨j, hj, _⟩ => by omega⟩⟩
    · rintro H' ⟨a1, a2, ks, a3, a4⟩
      refine ⟨a1, a2, ks, a3, fun a => (a4 a).trans ?_⟩
      refine InS.ext k a (by omega) fun j h1 h2 => ?_
      rw [← bedF_at t (by omega)]
      exact getD_out (by omega)
    · rintro H' ⟨a1, a2, ks, a3, a4⟩ hn
      have hset : ∀ a, a ∈ ks ↔ a ∈ (t.set k []).flatten := fun a => (a4 a).trans ((InS.ext k a (by omega) fun j h1 h2 => by
        rw [show j = 40 + (j - 40) by omega, ← bedB_at]
        exact getD_out (by omega)).trans (InS.all hV.len hk80 a))
      have e2 := (a2 (H.n + 2) (by omega) (by omega)).trans g2
      have e3 := (a2 (H4.n + 3) (by omega) (by omega)).trans f3
      have e4 := (a2 (H4.n + 4) (by omega) (by omega)).trans f4
      have et := (a2 (H4.n + 1) (by omega) (by omega)).trans f1
      have e0 := (a2 H.n (by omega) (by omega)).trans g0
      have e1 := (a2 (H.n + 1) (by omega) (by omega)).trans g1
      have kk := kPd H' a1 a2
      simp (disch := omega) only [rfnC_v, e4, rfnE_l, ne_eq, reduceCtorEq, not_false_eq_true, cLe, pendX_n, List.append_nil, blkC_n, thenC_n, W_seq, wF17o26, F17p26, W_segs_cons, freeI_s, W_op, wantedI_n, guardC_t, evalAll, IA.eval, List.getD_cons_succ, List.getD_cons_zero, optC_s, argC_a, nextOf, lowOf, goC_a, opW, ev1, pairC_p, opC_a, Fr.put, List.set, ↓hv.ln, W_ops_nil, segC_n, W_segs_nil, W_block, true_and]
      generalize hH8 : Heap.put _ _ _ = H8
      have n8 : H8.n = H'.n := by rw [← hH8]; rfl
      have k8 : ∀ x, x ≠ H4.n + 4 → H8.get x = H'.get x := fun x hx => by rw [← hH8, Heap.get_put, if_neg (Ne.symm hx)]
      clear hH8
      replace e0 := (k8 _ (by omega)).trans e0
      replace e1 := (k8 _ (by omega)).trans e1
      replace e2 := (k8 _ (by omega)).trans e2
      replace e3 := (k8 _ (by omega)).trans e3
      replace et := (k8 _ (by omega)).trans et
      replace a3 : MapIds H8 H4.n ks := (k8 _ (by omega)).trans a3
      have kk8 : Keep H.n H H8 := ⟨by have := kk.1; omega, fun x h1 h2 => (k8 x (by omega)).trans (kk.2 x h1 h2)⟩
      refine set_there (R := H.n + 2) (tb := H4.n + 1) (ks := ks) (hv.keep kk8) hl (by omega) (by omega) e2 et (by omega) (by omega) (by omega) (by omega) a3 rfl rfl rfl rfl rfl rfl rfl rfl rfl ?_ ?_
      case _ =>
        intro hno hnd H9 tm9 k9 htm9 x2 x3 x4 x6
        have hn9 := k9.1
        replace e0 := (k9.2 _ (by omega) (by omega)).trans e0
        replace e1 := (k9.2 _ (by omega) (by omega)).trans e1
        replace e2 := (k9.2 _ (by omega) (by omega)).trans e2
        replace e3 := (k9.2 _ (by omega) (by omega)).trans e3
        have kk9 : Keep H.n H H9 := ⟨by have := kk8.1; omega, fun x h1 h2 => (k9.2 x (by omega) (by omega)).trans (kk8.2 x h1 h2)⟩
        have ej : setE t nb na l = 0 := by
          unfold setE
          rw [if_neg (by simp [c1]), if_neg (by simp [hall]), if_neg c3, if_pos ⟨fun a ha hin => hno a ha ((hset a).2 (by rw [hk]; exact hin)), hnd⟩]
        rw [expl77 tm9 htm9, x2, x3, x4, x6]
        have r0 := read_get e0
        have r1 := read_get e1
        simp (disch := omega) only [List.getD_cons_succ, List.getD_cons_zero, blkC_e, thenC_n, W_seq, wF17o34, F17p34, W_segs_cons, freeI_s, W_op, wantedI_n, guardC_t, evalAll, IA.eval, optC_s, argC_a, nextOf, lowOf, goC_a, opW, ev1, Option.getD_some, r0, Nat.zero_add, List.length_cons, List.length_nil, Nat.reduceAdd, Nat.le_refl, List.drop, List.take_succ_cons, List.take, if_true, mkAgg, Option.map_some, Option.bind_some, pairC_p, opC_a, Fr.put, List.set, r1, W_apply, List.nil_append, List.append_nil, thenC_j]
        have ena : na = ((na.toNat : Nat) : Int) := by omega
        rw [show IV.agg [f.iv, b.iv] = bv f b from rfl, ena]
        refine placed_sp nb na.toNat (hf.keep kk9) (hb.keep kk9) (hv.keep kk9) (by omega) (by omega) (by omega) h6F h6B hl (by omega) fun H10 f10 b10 k10 s10 => ?_
        rw [← ena]
        obtain ⟨p1, p2⟩ := place_eq hV.len c1 l
        rw [p1, p2] at s10
        have hn10 := k10.1
        replace e2 := (k10.2 _ (by omega) (by omega)).trans e2
        replace e3 := (k10.2 _ (by omega) (by omega)).trans e3
        simp (disch := omega) only [bv, valC_v, opC_a, Fr.put, List.set, W_op, wantedI_n, guardC_t, evalAll, IA.eval, List.getD_cons_succ, List.getD_cons_zero, optC_s, argC_a, nextOf, lowOf, goC_a, opW, ev1, cellsV_agg, List.length_cons, List.length_nil, Nat.zero_add, Nat.reduceAdd, Heap.write, e2, cLe, Nat.le_refl, List.all_cons, SV.iv_one, List.all_nil, Bool.and_self, and_true, splice, if_true, Option.map_some, pairC_p, W_ops_nil, segC_n, W_segs_nil, thenC_n, W_ret, retC_r, unmark, Heap.get_put, cEqR, e3, if_false, leaveC_a, resultsOf, resultOf, Option.getD_some, read_put, cEqL, readO_c, List.drop, List.take_succ_cons, List.take, Option.bind_some, mkAgg, valsC_a, tupled]
        refine fun hk' => h _ f10 b10 hk' ej ⟨Sl2F.lower (n0 := H9.n) ?_ (by omega), Sl2F.lower (n0 := H9.n) ?_ (by omega), s10.2.2⟩
        · exact (s10.1.put (by omega)).put (by omega)
        · exact (s10.2.1.put (by omega)).put (by omega)
      case _ =>
        intro hbad H9 tm9 hn9 k9 g9 htm9 x6 x7 k9'
        replace e3 := (k9' _ (by omega) (by omega) (by omega)).trans e3
        have ej : setE t nb na l = 8 := by
          unfold setE
          rw [if_neg (by simp [c1]), if_neg (by simp [hall]), if_neg c3, if_neg]
          rintro ⟨h1, h2⟩
          exact hbad ⟨fun a ha hin => h1 a ha (by rw [← hk]; exact (hset a).1 hin), h2⟩
        rw [ej] at he
        rw [expl77 tm9 htm9, x6, x7]
        have r9 := read_get g9
        simp (disch := omega) only [blkC_r, thenC_j, retC_r, unmark, e3, cLe, if_true, optC_s, leaveC_a, resultsOf, resultOf, List.getD_cons_succ, List.getD_cons_zero, Option.getD_some, read_put, cEqL, r9, Nat.zero_add, List.length_cons, List.length_nil, Nat.reduceAdd, Nat.le_refl, List.drop, List.take_succ_cons, List.take, if_false, Option.bind_some, mkAgg, valsC_a, tupled]
        exact fun hk => he _ hk (by omega)
    · exact fun _ h => h.elim
  case _ =>
    intro hall H4 tm4 k4 g4 htm4 u6 u7
    have ej : setE t nb na l = 1 := by unfold setE; rw [if_neg (by simp [c1]), if_pos hall]
    rw [ej] at he
    rw [expl77 tm4 htm4, u6, u7]
    have r4 := read_get g4
    simp (disch := omega) only [blkC_r, thenC_j, retC_r, unmark, optC_s, leaveC_a, resultsOf, resultOf, List.getD_cons_succ, List.getD_cons_zero, Option.getD_some, r4, Nat.zero_add, List.length_cons, List.length_nil, Nat.reduceAdd, Nat.le_refl, List.drop, List.take_succ_cons, List.take, if_true, Option.bind_some, mkAgg, valsC_a, tupled]
    exact fun hk => he _ hk (by omega)
end Go.Iso.Gen
end

section
namespace Go.Iso.Gen
open Go.Iso
set_option maxHeartbeats 4000000
set_option maxRecDepth 10000

theorem expl194 (tm : List IV) (h : tm.length = 194) : tm = [tm.getD 0 IV.undef, tm.getD 1 IV.undef, tm.getD 2 IV.undef, tm.getD 3 IV.undef, tm.getD 4 IV.undef, tm.getD 5 IV.undef, tm.getD 6 IV.undef, tm.getD 7 IV.undef, tm.getD 8 IV.undef, tm.getD 9 IV.undef, tm.getD 10 IV.undef, tm.getD 11 IV.undef, tm.getD 12 IV.undef, tm.getD 13 IV.undef, tm.getD 14 IV.undef, tm.getD 15 IV.undef, tm.getD 16 IV.undef, tm.getD 17 IV.undef, tm.getD 18 IV.undef, tm.getD 19 IV.undef, tm.getD 20 IV.undef, tm.getD 21 IV.undef, tm.getD 22 IV.undef, tm.getD 23 IV.undef, tm.getD 24 IV.undef, tm.getD 25 IV.undef, tm.getD 26 IV.undef, tm.getD 27 IV.undef, tm.getD 28 IV.undef, tm.getD 29 IV.undef, tm.getD 30 IV.undef, tm.getD 31 IV.undef, tm.getD 32 IV.undef, tm.getD 33 IV.undef, tm.getD 34 IV.undef, tm.getD 35 IV.undef, tm.getD 36 IV.undef, tm.getD 37 IV.undef, tm.getD 38 IV.undef, tm.getD 39 IV.undef, tm.getD 40 IV.undef, tm.getD 41 IV.undef, tm.getD 42 IV.undef, tm.getD 43 IV.undef, tm.getD 44 IV.undef, tm.getD 45 IV.undef, tm.getD 46 IV.undef, tm.getD 47 IV.undef, tm.getD 48 IV.undef, tm.getD 49 IV.undef, tm.getD 50 IV.undef, tm.getD 51 IV.undef, tm.getD 52 IV.undef, tm.getD 53 IV.undef, tm.getD 54 IV.undef, tm.getD 55 IV.undef, tm.getD 56 IV.undef, tm.getD 57 IV.undef, tm.getD 58 IV.undef, tm.getD 59 IV.undef, tm.getD 60 IV.undef, tm.getD 61 IV.undef, tm.getD 62 IV.undef, tm.getD 63 IV.undef, tm.getD 64 IV.undef, tm.getD 65 IV.undef, tm.getD 66 IV.undef, tm.getD 67 IV.undef, tm.getD 68 IV.undef, tm.getD 69 IV.undef, tm.getD 70 IV.undef, tm.getD 71 IV.undef, tm.getD 72 IV.undef, tm.getD 73 IV.undef, tm.getD 74 IV.undef, tm.getD 75 IV.undef, tm.getD 76 IV.undef, tm.getD 77 IV.undef, tm.getD 78 IV.undef, tm.getD 79 IV.undef, tm.getD 80 IV.undef, tm.getD 81 IV.undef, tm.getD 82 IV.undef, tm.getD 83 IV.undef, tm.getD 84 IV.undef, tm.getD 85 IV.undef, tm.getD 86 IV.undef, tm.getD 87 IV.undef, tm.getD 88 IV.undef, tm.getD 89 IV.undef, tm.getD 90 IV.undef, tm.getD 91 IV.undef, tm.getD 92 IV.undef, tm.getD 93 IV.undef, tm.getD 94 IV.undef, tm.getD 95 IV.undef, tm.getD 96 IV.undef, tm.getD 97 IV.undef, tm.getD 98 IV.undef, tm.getD 99 IV.undef, tm.getD 100 IV.undef, tm.getD 101 IV.undef, tm.getD 102 IV.undef, tm.getD 103 IV.undef, tm.getD 104 IV.undef, tm.getD 105 IV.undef, tm.getD 106 IV.undef, tm.getD 107 IV.undef, tm.getD 108 IV.undef, tm.getD 109 IV.undef, tm.getD 110 IV.undef, tm.getD 111 IV.undef, tm.getD 112 IV.undef, tm.getD 113 IV.undef, tm.getD 114 IV.undef, tm.getD 115 IV.undef, tm.getD 116 IV.undef, tm.getD 117 IV.undef, tm.getD 118 IV.undef, tm.getD 119 IV.undef, tm.getD 120 IV.undef, tm.getD 121 IV.undef, tm.getD 122 IV.undef, tm.getD 123 IV.undef, tm.getD 124 IV.undef, tm.getD 125 IV.undef, tm.getD 126 IV.undef, tm.getD 127 IV.undef, tm.getD 128 IV.undef, tm.getD 129 IV.undef, tm.getD 130 IV.undef, tm.getD 131 IV.undef, tm.getD 132 IV.undef, tm.getD 133 IV.undef, tm.getD 134 IV.undef, tm.getD 135 IV.undef, tm.getD 136 IV.undef, tm.getD 137 IV.undef, tm.getD 138 IV.undef, tm.getD 139 IV.undef, tm.getD 140 IV.undef, tm.getD 141 IV.undef, tm.getD 142 IV.undef, tm.getD 143 IV.undef, tm.getD 144 IV.undef, tm.getD 145 IV.undef, tm.getD 146 IV.undef, tm.getD 147 IV.undef, tm.getD 148 IV.undef, tm.getD 149 IV.undef, tm.getD 150 IV.undef, tm.getD 151 IV.undef, tm.getD 152 IV.undef, tm.getD 153 IV.undef, tm.getD 154 IV.undef, tm.getD 155 IV.undef, tm.getD 156 IV.undef, tm.getD 157 IV.undef, tm.getD 158 IV.undef, tm.getD 159 IV.undef, tm.getD 160 IV.undef, tm.getD 161 IV.undef, tm.getD 162 IV.undef, tm.getD 163 IV.undef, tm.getD 164 IV.undef, tm.getD 165 IV.undef, tm.getD 166 IV.undef, tm.getD 167 IV.undef, tm.getD 168 IV.undef, tm.getD 169 IV.undef, tm.getD 170 IV.undef, tm.getD 171 IV.undef, tm.getD 172 IV.undef, tm.getD 173 IV.undef, tm.getD 174 IV.undef, tm.getD 175 IV.undef, tm.getD 176 IV.undef, tm.getD 177 IV.undef, tm.getD 178 IV.undef, tm.getD 179 IV.undef, tm.getD 180 IV.undef, tm.getD 181 IV.undef, tm.getD 182 IV.undef, tm.getD 183 IV.undef, tm.getD 184 IV.undef, tm.getD 185 IV.undef, tm.getD 186 IV.undef, tm.getD 187 IV.undef, tm.getD 188 IV.undef, tm.getD 189 IV.undef, tm.getD 190 IV.undef, tm.getD 191 IV.undef, tm.getD 192 IV.undef, tm.getD 193 IV.undef] := (expl tm 194 h).trans rfl
theorem set_seek {nb na : Int} {p lo : Nat} {H0 : Heap} {Q : Out → Heap → Prop} {tm : List IV} {y2 y7 y8 y9 y10 y11 : IV} (hlo : lo ≤ H0.n) (gp : H0.get p = some (.cells false 26 2 [.int .u8 nb, .int .i64 na])) (hp : p < H0.n)
    (htm : tm.length = 194) (t2 : tm.getD 2 IV.undef = y2) (t4 : tm.getD 4 IV.undef = .ptr p 0) (t7 : tm.getD 7 IV.undef = y7) (t8 : tm.getD 8 IV.undef = y8) (t9 : tm.getD 9 IV.undef = y9) (t10 : tm.getD 10 IV.undef = y10) (t11 : tm.getD 11 IV.undef = y11) (t12 : tm.getD 12 IV.undef = .int .i64 (-1)) (t13 : tm.getD 13 IV.undef = .int .i64 0)
    (hQ : ∀ H' tm', Keep H0.n H0 H' → tm'.length = 194 → tm'.getD 2 IV.undef = y2 → tm'.getD 4 IV.undef = .ptr p 0 → tm'.getD 7 IV.undef = y7 → tm'.getD 8 IV.undef = y8 → tm'.getD 9 IV.undef = y9 → tm'.getD 10 IV.undef = y10 → tm'.getD 11 IV.undef = y11 → tm'.getD 12 IV.undef = .int .i64 (seek nb na 80) → Q (.ex (.jmp (.exit 0)) ⟨tm', []⟩) H') : W E0 lo (.code (.loop F4l13) none ⟨tm, []⟩) H0 Q := by
  refine W_inv (fun k fr H' => ∃ j, j + k = 80 ∧ Keep H0.n H0 H' ∧ fr.marks = [] ∧ fr.tm.length = 194 ∧ fr.tm.getD 2 IV.undef = y2 ∧ fr.tm.getD 4 IV.undef = .ptr p 0 ∧ fr.tm.getD 7 IV.undef = y7 ∧ fr.tm.getD 8 IV.undef = y8 ∧ fr.tm.getD 9 IV.undef = y9 ∧ fr.tm.getD 10 IV.undef = y10 ∧ fr.tm.getD 11 IV.undef = y11 ∧ fr.tm.getD 12 IV.undef = .int .i64 (seek nb na j) ∧ fr.tm.getD 13 IV.undef = .int .i64 j) ?_ 80 ⟨0, rfl, Keep.refl _ _, rfl, htm, t2, t4, t7, t8, t9, t10, t11, by rw [seek_zero]; exact t12, t13⟩
  clear htm t2 t4 t7 t8 t9 t10 t11 t12 t13
  rintro k ⟨tm, mk⟩ H' ⟨j, hjk, hk, rfl, htm, t2, t4, t7, t8, t9, t10, t11, t12, t13⟩ L hN hJ
  rw [expl194 tm htm, t2, t4, t7, t8, t9, t10, t11, t12, t13]
  have hn := hk.1
  by_cases hj : j < 80
  · simp (disch := omega) only [F4l13, W_seq, wF4o9, F4p9, W_segs_cons, freeI_s, W_op, wantedI_n, guardC_t, evalAll, IA.eval, List.getD_cons_succ, List.getD_cons_zero, optC_s, argC_a, nextOf, lowOf, goC_a, opW, ev1, pairC_p, opC_a, Fr.put, List.set, binI, iLt, decide_true, if_true, Option.map_some, W_ops_nil, segC_n, W_segs_nil, thenC_n, W_cond, condC_t, W_skip, W_block, wF4o10, F4p10, freeI_f, freeNext, fpOf, pairOk, ne_eq, List.all_nil, Bool.false_eq_true, if_false, List.all_cons, Bool.or_true, Bool.and_self, wU8, W_apply, List.nil_append, List.append_nil]
    refine needle_sp j (by omega) (by omega) fun H2 k2 => ?_
    have hn2 := k2.1
    have kk2 := hk.trans (k2.lower hn)
    have r1 := read_get ((kk2.2 p (by omega) (by omega)).trans gp)
    by_cases h1 : nB j = nb ∧ nA j = na
    · have e1 := nd_t h1
      simp (disch := omega) only [valC_v, opC_a, Fr.put, List.set, W_op, wantedI_n, guardC_t, evalAll, IA.eval, List.getD_cons_succ, List.getD_cons_zero, optC_s, argC_a, nextOf, freeNext, fpOf, Option.getD_some, pairOk, ne_eq, List.all_cons, Bool.or_true, List.all_nil, Bool.and_self, if_true, Option.map_some, lowOf, Bool.false_eq_true, if_false, goC_a, opW, ev1, r1, Nat.zero_add, List.length_cons, List.length_nil, Nat.reduceAdd, Nat.le_refl, List.drop, List.take_succ_cons, List.take, mkAgg, Option.bind_some, pairC_p, W_ops_nil, segC_n, W_segs_cons, freeI_s, Bool.false_bne, eqKs, eqK, iBeq, W_segs_nil, thenC_n, W_cond, condC_t, wF4o11, F4p11, blkC_n, wF4o12, F4p12, binI, wI64]
      exact hN (k - 1) _ _ (by omega) ⟨j + 1, by omega, kk2, rfl, rfl, rfl, rfl, rfl, rfl, rfl, rfl, rfl, by rw [seek_eq hj h1]; rfl, rfl⟩
    · have e1 := nd_f h1
      simp (disch := omega) only [valC_v, opC_a, Fr.put, List.set, W_op, wantedI_n, guardC_t, evalAll, IA.eval, List.getD_cons_succ, List.getD_cons_zero, optC_s, argC_a, nextOf, freeNext, fpOf, Option.getD_some, pairOk, ne_eq, List.all_cons, Bool.or_true, List.all_nil, Bool.and_self, if_true, Option.map_some, lowOf, Bool.false_eq_true, if_false, goC_a, opW, ev1, r1, Nat.zero_add, List.length_cons, List.length_nil, Nat.reduceAdd, Nat.le_refl, List.drop, List.take_succ_cons, List.take, mkAgg, Option.bind_some, pairC_p, W_ops_nil, segC_n, W_segs_cons, freeI_s, Bool.false_bne, eqKs, eqK, Bool.and_true, e1, W_segs_nil, thenC_n, W_cond, condC_f, W_skip, blkC_n, wF4o12, F4p12, binI, wI64]
      exact hN (k - 1) _ _ (by omega) ⟨j + 1, by omega, kk2, rfl, rfl, rfl, rfl, rfl, rfl, rfl, rfl, rfl, by rw [seek_ne h1]; rfl, rfl⟩
  · obtain rfl : j = 80 := by omega
    simp (disch := omega) only [F4l13, W_seq, wF4o9, F4p9, W_segs_cons, freeI_s, W_op, wantedI_n, guardC_t, evalAll, IA.eval, List.getD_cons_succ, List.getD_cons_zero, optC_s, argC_a, nextOf, lowOf, goC_a, opW, ev1, pairC_p, opC_a, Fr.put, List.set, binI, iLtF, decide_false, if_true, Option.map_some, W_ops_nil, segC_n, W_segs_nil, thenC_n, W_cond, condC_f, W_exit, thenC_j, hJ]
    refine hQ _ _ hk ?_ ?_ ?_ ?_ ?_ ?_ ?_ ?_ ?_ <;> rfl

/-- Names that are not valid. -/
theorem set_names {v : SV} {l : List Id} {lo : Nat} {w0 : Int} {H0 : Heap} {Q : Out → Heap → Prop} {tm : List IV} {y4 y7 y8 y9 y10 y12 : IV} (hv : Sl H0 v l) (hl : l.length ≤ 6)
    (htm : tm.length = 194) (t2 : tm.getD 2 IV.undef = v.iv) (t4 : tm.getD 4 IV.undef = y4) (t7 : tm.getD 7 IV.undef = y7) (t8 : tm.getD 8 IV.undef = y8) (t9 : tm.getD 9 IV.undef = y9) (t10 : tm.getD 10 IV.undef = y10) (t11 : tm.getD 11 IV.undef = .int .i64 w0) (t12 : tm.getD 12 IV.undef = y12) (t14 : tm.getD 14 IV.undef = .int .i64 0)
    (hQ : ∀ tm', tm'.length = 194 → tm'.getD 2 IV.undef = v.iv → tm'.getD 4 IV.undef = y4 → tm'.getD 7 IV.undef = y7 → tm'.getD 8 IV.undef = y8 → tm'.getD 9 IV.undef = y9 → tm'.getD 10 IV.undef = y10 → tm'.getD 11 IV.undef = .int .i64 (if l.all namedB = true then w0 else 1) → tm'.getD 12 IV.undef = y12 → Q (.ex (.jmp (.exit 2)) ⟨tm', []⟩) H0) : W E0 lo (.code (.loop F4l21) none ⟨tm, []⟩) H0 Q := by
  refine W_inv (fun k fr H' => ∃ j, j + k = l.length ∧ H' = H0 ∧ fr.marks = [] ∧ fr.tm.length = 194 ∧ fr.tm.getD 2 IV.undef = v.iv ∧ fr.tm.getD 4 IV.undef = y4 ∧ fr.tm.getD 7 IV.undef = y7 ∧ fr.tm.getD 8 IV.undef = y8 ∧ fr.tm.getD 9 IV.undef = y9 ∧ fr.tm.getD 10 IV.undef = y10 ∧ fr.tm.getD 11 IV.undef = .int .i64 (if (l.take j).all namedB = true then w0 else 1) ∧ fr.tm.getD 12 IV.undef = y12 ∧ fr.tm.getD 14 IV.undef = .int .i64 j) ?_ l.length ⟨0, by omega, rfl, rfl, htm, t2, t4, t7, t8, t9, t10, by rw [t11]; simp, t12, t14⟩
  clear htm t2 t4 t7 t8 t9 t10 t11 t12 t14
  rintro k ⟨tm, mk⟩ H' ⟨j, hjk, rfl, rfl, htm, t2, t4, t7, t8, t9, t10, t11, t12, t14⟩ L hN hJ
  rw [expl194 tm htm, t2, t4, t7, t8, t9, t10, t11, t12, t14]
  by_cases hj : j < l.length
  · have r0 := hv.read z_Id j hj
    have r1 : H'.read v.blk (v.off + j * 2) 1 = some [.int .u8 l[j].y] := by have := read_sub (a := 0) (m := 1) r0 (by omega); simpa [cs_Id] using this
    have r2 : H'.read v.blk (v.off + (j * 2 + 1)) 1 = some [.int .i64 l[j].n] := by have := read_sub (a := 1) (m := 1) r0 (by omega); rw [Nat.add_assoc] at this; simpa [cs_Id] using this
    have e1 : (l.take (j + 1)).all namedB = ((l.take j).all namedB && namedB l[j]) := by rw [List.take_succ_eq_append_getElem hj, List.all_append]; simp
    have step : ∀ (z : Int), z = (if (l.take (j + 1)).all namedB = true then w0 else 1) → ∀ tm', tm'.length = 194 → tm'.getD 2 IV.undef = v.iv → tm'.getD 4 IV.undef = y4 → tm'.getD 7 IV.undef = y7 → tm'.getD 8 IV.undef = y8 → tm'.getD 9 IV.undef = y9 → tm'.getD 10 IV.undef = y10 → tm'.getD 11 IV.undef = .int .i64 z → tm'.getD 12 IV.undef = y12 → tm'.getD 14 IV.undef = .int .i64 ((j + 1 : Nat) : Int) → L (.ex .normal ⟨tm', []⟩) H' := fun z hz tm' a1 a2 a3 a4 a5 a6 a7 a8 a9 a10 => hN (k - 1) _ _ (by omega) ⟨j + 1, by omega, rfl, rfl, a1, a2, a3, a4, a5, a6, a7, by rw [← hz]; exact a8, a9, a10⟩
    have hbad : namedB l[j] = false → (1 : Int) = (if (l.take (j + 1)).all namedB = true then w0 else 1) := fun h => by rw [e1, h]; simp
    have hgood : namedB l[j] = true → (if (l.take j).all namedB = true then w0 else 1) = (if (l.take (j + 1)).all namedB = true then w0 else 1) := fun h => by rw [e1, h]; simp
    generalize (if (l.take (j + 1)).all namedB = true then w0 else 1) = z1 at *
    generalize (if (l.take j).all namedB = true then w0 else 1) = z0 at *
    clear e1 r0
    have hT : (1 ≤ l[j].y ∧ l[j].y ≤ 6 ∧ 0 ≤ l[j].n ∧ l[j].n ≤ 2047) → namedB l[j] = true := fun h => by
      unfold namedB
      simp only [Bool.and_eq_true, decide_eq_true_eq]
      omega
    have hF : ¬ (1 ≤ l[j].y ∧ l[j].y ≤ 6 ∧ 0 ≤ l[j].n ∧ l[j].n ≤ 2047) → namedB l[j] = false := fun h => by
      rw [← Bool.not_eq_true]
      unfold namedB
      simp only [Bool.and_eq_true, decide_eq_true_eq]
      omega
    generalize namedB l[j] = nm at *
    generalize l[j].y = yy at *
    generalize l[j].n = nn at *
    by_cases c1 : yy < 1
    · simp (disch := omega) only [F4l21, W_seq, wF4o17, F4p17, W_segs_cons, freeI_s, W_op, wantedI_n, guardC_t, evalAll, IA.eval, List.getD_cons_succ, List.getD_cons_zero, optC_s, argC_a, nextOf, lowOf, goC_a, opW, ev1, pairC_p, opC_a, Fr.put, List.set, ↓hv.ln, binI, iLt, decide_true, if_true, Option.map_some, W_ops_nil, segC_n, W_segs_nil, thenC_n, W_cond, condC_t, W_skip, W_block, wF4o18, F4p18, ↓hv.idx, Int.toNat_natCast, Nat.add_zero, Option.getD_none, r1, mkAgg, Option.bind_some, wantedI_s, wantV_b, bb_tf, guardC_f, wF4o19, F4p19, blkC_n, wF4o20, F4p20, wI64]
      exact step 1 (hbad (hF (by omega))) _ rfl rfl rfl rfl rfl rfl rfl rfl rfl rfl
    by_cases c2 : yy > 6
    · simp (disch := omega) only [F4l21, W_seq, wF4o17, F4p17, W_segs_cons, freeI_s, W_op, wantedI_n, guardC_t, evalAll, IA.eval, List.getD_cons_succ, List.getD_cons_zero, optC_s, argC_a, nextOf, lowOf, goC_a, opW, ev1, pairC_p, opC_a, Fr.put, List.set, ↓hv.ln, binI, iLt, decide_true, if_true, Option.map_some, W_ops_nil, segC_n, W_segs_nil, thenC_n, W_cond, condC_t, W_skip, W_block, wF4o18, F4p18, ↓hv.idx, Int.toNat_natCast, Nat.add_zero, Option.getD_none, r1, mkAgg, Option.bind_some, iLtF, decide_false, wantedI_s, wantV_b, beq_self_eq_true, Bool.false_eq_true, if_false, bb_tf, guardC_f, wF4o19, F4p19, blkC_n, wF4o20, F4p20, wI64]
      exact step 1 (hbad (hF (by omega))) _ rfl rfl rfl rfl rfl rfl rfl rfl rfl rfl
    by_cases c3 : nn < 0
    · simp (disch := omega) only [F4l21, W_seq, wF4o17, F4p17, W_segs_cons, freeI_s, W_op, wantedI_n, guardC_t, evalAll, IA.eval, List.getD_cons_succ, List.getD_cons_zero, optC_s, argC_a, nextOf, lowOf, goC_a, opW, ev1, pairC_p, opC_a, Fr.put, List.set, ↓hv.ln, binI, iLt, decide_true, if_true, Option.map_some, W_ops_nil, segC_n, W_segs_nil, thenC_n, W_cond, condC_t, W_skip, W_block, wF4o18, F4p18, ↓hv.idx, Int.toNat_natCast, Nat.add_zero, Option.getD_none, r1, mkAgg, Option.bind_some, iLtF, decide_false, wantedI_s, wantV_b, beq_self_eq_true, Bool.false_eq_true, if_false, Nat.add_assoc, r2, bb_tf, guardC_f, wF4o19, F4p19, blkC_n, wF4o20, F4p20, wI64]
      exact step 1 (hbad (hF (by omega))) _ rfl rfl rfl rfl rfl rfl rfl rfl rfl rfl
    by_cases c4 : nn > 2047
    · simp (disch := omega) only [F4l21, W_seq, wF4o17, F4p17, W_segs_cons, freeI_s, W_op, wantedI_n, guardC_t, evalAll, IA.eval, List.getD_cons_succ, List.getD_cons_zero, optC_s, argC_a, nextOf, lowOf, goC_a, opW, ev1, pairC_p, opC_a, Fr.put, List.set, ↓hv.ln, binI, iLt, decide_true, if_true, Option.map_some, W_ops_nil, segC_n, W_segs_nil, thenC_n, W_cond, condC_t, W_skip, W_block, wF4o18, F4p18, ↓hv.idx, Int.toNat_natCast, Nat.add_zero, Option.getD_none, r1, mkAgg, Option.bind_some, iLtF, decide_false, wantedI_s, wantV_b, beq_self_eq_true, Bool.false_eq_true, if_false, Nat.add_assoc, r2, wF4o19, F4p19, blkC_n, wF4o20, F4p20, wI64]
      exact step 1 (hbad (hF (by omega))) _ rfl rfl rfl rfl rfl rfl rfl rfl rfl rfl
    · simp (disch := omega) only [F4l21, W_seq, wF4o17, F4p17, W_segs_cons, freeI_s, W_op, wantedI_n, guardC_t, evalAll, IA.eval, List.getD_cons_succ, List.getD_cons_zero, optC_s, argC_a, nextOf, lowOf, goC_a, opW, ev1, pairC_p, opC_a, Fr.put, List.set, ↓hv.ln, binI, iLt, decide_true, if_true, Option.map_some, W_ops_nil, segC_n, W_segs_nil, thenC_n, W_cond, condC_t, W_skip, W_block, wF4o18, F4p18, ↓hv.idx, Int.toNat_natCast, Nat.add_zero, Option.getD_none, r1, mkAgg, Option.bind_some, iLtF, decide_false, wantedI_s, wantV_b, beq_self_eq_true, Bool.false_eq_true, if_false, Nat.add_assoc, r2, condC_f, blkC_n, wF4o20, F4p20, wI64]
      exact step z0 (hgood (hT (by omega))) _ rfl rfl rfl rfl rfl rfl rfl rfl rfl rfl
  · rw [List.take_of_length_le (by omega)]
    simp (disch := omega) only [F4l21, W_seq, wF4o17, F4p17, W_segs_cons, freeI_s, W_op, wantedI_n, guardC_t, evalAll, IA.eval, List.getD_cons_succ, List.getD_cons_zero, optC_s, argC_a, nextOf, lowOf, goC_a, opW, ev1, pairC_p, opC_a, Fr.put, List.set, ↓hv.ln, binI, iLtF, decide_false, if_true, Option.map_some, W_ops_nil, segC_n, W_segs_nil, thenC_n, W_cond, condC_f, W_exit, thenC_j, hJ]
    refine hQ _ ?_ ?_ ?_ ?_ ?_ ?_ ?_ ?_ ?_ <;> rfl
end Go.Iso.Gen
end

section
namespace Go.Iso.Gen
open Go.Iso
set_option maxHeartbeats 4000000
set_option maxRecDepth 10000

/-- A name that stands twice. -/
theorem set_twice {v : SV} {l : List Id} {lo i : Nat} {w0 : Int} {H0 : Heap} {Q : Out → Heap → Prop} {tm : List IV} {y4 y7 y8 y9 y10 y12 : IV} (hv : Sl H0 v l) (hl : l.length ≤ 6) (hi : i < l.length)
    (htm : tm.length = 194) (t2 : tm.getD 2 IV.undef = v.iv) (t4 : tm.getD 4 IV.undef = y4) (t7 : tm.getD 7 IV.undef = y7) (t8 : tm.getD 8 IV.undef = y8) (t9 : tm.getD 9 IV.undef = y9) (t10 : tm.getD 10 IV.undef = y10) (t11 : tm.getD 11 IV.undef = .int .i64 w0) (t12 : tm.getD 12 IV.undef = y12) (t15 : tm.getD 15 IV.undef = .int .i64 i) (t16 : tm.getD 16 IV.undef = .int .i64 0)
    (hQ : ∀ tm', tm'.length = 194 → tm'.getD 2 IV.undef = v.iv → tm'.getD 4 IV.undef = y4 → tm'.getD 7 IV.undef = y7 → tm'.getD 8 IV.undef = y8 → tm'.getD 9 IV.undef = y9 → tm'.getD 10 IV.undef = y10 → tm'.getD 11 IV.undef = .int .i64 (if l[i] ∈ l.take i then 8 else w0) → tm'.getD 12 IV.undef = y12 → tm'.getD 15 IV.undef = .int .i64 i → Q (.ex (.jmp (.exit 6)) ⟨tm', []⟩) H0) : W E0 lo (.code (.loop F4l31) none ⟨tm, []⟩) H0 Q := by
  refine W_inv (fun k fr H' => ∃ j, j + k = i ∧ H' = H0 ∧ fr.marks = [] ∧ fr.tm.length = 194 ∧ fr.tm.getD 2 IV.undef = v.iv ∧ fr.tm.getD 4 IV.undef = y4 ∧ fr.tm.getD 7 IV.undef = y7 ∧ fr.tm.getD 8 IV.undef = y8 ∧ fr.tm.getD 9 IV.undef = y9 ∧ fr.tm.getD 10 IV.undef = y10 ∧ fr.tm.getD 11 IV.undef = .int .i64 (if l[i] ∈ l.take j then 8 else w0) ∧ fr.tm.getD 12 IV.undef = y12 ∧ fr.tm.getD 15 IV.undef = .int .i64 i ∧ fr.tm.getD 16 IV.undef = .int .i64 j) ?_ i ⟨0, by omega, rfl, rfl, htm, t2, t4, t7, t8, t9, t10, by rw [t11]; simp, t12, t15, t16⟩
  clear htm t2 t4 t7 t8 t9 t10 t11 t12 t15 t16
  rintro k ⟨tm, mk⟩ H' ⟨j, hjk, rfl, rfl, htm, t2, t4, t7, t8, t9, t10, t11, t12, t15, t16⟩ L hN hJ
  rw [expl194 tm htm, t2, t4, t7, t8, t9, t10, t11, t12, t15, t16]
  by_cases hj : j < i
  · have r1 := hv.read z_Id j (by omega)
    have r2 := hv.read z_Id i hi
    have e1 : l.take (j + 1) = l.take j ++ [l[j]'(by omega)] := List.take_succ_eq_append_getElem (by omega)
    by_cases he : l[j]'(by omega) = l[i]
    · have hee : (((l[j]'(by omega)).y == l[i].y) && ((l[j]'(by omega)).n == l[i].n)) = true := by rw [he]; exact id_eq _
      have e2 : (if l[i] ∈ l.take (j + 1) then 8 else w0) = 8 := by rw [e1, if_pos]; rw [List.mem_append, List.mem_singleton]; exact .inr he.symm
      simp (disch := omega) only [F4l31, W_seq, wF4o27, F4p27, W_segs_cons, freeI_s, W_op, wantedI_n, guardC_t, evalAll, IA.eval, List.getD_cons_succ, List.getD_cons_zero, optC_s, argC_a, nextOf, lowOf, goC_a, opW, ev1, pairC_p, opC_a, Fr.put, List.set, binI, iLt, decide_true, if_true, Option.map_some, W_ops_nil, segC_n, W_segs_nil, thenC_n, W_cond, condC_t, W_skip, W_block, wF4o28, F4p28, freeI_f, freeNext, fpOf, pairOk, ne_eq, List.all_nil, Bool.false_eq_true, if_false, List.all_cons, Bool.or_true, Bool.and_self, ↓hv.idx, Int.toNat_natCast, Option.getD_some, r1, cs_Id, mkAgg, Option.bind_some, r2, Bool.false_bne, eqKs, eqK, Bool.and_true, hee, wF4o29, F4p29, blkC_n, wF4o30, F4p30, wI64]
      exact hN (k - 1) _ _ (by omega) ⟨j + 1, by omega, rfl, rfl, rfl, rfl, rfl, rfl, rfl, rfl, rfl, by rw [e2]; rfl, rfl, rfl, rfl⟩
    · have hee := id_ne he
      have e2 : (if l[i] ∈ l.take (j + 1) then 8 else w0) = (if l[i] ∈ l.take j then 8 else w0) := by
        rw [e1]
        by_cases hin : l[i] ∈ l.take j
        · rw [if_pos hin, if_pos (List.mem_append.2 (.inl hin))]
        · rw [if_neg hin, if_neg]
          rw [List.mem_append, List.mem_singleton]
          exact fun h => h.elim hin fun e => he e.symm
      simp (disch := omega) only [F4l31, W_seq, wF4o27, F4p27, W_segs_cons, freeI_s, W_op, wantedI_n, guardC_t, evalAll, IA.eval, List.getD_cons_succ, List.getD_cons_zero, optC_s, argC_a, nextOf, lowOf, goC_a, opW, ev1, pairC_p, opC_a, Fr.put, List.set, binI, iLt, decide_true, if_true, Option.map_some, W_ops_nil, segC_n, W_segs_nil, thenC_n, W_cond, condC_t, W_skip, W_block, wF4o28, F4p28, freeI_f, freeNext, fpOf, pairOk, ne_eq, List.all_nil, Bool.false_eq_true, if_false, List.all_cons, Bool.or_true, Bool.and_self, ↓hv.idx, Int.toNat_natCast, Option.getD_some, r1, cs_Id, mkAgg, Option.bind_some, r2, Bool.false_bne, eqKs, eqK, Bool.and_true, hee, condC_f, blkC_n, wF4o30, F4p30, wI64]
      exact hN (k - 1) _ _ (by omega) ⟨j + 1, by omega, rfl, rfl, rfl, rfl, rfl, rfl, rfl, rfl, rfl, by rw [e2]; rfl, rfl, rfl, rfl⟩
  · obtain rfl : j = i := by omega
    simp (disch := omega) only [F4l31, W_seq, wF4o27, F4p27, W_segs_cons, freeI_s, W_op, wantedI_n, guardC_t, evalAll, IA.eval, List.getD_cons_succ, List.getD_cons_zero, optC_s, argC_a, nextOf, lowOf, goC_a, opW, ev1, pairC_p, opC_a, Fr.put, List.set, binI, iLtF, decide_false, if_true, Option.map_some, W_ops_nil, segC_n, W_segs_nil, thenC_n, W_cond, condC_f, W_exit, thenC_j, hJ]
    refine hQ _ ?_ ?_ ?_ ?_ ?_ ?_ ?_ ?_ ?_ ?_ <;> rfl

/-- A name on one needle. -/
theorem set_on {v : SV} {l : List Id} {lo i m q T : Nat} {w0 : Int} {H0 : Heap} {vs : List SV} {t : List (List Id)} {Q : Out → Heap → Prop} {tm : List IV} {y4 y8 y9 y10 : IV} (hv : Sl H0 v l) (hl : l.length ≤ 6) (hi : i < l.length) (hT : Tab H0 vs t) (four : ∀ x ∈ t, x.length ≤ 4) (gt : H0.get T = some (.cells false 31 80 (flat vs))) (hq : q < 80) (hm : m < 80)
    (htm : tm.length = 194) (t2 : tm.getD 2 IV.undef = v.iv) (t4 : tm.getD 4 IV.undef = y4) (t7 : tm.getD 7 IV.undef = .ptr T 0) (t8 : tm.getD 8 IV.undef = y8) (t9 : tm.getD 9 IV.undef = y9) (t10 : tm.getD 10 IV.undef = y10) (t11 : tm.getD 11 IV.undef = .int .i64 w0) (t12 : tm.getD 12 IV.undef = .int .i64 q) (t15 : tm.getD 15 IV.undef = .int .i64 i) (t17 : tm.getD 17 IV.undef = .int .i64 m) (t18 : tm.getD 18 IV.undef = .int .i64 0)
    (hQ : ∀ tm', tm'.length = 194 → tm'.getD 2 IV.undef = v.iv → tm'.getD 4 IV.undef = y4 → tm'.getD 7 IV.undef = .ptr T 0 → tm'.getD 8 IV.undef = y8 → tm'.getD 9 IV.undef = y9 → tm'.getD 10 IV.undef = y10 → tm'.getD 11 IV.undef = .int .i64 (if m ≠ q ∧ l[i] ∈ t.getD m [] then 8 else w0) → tm'.getD 12 IV.undef = .int .i64 q → tm'.getD 15 IV.undef = .int .i64 i → tm'.getD 17 IV.undef = .int .i64 m → Q (.ex (.jmp (.exit 10)) ⟨tm', []⟩) H0) : W E0 lo (.code (.loop F4l39) none ⟨tm, []⟩) H0 Q := by
  have hvl := hT.1
  have htl := hT.2.1
  have hgd := getD_in (ls := t) (i := m) (by omega)
  have h4 := four _ (List.getElem_mem (show m < t.length by omega))
  have hc := tab_read gt m (by omega)
  have hsl := hT.2.2 m (by omega) (by omega)
  rw [hgd] at hQ
  refine W_inv (fun k fr H' => ∃ j, j + k = (t[m]'(by omega)).length ∧ H' = H0 ∧ fr.marks = [] ∧ fr.tm.length = 194 ∧ fr.tm.getD 2 IV.undef = v.iv ∧ fr.tm.getD 4 IV.undef = y4 ∧ fr.tm.getD 7 IV.undef = .ptr T 0 ∧ fr.tm.getD 8 IV.undef = y8 ∧ fr.tm.getD 9 IV.undef = y9 ∧ fr.tm.getD 10 IV.undef = y10 ∧ fr.tm.getD 11 IV.undef = .int .i64 (if m ≠ q ∧ l[i] ∈ (t[m]'(by omega)).take j then 8 else w0) ∧ fr.tm.getD 12 IV.undef = .int .i64 q ∧ fr.tm.getD 15 IV.undef = .int .i64 i ∧ fr.tm.getD 17 IV.undef = .int .i64 m ∧ fr.tm.getD 18 IV.undef = .int .i64 j) ?_ (t[m]'(by omega)).length ⟨0, by omega, rfl, rfl, htm, t2, t4, t7, t8, t9, t10, by rw [t11]; simp, t12, t15, t17, t18⟩
  clear htm t2 t4 t7 t8 t9 t10 t11 t12 t15 t17 t18
  rintro k ⟨tm, mk⟩ H' ⟨j, hjk, rfl, rfl, htm, t2, t4, t7, t8, t9, t10, t11, t12, t15, t17, t18⟩ L hN hJ
  rw [expl194 tm htm, t2, t4, t7, t8, t9, t10, t11, t12, t15, t17, t18]
  by_cases hmq : m = q
  · have e0 : ∀ x, (if m ≠ q ∧ l[i] ∈ (t[m]'(by omega)).take x then 8 else w0) = w0 := fun x => if_neg fun h => h.1 hmq
    have e1 : (if m ≠ q ∧ l[i] ∈ t[m]'(by omega) then 8 else w0) = w0 := if_neg fun h => h.1 hmq
    rw [e0]
    rw [e1] at hQ
    clear hN
    by_cases hj : j < (t[m]'(by omega)).length
    · simp (disch := omega) only [F4l39, W_seq, wF4o35, F4p35, W_segs_cons, freeI_s, W_op, wantedI_n, guardC_t, evalAll, IA.eval, List.getD_cons_succ, List.getD_cons_zero, optC_s, argC_a, nextOf, lowOf, goC_a, opW, ev1, pairC_p, opC_a, Fr.put, List.set, iLe, iLt, and_true, Int.toNat_natCast, Nat.zero_add, if_true, Option.getD_none, hc, mkAgg, Option.bind_some, Option.map_some, ↓hsl.ln, binI, decide_true, wantedI_s, wantV_b, beq_self_eq_true, iBneF, W_ops_nil, segC_n, W_segs_nil, thenC_n, W_cond, condC_f, W_exit, thenC_j, hJ]
      refine hQ _ ?_ ?_ ?_ ?_ ?_ ?_ ?_ ?_ ?_ ?_ ?_ <;> rfl
    · simp (disch := omega) only [F4l39, W_seq, wF4o35, F4p35, W_segs_cons, freeI_s, W_op, wantedI_n, guardC_t, evalAll, IA.eval, List.getD_cons_succ, List.getD_cons_zero, optC_s, argC_a, nextOf, lowOf, goC_a, opW, ev1, pairC_p, opC_a, Fr.put, List.set, iLe, iLt, and_true, Int.toNat_natCast, Nat.zero_add, if_true, Option.getD_none, hc, mkAgg, Option.bind_some, Option.map_some, ↓hsl.ln, binI, iLtF, decide_false, wantedI_s, wantV_b, bb_ft, guardC_f, Bool.false_eq_true, if_false, W_ops_nil, segC_n, W_segs_nil, thenC_n, W_cond, condC_f, W_exit, thenC_j, hJ]
      refine hQ _ ?_ ?_ ?_ ?_ ?_ ?_ ?_ ?_ ?_ ?_ ?_ <;> rfl
  have emq : ((m : Int) != (q : Int)) = true := by simp; omega
  by_cases hj : j < (t[m]'(by omega)).length
  · have r1 := hsl.read z_Id j hj
    have r2 := hv.read z_Id i hi
    have e1 : (t[m]'(by omega)).take (j + 1) = (t[m]'(by omega)).take j ++ [(t[m]'(by omega))[j]] := List.take_succ_eq_append_getElem hj
    by_cases he : (t[m]'(by omega))[j] = l[i]
    · have hee : (((t[m]'(by omega))[j].y == l[i].y) && ((t[m]'(by omega))[j].n == l[i].n)) = true := by rw [he]; exact id_eq _
      have e2 : (if m ≠ q ∧ l[i] ∈ (t[m]'(by omega)).take (j + 1) then 8 else w0) = 8 := by rw [e1, if_pos]; rw [List.mem_append, List.mem_singleton]; exact ⟨hmq, .inr he.symm⟩
      simp (disch := omega) only [F4l39, ne_eq, W_seq, wF4o35, F4p35, W_segs_cons, freeI_s, W_op, wantedI_n, guardC_t, evalAll, IA.eval, List.getD_cons_succ, List.getD_cons_zero, optC_s, argC_a, nextOf, lowOf, goC_a, opW, ev1, pairC_p, opC_a, Fr.put, List.set, iLe, iLt, and_true, Int.toNat_natCast, Nat.zero_add, if_true, Option.getD_none, hc, mkAgg, Option.bind_some, Option.map_some, ↓hsl.ln, binI, decide_true, wantedI_s, wantV_b, beq_self_eq_true, emq, W_ops_nil, segC_n, W_segs_nil, thenC_n, W_cond, condC_t, W_skip, W_block, wF4o36, F4p36, freeI_f, freeNext, fpOf, pairOk, List.all_nil, Bool.false_eq_true, if_false, List.all_cons, Bool.or_true, Bool.and_self, ↓hsl.idx, Option.getD_some, r1, cs_Id, ↓hv.idx, r2, Bool.false_bne, eqKs, eqK, Bool.and_true, hee, wF4o37, F4p37, blkC_n, wF4o38, F4p38, wI64]
      exact hN (k - 1) _ _ (by omega) ⟨j + 1, by omega, rfl, rfl, rfl, rfl, rfl, rfl, rfl, rfl, rfl, by rw [e2]; rfl, rfl, rfl, rfl, rfl⟩
    · have hee := id_ne he
      have e2 : (if m ≠ q ∧ l[i] ∈ (t[m]'(by omega)).take (j + 1) then 8 else w0) = (if m ≠ q ∧ l[i] ∈ (t[m]'(by omega)).take j then 8 else w0) := by
        rw [e1]
        by_cases hin : l[i] ∈ (t[m]'(by omega)).take j
        · rw [if_pos ⟨hmq, List.mem_append.2 (.inl hin)⟩, if_pos ⟨hmq, hin⟩]
        · rw [if_neg (fun h => (List.mem_append.1 h.2).elim hin fun e => he (List.mem_singleton.1 e).symm), if_neg fun h => hin h.2]
      simp (disch := omega) only [F4l39, ne_eq, W_seq, wF4o35, F4p35, W_segs_cons, freeI_s, W_op, wantedI_n, guardC_t, evalAll, IA.eval, List.getD_cons_succ, List.getD_cons_zero, optC_s, argC_a, nextOf, lowOf, goC_a, opW, ev1, pairC_p, opC_a, Fr.put, List.set, iLe, iLt, and_true, Int.toNat_natCast, Nat.zero_add, if_true, Option.getD_none, hc, mkAgg, Option.bind_some, Option.map_some, ↓hsl.ln, binI, decide_true, wantedI_s, wantV_b, beq_self_eq_true, emq, W_ops_nil, segC_n, W_segs_nil, thenC_n, W_cond, condC_t, W_skip, W_block, wF4o36, F4p36, freeI_f, freeNext, fpOf, pairOk, List.all_nil, Bool.false_eq_true, if_false, List.all_cons, Bool.or_true, Bool.and_self, ↓hsl.idx, Option.getD_some, r1, cs_Id, ↓hv.idx, r2, Bool.false_bne, eqKs, eqK, Bool.and_true, hee, condC_f, blkC_n, wF4o38, F4p38, wI64]
      exact hN (k - 1) _ _ (by omega) ⟨j + 1, by omega, rfl, rfl, rfl, rfl, rfl, rfl, rfl, rfl, rfl, by rw [e2]; rfl, rfl, rfl, rfl, rfl⟩
  · have hje : j = (t[m]'(by omega)).length := by omega
    rw [hje, List.take_length]
    rw [hje] at hjk hj
    simp (disch := omega) only [F4l39, ne_eq, W_seq, wF4o35, F4p35, W_segs_cons, freeI_s, W_op, wantedI_n, guardC_t, evalAll, IA.eval, List.getD_cons_succ, List.getD_cons_zero, optC_s, argC_a, nextOf, lowOf, goC_a, opW, ev1, pairC_p, opC_a, Fr.put, List.set, iLe, iLt, and_true, Int.toNat_natCast, Nat.zero_add, if_true, Option.getD_none, hc, mkAgg, Option.bind_some, Option.map_some, ↓hsl.ln, binI, iLtF, decide_false, wantedI_s, wantV_b, bb_ft, guardC_f, Bool.false_eq_true, if_false, W_ops_nil, segC_n, W_segs_nil, thenC_n, W_cond, condC_f, W_exit, thenC_j, hJ]
    refine hQ _ ?_ ?_ ?_ ?_ ?_ ?_ ?_ ?_ ?_ ?_ ?_ <;> rfl
/-- A name on any other needle. -/
theorem set_any {v : SV} {l : List Id} {lo i q T : Nat} {w0 : Int} {H0 : Heap} {vs : List SV} {t : List (List Id)} {Q : Out → Heap → Prop} {tm : List IV} {y4 y8 y9 y10 : IV} (hv : Sl H0 v l) (hl : l.length ≤ 6) (hi : i < l.length) (hT : Tab H0 vs t) (four : ∀ x ∈ t, x.length ≤ 4) (gt : H0.get T = some (.cells false 31 80 (flat vs))) (hq : q < 80)
    (htm : tm.length = 194) (t2 : tm.getD 2 IV.undef = v.iv) (t4 : tm.getD 4 IV.undef = y4) (t7 : tm.getD 7 IV.undef = .ptr T 0) (t8 : tm.getD 8 IV.undef = y8) (t9 : tm.getD 9 IV.undef = y9) (t10 : tm.getD 10 IV.undef = y10) (t11 : tm.getD 11 IV.undef = .int .i64 w0) (t12 : tm.getD 12 IV.undef = .int .i64 q) (t15 : tm.getD 15 IV.undef = .int .i64 i) (t17 : tm.getD 17 IV.undef = .int .i64 0)
    (hQ : ∀ tm' (w : Int), (InS t q 80 l[i] → w = 8) → (¬ InS t q 80 l[i] → w = w0) → tm'.length = 194 → tm'.getD 2 IV.undef = v.iv → tm'.getD 4 IV.undef = y4 → tm'.getD 7 IV.undef = .ptr T 0 → tm'.getD 8 IV.undef = y8 → tm'.getD 9 IV.undef = y9 → tm'.getD 10 IV.undef = y10 → tm'.getD 11 IV.undef = .int .i64 w → tm'.getD 12 IV.undef = .int .i64 q → tm'.getD 15 IV.undef = .int .i64 i → Q (.ex (.jmp (.exit 8)) ⟨tm', []⟩) H0) : W E0 lo (.code (.loop F4l41) none ⟨tm, []⟩) H0 Q := by
  refine W_inv (fun k fr H' => ∃ (m : Nat) (w : Int), m + k = 80 ∧ (InS t q m l[i] → w = 8) ∧ (¬ InS t q m l[i] → w = w0) ∧ H' = H0 ∧ fr.marks = [] ∧ fr.tm.length = 194 ∧ fr.tm.getD 2 IV.undef = v.iv ∧ fr.tm.getD 4 IV.undef = y4 ∧ fr.tm.getD 7 IV.undef = .ptr T 0 ∧ fr.tm.getD 8 IV.undef = y8 ∧ fr.tm.getD 9 IV.undef = y9 ∧ fr.tm.getD 10 IV.undef = y10 ∧ fr.tm.getD 11 IV.undef = .int .i64 w ∧ fr.tm.getD 12 IV.undef = .int .i64 q ∧ fr.tm.getD 15 IV.undef = .int .i64 i ∧ fr.tm.getD 17 IV.undef = .int .i64 m) ?_ 80 ⟨0, w0, by omega, fun ⟨j, hj, _⟩ => (by omega), fun _ => rfl, rfl, rfl, htm, t2, t4, t7, t8, t9, t10, t11, t12, t15, t17⟩
  clear htm t2 t4 t7 t8 t9 t10 t11 t12 t15 t17
  rintro k ⟨tm, mk⟩ H' ⟨m, w, hmk, h1, h2, rfl, rfl, htm, t2, t4, t7, t8, t9, t10, t11, t12, t15, t17⟩ L hN hJ
  rw [expl194 tm htm, t2, t4, t7, t8, t9, t10, t11, t12, t15, t17]
  by_cases hm : m < 80
  · simp (disch := omega) only [F4l41, W_seq, wF4o33, F4p33, W_segs_cons, freeI_s, W_op, wantedI_n, guardC_t, evalAll, IA.eval, List.getD_cons_succ, List.getD_cons_zero, optC_s, argC_a, nextOf, lowOf, goC_a, opW, ev1, pairC_p, opC_a, Fr.put, List.set, binI, iLt, decide_true, if_true, Option.map_some, W_ops_nil, segC_n, W_segs_nil, thenC_n, W_cond, condC_t, W_skip, W_block, wF4o34, F4p34]
    refine set_on hv hl hi hT four gt hq hm rfl rfl rfl rfl rfl rfl rfl rfl rfl rfl rfl rfl ?_
    intro tm' b1 b2 b3 b4 b5 b6 b7 b8 b9 b10 b11
    rw [expl194 tm' b1, b2, b3, b4, b5, b6, b7, b8, b9, b10, b11]
    simp (disch := omega) only [List.getD_cons_succ, List.getD_cons_zero, ne_eq, blkC_e, blkC_n, thenC_n, wF4o40, F4p40, W_segs_cons, freeI_s, W_op, wantedI_n, guardC_t, evalAll, IA.eval, optC_s, argC_a, nextOf, lowOf, goC_a, opW, ev1, pairC_p, opC_a, Fr.put, List.set, binI, wI64, if_true, Option.map_some, W_ops_nil, segC_n, W_segs_nil, cEqL, thenC_j, if_false]
    refine hN (k - 1) _ _ (by omega) ⟨m + 1, _, by omega, fun h => ?_, fun h => ?_, rfl, rfl, rfl, rfl, rfl, rfl, rfl, rfl, rfl, rfl, rfl, rfl, rfl⟩
    · rcases (InS.succ t q m l[i]).1 h with h | h
      · rw [h1 h]; exact ite_self _
      · rw [if_pos h]
    · have hh : ¬ (InS t q m l[i] ∨ (m ≠ q ∧ l[i] ∈ t.getD m [])) := fun x => h ((InS.succ t q m l[i]).2 x)
      rw [if_neg fun x => hh (.inr x)]
      exact h2 fun x => hh (.inl x)
  · obtain rfl : m = 80 := by omega
    simp (disch := omega) only [F4l41, W_seq, wF4o33, F4p33, W_segs_cons, freeI_s, W_op, wantedI_n, guardC_t, evalAll, IA.eval, List.getD_cons_succ, List.getD_cons_zero, optC_s, argC_a, nextOf, lowOf, goC_a, opW, ev1, pairC_p, opC_a, Fr.put, List.set, binI, iLtF, decide_false, if_true, Option.map_some, W_ops_nil, segC_n, W_segs_nil, thenC_n, W_cond, condC_f, W_exit, thenC_j, hJ]
    refine hQ _ w h1 h2 ?_ ?_ ?_ ?_ ?_ ?_ ?_ ?_ ?_ ?_ <;> rfl

/-- All names. -/
theorem set_all {v : SV} {l : List Id} {lo q T : Nat} {H0 : Heap} {vs : List SV} {t : List (List Id)} {Q : Out → Heap → Prop} {tm : List IV} {y4 y8 y9 y10 : IV} (hv : Sl H0 v l) (hl : l.length ≤ 6) (hT : Tab H0 vs t) (four : ∀ x ∈ t, x.length ≤ 4) (gt : H0.get T = some (.cells false 31 80 (flat vs))) (hq : q < 80)
    (htm : tm.length = 194) (t2 : tm.getD 2 IV.undef = v.iv) (t4 : tm.getD 4 IV.undef = y4) (t7 : tm.getD 7 IV.undef = .ptr T 0) (t8 : tm.getD 8 IV.undef = y8) (t9 : tm.getD 9 IV.undef = y9) (t10 : tm.getD 10 IV.undef = y10) (t11 : tm.getD 11 IV.undef = .int .i64 0) (t12 : tm.getD 12 IV.undef = .int .i64 q) (t15 : tm.getD 15 IV.undef = .int .i64 0)
    (hQ : ∀ tm' (w : Int), ((∀ a ∈ l, ¬ InS t q 80 a) ∧ l.Nodup → w = 0) → (¬ ((∀ a ∈ l, ¬ InS t q 80 a) ∧ l.Nodup) → w = 8) → tm'.length = 194 → tm'.getD 2 IV.undef = v.iv → tm'.getD 4 IV.undef = y4 → tm'.getD 7 IV.undef = .ptr T 0 → tm'.getD 8 IV.undef = y8 → tm'.getD 9 IV.undef = y9 → tm'.getD 10 IV.undef = y10 → tm'.getD 11 IV.undef = .int .i64 w → tm'.getD 12 IV.undef = .int .i64 q → Q (.ex (.jmp (.exit 4)) ⟨tm', []⟩) H0) : W E0 lo (.code (.loop F4l43) none ⟨tm, []⟩) H0 Q := by
  refine W_inv (fun k fr H' => ∃ (i : Nat) (w : Int), i + k = l.length ∧ ((w = 0 ∧ (∀ a ∈ l.take i, ¬ InS t q 80 a) ∧ (l.take i).Nodup) ∨ (w = 8 ∧ ¬ ((∀ a ∈ l, ¬ InS t q 80 a) ∧ l.Nodup))) ∧ H' = H0 ∧ fr.marks = [] ∧ fr.tm.length = 194 ∧ fr.tm.getD 2 IV.undef = v.iv ∧ fr.tm.getD 4 IV.undef = y4 ∧ fr.tm.getD 7 IV.undef = .ptr T 0 ∧ fr.tm.getD 8 IV.undef = y8 ∧ fr.tm.getD 9 IV.undef = y9 ∧ fr.tm.getD 10 IV.undef = y10 ∧ fr.tm.getD 11 IV.undef = .int .i64 w ∧ fr.tm.getD 12 IV.undef = .int .i64 q ∧ fr.tm.getD 15 IV.undef = .int .i64 i) ?_ l.length ⟨0, 0, by omega, .inl ⟨rfl, by simp, by simp⟩, rfl, rfl, htm, t2, t4, t7, t8, t9, t10, t11, t12, t15⟩
  clear htm t2 t4 t7 t8 t9 t10 t11 t12 t15
  rintro k ⟨tm, mk⟩ H' ⟨i, w, hik, hw, rfl, rfl, htm, t2, t4, t7, t8, t9, t10, t11, t12, t15⟩ L hN hJ
  rw [expl194 tm htm, t2, t4, t7, t8, t9, t10, t11, t12, t15]
  by_cases hi : i < l.length
  · rcases hw with ⟨rfl, hno, hnd⟩ | ⟨rfl, hbad⟩
    · have e1 := List.take_succ_eq_append_getElem hi
      simp (disch := omega) only [F4l43, W_seq, wF4o25, F4p25, W_segs_cons, freeI_s, W_op, wantedI_n, guardC_t, evalAll, IA.eval, List.getD_cons_succ, List.getD_cons_zero, optC_s, argC_a, nextOf, lowOf, goC_a, opW, ev1, pairC_p, opC_a, Fr.put, List.set, ↓hv.ln, binI, iLt, decide_true, if_true, Option.map_some, wantedI_s, wantV_b, beq_self_eq_true, W_ops_nil, segC_n, W_segs_nil, thenC_n, W_cond, condC_t, W_skip, W_block, wF4o26, F4p26]
      refine set_twice (i := i) hv hl hi rfl rfl rfl rfl rfl rfl rfl rfl rfl rfl rfl ?_
      intro tm' b1 b2 b3 b4 b5 b6 b7 b8 b9 b10
      rw [expl194 tm' b1, b2, b3, b4, b5, b6, b7, b8, b9, b10]
      simp (disch := omega) only [List.getD_cons_succ, List.getD_cons_zero, blkC_e, thenC_n, W_seq, wF4o32, F4p32, W_segs_cons, freeI_s, W_op, wantedI_n, guardC_t, evalAll, IA.eval, optC_s, argC_a, nextOf, lowOf, goC_a, opW, ev1, pairC_p, opC_a, Fr.put, List.set, W_ops_nil, segC_n, W_segs_nil, W_block, thenC_j, cEqL, wF4o42, F4p42, binI, wI64, if_true, Option.map_some, if_false]
      refine set_any (i := i) hv hl hi hT four gt hq rfl rfl rfl rfl rfl rfl rfl rfl rfl rfl rfl ?_
      intro tm' w a1 a2 b1 b2 b3 b4 b5 b6 b7 b8 b9 b10
      rw [expl194 tm' b1, b2, b3, b4, b5, b6, b7, b8, b9, b10]
      simp (disch := omega) only [List.getD_cons_succ, List.getD_cons_zero, blkC_e, blkC_n, thenC_n, wF4o42, F4p42, W_segs_cons, freeI_s, W_op, wantedI_n, guardC_t, evalAll, IA.eval, optC_s, argC_a, nextOf, lowOf, goC_a, opW, ev1, pairC_p, opC_a, Fr.put, List.set, binI, wI64, if_true, Option.map_some, W_ops_nil, segC_n, W_segs_nil, cEqL, thenC_j, if_false]
      refine hN (k - 1) _ _ (by omega) ⟨i + 1, w, by omega, ?_, rfl, rfl, rfl, rfl, rfl, rfl, rfl, rfl, rfl, rfl, rfl, rfl⟩
      by_cases c1 : InS t q 80 l[i]
      · exact .inr ⟨a1 c1, fun h => h.1 _ (List.getElem_mem hi) c1⟩
      · have ew := a2 c1
        by_cases c2 : l[i] ∈ l.take i
        · rw [if_pos c2] at ew
          refine .inr ⟨ew, fun h => ?_⟩
          exact not_nodup (ks := []) hi (by simpa using c2) (by simpa using h.2)
        · rw [if_neg c2] at ew
          refine .inl ⟨ew, fun a ha => ?_, ?_⟩
          · rw [e1, List.mem_append, List.mem_singleton] at ha
            rcases ha with ha | rfl
            · exact hno a ha
            · exact c1
          · rw [e1]; exact nodup_snoc hnd c2
    · simp (disch := omega) only [F4l43, W_seq, wF4o25, F4p25, W_segs_cons, freeI_s, W_op, wantedI_n, guardC_t, evalAll, IA.eval, List.getD_cons_succ, List.getD_cons_zero, optC_s, argC_a, nextOf, lowOf, goC_a, opW, ev1, pairC_p, opC_a, Fr.put, List.set, ↓hv.ln, binI, iLt, decide_true, if_true, Option.map_some, wantedI_s, wantV_b, beq_self_eq_true, iBeqF, W_ops_nil, segC_n, W_segs_nil, thenC_n, W_cond, condC_f, W_exit, thenC_j, hJ]
      refine hQ _ 8 (fun h => absurd h hbad) (fun _ => rfl) ?_ ?_ ?_ ?_ ?_ ?_ ?_ ?_ ?_ <;> rfl
  · simp (disch := omega) only [F4l43, W_seq, wF4o25, F4p25, W_segs_cons, freeI_s, W_op, wantedI_n, guardC_t, evalAll, IA.eval, List.getD_cons_succ, List.getD_cons_zero, optC_s, argC_a, nextOf, lowOf, goC_a, opW, ev1, pairC_p, opC_a, Fr.put, List.set, ↓hv.ln, binI, iLtF, decide_false, if_true, Option.map_some, wantedI_s, wantV_b, bb_ft, guardC_f, Bool.false_eq_true, if_false, W_ops_nil, segC_n, W_segs_nil, thenC_n, W_cond, condC_f, W_exit, thenC_j, hJ]
    rw [List.take_of_length_le (by omega)] at hw
    refine hQ _ w (fun h => ?_) (fun h => ?_) ?_ ?_ ?_ ?_ ?_ ?_ ?_ ?_ ?_ <;> try rfl
    · rcases hw with hw | hw
      · exact hw.1
      · exact absurd h hw.2
    · rcases hw with hw | hw
      · exact absurd ⟨hw.2.1, hw.2.2⟩ h
      · exact hw.1
end Go.Iso.Gen
end
