/-
  what the functions of layer 4 give.
-/
import Derived.Test.YthccekocaliohaaDoorSort
set_option linter.unusedSimpArgs false
set_option linter.unusedVariables false

section
-- fast
namespace Go.Iso.Gen
open Go.Iso
set_option maxHeartbeats 2000000
set_option maxRecDepth 10000

def rackB (r : Int) : Bool := decide (r ≥ -4) && decide (r ≤ 4)
theorem oracked_sp (r : Int) {H : Heap} {lo : Nat} {Q : Out → Heap → Prop} (h : Q (.val (.bool (rackB r))) H) : W E0 lo (.call 45 [.int .i64 r]) H Q := by
  rw [c45]
  unfold rackB at h
  cases e0 : decide (r ≥ -4) <;> simp only [e0, Bool.true_and, Bool.false_and] at h <;> simp (disch := omega) only [BAS, ↓BPR, reduceIte, reduceCtorEq, seval, -List.reduceReplicate, fpOf, freeNext, opW, binI, ev1, Heap.write, setAll, unI, eqKs, eqK, fillI, B45, e0] <;> exact h
theorem nracked_sp (r : Int) {H : Heap} {lo : Nat} {Q : Out → Heap → Prop} (h : Q (.val (.bool (rackB r))) H) : W E0 lo (.call 48 [.int .i64 r]) H Q := by
  rw [c48]
  unfold rackB at h
  cases e0 : decide (r ≥ -4) <;> simp only [e0, Bool.true_and, Bool.false_and] at h <;> simp (disch := omega) only [BAS, ↓BPR, reduceIte, reduceCtorEq, seval, -List.reduceReplicate, fpOf, freeNext, opW, binI, ev1, Heap.write, setAll, unI, eqKs, eqK, fillI, B48, e0] <;> exact h
theorem rackB_iff {r : Int} : rackB r = true ↔ -4 ≤ r ∧ r ≤ 4 := by unfold rackB; simp

/-- The spot of a needle. -/
def spotE (bed at_ r : Int) : Int := if needleE bed at_ = 0 ∧ rackB r = true then (if bed = 0 then 4 * at_ + 2 else 4 * (at_ + r)) else 0
theorem spot_sp (bed at_ r : Int) {H : Heap} {lo : Nat} {Q : Out → Heap → Prop} (hlo : lo ≤ H.n) (h : ∀ H', Keep H.n H H' → Q (.val (.int .i64 (spotE bed at_ r))) H') : W E0 lo (.call 25 [.agg [.int .u8 bed, .int .i64 at_], .int .i64 r]) H Q := by
  refine pureQ _ hlo h fun R hR => ?_
  clear h
  rw [c25]
  simp (disch := omega) only [BAS, ↓BPR, reduceIte, reduceCtorEq, seval, -List.reduceReplicate, fpOf, freeNext, opW, binI, ev1, Heap.write, setAll, unI, eqKs, eqK, fillI, B25]
  generalize hH_H1 : Heap.new _ _ = H1
  have hnH1 : H1.n = H.n + 1 := by rw [← hH_H1]; rfl
  have g0 := congrArg (fun h0 => Heap.get h0 (H.n)) hH_H1.symm
  simp (disch := omega) only [BAS, ↓BPR, reduceIte, reduceCtorEq, seval, -List.reduceReplicate, fpOf, freeNext, opW, binI, ev1, Heap.write, setAll, unI, eqKs, eqK, fillI] at g0
  have kH1 : Keep H.n H H1 := ⟨by omega, fun x hx _ => by
    have gx := congrArg (fun h0 => Heap.get h0 x) hH_H1.symm
    simp (disch := omega) only [BAS, ↓BPR, reduceIte, reduceCtorEq, seval, -List.reduceReplicate, fpOf, freeNext, opW, binI, ev1, Heap.write, setAll, unI, eqKs, eqK, fillI] at gx
    exact gx⟩
  clear hH_H1
  refine ncheck_sp bed at_ (by omega) fun H2 k2 => ?_
  have hn2 := k2.1
  replace g0 := (k2.2 _ (by omega) (by omega)).trans g0
  have r0 := read_get g0
  unfold spotE at hR
  rcases needle_01 bed at_ with hv | hv
  case inr =>
    rw [if_neg (by omega)] at hR
    simp (disch := omega) only [BAS, ↓BPR, reduceIte, reduceCtorEq, seval, -List.reduceReplicate, fpOf, freeNext, opW, binI, ev1, Heap.write, setAll, unI, eqKs, eqK, fillI, B25, hv]
    exact hR _
  by_cases hr : rackB r = true
  case neg =>
    rw [if_neg (fun h => hr h.2)] at hR
    rw [Bool.not_eq_true] at hr
    simp (disch := omega) only [BAS, ↓BPR, reduceIte, reduceCtorEq, seval, -List.reduceReplicate, fpOf, freeNext, opW, binI, ev1, Heap.write, setAll, unI, eqKs, eqK, fillI, B25, hv]
    refine nracked_sp r ?_
    simp (disch := omega) only [BAS, ↓BPR, reduceIte, reduceCtorEq, seval, -List.reduceReplicate, fpOf, freeNext, opW, binI, ev1, Heap.write, setAll, unI, eqKs, eqK, fillI, B25, hr]
    exact hR _
  rw [if_pos ⟨hv, hr⟩] at hR
  have hr' := rackB_iff.1 hr
  obtain ⟨hb, h1, h2⟩ := needle_ok hv
  simp (disch := omega) only [BAS, ↓BPR, reduceIte, reduceCtorEq, seval, -List.reduceReplicate, fpOf, freeNext, opW, binI, ev1, Heap.write, setAll, unI, eqKs, eqK, fillI, B25, hv]
  refine nracked_sp r ?_
  rcases hb with rfl | rfl
  · rw [if_pos rfl] at hR
    simp (disch := omega) only [BAS, ↓BPR, reduceIte, reduceCtorEq, seval, -List.reduceReplicate, fpOf, freeNext, opW, binI, ev1, Heap.write, setAll, unI, eqKs, eqK, fillI, B25, hr, r0]
    exact hR _
  · rw [if_neg (by omega)] at hR
    simp (disch := omega) only [BAS, ↓BPR, reduceIte, reduceCtorEq, seval, -List.reduceReplicate, fpOf, freeNext, opW, binI, ev1, Heap.write, setAll, unI, eqKs, eqK, fillI, B25, hr, r0]
    exact hR _

/-- The error of beds and a rack. -/
def ocheckE (fs bs : List (List Id)) (r : Int) : Int := if checkE fs bs ≠ 0 then checkE fs bs else if rackB r = true then 0 else 11
theorem ocheck_sp {f b : SV} {fs bs : List (List Id)} (r : Int) {H : Heap} {lo : Nat} {Q : Out → Heap → Prop} (hf : Sl2 H f fs) (hb : Sl2 H b bs) (hlf : fs.length ≤ 1000000) (hlb : bs.length ≤ 1000000) (hl : ∀ l ∈ fs, l.length ≤ 1000000) (hl' : ∀ l ∈ bs, l.length ≤ 1000000) (hlo : lo ≤ H.n)
    (h : ∀ H' , Keep H.n H H' → Q (.val (.int .i64 (ocheckE fs bs r))) H') : W E0 lo (.call 22 [bv f b, .int .i64 r]) H Q := by
  refine pureQ _ hlo h fun R hR => ?_
  clear h
  rw [c22]
  simp (disch := omega) only [BAS, ↓BPR, reduceIte, reduceCtorEq, seval, -List.reduceReplicate, fpOf, freeNext, opW, binI, ev1, Heap.write, setAll, unI, eqKs, eqK, fillI, B22, bv]
  generalize hH_H1 : Heap.new _ _ = H1
  have hnH1 : H1.n = H.n + 1 := by rw [← hH_H1]; rfl
  have g0 := congrArg (fun h0 => Heap.get h0 (H.n)) hH_H1.symm
  simp (disch := omega) only [BAS, ↓BPR, reduceIte, reduceCtorEq, seval, -List.reduceReplicate, fpOf, freeNext, opW, binI, ev1, Heap.write, setAll, unI, eqKs, eqK, fillI] at g0
  have kH1 : Keep H.n H H1 := ⟨by omega, fun x hx _ => by
    have gx := congrArg (fun h0 => Heap.get h0 x) hH_H1.symm
    simp (disch := omega) only [BAS, ↓BPR, reduceIte, reduceCtorEq, seval, -List.reduceReplicate, fpOf, freeNext, opW, binI, ev1, Heap.write, setAll, unI, eqKs, eqK, fillI] at gx
    exact gx⟩
  clear hH_H1
  rw [show IV.agg [f.iv, b.iv] = bv f b from rfl]
  refine check_sp (hf.keep kH1) (hb.keep kH1) hlf hlb hl hl' (by omega) fun H2 k2 => ?_
  unfold ocheckE at hR
  by_cases hc : checkE fs bs = 0
  · rw [if_neg (by simp [hc])] at hR
    simp (disch := omega) only [BAS, ↓BPR, reduceIte, reduceCtorEq, seval, -List.reduceReplicate, fpOf, freeNext, opW, binI, ev1, Heap.write, setAll, unI, eqKs, eqK, fillI, B22, hc]
    refine oracked_sp r ?_
    by_cases hr : rackB r = true
    · rw [if_pos hr] at hR
      simp (disch := omega) only [BAS, ↓BPR, reduceIte, reduceCtorEq, seval, -List.reduceReplicate, fpOf, freeNext, opW, binI, ev1, Heap.write, setAll, unI, eqKs, eqK, fillI, B22, hr]
      exact hR _
    · rw [if_neg hr] at hR
      rw [Bool.not_eq_true] at hr
      simp (disch := omega) only [BAS, ↓BPR, reduceIte, reduceCtorEq, seval, -List.reduceReplicate, fpOf, freeNext, opW, binI, ev1, Heap.write, setAll, unI, eqKs, eqK, fillI, B22, hr]
      exact hR _
  · have e0 : (checkE fs bs != 0) = true := by simp [hc]
    rw [if_pos hc] at hR
    simp (disch := omega) only [BAS, ↓BPR, reduceIte, reduceCtorEq, seval, -List.reduceReplicate, fpOf, freeNext, opW, binI, ev1, Heap.write, setAll, unI, eqKs, eqK, fillI, B22, e0]
    exact hR _

theorem copiedHd_sp {v : SV} {l : List Hd} {H : Heap} {lo : Nat} {Q : Out → Heap → Prop} (hv : Sl H v l) (hl : l.length ≤ 1000000) (hlo : lo ≤ H.n)
    (h : ∀ H' b, Keep H.n H H' → H.n ≤ b → Own H' b 40 l.length l → Q (.val (SV.sl b 0 l.length l.length true).iv) H') : W E0 lo (.call 29 [v.iv]) H Q := by
  refine W.pure plain hlo ?_
  rw [c29]
  obtain ⟨H2, e1, e2, e3, e4⟩ := copy_new hv (z := 5) rfl 40 H.n [IV.int .u8 0, .int .i64 0, .int .u8 0, .int .i64 0, .int .i64 0] rfl (Nat.le_refl _)
  simp (disch := omega) only [BAS, ↓BPR, reduceIte, reduceCtorEq, seval, -List.reduceReplicate, fpOf, freeNext, opW, binI, ev1, Heap.write, setAll, unI, eqKs, eqK, fillI, B29, ↓hv.ln, ↓e1, Int.reducePow]
  exact fun hk => h _ _ hk (Nat.le_refl _) e4


theorem Of_sp {x : SV} {xs : List Pt} {H : Heap} {lo : Nat} {Q : Out → Heap → Prop} (hx : Sl H x xs) (hb : ∀ p ∈ xs, p.a ≤ 255 ∧ p.m ≤ 255) (hlo : lo ≤ H.n)
    (h : ∀ H' f b, Keep H.n H H' → Beds H.n H' f b (bedF (ofT xs).1) (bedB (ofT xs).1) → Q (.val (bv f b)) H') : W E0 lo (.call 9 [x.iv]) H Q := by
  refine W.pure plain hlo ?_
  rw [c9]
  have hV := ofT_valid xs
  simp (disch := omega) only [BAS, ↓BPR, reduceIte, reduceCtorEq, seval, -List.reduceReplicate, fpOf, freeNext, opW, binI, ev1, Heap.write, setAll, unI, eqKs, eqK, fillI, B9]
  generalize hH_H1 : Heap.new _ _ = H1
  have hnH1 : H1.n = H.n + 1 := by rw [← hH_H1]; rfl
  have g0 := congrArg (fun h0 => Heap.get h0 (H.n)) hH_H1.symm
  simp (disch := omega) only [BAS, ↓BPR, reduceIte, reduceCtorEq, seval, -List.reduceReplicate, fpOf, freeNext, opW, binI, ev1, Heap.write, setAll, unI, eqKs, eqK, fillI] at g0
  have kH1 : Keep H.n H H1 := ⟨by omega, fun x hx _ => by
    have gx := congrArg (fun h0 => Heap.get h0 x) hH_H1.symm
    simp (disch := omega) only [BAS, ↓BPR, reduceIte, reduceCtorEq, seval, -List.reduceReplicate, fpOf, freeNext, opW, binI, ev1, Heap.write, setAll, unI, eqKs, eqK, fillI] at gx
    exact gx⟩
  clear hH_H1
  refine of_sp (hx.keep kH1) hb (by omega) (fun i _ => good_all xs i) fun H2 vs k2 hT => ?_
  have hn2 := k2.1
  replace g0 := (k2.2 _ (by omega) (by omega)).trans g0
  simp (disch := omega) only [BAS, ↓BPR, reduceIte, reduceCtorEq, seval, -List.reduceReplicate, fpOf, freeNext, opW, binI, ev1, Heap.write, setAll, unI, eqKs, eqK, fillI, B9]
  refine bedsT_sp (t := (ofT xs).1) ⟨hT.1, hT.2.1, fun i a b => hT.sl i a b⟩ (fun l hl => by have := hV.four l hl; omega) (by omega) fun H3 f b k3 s3 => ?_
  have hn3 := k3.1
  replace g0 := (k3.2 _ (by omega) (by omega)).trans g0
  simp (disch := omega) only [BAS, ↓BPR, reduceIte, reduceCtorEq, seval, -List.reduceReplicate, fpOf, freeNext, opW, binI, ev1, Heap.write, setAll, unI, eqKs, eqK, fillI, B9, g0, bv]
  exact fun hk => h _ f b hk ⟨(s3.1.put (by omega)).lower (by omega), (s3.2.1.put (by omega)).lower (by omega), s3.2.2⟩
end Go.Iso.Gen
end

section
-- fast
namespace Go.Iso.Gen
open Go.Iso
set_option maxHeartbeats 2000000
set_option maxRecDepth 10000

/-- The loops of a stack. -/
def stackH (bed at_ spot : Int) (k0 : Nat) (st : List Id) : List Hd := st.mapIdx fun j a => ⟨a, bed, at_, spot, k0 + j⟩
theorem stackH_length (bed at_ spot : Int) (k0 : Nat) (st : List Id) : (stackH bed at_ spot k0 st).length = st.length := by simp [stackH]
theorem stackH_take (bed at_ spot : Int) (k0 : Nat) (st : List Id) (j : Nat) (hj : j < st.length) : (stackH bed at_ spot k0 st).take (j + 1) = (stackH bed at_ spot k0 st).take j ++ [⟨st[j], bed, at_, spot, k0 + j⟩] := by
  rw [List.take_succ_eq_append_getElem (by rw [stackH_length]; exact hj)]
  simp [stackH]
/-- The number of the needle i of a bed, times 8. -/
def kH (bed : Int) (i : Nat) : Nat := 8 * (40 * bed.toNat + i)
/-- The loops of a bed, needle by needle. -/
def bedH (bed r : Int) (fs : List (List Id)) : List (List Hd) := fs.mapIdx fun i st => stackH bed ((i : Int) + 1) (spotE bed ((i : Int) + 1) r) (kH bed i) st
theorem bedH_length (bed r : Int) (fs : List (List Id)) : (bedH bed r fs).length = fs.length := by simp [bedH]
theorem bedH_take (bed r : Int) (fs : List (List Id)) (i : Nat) (hi : i < fs.length) : (bedH bed r fs).take (i + 1) = (bedH bed r fs).take i ++ [stackH bed ((i : Int) + 1) (spotE bed ((i : Int) + 1) r) (kH bed i) fs[i]] := by
  rw [List.take_succ_eq_append_getElem (by rw [bedH_length]; exact hi)]
  simp [bedH]
theorem bedH_lens (bed r : Int) (fs : List (List Id)) (i : Nat) : ((bedH bed r fs).take i).flatten.length = lens (fs.take i) := by
  rw [List.length_flatten]
  unfold lens
  congr 1
  apply List.ext_getElem
  · simp [bedH]
  · intro n h1 h2
    simp [bedH, stackH]

theorem lens_append (a b : List (List Id)) : lens (a ++ b) = lens a + lens b := by unfold lens; simp
/-- A slice that has been made, and is filled. -/
theorem append_in {α : Type} [Cell α] {H : Heap} {b e cap : Nat} {ex : Bool} {l : List α} {a : α} {v : SV} (ho : Own H b e cap l) (hv : Sl H v [a]) {z : Nat} (hz : Cell.z α = z) (bytes lo : Nat) (hr : l.length + 1 ≤ cap) (hlo : lo ≤ b) :
    ∃ H2, ev1 (.append e z bytes) [.slice b 0 l.length cap ex, v.iv] lo H = some (.slice b 0 (l.length + 1) cap ex, H2) ∧ H2.n = H.n ∧ (∀ b', b' ≠ b → H2.get b' = H.get b') ∧ Own H2 b e cap (l ++ [a]) := append_room (m := [a]) ho hv hz bytes lo hr hlo

theorem own_one {α : Type} [Cell α] {H : Heap} {e z : Nat} (hz : Cell.z α = z) (a : α) : Own (H.new (.cells false e z (Cell.cs a))) H.n e 1 [a] := by
  have := Own.mk' (H := H.new (.cells false e z (Cell.cs a))) (b := H.n) (e := e) (l := [a]) (by rw [Heap.n_new]; omega) hz (by rw [Heap.get_new, if_pos rfl]) (flat_one a).symm
  exact this

/-- Two blocks may change. -/
def KeepT (p q : Nat) (H H' : Heap) : Prop := H.n ≤ H'.n ∧ ∀ x, x < H.n → x ≠ p → x ≠ q → H'.get x = H.get x
theorem KeepT.refl (p q : Nat) (H : Heap) : KeepT p q H H := ⟨Nat.le_refl _, fun _ _ _ _ => rfl⟩
theorem KeepT.trans {p q : Nat} {a b c : Heap} (h : KeepT p q a b) (k : KeepT p q b c) : KeepT p q a c := ⟨Nat.le_trans h.1 k.1, fun x h1 h2 h3 => (k.2 x (Nat.lt_of_lt_of_le h1 h.1) h2 h3).trans (h.2 x h1 h2 h3)⟩
theorem KeepT.of {p q : Nat} {H H' : Heap} (k : Keep H.n H H') : KeepT p q H H' := ⟨k.1, fun x h _ _ => k.2 x h h⟩

theorem expl39 (tm : List IV) (h : tm.length = 39) : tm = [tm.getD 0 IV.undef, tm.getD 1 IV.undef, tm.getD 2 IV.undef, tm.getD 3 IV.undef, tm.getD 4 IV.undef, tm.getD 5 IV.undef, tm.getD 6 IV.undef, tm.getD 7 IV.undef, tm.getD 8 IV.undef, tm.getD 9 IV.undef, tm.getD 10 IV.undef, tm.getD 11 IV.undef, tm.getD 12 IV.undef, tm.getD 13 IV.undef, tm.getD 14 IV.undef, tm.getD 15 IV.undef, tm.getD 16 IV.undef, tm.getD 17 IV.undef, tm.getD 18 IV.undef, tm.getD 19 IV.undef, tm.getD 20 IV.undef, tm.getD 21 IV.undef, tm.getD 22 IV.undef, tm.getD 23 IV.undef, tm.getD 24 IV.undef, tm.getD 25 IV.undef, tm.getD 26 IV.undef, tm.getD 27 IV.undef, tm.getD 28 IV.undef, tm.getD 29 IV.undef, tm.getD 30 IV.undef, tm.getD 31 IV.undef, tm.getD 32 IV.undef, tm.getD 33 IV.undef, tm.getD 34 IV.undef, tm.getD 35 IV.undef, tm.getD 36 IV.undef, tm.getD 37 IV.undef, tm.getD 38 IV.undef] := (expl tm 39 h).trans rfl
theorem add_inner {db rb kb cap : Nat} {ex : Bool} {bed at_ r : Int} {nb k0 : Nat} {st : List Id} {w : SV} {l : List Hd} {y11 y12 y13 : IV} {H : Heap} {lo : Nat} {Q : Out → Heap → Prop} {tm : List IV} (hlo : lo ≤ db) (hlr : lo ≤ rb) (hw : Sl H w st) (hst : st.length ≤ 1000000) (hlh : lo ≤ H.n)
    (hwb : st ≠ [] → w.blk ≠ db ∧ w.blk ≠ rb) (gr : H.get rb = some (.cells false 28 1 [.slice db 0 l.length cap ex])) (hO : Own H db 40 cap l) (gk : H.get kb = some (.cells false 3 1 [.int .i64 r])) (gn : H.get nb = some (.cells false 38 2 [.int .u8 bed, .int .i64 at_]))
    (hne : rb ≠ db ∧ kb ≠ db ∧ nb ≠ db ∧ rb ≠ kb ∧ rb ≠ nb) (hrb : rb < H.n) (hkb : kb < H.n) (hnb : nb < H.n) (hcap : l.length + st.length ≤ cap) (hcap' : cap ≤ 1000000)
    (htm : tm.length = 39) (t2 : tm.getD 2 IV.undef = .ptr rb 0) (t3 : tm.getD 3 IV.undef = .ptr kb 0) (t0 : tm.getD 0 IV.undef = .int .u8 bed) (t8 : tm.getD 8 IV.undef = .ptr nb 0) (t11 : tm.getD 11 IV.undef = y11) (t12 : tm.getD 12 IV.undef = y12) (t13 : tm.getD 13 IV.undef = y13) (t22 : tm.getD 22 IV.undef = w.iv) (t23 : tm.getD 23 IV.undef = .int .i64 st.length) (t24 : tm.getD 24 IV.undef = .int .i64 0)
    (hQ : ∀ H' tm', KeepT rb db H H' → H'.get rb = some (.cells false 28 1 [.slice db 0 (l ++ stackH bed at_ (spotE bed at_ r) k0 st).length cap ex]) → Own H' db 40 cap (l ++ stackH bed at_ (spotE bed at_ r) k0 st) → tm'.length = 39 → tm'.getD 2 IV.undef = .ptr rb 0 → tm'.getD 3 IV.undef = .ptr kb 0 → tm'.getD 0 IV.undef = .int .u8 bed → tm'.getD 11 IV.undef = y11 → tm'.getD 12 IV.undef = y12 → tm'.getD 13 IV.undef = y13 → Q (.ex (.jmp (.exit 2)) ⟨tm', []⟩) H') :
    W E0 lo (.code (.loop F24l9) none ⟨tm, []⟩) H Q := by
  have hS := stackH_length bed at_ (spotE bed at_ r) k0 st
  refine W_inv (fun k fr H' => ∃ j, j + k = st.length ∧ KeepT rb db H H' ∧ H'.get rb = some (.cells false 28 1 [.slice db 0 (l ++ (stackH bed at_ (spotE bed at_ r) k0 st).take j).length cap ex]) ∧ Own H' db 40 cap (l ++ (stackH bed at_ (spotE bed at_ r) k0 st).take j) ∧ fr.marks = [] ∧ fr.tm.length = 39 ∧ fr.tm.getD 2 IV.undef = .ptr rb 0 ∧ fr.tm.getD 3 IV.undef = .ptr kb 0 ∧ fr.tm.getD 0 IV.undef = .int .u8 bed ∧ fr.tm.getD 8 IV.undef = .ptr nb 0 ∧ fr.tm.getD 11 IV.undef = y11 ∧ fr.tm.getD 12 IV.undef = y12 ∧ fr.tm.getD 13 IV.undef = y13 ∧ fr.tm.getD 22 IV.undef = w.iv ∧ fr.tm.getD 23 IV.undef = .int .i64 st.length ∧ fr.tm.getD 24 IV.undef = .int .i64 j) ?_ st.length ⟨0, by omega, KeepT.refl _ _ _, by simpa using gr, by simpa using hO, rfl, htm, t2, t3, t0, t8, t11, t12, t13, t22, t23, t24⟩
  clear htm t2 t3 t0 t8 t11 t12 t13 t22 t23 t24 hO
  rintro k ⟨tm, mk⟩ H' ⟨j, hjk, hk, gr', hO', rfl, htm, t2, t3, t0, t8, t11, t12, t13, t22, t23, t24⟩ L hN hJ
  have hn := hk.1
  rw [expl39 tm htm, t2, t3, t0, t8, t11, t12, t13, t22, t23, t24]
  by_cases hj : j < st.length
  · have hwb' := hwb (by intro e; rw [e] at hj; simp at hj)
    have hw' : Sl H' w st := hw.same hn fun hx => hk.2 _ (hw.blk_lt hx) hwb'.2 hwb'.1
    have r1 := hw'.read z_Id j hj
    have gk' := (hk.2 kb hkb (Ne.symm hne.2.2.2.1) hne.2.1).trans gk
    have gn' := (hk.2 nb hnb (Ne.symm hne.2.2.2.2) hne.2.2.1).trans gn
    have rr := read_get gr'
    have rk := read_get gk'
    have rn := read_get gn'
    simp (disch := omega) only [BAS, ↓BPR, reduceIte, reduceCtorEq, seval, -List.reduceReplicate, fpOf, freeNext, opW, binI, ev1, Heap.write, setAll, unI, eqKs, eqK, fillI, B24, F24l9, F24l11, ↓hw'.idx, r1, cs_Id, rr, rk, rn]
    generalize hH_H2 : Heap.put _ _ _ = H2
    have hnH2 : H2.n = H'.n + 1 := by rw [← hH_H2]; rfl
    have gi := congrArg (fun h0 => Heap.get h0 (H'.n)) hH_H2.symm
    simp (disch := omega) only [BAS, ↓BPR, reduceIte, reduceCtorEq, seval, -List.reduceReplicate, fpOf, freeNext, opW, binI, ev1, Heap.write, setAll, unI, eqKs, eqK, fillI] at gi
    have kH2 : Keep H'.n H' H2 := ⟨by omega, fun x hx _ => by
      have gx := congrArg (fun h0 => Heap.get h0 x) hH_H2.symm
      simp (disch := omega) only [BAS, ↓BPR, reduceIte, reduceCtorEq, seval, -List.reduceReplicate, fpOf, freeNext, opW, binI, ev1, Heap.write, setAll, unI, eqKs, eqK, fillI] at gx
      exact gx⟩
    clear hH_H2
    refine spot_sp bed at_ r (by omega) fun H3 k3 => ?_
    have hn3 := k3.1
    have kk3 : Keep H'.n H' H3 := kH2.trans (k3.lower (by omega))
    have hdb := hO'.2.1
    have hO3 := hO'.keep kk3
    have hel : Cell.cs (⟨st[j], bed, at_, spotE bed at_ r, k0 + j⟩ : Hd) = [IV.int .u8 st[j].y, .int .i64 st[j].n, .int .u8 bed, .int .i64 at_, .int .i64 (spotE bed at_ r)] := rfl
    obtain ⟨H5, e5, n5, f5, o5⟩ := append_in (ex := ex) (a := (⟨st[j], bed, at_, spotE bed at_ r, k0 + j⟩ : Hd)) (e := 40) (hO3.keep (.new _ (.cells false 40 5 (Cell.cs (⟨st[j], bed, at_, spotE bed at_ r, k0 + j⟩ : Hd))))) ((own_one z_Hd _).sl true) z_Hd 40 lo (by rw [List.length_append, List.length_take, hS]; omega) hlo
    rw [hel] at e5 f5 n5
    rw [Heap.n_new] at n5
    simp only [List.length_cons, List.length_nil, Nat.zero_add, SV.iv] at e5
    have g5 := (f5 rb hne.1).trans ((Heap.get_new _ _ _).trans (if_neg (by omega)))
    rw [kk3.2 rb (by omega) (by omega), gr'] at g5
    simp (disch := omega) only [BAS, ↓BPR, reduceIte, reduceCtorEq, seval, -List.reduceReplicate, fpOf, freeNext, opW, binI, ev1, Heap.write, setAll, unI, eqKs, eqK, fillI, B24, F24l9, F24l11, ↓e5, g5]
    refine hN (k - 1) _ _ (by omega) ⟨j + 1, by omega, ⟨?_, fun x h1 h2 h3 => ?_⟩, ?_, ?_, rfl, rfl, rfl, rfl, rfl, rfl, rfl, rfl, rfl, rfl, rfl, ?_⟩
    · rw [Heap.n_put]; omega
    · rw [Heap.get_put, if_neg (Ne.symm h2), f5 x h3, Heap.get_new, if_neg (by omega), kk3.2 x (by omega) (by omega)]
      exact hk.2 x h1 h2 h3
    · have : (l ++ (stackH bed at_ (spotE bed at_ r) k0 st).take (j + 1)).length = (l ++ (stackH bed at_ (spotE bed at_ r) k0 st).take j).length + 1 := by rw [stackH_take _ _ _ _ _ _ hj, ← List.append_assoc, List.length_append]; rfl
      rw [Heap.get_put, if_pos rfl, this]
    · rw [stackH_take _ _ _ _ _ _ hj, ← List.append_assoc]
      exact o5.same (by rw [Heap.n_put]; omega) (by rw [Heap.get_put, if_neg hne.1])
    · rfl
  · have : j = st.length := by omega
    subst this
    rw [List.take_of_length_le (by omega)] at gr' hO'
    simp (disch := omega) only [BAS, ↓BPR, reduceIte, reduceCtorEq, seval, -List.reduceReplicate, fpOf, freeNext, opW, binI, ev1, Heap.write, setAll, unI, eqKs, eqK, fillI, B24, F24l9, F24l11, hJ]
    exact hQ H' _ hk gr' hO' rfl rfl rfl rfl rfl rfl rfl

theorem add_sp {db rb kb cap : Nat} {ex : Bool} (bed r : Int) {f : SV} {fs : List (List Id)} {l : List Hd} {H0 H : Heap} {lo : Nat} {Q : Out → Heap → Prop} (hlo : lo ≤ db) (hlr : lo ≤ rb) (hf : Sl2 H0 f fs) (hk : Keep H0.n H0 H) (hr0 : H0.n ≤ rb) (hd0 : H0.n ≤ db)
    (hlen : fs.length ≤ 1000000) (hst : ∀ x ∈ fs, x.length ≤ 1000000) (gr : H.get rb = some (.cells false 28 1 [.slice db 0 l.length cap ex])) (hO : Own H db 40 cap l) (gk : H.get kb = some (.cells false 3 1 [.int .i64 r]))
    (hne : rb ≠ db ∧ kb ≠ db ∧ rb ≠ kb) (hrb : rb < H.n) (hkb : kb < H.n) (hcap : l.length + lens fs ≤ cap) (hcap' : cap ≤ 1000000)
    (hQ : ∀ H', KeepT rb db H H' → H'.get rb = some (.cells false 28 1 [.slice db 0 (l ++ (bedH bed r fs).flatten).length cap ex]) → Own H' db 40 cap (l ++ (bedH bed r fs).flatten) → Q (.val (.tuple [])) H') :
    W E0 lo (.call 24 [.int .u8 bed, f.iv, .ptr rb 0, .ptr kb 0]) H Q := by
  rw [c24]
  have hf1 := hf.keep hk
  simp (disch := omega) only [BAS, ↓BPR, reduceIte, reduceCtorEq, seval, -List.reduceReplicate, fpOf, freeNext, opW, binI, ev1, Heap.write, setAll, unI, eqKs, eqK, fillI, B24, ↓hf1.ln]
  refine W_inv (fun k fr H' => ∃ i, i + k = fs.length ∧ KeepT rb db H H' ∧ H'.get rb = some (.cells false 28 1 [.slice db 0 (l ++ ((bedH bed r fs).take i).flatten).length cap ex]) ∧ Own H' db 40 cap (l ++ ((bedH bed r fs).take i).flatten) ∧ fr.marks = [] ∧ fr.tm.length = 39 ∧ fr.tm.getD 0 IV.undef = .int .u8 bed ∧ fr.tm.getD 2 IV.undef = .ptr rb 0 ∧ fr.tm.getD 3 IV.undef = .ptr kb 0 ∧ fr.tm.getD 11 IV.undef = f.iv ∧ fr.tm.getD 12 IV.undef = .int .i64 fs.length ∧ fr.tm.getD 13 IV.undef = .int .i64 i) ?_ fs.length ⟨0, by omega, KeepT.refl _ _ _, by simpa using gr, by simpa using hO, rfl, rfl, rfl, rfl, rfl, rfl, rfl, rfl⟩
  clear hO gr
  rintro k ⟨tm, mk⟩ H' ⟨i, hik, hkt, gr, hO, rfl, htm, t0, t2, t3, t11, t12, t13⟩ L hN hJ
  have hn := hkt.1
  have hn0 := hk.1
  have kk : Keep H0.n H0 H' := ⟨by omega, fun x h1 h2 => (hkt.2 x (by omega) (by omega) (by omega)).trans (hk.2 x h1 h2)⟩
  rw [expl39 tm htm, t0, t2, t3, t11, t12, t13]
  by_cases hi : i < fs.length
  · have hf2 := hf.keep kk
    obtain ⟨w, r1, s1, _⟩ := hf.elem i hi
    have hbl : f.blk < H0.n := by
      obtain ⟨vs, g1, g2, g3⟩ := hf
      exact g1.blk_lt' (i := i) (by omega)
    have r1' := kk.read f.blk (f.off + i * 1) 1 hbl hbl
    rw [r1] at r1'
    have s1' := s1.keep kk
    have hfl := bedH_lens bed r fs i
    have hle := lens_take fs i hi
    have hlt : lens (fs.take (i + 1)) ≤ lens fs := by
      have h := lens_append (fs.take (i + 1)) (fs.drop (i + 1))
      rw [List.take_append_drop] at h; omega
    simp (disch := omega) only [BAS, ↓BPR, reduceIte, reduceCtorEq, seval, -List.reduceReplicate, fpOf, freeNext, opW, binI, ev1, Heap.write, setAll, unI, eqKs, eqK, fillI, wF24o0, F24p0, wF24o1, F24p1, wF24o2, F24p2, wF24o3, F24p3, wF24o4, F24p4, wF24o5, F24p5, wF24o6, F24p6, wF24o7, F24p7, wF24o8, F24p8, wF24o10, F24p10, F24l11, F24b, F24, ↓hf2.idx, r1', ↓s1'.ln]
    generalize hH_H2 : Heap.put _ _ _ = H2
    have hnH2 : H2.n = H'.n + 1 := by rw [← hH_H2]; rfl
    have gn := congrArg (fun h0 => Heap.get h0 (H'.n)) hH_H2.symm
    simp (disch := omega) only [BAS, ↓BPR, reduceIte, reduceCtorEq, seval, -List.reduceReplicate, fpOf, freeNext, opW, binI, ev1, Heap.write, setAll, unI, eqKs, eqK, fillI] at gn
    have kH2 : Keep H'.n H' H2 := ⟨by omega, fun x hx _ => by
      have gx := congrArg (fun h0 => Heap.get h0 x) hH_H2.symm
      simp (disch := omega) only [BAS, ↓BPR, reduceIte, reduceCtorEq, seval, -List.reduceReplicate, fpOf, freeNext, opW, binI, ev1, Heap.write, setAll, unI, eqKs, eqK, fillI] at gx
      exact gx⟩
    clear hH_H2
    have hdb := hO.2.1
    have g2 := (kH2.2 rb (by omega) (by omega)).trans gr
    have gk2 := (kH2.2 kb (by omega) (by omega)).trans ((hkt.2 kb hkb (Ne.symm hne.2.2) hne.2.1).trans gk)
    refine add_inner (at_ := (i : Int) + 1) (k0 := kH bed i) hlo hlr (s1'.keep kH2) (hst _ (List.getElem_mem hi)) (by omega) (fun hx => ?_) g2 (hO.keep kH2) gk2 gn ⟨hne.1, hne.2.1, by omega, hne.2.2, by omega⟩ (by omega) (by omega) (by omega) (by rw [List.length_append, hfl]; omega) hcap' rfl rfl rfl rfl rfl rfl rfl rfl rfl rfl rfl fun H3 tm3 k3 g3 o3 u u2 u3 u0 u11 u12 u13 => ?_
    · have := s1.blk_lt hx
      omega
    · rw [expl39 tm3 u, u2, u3, u0, u11, u12, u13]
      simp (disch := omega) only [BAS, ↓BPR, reduceIte, reduceCtorEq, seval, -List.reduceReplicate, fpOf, freeNext, opW, binI, ev1, Heap.write, setAll, unI, eqKs, eqK, fillI, wF24o0, F24p0, wF24o1, F24p1, wF24o2, F24p2, wF24o3, F24p3, wF24o4, F24p4, wF24o5, F24p5, wF24o6, F24p6, wF24o7, F24p7, wF24o8, F24p8, wF24o10, F24p10, F24l11, F24b, F24]
      have e1 : l ++ ((bedH bed r fs).take i).flatten ++ stackH bed ((i : Int) + 1) (spotE bed ((i : Int) + 1) r) (kH bed i) fs[i] = l ++ ((bedH bed r fs).take (i + 1)).flatten := by
        rw [bedH_take _ _ _ _ hi, List.flatten_append, List.append_assoc]; simp
      rw [e1] at g3 o3
      exact hN (k - 1) _ _ (by omega) ⟨i + 1, by omega, (hkt.trans (KeepT.of kH2)).trans k3, g3, o3, rfl, rfl, rfl, rfl, rfl, rfl, rfl, rfl⟩
  · have : i = fs.length := by omega
    subst this
    rw [List.take_of_length_le (by rw [bedH_length]; exact Nat.le_refl _)] at gr hO
    simp (disch := omega) only [BAS, ↓BPR, reduceIte, reduceCtorEq, seval, -List.reduceReplicate, fpOf, freeNext, opW, binI, ev1, Heap.write, setAll, unI, eqKs, eqK, fillI, wF24o0, F24p0, wF24o1, F24p1, wF24o2, F24p2, wF24o3, F24p3, wF24o4, F24p4, wF24o5, F24p5, wF24o6, F24p6, wF24o7, F24p7, wF24o8, F24p8, wF24o10, F24p10, F24l11, F24b, F24, hJ]
    exact hQ H' hkt gr hO
end Go.Iso.Gen
end

section
-- fast
namespace Go.Iso.Gen
open Go.Iso
set_option maxHeartbeats 2000000
set_option maxRecDepth 10000

/-- All loops, needle by needle. -/
def heldL (fs bs : List (List Id)) (r : Int) : List Hd := (bedH 0 r fs).flatten ++ (bedH 1 r bs).flatten
theorem stackH_k {bed at_ spot : Int} {k0 : Nat} {st : List Id} {x : Hd} (h : x ∈ stackH bed at_ spot k0 st) : k0 ≤ x.k ∧ x.k < k0 + st.length := by
  obtain ⟨j, hj, rfl⟩ := List.mem_iff_getElem.1 h
  rw [stackH_length] at hj
  simp [stackH]; omega
theorem stackH_ord (bed at_ spot : Int) (k0 : Nat) (st : List Id) : (stackH bed at_ spot k0 st).Pairwise ordH := by
  rw [List.pairwise_iff_getElem]
  intro i j h1 h2 h3
  simp [stackH, ordH]; omega
theorem bedH_k {bed r : Int} {fs : List (List Id)} (h4 : ∀ x ∈ fs, x.length ≤ 4) {x : Hd} (h : x ∈ (bedH bed r fs).flatten) : kH bed 0 ≤ x.k ∧ x.k < kH bed fs.length := by
  obtain ⟨s, hs, hx⟩ := List.mem_flatten.1 h
  obtain ⟨i, hi, rfl⟩ := List.mem_iff_getElem.1 hs
  rw [bedH_length] at hi
  simp only [bedH, List.getElem_mapIdx] at hx
  have := stackH_k hx
  have := h4 _ (List.getElem_mem hi)
  unfold kH at *
  omega
theorem bedH_ord (bed r : Int) {fs : List (List Id)} (h4 : ∀ x ∈ fs, x.length ≤ 4) : ((bedH bed r fs).flatten).Pairwise ordH := by
  rw [List.pairwise_flatten]
  constructor
  · intro s hs
    obtain ⟨i, hi, rfl⟩ := List.mem_iff_getElem.1 hs
    simp only [bedH, List.getElem_mapIdx]
    exact stackH_ord _ _ _ _ _
  · rw [List.pairwise_iff_getElem]
    intro i j h1 h2 h3 x hx y hy
    rw [bedH_length] at h1 h2
    simp only [bedH, List.getElem_mapIdx] at hx hy
    have a1 := stackH_k hx
    have a2 := stackH_k hy
    have := h4 _ (List.getElem_mem h1)
    unfold kH at *
    unfold ordH
    omega
theorem heldL_ord {fs bs : List (List Id)} (r : Int) (hc : checkE fs bs = 0) : (heldL fs bs r).Pairwise ordH := by
  obtain ⟨h1, h2, h3, h4, _⟩ := check_len hc
  unfold heldL
  rw [List.pairwise_append]
  refine ⟨bedH_ord 0 r h3, bedH_ord 1 r h4, fun x hx y hy => ?_⟩
  have a1 := bedH_k h3 hx
  have a2 := bedH_k h4 hy
  have e0 : kH 0 fs.length = 8 * fs.length := by unfold kH; simp
  have e1 : kH 1 0 = 320 := by unfold kH; simp
  unfold ordH
  omega
theorem heldL_length (fs bs : List (List Id)) (r : Int) : (heldL fs bs r).length = lens fs + lens bs := by
  unfold heldL
  rw [List.length_append]
  have a := bedH_lens 0 r fs fs.length
  have b := bedH_lens 1 r bs bs.length
  rw [List.take_of_length_le (by rw [bedH_length]; exact Nat.le_refl _), List.take_length] at a b
  omega
theorem lens_le4 {fs : List (List Id)} (h1 : fs.length ≤ 40) (h4 : ∀ x ∈ fs, x.length ≤ 4) : lens fs ≤ 160 := by
  have key : ∀ fs : List (List Id), (∀ x ∈ fs, x.length ≤ 4) → lens fs ≤ 4 * fs.length := by
    intro fs
    induction fs with
    | nil => intro _; simp [lens]
    | cons a l ih =>
      intro h
      have := ih fun x hx => h x (by simp [hx])
      have := h a (by simp)
      simp [lens] at *
      omega
  have := key fs h4
  omega

theorem olist_sp {f b : SV} {fs bs : List (List Id)} (r : Int) {H : Heap} {lo : Nat} {Q : Out → Heap → Prop} (hf : Sl2 H f fs) (hb : Sl2 H b bs) (hlf : fs.length ≤ 1000000) (hlb : bs.length ≤ 1000000) (hl : ∀ l ∈ fs, l.length ≤ 1000000) (hl' : ∀ l ∈ bs, l.length ≤ 1000000) (hlo : lo ≤ H.n)
    (he : ∀ H', Keep H.n H H' → ocheckE fs bs r ≠ 0 → Q (.val (.tuple [.nilSlice, .int .i64 (ocheckE fs bs r)])) H')
    (h : ∀ H' v l, Keep H.n H H' → ocheckE fs bs r = 0 → Fresh H.n H' 40 v l → l.Perm (heldL fs bs r) → l.Pairwise ltH → Q (.val (.tuple [v.iv, .int .i64 0])) H') : W E0 lo (.call 10 [bv f b, .int .i64 r]) H Q := by
  refine W.pure plain hlo ?_
  rw [c10]
  simp (disch := omega) only [BAS, ↓BPR, reduceIte, reduceCtorEq, seval, -List.reduceReplicate, fpOf, freeNext, opW, binI, ev1, Heap.write, setAll, unI, eqKs, eqK, fillI, B10, bv]
  generalize hH_H1 : Heap.new _ _ = H1
  have hnH1 : H1.n = H.n + 2 := by rw [← hH_H1]; rfl
  have g0 := congrArg (fun h0 => Heap.get h0 (H.n)) hH_H1.symm
  simp (disch := omega) only [BAS, ↓BPR, reduceIte, reduceCtorEq, seval, -List.reduceReplicate, fpOf, freeNext, opW, binI, ev1, Heap.write, setAll, unI, eqKs, eqK, fillI] at g0
  have g1 := congrArg (fun h0 => Heap.get h0 (H.n + 1)) hH_H1.symm
  simp (disch := omega) only [BAS, ↓BPR, reduceIte, reduceCtorEq, seval, -List.reduceReplicate, fpOf, freeNext, opW, binI, ev1, Heap.write, setAll, unI, eqKs, eqK, fillI] at g1
  have kH1 : Keep H.n H H1 := ⟨by omega, fun x hx _ => by
    have gx := congrArg (fun h0 => Heap.get h0 x) hH_H1.symm
    simp (disch := omega) only [BAS, ↓BPR, reduceIte, reduceCtorEq, seval, -List.reduceReplicate, fpOf, freeNext, opW, binI, ev1, Heap.write, setAll, unI, eqKs, eqK, fillI] at gx
    exact gx⟩
  clear hH_H1
  rw [show IV.agg [f.iv, b.iv] = bv f b from rfl]
  refine ocheck_sp r (hf.keep kH1) (hb.keep kH1) hlf hlb hl hl' (by omega) fun H2 k2 => ?_
  have hn2 := k2.1
  replace g0 := (k2.2 _ (by omega) (by omega)).trans g0
  replace g1 := (k2.2 _ (by omega) (by omega)).trans g1
  replace kH1 : Keep H.n H H2 := kH1.trans (k2.lower (by omega))
  clear k2
  by_cases hc : ocheckE fs bs r = 0
  case neg =>
    have e0 : (ocheckE fs bs r != 0) = true := by simp [hc]
    simp (disch := omega) only [BAS, ↓BPR, reduceIte, reduceCtorEq, seval, -List.reduceReplicate, fpOf, freeNext, opW, binI, ev1, Heap.write, setAll, unI, eqKs, eqK, fillI, B10, e0]
    exact fun hk => he _ hk hc
  have hck : checkE fs bs = 0 := by
    unfold ocheckE at hc
    split at hc
    · contradiction
    · rename_i h; simpa using h
  obtain ⟨c1, c2, c3, c4, c5, c6⟩ := check_len hck
  have r0 := read_get g0
  have hcount : lens (fs.take 40) + lens (bs.take 40) = lens fs + lens bs := by rw [List.take_of_length_le c1, List.take_of_length_le c2]
  have hbf := lens_le4 c1 c3
  have hbb := lens_le4 c2 c4
  simp (disch := omega) only [BAS, ↓BPR, reduceIte, reduceCtorEq, seval, -List.reduceReplicate, fpOf, freeNext, opW, binI, ev1, Heap.write, setAll, unI, eqKs, eqK, fillI, B10, hc, r0]
  rw [show IV.agg [f.iv, b.iv] = bv f b from rfl]
  refine count_sp (hf.keep kH1) (hb.keep kH1) hlf hlb hl hl' (by omega) fun H3 k3 => ?_
  have hn3 := k3.1
  replace g0 := (k3.2 _ (by omega) (by omega)).trans g0
  replace g1 := (k3.2 _ (by omega) (by omega)).trans g1
  replace kH1 : Keep H.n H H3 := kH1.trans (k3.lower (by omega))
  clear k3 r0
  rw [hcount]
  have r0 := read_get g0
  simp (disch := omega) only [BAS, ↓BPR, reduceIte, reduceCtorEq, seval, -List.reduceReplicate, fpOf, freeNext, opW, binI, ev1, Heap.write, setAll, unI, eqKs, eqK, fillI, B10, Int.reducePow, r0]
  generalize hH_H4 : Heap.put _ _ _ = H4
  have hnH4 : H4.n = H3.n + 2 := by rw [← hH_H4]; rfl
  have gd := congrArg (fun h0 => Heap.get h0 (H3.n)) hH_H4.symm
  simp (disch := omega) only [BAS, ↓BPR, reduceIte, reduceCtorEq, seval, -List.reduceReplicate, fpOf, freeNext, opW, binI, ev1, Heap.write, setAll, unI, eqKs, eqK, fillI] at gd
  have gr := congrArg (fun h0 => Heap.get h0 (H3.n + 1)) hH_H4.symm
  simp (disch := omega) only [BAS, ↓BPR, reduceIte, reduceCtorEq, seval, -List.reduceReplicate, fpOf, freeNext, opW, binI, ev1, Heap.write, setAll, unI, eqKs, eqK, fillI] at gr
  have kH4 : Keep H3.n H3 H4 := ⟨by omega, fun x hx _ => by
    have gx := congrArg (fun h0 => Heap.get h0 x) hH_H4.symm
    simp (disch := omega) only [BAS, ↓BPR, reduceIte, reduceCtorEq, seval, -List.reduceReplicate, fpOf, freeNext, opW, binI, ev1, Heap.write, setAll, unI, eqKs, eqK, fillI] at gx
    exact gx⟩
  clear hH_H4
  have hOd : Own H4 H3.n 40 (lens fs + lens bs) ([] : List Hd) := ⟨Nat.zero_le _, by omega, _, gd, by have h := congrArg List.length (rep_flat (lens fs + lens bs) (⟨⟨0, 0⟩, 0, 0, 0, 0⟩ : Hd)); rw [flat_length, List.length_replicate] at h; exact h⟩
  clear gd
  have kH4' := kH1.trans (kH4.lower (by omega))
  have e2 := kH4.2 H.n (by omega) (by omega)
  have e3 := kH4.2 (H.n + 1) (by omega) (by omega)
  rw [g0] at e2
  rw [g1] at e3
  clear r0 g0 g1 kH4
  refine add_sp (ex := true) 0 r (l := []) (by omega) (by omega) hf kH4' (by omega) (by omega) hlf hl gr hOd e3 (by omega) (by omega) (by omega) (by show 0 + lens fs ≤ _; omega) (by omega) fun H5 k5 gr5 hO5 => ?_
  rw [List.nil_append] at gr5 hO5
  have hn5 := k5.1
  have e2' := (k5.2 H.n (by omega) (by omega) (by omega)).trans e2
  have e3' := (k5.2 (H.n + 1) (by omega) (by omega) (by omega)).trans e3
  have kH5 : Keep H.n H H5 := ⟨by omega, fun x h1 h2 => (k5.2 x (by omega) (by omega) (by omega)).trans (kH4'.2 x h1 h2)⟩
  have r0 := read_get e2'
  have hl5 : ((bedH 0 r fs).flatten).length = lens fs := by
    have a := bedH_lens 0 r fs fs.length
    rwa [List.take_of_length_le (by rw [bedH_length]; exact Nat.le_refl _), List.take_length] at a
  simp (disch := omega) only [BAS, ↓BPR, reduceIte, reduceCtorEq, seval, -List.reduceReplicate, fpOf, freeNext, opW, binI, ev1, Heap.write, setAll, unI, eqKs, eqK, fillI, B10, r0]
  refine add_sp (ex := true) 1 r (l := (bedH 0 r fs).flatten) (by omega) (by omega) hb kH5 (by omega) (by omega) hlb hl' gr5 hO5 e3' (by omega) (by omega) (by omega) (by omega) (by omega) fun H6 k6 gr6 hO6 => ?_
  rw [show (bedH 0 r fs).flatten ++ (bedH 1 r bs).flatten = heldL fs bs r from rfl] at gr6 hO6
  have hn6 := k6.1
  have kH6 : Keep H.n H H6 := ⟨by omega, fun x h1 h2 => (k6.2 x (by omega) (by omega) (by omega)).trans (kH5.2 x h1 h2)⟩
  have r6 := read_get gr6
  have hl6 := heldL_length fs bs r
  simp (disch := omega) only [BAS, ↓BPR, reduceIte, reduceCtorEq, seval, -List.reduceReplicate, fpOf, freeNext, opW, binI, ev1, Heap.write, setAll, unI, eqKs, eqK, fillI, B10, r6]
  refine stable_sp (ex := true) hO6 (by omega) (by omega) (heldL_ord r hck) fun H7 l7 k7 hO7 p7 s7 => ?_
  have hn7 := k7.1
  have kH7 : Keep H.n H H7 := ⟨by omega, fun x h1 h2 => (k7.2 x (by omega) (by omega)).trans (kH6.2 x h1 h2)⟩
  have gr7 := (k7.2 (H3.n + 1) (by omega) (by omega)).trans gr6
  have r7 := read_get gr7
  have hl7 : l7.length = (heldL fs bs r).length := p7.length_eq
  simp (disch := omega) only [BAS, ↓BPR, reduceIte, reduceCtorEq, seval, -List.reduceReplicate, fpOf, freeNext, opW, binI, ev1, Heap.write, setAll, unI, eqKs, eqK, fillI, B10, r7]
  rw [← hl7]
  refine copiedHd_sp (hO7.sl true) (by omega) (by omega) fun H8 b8 k8 hb8 hO8 => ?_
  have hn8 := k8.1
  simp (disch := omega) only [BAS, ↓BPR, reduceIte, reduceCtorEq, seval, -List.reduceReplicate, fpOf, freeNext, opW, binI, ev1, Heap.write, setAll, unI, eqKs, eqK, fillI, B10]
  exact fun hk => h H8 (.sl b8 0 l7.length l7.length true) l7 hk hc (.inr ⟨b8, rfl, by omega, hO8⟩) p7 s7
end Go.Iso.Gen
end

section
-- fast
namespace Go.Iso.Gen
open Go.Iso
set_option maxHeartbeats 2000000
set_option maxRecDepth 10000

/-- The loops of a needle, if it has a spot. -/
def cellL (fs bs : List (List Id)) (r spot : Int) (i : Nat) : List Hd := if spotE (nB i) (nA i) r = spot then stackH (nB i) (nA i) spot (8 * i) (atL fs bs (nB i) (nA i)) else []
def rowL (fs bs : List (List Id)) (r spot : Int) : List Hd := (List.range 80).flatMap (cellL fs bs r spot)
def listedL (fs bs : List (List Id)) (r : Int) : List Hd := (List.range 95).flatMap fun (s : Nat) => rowL fs bs r (-12 + 2 * (s : Int))
end Go.Iso.Gen
end

section
namespace Go.Iso.Gen
open Go.Iso
set_option maxHeartbeats 2000000
set_option maxRecDepth 10000

theorem stackH_mem {bed at_ spot : Int} {k0 : Nat} {st : List Id} {x : Hd} : x ∈ stackH bed at_ spot k0 st ↔ ∃ j, ∃ h : j < st.length, x = ⟨st[j], bed, at_, spot, k0 + j⟩ := by
  constructor
  · intro h
    obtain ⟨j, hj, rfl⟩ := List.mem_iff_getElem.1 h
    rw [stackH_length] at hj
    exact ⟨j, hj, by simp [stackH]⟩
  · rintro ⟨j, hj, rfl⟩
    exact List.mem_iff_getElem.2 ⟨j, by rw [stackH_length]; exact hj, by simp [stackH]⟩
theorem pairwise_range {α : Type} {R : α → α → Prop} (f : Nat → List α) (n : Nat) (h1 : ∀ i, (f i).Pairwise R) (h2 : ∀ i j, i < j → ∀ x ∈ f i, ∀ y ∈ f j, R x y) : ((List.range n).flatMap f).Pairwise R := by
  induction n with
  | zero => simp
  | succ n ih =>
    rw [flatMap_range, List.pairwise_append]
    refine ⟨ih, h1 n, fun x hx y hy => ?_⟩
    obtain ⟨i, hi, hx⟩ := List.mem_flatMap.1 hx
    exact h2 i n (List.mem_range.1 hi) x hx y hy
theorem cellL_mem {fs bs : List (List Id)} {r spot : Int} {i : Nat} {x : Hd} : x ∈ cellL fs bs r spot i ↔ spotE (nB i) (nA i) r = spot ∧ x ∈ stackH (nB i) (nA i) spot (8 * i) (atL fs bs (nB i) (nA i)) := by
  unfold cellL
  split
  · rename_i h; exact ⟨fun hx => ⟨h, hx⟩, fun hx => hx.2⟩
  · rename_i h; exact ⟨fun hx => by simp at hx, fun hx => absurd hx.1 h⟩
theorem stackH_spot {bed at_ spot : Int} {k0 : Nat} {st : List Id} {x : Hd} (h : x ∈ stackH bed at_ spot k0 st) : x.spot = spot := by
  obtain ⟨j, hj, rfl⟩ := stackH_mem.1 h; rfl
theorem stackH_lt (bed at_ spot : Int) (k0 : Nat) (st : List Id) : (stackH bed at_ spot k0 st).Pairwise ltH := by
  rw [List.pairwise_iff_getElem]
  intro i j h1 h2 h3
  simp [stackH, ltH]; omega
theorem rowL_spot {fs bs : List (List Id)} {r spot : Int} {x : Hd} (h : x ∈ rowL fs bs r spot) : x.spot = spot := by
  obtain ⟨i, _, hx⟩ := List.mem_flatMap.1 h
  exact stackH_spot (cellL_mem.1 hx).2
theorem listedL_sorted {fs bs : List (List Id)} (h4 : ∀ x ∈ fs, x.length ≤ 4) (h4' : ∀ x ∈ bs, x.length ≤ 4) (r : Int) : (listedL fs bs r).Pairwise ltH := by
  refine pairwise_range _ 95 (fun s => pairwise_range _ 80 (fun i => ?_) fun i j hij x hx y hy => ?_) fun s t hst x hx y hy => ?_
  · unfold cellL
    split
    · exact stackH_lt _ _ _ _ _
    · exact List.Pairwise.nil
  · have hx := (cellL_mem.1 hx).2
    have hy := (cellL_mem.1 hy).2
    have a1 := stackH_k hx
    have a2 := stackH_k hy
    have := atL_len fs bs (nB i) (nA i) 4 h4 h4'
    have b1 := stackH_spot hx
    have b2 := stackH_spot hy
    unfold ltH
    omega
  · have b1 := rowL_spot hx
    have b2 := rowL_spot hy
    unfold ltH
    omega
theorem bedH_mem {bed r : Int} {fs : List (List Id)} {x : Hd} : x ∈ (bedH bed r fs).flatten ↔ ∃ i, ∃ h : i < fs.length, x ∈ stackH bed ((i : Int) + 1) (spotE bed ((i : Int) + 1) r) (kH bed i) fs[i] := by
  constructor
  · intro h
    obtain ⟨s, hs, hx⟩ := List.mem_flatten.1 h
    obtain ⟨i, hi, rfl⟩ := List.mem_iff_getElem.1 hs
    rw [bedH_length] at hi
    exact ⟨i, hi, by simpa [bedH] using hx⟩
  · rintro ⟨i, hi, hx⟩
    exact List.mem_flatten.2 ⟨_, List.mem_iff_getElem.2 ⟨i, by rw [bedH_length]; exact hi, rfl⟩, by simpa [bedH] using hx⟩
theorem atL_get (fs bs : List (List Id)) (i : Nat) (hi : i < 80) : atL fs bs (nB i) (nA i) = (if i < 40 then fs else bs).getD (i % 40) [] := by
  unfold atL
  rw [if_pos (needle_v i), ← List.getD_eq_getElem?_getD]
  have e : (nA i - 1).toNat = i % 40 := by unfold nA; omega
  rw [e]
  by_cases h : i < 40
  · rw [if_pos h, if_neg (by unfold nB; omega)]
  · rw [if_neg h, if_pos (by unfold nB; omega)]
theorem spotE_needle {i : Nat} (hi : i < 80) {r : Int} (hr : rackB r = true) : spotE (nB i) (nA i) r = if i < 40 then 4 * (i : Int) + 6 else 4 * ((i : Int) - 39 + r) := by
  unfold spotE
  rw [if_pos ⟨needle_v i, hr⟩]
  by_cases h : i < 40
  · rw [if_pos h, if_pos (by unfold nB; omega)]
    unfold nA; omega
  · rw [if_neg h, if_neg (by unfold nB; omega)]
    unfold nA; omega
/-- The members of the order: needle by needle. -/
theorem heldL_mem {fs bs : List (List Id)} {r : Int} (h1 : fs.length ≤ 40) (h2 : bs.length ≤ 40) {x : Hd} : x ∈ heldL fs bs r ↔ ∃ i, i < 80 ∧ x ∈ stackH (nB i) (nA i) (spotE (nB i) (nA i) r) (8 * i) (atL fs bs (nB i) (nA i)) := by
  unfold heldL
  rw [List.mem_append, bedH_mem, bedH_mem]
  constructor
  · rintro (⟨i, hi, hx⟩ | ⟨i, hi, hx⟩)
    · refine ⟨i, by omega, ?_⟩
      rw [atL_get fs bs i (by omega), if_pos (by omega), show i % 40 = i from by omega, getD_in hi]
      rw [show nB i = 0 from by unfold nB; omega, show nA i = (i : Int) + 1 from by unfold nA; omega]
      rw [show kH 0 i = 8 * i from by unfold kH; simp] at hx
      exact hx
    · refine ⟨40 + i, by omega, ?_⟩
      rw [atL_get fs bs (40 + i) (by omega), if_neg (by omega), show (40 + i) % 40 = i from by omega, getD_in hi]
      rw [show nB (40 + i) = 1 from by unfold nB; omega, show nA (40 + i) = (i : Int) + 1 from by unfold nA; omega]
      rw [show kH 1 i = 8 * (40 + i) from by unfold kH; simp] at hx
      exact hx
  · rintro ⟨i, hi, hx⟩
    rw [atL_get fs bs i hi] at hx
    by_cases h : i < 40
    · rw [if_pos h, show i % 40 = i from by omega] at hx
      rw [show nB i = 0 from by unfold nB; omega, show nA i = (i : Int) + 1 from by unfold nA; omega] at hx
      have hlt : i < fs.length := by
        obtain ⟨j, hj, _⟩ := stackH_mem.1 hx
        exact Nat.lt_of_not_le fun hle => by rw [getD_out hle] at hj; simp at hj
      rw [getD_in hlt] at hx
      exact .inl ⟨i, hlt, by rw [show kH 0 i = 8 * i from by unfold kH; simp]; exact hx⟩
    · rw [if_neg h] at hx
      obtain ⟨q, rfl⟩ : ∃ q, i = 40 + q := ⟨i - 40, by omega⟩
      rw [show (40 + q) % 40 = q from by omega] at hx
      rw [show nB (40 + q) = 1 from by unfold nB; omega, show nA (40 + q) = (q : Int) + 1 from by unfold nA; omega] at hx
      have hlt : q < bs.length := by
        obtain ⟨j, hj, _⟩ := stackH_mem.1 hx
        exact Nat.lt_of_not_le fun hle => by rw [getD_out hle] at hj; simp at hj
      rw [getD_in hlt] at hx
      exact .inr ⟨q, hlt, by rw [show kH 1 q = 8 * (40 + q) from by unfold kH; simp]; exact hx⟩
theorem listedL_mem {fs bs : List (List Id)} {r : Int} (hr : rackB r = true) {x : Hd} : x ∈ listedL fs bs r ↔ ∃ i, i < 80 ∧ x ∈ stackH (nB i) (nA i) (spotE (nB i) (nA i) r) (8 * i) (atL fs bs (nB i) (nA i)) := by
  have hr' := rackB_iff.1 hr
  unfold listedL rowL
  constructor
  · intro h
    obtain ⟨s, hs, h⟩ := List.mem_flatMap.1 h
    obtain ⟨i, hi, h⟩ := List.mem_flatMap.1 h
    obtain ⟨h1, h2⟩ := cellL_mem.1 h
    exact ⟨i, List.mem_range.1 hi, by rw [h1]; exact h2⟩
  · rintro ⟨i, hi, h⟩
    have hs := spotE_needle hi hr
    obtain ⟨s, hs1, hs2⟩ : ∃ s : Nat, s < 95 ∧ spotE (nB i) (nA i) r = -12 + 2 * (s : Int) := by
      by_cases h : i < 40
      · rw [if_pos h] at hs
        exact ⟨2 * i + 9, by omega, by omega⟩
      · rw [if_neg h] at hs
        exact ⟨(2 * ((i : Int) - 39 + r) + 6).toNat, by omega, by omega⟩
    refine List.mem_flatMap.2 ⟨s, List.mem_range.2 hs1, List.mem_flatMap.2 ⟨i, List.mem_range.2 hi, cellL_mem.2 ⟨hs2, ?_⟩⟩⟩
    rw [← hs2]; exact h
theorem order_eq {fs bs : List (List Id)} {r : Int} (hc : checkE fs bs = 0) (hr : rackB r = true) {l : List Hd} (hp : l.Perm (heldL fs bs r)) (hs : l.Pairwise ltH) : l = listedL fs bs r := by
  obtain ⟨c1, c2, c3, c4, _⟩ := check_len hc
  refine sorted_uniq ltH_irr ltH_tr hs (listedL_sorted c3 c4 r) fun x => ?_
  rw [hp.mem_iff, heldL_mem c1 c2, listedL_mem hr]
end Go.Iso.Gen
end

section
-- fast
namespace Go.Iso
theorem Tabs.keep' {ts : List (List Int)} {H H' : Heap} (h : Tabs ts H) (k : Keep H.n H H') : Tabs ts H' := h.keep k.1 fun i hi => k.2 i (by have := h.1; omega) (by have := h.1; omega)
end Go.Iso
namespace Go.Iso.Gen
open Go.Iso
set_option maxHeartbeats 2000000
set_option maxRecDepth 10000


end Go.Iso.Gen
end

section
-- fast
namespace Go.Iso.Gen
open Go.Iso
set_option maxHeartbeats 2000000
set_option maxRecDepth 10000

/-- A crossing; a pass. -/
structure Cr where
  a : Id
  b : Id
  s : Int
  deriving Inhabited, DecidableEq
instance : Cell Cr where
  z := 5
  cs c := [.int .u8 c.a.y, .int .i64 c.a.n, .int .u8 c.b.y, .int .i64 c.b.n, .int .i64 c.s]
  len _ := rfl
  one _ := rfl
  pos := by omega
structure Ps where
  id : Id
  front : Bool
  dir : Int
  deriving Inhabited, DecidableEq
instance : Cell Ps where
  z := 4
  cs p := [.int .u8 p.id.y, .int .i64 p.id.n, .bool p.front, .int .u8 p.dir]
  len _ := rfl
  one _ := rfl
  pos := by omega
theorem cs_Ps (p : Ps) : Cell.cs p = [.int .u8 p.id.y, .int .i64 p.id.n, .bool p.front, .int .u8 p.dir] := rfl
theorem z_Ps : Cell.z Ps = 4 := rfl

theorem copiedPs_sp {v : SV} {l : List Ps} {H : Heap} {lo : Nat} {Q : Out → Heap → Prop} (hv : Sl H v l) (hl : l.length ≤ 1000000) (hlo : lo ≤ H.n)
    (h : ∀ H' b, Keep H.n H H' → H.n ≤ b → Own H' b 54 l.length l → Q (.val (SV.sl b 0 l.length l.length true).iv) H') : W E0 lo (.call 40 [v.iv]) H Q := by
  refine W.pure plain hlo ?_
  rw [c40]
  obtain ⟨H2, e1, e2, e3, e4⟩ := copy_new hv (z := 4) rfl 54 H.n [IV.int .u8 0, .int .i64 0, .bool false, .int .u8 0] rfl (Nat.le_refl _)
  simp (disch := omega) only [BAS, ↓BPR, reduceIte, reduceCtorEq, seval, -List.reduceReplicate, fpOf, freeNext, opW, binI, ev1, Heap.write, setAll, unI, eqKs, eqK, fillI, B40, ↓hv.ln, ↓e1, Int.reducePow]
  exact fun hk => h _ _ hk (Nat.le_refl _) e4

theorem expl28 (tm : List IV) (h : tm.length = 28) : tm = [tm.getD 0 IV.undef, tm.getD 1 IV.undef, tm.getD 2 IV.undef, tm.getD 3 IV.undef, tm.getD 4 IV.undef, tm.getD 5 IV.undef, tm.getD 6 IV.undef, tm.getD 7 IV.undef, tm.getD 8 IV.undef, tm.getD 9 IV.undef, tm.getD 10 IV.undef, tm.getD 11 IV.undef, tm.getD 12 IV.undef, tm.getD 13 IV.undef, tm.getD 14 IV.undef, tm.getD 15 IV.undef, tm.getD 16 IV.undef, tm.getD 17 IV.undef, tm.getD 18 IV.undef, tm.getD 19 IV.undef, tm.getD 20 IV.undef, tm.getD 21 IV.undef, tm.getD 22 IV.undef, tm.getD 23 IV.undef, tm.getD 24 IV.undef, tm.getD 25 IV.undef, tm.getD 26 IV.undef, tm.getD 27 IV.undef] := (expl tm 28 h).trans rfl
theorem revPs_sp {blk e cap : Nat} {ex : Bool} {l : List Ps} {H : Heap} {lo : Nat} {Q : Out → Heap → Prop} (hO : Own H blk e cap l) (hlo : lo ≤ blk) (hl : l.length ≤ 1000000)
    (h : ∀ H', KeepX blk H H' → Own H' blk e cap l.reverse → Q (.val (.tuple [])) H') : W E0 lo (.call 39 [(SV.sl blk 0 l.length cap ex).iv]) H Q := by
  rw [c39]
  have hv := hO.sl ex
  have hln := hv.ln
  simp (disch := omega) only [BAS, ↓BPR, reduceIte, reduceCtorEq, seval, -List.reduceReplicate, fpOf, freeNext, opW, binI, ev1, Heap.write, setAll, unI, eqKs, eqK, fillI, B39, ↓hln]
  refine W_inv (fun k fr H' => ∃ (i : Nat) (l' : List Ps), i + k = l.length ∧ KeepX blk H H' ∧ Own H' blk e cap l' ∧ l'.length = l.length ∧ (∀ x, x < l.length → nth l' x = if x < i ∨ l.length - i ≤ x then nth l (l.length - 1 - x) else nth l x) ∧ fr.marks = [] ∧ fr.tm.length = 28 ∧ fr.tm.getD 0 IV.undef = (SV.sl blk 0 l.length cap ex).iv ∧ fr.tm.getD 2 IV.undef = .int .i64 i ∧ fr.tm.getD 3 IV.undef = .int .i64 ((l.length : Int) - 1 - (i : Int))) ?_ l.length ⟨0, l, by omega, KeepX.refl _ _, hO, rfl, fun x hx => by rw [if_neg (by omega)], rfl, rfl, rfl, rfl, by show IV.int _ _ = _; congr 1; omega⟩
  clear hO hv hln
  rintro k ⟨tm, mk⟩ H' ⟨i, l', hik, hk, hO, hll, hf, rfl, htm, t0, t2, t3⟩ L hN hJ
  rw [expl28 tm htm, t0, t2, t3, ← hll]
  by_cases hi : (i : Int) < (l.length : Int) - 1 - (i : Int)
  · have hidx := idxV hO ex 4
    have ej : (l'.length : Int) - 1 - (i : Int) = ((l'.length - 1 - i : Nat) : Int) := by omega
    obtain ⟨o1, o2, w1, w2, s2⟩ := own_swap hO (z := 4) rfl (i := i) (j := l'.length - 1 - i) (by omega) (by omega) lo hlo
    have r1 := hO.nthRead (z := 4) rfl (i := i) (by omega)
    have r2 := hO.nthRead (z := 4) rfl (i := l'.length - 1 - i) (by omega)
    rw [ej]
    simp (disch := omega) only [BAS, ↓BPR, reduceIte, reduceCtorEq, seval, -List.reduceReplicate, fpOf, freeNext, opW, binI, ev1, Heap.write, setAll, unI, eqKs, eqK, fillI, B39, F39l4, ↓hidx, r1, r2, ↓w1, ↓w2]
    refine hN (k - 1) _ _ (by omega) ⟨i + 1, swapL l' i (l'.length - 1 - i), by omega, (hk.trans (KeepX.put _)).trans (KeepX.put _), s2, by rw [swapL_length, hll], fun x hx => ?_, rfl, rfl, by rw [hll]; rfl, rfl, ?_⟩
    · rw [nth_swap (by omega) (by omega)]
      by_cases c1 : x = l'.length - 1 - i
      · rw [if_pos c1, hf i (by omega), if_neg (by omega), if_pos (by omega)]
        congr 1; omega
      · rw [if_neg c1]
        by_cases c2 : x = i
        · rw [if_pos c2, hf _ (by omega), if_neg (by omega), if_pos (by omega)]
          congr 1; omega
        · rw [if_neg c2, hf x hx]
          by_cases c3 : x < i ∨ l.length - i ≤ x
          · rw [if_pos c3, if_pos (by omega)]
          · rw [if_neg c3, if_neg (by omega)]
    · show IV.int _ _ = _
      congr 1; omega
  · rw [hll]
    simp (disch := omega) only [BAS, ↓BPR, reduceIte, reduceCtorEq, seval, -List.reduceReplicate, fpOf, freeNext, opW, binI, ev1, Heap.write, setAll, unI, eqKs, eqK, fillI, B39, F39l4, hJ]
    have : l' = l.reverse := by
      apply List.ext_getElem
      · rw [List.length_reverse, hll]
      · intro x h1 h2
        have := hf x (by omega)
        rw [nth_in h1] at this
        rw [this, List.getElem_reverse, ← nth_in]
        by_cases c3 : x < i ∨ l.length - i ≤ x
        · rw [if_pos c3]
        · rw [if_neg c3]
          congr 1; omega
    subst this
    exact h H' hk hO
theorem revPs_sp_nil {H : Heap} {lo : Nat} {Q : Out → Heap → Prop} (h : Q (.val (.tuple [])) H) : W E0 lo (.call 39 [.nilSlice]) H Q := by
  rw [c39]
  simp (disch := omega) only [BAS, ↓BPR, reduceIte, reduceCtorEq, seval, -List.reduceReplicate, fpOf, freeNext, opW, binI, ev1, Heap.write, setAll, unI, eqKs, eqK, fillI, B39]
  rw [W_loop]
  simp (disch := omega) only [BAS, ↓BPR, reduceIte, reduceCtorEq, seval, -List.reduceReplicate, fpOf, freeNext, opW, binI, ev1, Heap.write, setAll, unI, eqKs, eqK, fillI, B39, F39l4]
  exact h
theorem revPs_sp_own {n0 e : Nat} {v : SV} {l : List Ps} {H : Heap} {lo : Nat} {Q : Out → Heap → Prop} (hO : OwnS n0 H e v l) (hlo : lo ≤ n0) (hl : l.length ≤ 1000000)
    (h : ∀ H', Keep n0 H H' → OwnS n0 H' e v l.reverse → Q (.val (.tuple [])) H') : W E0 lo (.call 39 [v.iv]) H Q := by
  rcases hO with ⟨rfl, rfl⟩ | ⟨b, cap, ex, rfl, h1, h2⟩
  · exact revPs_sp_nil (h H (Keep.refl _ _) (.inl ⟨rfl, rfl⟩))
  · exact revPs_sp h2 (by omega) hl fun H' k o => h H' ⟨k.1, fun x h3 h4 => k.2 x h4 (by omega)⟩ (.inr ⟨b, cap, ex, by rw [List.length_reverse], h1, o⟩)

end Go.Iso.Gen
end

section
-- fast
namespace Go.Iso.Gen
open Go.Iso
set_option maxHeartbeats 2000000
set_option maxRecDepth 10000

/-- By how much a step changes the rack. -/
def stepD (d : Int) : Int := if d = 0 then -1 else 1
/-- The error of a step. -/
def stepE (fs bs : List (List Id)) (r d : Int) : Int := if ocheckE fs bs r ≠ 0 then ocheckE fs bs r else if d ≠ 0 ∧ d ≠ 1 then 1 else if rackB (r + stepD d) = true then 0 else 11

/-- The crossing of two loops. -/
def crE (d : Int) (id other : Id) : Cr := if d = 0 then ⟨other, id, 1⟩ else ⟨id, other, -1⟩

/-- The crossings of a stack of the back bed with that of a front needle. -/
def rowC (d : Int) (front back : List Id) : List Cr := back.flatMap fun id => front.map (crE d id)
/-- The crossings of a step, from the left stack to the right one. -/
def stepB (fs bs : List (List Id)) (r d : Int) : List Cr := (bs.mapIdx fun (i : Nat) back => rowC d (atL fs bs 0 ((i : Int) + 1 + r - (if d = 0 then 1 else 0))).reverse back).flatten
def stepL (fs bs : List (List Id)) (r d : Int) : List Cr := if d = 1 then (stepB fs bs r d).reverse else stepB fs bs r d
def stepR (fs bs : List (List Id)) (r d : Int) (n : Nat) : List Cr := ((bs.mapIdx fun (i : Nat) back => rowC d (atL fs bs 0 ((i : Int) + 1 + r - (if d = 0 then 1 else 0))).reverse back).take n).flatten
end Go.Iso.Gen
end

section
-- fast
namespace Go.Iso.Gen
open Go.Iso
set_option maxHeartbeats 2000000
set_option maxRecDepth 10000

/-- The error of a place in a step. -/
def meetsE (fs bs : List (List Id)) (r d p : Int) : Int := if stepE fs bs r d ≠ 0 then stepE fs bs r d else if p.tmod 2 = 0 then 1 else 0
def wayD (d : Int) : Int := if d = 0 then 1 else 0
def psE (way : Int) (id : Id) : Ps := ⟨id, true, way⟩
def metAt (r d p : Int) (i : Nat) : Prop := p = spotE 1 ((i : Int) + 1) r + stepD d ∨ p = spotE 1 ((i : Int) + 1) r + 3 * stepD d
instance (r d p : Int) (i : Nat) : Decidable (metAt r d p i) := by unfold metAt; infer_instance
def meetC (r d p : Int) (i : Nat) (st : List Id) : List Ps := if metAt r d p i then st.map (psE (wayD d)) else []
def meetB (bs : List (List Id)) (r d p : Int) : List Ps := (bs.mapIdx fun (i : Nat) st => meetC r d p i st).flatten
def meetL (bs : List (List Id)) (r d p : Int) : List Ps := if d = 1 then (meetB bs r d p).reverse else meetB bs r d p
def meetR (bs : List (List Id)) (r d p : Int) (n : Nat) : List Ps := ((bs.mapIdx fun (i : Nat) st => meetC r d p i st).take n).flatten
end Go.Iso.Gen
end

section
-- fast
namespace Go.Iso.Gen
open Go.Iso
set_option maxHeartbeats 2000000
set_option maxRecDepth 10000

def inB (low high : Int) (h : Hd) : Bool := decide (h.spot > low) && decide (h.spot < high)
def psB (dir : Int) (h : Hd) : Ps := ⟨h.id, h.bed == 1, dir⟩
/-- What is passed between two numbers. -/
def btwF (l : List Hd) (low high dir : Int) : List Ps := (l.filter (inB low high)).map (psB dir)
def btwL (l : List Hd) (a b : Int) : List Ps := if b > a then btwF l a b 1 else (btwF l b a 0).reverse
theorem btwF_succ (l : List Hd) (low high dir : Int) (j : Nat) (hj : j < l.length) : btwF (l.take (j + 1)) low high dir = btwF (l.take j) low high dir ++ (if inB low high l[j] = true then [psB dir l[j]] else []) := by
  unfold btwF
  rw [List.take_succ_eq_append_getElem hj, List.filter_append, List.map_append]
  congr 1
  by_cases h : inB low high l[j] = true
  · rw [if_pos h]; simp [h]
  · rw [if_neg h]; simp [h]
theorem btwF_len (l : List Hd) (low high dir : Int) : (btwF l low high dir).length ≤ l.length := by
  unfold btwF
  rw [List.length_map]
  exact List.length_filter_le _ _

theorem expl54 (tm : List IV) (h : tm.length = 54) : tm = [tm.getD 0 IV.undef, tm.getD 1 IV.undef, tm.getD 2 IV.undef, tm.getD 3 IV.undef, tm.getD 4 IV.undef, tm.getD 5 IV.undef, tm.getD 6 IV.undef, tm.getD 7 IV.undef, tm.getD 8 IV.undef, tm.getD 9 IV.undef, tm.getD 10 IV.undef, tm.getD 11 IV.undef, tm.getD 12 IV.undef, tm.getD 13 IV.undef, tm.getD 14 IV.undef, tm.getD 15 IV.undef, tm.getD 16 IV.undef, tm.getD 17 IV.undef, tm.getD 18 IV.undef, tm.getD 19 IV.undef, tm.getD 20 IV.undef, tm.getD 21 IV.undef, tm.getD 22 IV.undef, tm.getD 23 IV.undef, tm.getD 24 IV.undef, tm.getD 25 IV.undef, tm.getD 26 IV.undef, tm.getD 27 IV.undef, tm.getD 28 IV.undef, tm.getD 29 IV.undef, tm.getD 30 IV.undef, tm.getD 31 IV.undef, tm.getD 32 IV.undef, tm.getD 33 IV.undef, tm.getD 34 IV.undef, tm.getD 35 IV.undef, tm.getD 36 IV.undef, tm.getD 37 IV.undef, tm.getD 38 IV.undef, tm.getD 39 IV.undef, tm.getD 40 IV.undef, tm.getD 41 IV.undef, tm.getD 42 IV.undef, tm.getD 43 IV.undef, tm.getD 44 IV.undef, tm.getD 45 IV.undef, tm.getD 46 IV.undef, tm.getD 47 IV.undef, tm.getD 48 IV.undef, tm.getD 49 IV.undef, tm.getD 50 IV.undef, tm.getD 51 IV.undef, tm.getD 52 IV.undef, tm.getD 53 IV.undef] := (expl tm 54 h).trans rfl
theorem btw_loop {n0 : Nat} {low high dir : Int} {v u : SV} {l : List Hd} {y1 y2 y6 : IV} {H : Heap} {lo : Nat} {Q : Out → Heap → Prop} {tm : List IV} (hlo : lo ≤ n0) (hn0 : n0 = H.n) (hu : Sl H u l) (hl : l.length ≤ 1000000)
    (hv : v = .nil) (htm : tm.length = 54) (t1 : tm.getD 1 IV.undef = y1) (t2 : tm.getD 2 IV.undef = y2) (t6 : tm.getD 6 IV.undef = y6) (t7 : tm.getD 7 IV.undef = .int .i64 low) (t8 : tm.getD 8 IV.undef = .int .i64 high) (t9 : tm.getD 9 IV.undef = .int .u8 dir) (t10 : tm.getD 10 IV.undef = v.iv) (t20 : tm.getD 20 IV.undef = u.iv) (t21 : tm.getD 21 IV.undef = .int .i64 l.length) (t22 : tm.getD 22 IV.undef = .int .i64 0)
    (hQ : ∀ H' v' tm', Keep n0 H H' → Gr n0 H' 54 v' (btwF l low high dir) → tm'.length = 54 → tm'.getD 9 IV.undef = .int .u8 dir → tm'.getD 10 IV.undef = v'.iv → Q (.ex (.jmp (.exit 0)) ⟨tm', []⟩) H') :
    W E0 lo (.code (.loop F17l11) none ⟨tm, []⟩) H Q := by
  refine W_inv (fun k fm H' => ∃ j v', j + k = l.length ∧ KeepG n0 54 4 H H' ∧ Gr n0 H' 54 v' (btwF (l.take j) low high dir) ∧ fm.marks = [] ∧ fm.tm.length = 54 ∧ fm.tm.getD 1 IV.undef = y1 ∧ fm.tm.getD 2 IV.undef = y2 ∧ fm.tm.getD 6 IV.undef = y6 ∧ fm.tm.getD 7 IV.undef = .int .i64 low ∧ fm.tm.getD 8 IV.undef = .int .i64 high ∧ fm.tm.getD 9 IV.undef = .int .u8 dir ∧ fm.tm.getD 10 IV.undef = v'.iv ∧ fm.tm.getD 20 IV.undef = u.iv ∧ fm.tm.getD 21 IV.undef = .int .i64 l.length ∧ fm.tm.getD 22 IV.undef = .int .i64 j) ?_ l.length ⟨0, v, by omega, KeepG.refl _ _ _ _, by rw [hv]; simpa [btwF] using (Gr.nil : Gr n0 H 54 .nil ([] : List Ps)), rfl, htm, t1, t2, t6, t7, t8, t9, t10, t20, t21, t22⟩
  clear htm t1 t2 t6 t7 t8 t9 t10 t20 t21 t22
  rintro k ⟨tm, mk⟩ H' ⟨j, v', hjk, hk, hG, rfl, htm, t1, t2, t6, t7, t8, t9, t10, t20, t21, t22⟩ L hN hJ
  have hn := hk.1
  have hu' : Sl H' u l := hu.keep (hn0 ▸ hk.low (by omega))
  rw [expl54 tm htm, t1, t2, t6, t7, t8, t9, t10, t20, t21, t22]
  by_cases hj : j < l.length
  · have r1 := hu'.read z_Hd j hj
    have hlen := btwF_len (l.take j) low high dir
    rw [List.length_take] at hlen
    have hk1 : KeepG n0 54 4 H' ((H'.new (.cells false 40 5 [.int .u8 0, .int .i64 0, .int .u8 0, .int .i64 0, .int .i64 0])).put H'.n (.cells false 40 5 [.int .u8 l[j].id.y, .int .i64 l[j].id.n, .int .u8 l[j].bed, .int .i64 l[j].at_, .int .i64 l[j].spot])) := KeepG.of Keep.newPut
    have hG1 := hG.keep (Keep.newPut (o := .cells false 40 5 [.int .u8 0, .int .i64 0, .int .u8 0, .int .i64 0, .int .i64 0]) (o' := .cells false 40 5 [.int .u8 l[j].id.y, .int .i64 l[j].id.n, .int .u8 l[j].bed, .int .i64 l[j].at_, .int .i64 l[j].spot]))
    have e2 := btwF_succ l low high dir j hj
    by_cases c1 : l[j].spot > low
    · by_cases c2 : l[j].spot < high
      · have hin : inB low high l[j] = true := by unfold inB; simp [c1, c2]
        rw [if_pos hin] at e2
        obtain ⟨H5, w5, e5, k5, o5⟩ := hG1.pushNew (psB dir l[j]) z_Ps 24 lo hlo (by rw [Heap.n_put, Heap.n_new]; omega) (by omega)
        rw [show Cell.cs (psB dir l[j]) = [.int .u8 l[j].id.y, .int .i64 l[j].id.n, .bool (l[j].bed == 1), .int .u8 dir] from rfl] at e5
        rw [Heap.n_put, Heap.n_new] at e5
        simp (disch := omega) only [BAS, ↓BPR, reduceIte, reduceCtorEq, seval, -List.reduceReplicate, fpOf, freeNext, opW, binI, ev1, Heap.write, setAll, unI, eqKs, eqK, fillI, B17, F17l11, ↓hu'.idx, r1, cs_Hd, ↓e5]
        refine hN (k - 1) _ _ (by omega) ⟨j + 1, w5, by omega, (hk.trans hk1).trans k5, ?_, rfl, rfl, rfl, rfl, rfl, rfl, rfl, rfl, rfl, rfl, rfl, rfl⟩
        rw [e2]; exact o5
      · have hin : ¬ inB low high l[j] = true := by unfold inB; simp; omega
        rw [if_neg hin, List.append_nil] at e2
        simp (disch := omega) only [BAS, ↓BPR, reduceIte, reduceCtorEq, seval, -List.reduceReplicate, fpOf, freeNext, opW, binI, ev1, Heap.write, setAll, unI, eqKs, eqK, fillI, B17, F17l11, ↓hu'.idx, r1, cs_Hd]
        refine hN (k - 1) _ _ (by omega) ⟨j + 1, v', by omega, hk.trans hk1, ?_, rfl, rfl, rfl, rfl, rfl, rfl, rfl, rfl, rfl, rfl, rfl, rfl⟩
        rw [e2]; exact hG1
    · have hin : ¬ inB low high l[j] = true := by unfold inB; simp; omega
      rw [if_neg hin, List.append_nil] at e2
      simp (disch := omega) only [BAS, ↓BPR, reduceIte, reduceCtorEq, seval, -List.reduceReplicate, fpOf, freeNext, opW, binI, ev1, Heap.write, setAll, unI, eqKs, eqK, fillI, B17, F17l11, ↓hu'.idx, r1, cs_Hd]
      refine hN (k - 1) _ _ (by omega) ⟨j + 1, v', by omega, hk.trans hk1, ?_, rfl, rfl, rfl, rfl, rfl, rfl, rfl, rfl, rfl, rfl, rfl, rfl⟩
      rw [e2]; exact hG1
  · rw [List.take_of_length_le (by omega)] at hG
    simp (disch := omega) only [BAS, ↓BPR, reduceIte, reduceCtorEq, seval, -List.reduceReplicate, fpOf, freeNext, opW, binI, ev1, Heap.write, setAll, unI, eqKs, eqK, fillI, B17, F17l11, hJ]
    exact hQ H' v' _ (hk.low (by omega)) hG rfl rfl rfl

theorem between_sp {u : SV} {l : List Hd} (a b : Int) {H : Heap} {lo : Nat} {Q : Out → Heap → Prop} (hu : Sl H u l) (hl : l.length ≤ 1000000) (hlo : lo ≤ H.n)
    (h : ∀ H' v, Keep H.n H H' → Fresh H.n H' 54 v (btwL l a b) → Q (.val v.iv) H') : W E0 lo (.call 17 [u.iv, .int .i64 a, .int .i64 b]) H Q := by
  refine W.pure plain hlo ?_
  rw [c17]
  by_cases hba : b > a
  · have e1 : btwL l a b = btwF l a b 1 := by unfold btwL; rw [if_pos hba]
    have hlen := btwF_len l a b 1
    simp (disch := omega) only [BAS, ↓BPR, reduceIte, reduceCtorEq, seval, -List.reduceReplicate, fpOf, freeNext, opW, binI, ev1, Heap.write, setAll, unI, eqKs, eqK, fillI, B17, ↓hu.ln]
    refine btw_loop (v := .nil) (Nat.le_refl _) rfl hu hl rfl rfl rfl rfl rfl rfl rfl rfl rfl rfl rfl rfl fun H2 v2 tm2 k2 g2 w w9 w10 => ?_
    have hn2 := k2.1
    rw [expl54 tm2 w, w9, w10]
    simp (disch := omega) only [BAS, ↓BPR, reduceIte, reduceCtorEq, seval, -List.reduceReplicate, fpOf, freeNext, opW, binI, ev1, Heap.write, setAll, unI, eqKs, eqK, fillI, B17]
    refine copiedPs_sp g2.sl (by omega) (by omega) fun H7 b7 k7 hb7 o7 => ?_
    simp (disch := omega) only [BAS, ↓BPR, reduceIte, reduceCtorEq, seval, -List.reduceReplicate, fpOf, freeNext, opW, binI, ev1, Heap.write, setAll, unI, eqKs, eqK, fillI, B17]
    exact fun hk => h H7 (.sl b7 0 (btwF l a b 1).length (btwF l a b 1).length true) hk (.inr ⟨b7, by rw [e1], by omega, by rw [e1]; exact o7⟩)
  · have e1 : btwL l a b = (btwF l b a 0).reverse := by unfold btwL; rw [if_neg hba]
    have hlen := btwF_len l b a 0
    simp (disch := omega) only [BAS, ↓BPR, reduceIte, reduceCtorEq, seval, -List.reduceReplicate, fpOf, freeNext, opW, binI, ev1, Heap.write, setAll, unI, eqKs, eqK, fillI, B17, ↓hu.ln]
    refine btw_loop (v := .nil) (Nat.le_refl _) rfl hu hl rfl rfl rfl rfl rfl rfl rfl rfl rfl rfl rfl rfl fun H2 v2 tm2 k2 g2 w w9 w10 => ?_
    have hn2 := k2.1
    rw [expl54 tm2 w, w9, w10]
    simp (disch := omega) only [BAS, ↓BPR, reduceIte, reduceCtorEq, seval, -List.reduceReplicate, fpOf, freeNext, opW, binI, ev1, Heap.write, setAll, unI, eqKs, eqK, fillI, B17]
    refine revPs_sp_own g2.own (by omega) (by omega) fun H8 k8 o8 => ?_
    have hn8 := k8.1
    simp (disch := omega) only [BAS, ↓BPR, reduceIte, reduceCtorEq, seval, -List.reduceReplicate, fpOf, freeNext, opW, binI, ev1, Heap.write, setAll, unI, eqKs, eqK, fillI, B17]
    refine copiedPs_sp o8.sl (by rw [List.length_reverse]; omega) (by omega) fun H7 b7 k7 hb7 o7 => ?_
    simp (disch := omega) only [BAS, ↓BPR, reduceIte, reduceCtorEq, seval, -List.reduceReplicate, fpOf, freeNext, opW, binI, ev1, Heap.write, setAll, unI, eqKs, eqK, fillI, B17]
    exact fun hk => h H7 (.sl b7 0 (btwF l b a 0).reverse.length (btwF l b a 0).reverse.length true) hk (.inr ⟨b7, by rw [e1], by omega, by rw [e1]; exact o7⟩)
end Go.Iso.Gen
end
