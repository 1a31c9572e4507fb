/-
  what the functions of the statements of layer 3 give.
-/
import Derived.Test.YthccekocaliohaaDoorFn
set_option linter.unusedSimpArgs false
set_option linter.unusedVariables false

section
namespace Go.Iso.Gen
open Go.Iso
set_option maxHeartbeats 2000000
set_option maxRecDepth 10000

/-- Loops on a needle as plain data. -/
structure Pt where
  a : Nat
  m : Nat
  deriving Inhabited
instance : Cell Pt where
  z := 2
  cs p := [.int .u8 p.a, .int .u8 p.m]
  len _ := rfl
  one _ := rfl
  pos := by omega
theorem cs_Pt (p : Pt) : Cell.cs p = [.int .u8 p.a, .int .u8 p.m] := rfl
theorem z_Pt : Cell.z Pt = 2 := rfl

theorem tmodN (a b : Nat) : (a : Int).tmod (b : Int) = ((a % b : Nat) : Int) := by
  rw [Int.tmod_eq_emod_of_nonneg (by omega)]; omega
theorem tdivN (a b : Nat) : (a : Int).tdiv (b : Int) = ((a / b : Nat) : Int) := by
  rw [Int.tdiv_eq_ediv_of_nonneg (by omega)]; omega
theorem tm80 (a : Nat) : (a : Int).tmod 80 = ((a % 80 : Nat) : Int) := tmodN a 80
theorem tm5 (a : Nat) : (a : Int).tmod 5 = ((a % 5 : Nat) : Int) := tmodN a 5
theorem tm3 (a : Nat) : (a : Int).tmod 3 = ((a % 3 : Nat) : Int) := tmodN a 3
theorem td3 (a : Nat) : (a : Int).tdiv 3 = ((a / 3 : Nat) : Int) := tdivN a 3
/-- The n-th name. -/
def idN (n : Nat) : Id := ⟨((1 + n % 3 : Nat) : Int), ((n / 3 : Nat) : Int)⟩
/-- Loops are put on a needle, up to four. -/
def fillL (l : List Id) (n : Nat) : Nat → List Id × Nat
  | 0 => (l, n)
  | m + 1 => if l.length < 4 then fillL (l ++ [idN n]) (n + 1) m else (l, n)
def ofStep (s : List (List Id) × Nat) (p : Pt) : List (List Id) × Nat :=
  (s.1.set (p.a % 80) (fillL (s.1.getD (p.a % 80) []) s.2 (p.m % 5)).1, (fillL (s.1.getD (p.a % 80) []) s.2 (p.m % 5)).2)
def ofT (xs : List Pt) : List (List Id) × Nat := (xs.take 40).foldl ofStep (List.replicate 80 [], 0)

/-- A table in the cells of a block: each needle's slice is nil, or has a block of its own. -/
def Tb (lo : Nat) (H : Heap) (vs : List SV) (t : List (List Id)) : Prop := vs.length = 80 ∧ t.length = 80 ∧ (∀ i (h : i < vs.length) (h' : i < t.length), (vs[i] = .nil ∧ t[i] = []) ∨ ∃ b, vs[i] = .sl b 0 t[i].length t[i].length false ∧ lo ≤ b ∧ t[i] ≠ [] ∧ Own H b 35 t[i].length t[i]) ∧
  ∀ i j (h : i < vs.length) (h' : j < vs.length), i ≠ j → vs[i] ≠ .nil → vs[j] ≠ .nil → vs[i].blk ≠ vs[j].blk
theorem Tb.sl {lo : Nat} {H : Heap} {vs : List SV} {t : List (List Id)} (h : Tb lo H vs t) (i : Nat) (hi : i < vs.length) (hi' : i < t.length) : Sl H vs[i] t[i] := by
  rcases h.2.2.1 i hi hi' with ⟨h1, h2⟩ | ⟨b, h1, h2, h3, h4⟩
  · rw [h1, h2]; rfl
  · rw [h1]; exact h4.sl false

theorem Tb.keep {lo : Nat} {H H' : Heap} {vs : List SV} {t : List (List Id)} (h : Tb lo H vs t) (k : Keep H.n H H') : Tb lo H' vs t := by
  refine ⟨h.1, h.2.1, fun i a b => ?_, h.2.2.2⟩
  rcases h.2.2.1 i a b with h1 | ⟨b, h1, h2, h3, h4⟩
  · exact .inl h1
  · exact .inr ⟨b, h1, h2, h3, h4.keep k⟩

/-- One loop is put on a needle of a table. -/
theorem Tb.push {lo : Nat} {H : Heap} {vs : List SV} {t : List (List Id)} (h : Tb lo H vs t) (i : Nat) (hi : i < vs.length) (hi' : i < t.length) (hlo : lo ≤ H.n) (h4 : t[i].length < 4) (a : Id) {u : SV} (hu : Sl H u [a]) :
    ∃ H2 w, ev1 (.append 35 2 16) [vs[i].iv, u.iv] lo H = some (SV.iv w, H2) ∧ H.n ≤ H2.n ∧ (∀ x, x < H.n → (x < lo ∨ ∀ cs, H.get x ≠ some (.cells false 35 2 cs)) → H2.get x = H.get x) ∧ Tb lo H2 (vs.set i w) (t.set i (t[i] ++ [a])) := by
  rcases h.2.2.1 i hi hi' with ⟨h1, h2⟩ | ⟨b, h1, h2, h3, h5⟩
  · obtain ⟨H2, e1, e2, e3, e4⟩ := append_nil (e := 35) hu z_Id 16 lo (by simp) (by simp)
    refine ⟨H2, .sl H.n 0 1 1 false, by rw [h1]; exact e1, by omega, fun x hx _ => e3.2 x hx hx, ?_⟩
    have hk := h.keep e3
    refine ⟨by simp [h.1], by simp [h.2.1], fun j a1 a2 => ?_, fun j k a1 a2 hne n1 n2 => ?_⟩
    · rw [List.length_set] at a1 a2
      by_cases hj : i = j
      · subst hj
        rw [List.getElem_set_self, List.getElem_set_self, h2]
        exact .inr ⟨H.n, rfl, hlo, by simp, e4⟩
      · rw [List.getElem_set_ne hj, List.getElem_set_ne hj]
        exact hk.2.2.1 j a1 a2
    · rw [List.length_set] at a1 a2
      have old : ∀ j (hj : j < vs.length), vs[j] ≠ .nil → vs[j].blk < H.n := fun j hj hn => by
        rcases h.2.2.1 j hj (by have := h.1; have := h.2.1; omega) with h | ⟨b, q1, q2, q3, q4⟩
        · exact absurd h.1 hn
        · rw [q1]; exact q4.2.1
      by_cases hj : i = j
      · subst hj
        rw [List.getElem_set_ne hne] at n2 ⊢
        rw [List.getElem_set_self]
        have := old k a2 n2
        rw [SV.blk_sl]; omega
      · rw [List.getElem_set_ne hj] at n1 ⊢
        by_cases hk : i = k
        · subst hk
          rw [List.getElem_set_self]
          have := old j a1 n1
          rw [SV.blk_sl]; omega
        · rw [List.getElem_set_ne hk] at n2 ⊢
          exact h.2.2.2 j k a1 a2 hne n1 n2
  · obtain ⟨H2, e1, e2, e3, e4⟩ := append_grow (n := t[i].length) h5 rfl hu z_Id 16 lo (by simp) (by simp; omega) h2
    refine ⟨H2, .sl H.n 0 (t[i].length + 1) (t[i].length + 1) false, by rw [h1]; exact e1, by omega, fun x hx hc => e3 x ?_ hx, ?_⟩
    · intro e
      subst e
      rcases hc with hc | hc
      · omega
      · exact hc _ h5.full
    · have old : ∀ j (hj : j < vs.length), vs[j] ≠ .nil → vs[j].blk < H.n := fun j hj hn => by
        rcases h.2.2.1 j hj (by have := h.1; have := h.2.1; omega) with h | ⟨b, q1, q2, q3, q4⟩
        · exact absurd h.1 hn
        · rw [q1]; exact q4.2.1
      refine ⟨by simp [h.1], by simp [h.2.1], fun j a1 a2 => ?_, fun j k a1 a2 hne n1 n2 => ?_⟩
      · rw [List.length_set] at a1 a2
        by_cases hj : i = j
        · subst hj
          rw [List.getElem_set_self, List.getElem_set_self]
          refine .inr ⟨H.n, by simp, hlo, by simp, ?_⟩
          have := e4
          simp only [List.length_append, List.length_cons, List.length_nil] at this ⊢
          exact this
        · rw [List.getElem_set_ne hj, List.getElem_set_ne hj]
          rcases h.2.2.1 j a1 a2 with q | ⟨b', q1, q2, q3, q4⟩
          · exact .inl q
          · refine .inr ⟨b', q1, q2, q3, q4.same (by omega) (e3 b' ?_ q4.2.1)⟩
            have := h.2.2.2 i j hi a1 hj (by rw [h1]; simp) (by rw [q1]; simp)
            rw [h1, q1, SV.blk_sl, SV.blk_sl] at this
            exact Ne.symm this
      · rw [List.length_set] at a1 a2
        by_cases hj : i = j
        · subst hj
          rw [List.getElem_set_ne hne] at n2 ⊢
          rw [List.getElem_set_self]
          have := old k a2 n2
          rw [SV.blk_sl]; omega
        · rw [List.getElem_set_ne hj] at n1 ⊢
          by_cases hk : i = k
          · subst hk
            rw [List.getElem_set_self]
            have := old j a1 n1
            rw [SV.blk_sl]; omega
          · rw [List.getElem_set_ne hk] at n2 ⊢
            exact h.2.2.2 j k a1 a2 hne n1 n2

theorem tab_read {H : Heap} {tb e ez : Nat} {vs : List SV} (h : H.get tb = some (.cells false e ez (flat vs))) (i : Nat) (hi : i < vs.length) : H.read tb (i * 1) 1 = some [vs[i].iv] := by
  have := flat_at vs i hi
  rw [z_SV, cs_SV] at this
  rw [read_get h, this, if_pos (by rw [flat_length, z_SV]; omega)]
theorem tab_put {vs : List SV} (i : Nat) (hi : i < vs.length) (w : SV) : splice (flat vs) (i * 1) [w.iv] = flat (vs.set i w) := by
  have := flat_set vs i w hi
  rw [z_SV, cs_SV] at this
  exact this

theorem fillL_len (m : Nat) : ∀ (l : List Id) (n : Nat), l.length ≤ 4 → (fillL l n m).1.length ≤ 4 := by
  induction m with
  | zero => intro l n h; exact h
  | succ m ih =>
    intro l n h
    unfold fillL
    split
    · exact ih _ _ (by simp; omega)
    · exact h
end Go.Iso.Gen
end

section
namespace Go.Iso.Gen
open Go.Iso
set_option maxHeartbeats 4000000
set_option maxRecDepth 10000

theorem expl59 (tm : List IV) (h : tm.length = 59) : tm = [tm.getD 0 IV.undef, tm.getD 1 IV.undef, tm.getD 2 IV.undef, tm.getD 3 IV.undef, tm.getD 4 IV.undef, tm.getD 5 IV.undef, tm.getD 6 IV.undef, tm.getD 7 IV.undef, tm.getD 8 IV.undef, tm.getD 9 IV.undef, tm.getD 10 IV.undef, tm.getD 11 IV.undef, tm.getD 12 IV.undef, tm.getD 13 IV.undef, tm.getD 14 IV.undef, tm.getD 15 IV.undef, tm.getD 16 IV.undef, tm.getD 17 IV.undef, tm.getD 18 IV.undef, tm.getD 19 IV.undef, tm.getD 20 IV.undef, tm.getD 21 IV.undef, tm.getD 22 IV.undef, tm.getD 23 IV.undef, tm.getD 24 IV.undef, tm.getD 25 IV.undef, tm.getD 26 IV.undef, tm.getD 27 IV.undef, tm.getD 28 IV.undef, tm.getD 29 IV.undef, tm.getD 30 IV.undef, tm.getD 31 IV.undef, tm.getD 32 IV.undef, tm.getD 33 IV.undef, tm.getD 34 IV.undef, tm.getD 35 IV.undef, tm.getD 36 IV.undef, tm.getD 37 IV.undef, tm.getD 38 IV.undef, tm.getD 39 IV.undef, tm.getD 40 IV.undef, tm.getD 41 IV.undef, tm.getD 42 IV.undef, tm.getD 43 IV.undef, tm.getD 44 IV.undef, tm.getD 45 IV.undef, tm.getD 46 IV.undef, tm.getD 47 IV.undef, tm.getD 48 IV.undef, tm.getD 49 IV.undef, tm.getD 50 IV.undef, tm.getD 51 IV.undef, tm.getD 52 IV.undef, tm.getD 53 IV.undef, tm.getD 54 IV.undef, tm.getD 55 IV.undef, tm.getD 56 IV.undef, tm.getD 57 IV.undef, tm.getD 58 IV.undef] := (expl tm 59 h).trans rfl
theorem of_inner {x : SV} {xs : List Pt} {i lo tb n : Nat} {H : Heap} {vs : List SV} {t : List (List Id)} {rd : Option Nat} {Q : Out → Heap → Prop} {tm : List IV} (hx : Sl H x xs) (hi : i < xs.length) (hb : xs[i].a ≤ 255 ∧ xs[i].m ≤ 255) (hxb : x.blk < lo) (hT : Tb lo H vs t) (hg : H.get tb = some (.cells false 65 80 (flat vs))) (hn : n ≤ 1000) (htn : tb < H.n) (hlo : lo ≤ tb) (h4 : (t.getD (xs[i].a % 80) []).length ≤ 4)
    (htm : tm.length = 59) (t0 : tm.getD 0 IV.undef = x.iv) (t2 : tm.getD 3 IV.undef = .ptr tb 0) (t4 : tm.getD 4 IV.undef = .int .i64 n) (t5 : tm.getD 5 IV.undef = .int .i64 i) (t6 : tm.getD 6 IV.undef = .int .u8 ((xs[i].a % 80 : Nat) : Int)) (t7 : tm.getD 7 IV.undef = .int .i64 0)
    (hQ : ∀ H' tm' vs', Tb lo H' vs' (ofStep (t, n) xs[i]).1 → H'.get tb = some (.cells false 65 80 (flat vs')) → (∀ y, y < H.n → y ≠ tb → (y < lo ∨ ∀ cs, H.get y ≠ some (.cells false 35 2 cs)) → H'.get y = H.get y) → H.n ≤ H'.n → tm'.length = 59 → tm'.getD 0 IV.undef = x.iv → tm'.getD 2 IV.undef = tm.getD 2 IV.undef → tm'.getD 3 IV.undef = .ptr tb 0 → tm'.getD 4 IV.undef = .int .i64 ((ofStep (t, n) xs[i]).2 : Nat) → tm'.getD 5 IV.undef = .int .i64 i → Q (.ex (.jmp (.exit 2)) ⟨tm', []⟩) H') : W E0 lo (.code (.loop F20l11) rd ⟨tm, []⟩) H Q := by
  obtain ⟨at_, hat⟩ : ∃ a, a = xs[i].a % 80 := ⟨_, rfl⟩
  have hat80 : at_ < 80 := by omega
  have htl := hT.2.1
  have hvl := hT.1
  have hcur : t.getD at_ [] = t[at_]'(by omega) := by rw [List.getD_eq_getElem?_getD, List.getElem?_eq_getElem (by omega), Option.getD_some]
  rw [← hat] at t6 h4
  refine W_inv (fun k fr H' => ∃ j vs' cur n', j + k = xs[i].m % 5 ∧ fillL (t.getD at_ []) n (xs[i].m % 5) = fillL cur n' k ∧ cur.length ≤ 4 ∧ n' ≤ n + j ∧ Tb lo H' vs' (t.set at_ cur) ∧ H'.get tb = some (.cells false 65 80 (flat vs')) ∧ (∀ y, y < H.n → y ≠ tb → (y < lo ∨ ∀ cs, H.get y ≠ some (.cells false 35 2 cs)) → H'.get y = H.get y) ∧ H.n ≤ H'.n ∧ fr.marks = [] ∧ fr.tm.length = 59 ∧ fr.tm.getD 0 IV.undef = x.iv ∧ fr.tm.getD 2 IV.undef = tm.getD 2 IV.undef ∧ fr.tm.getD 3 IV.undef = .ptr tb 0 ∧ fr.tm.getD 4 IV.undef = .int .i64 n' ∧ fr.tm.getD 5 IV.undef = .int .i64 i ∧ fr.tm.getD 6 IV.undef = .int .u8 at_ ∧ fr.tm.getD 7 IV.undef = .int .i64 j) ?_ (xs[i].m % 5) ⟨0, vs, t.getD at_ [], n, by omega, rfl, h4, by omega, ?_, hg, fun _ _ _ _ => rfl, Nat.le_refl _, rfl, htm, t0, rfl, t2, t4, t5, t6, t7⟩
  case refine_2 =>
    rw [hcur, List.set_getElem_self]; exact hT
  generalize tm.getD 2 IV.undef = y2 at *
  clear htm t0 t2 t4 t5 t6 t7 hT hg
  rintro k ⟨tm, mk⟩ H' ⟨j, vs', cur, n', hj, hfill, hc4, hn', hT, hg, hk, hnn, rfl, htm, t0, t2, t3, t4, t5, t6, t7⟩ L hN hJ
  rw [expl59 tm htm, t0, t2, t3, t4, t5, t6, t7]
  have hx' : Sl H' x xs := hx.same hnn fun hl => hk _ (by have := hx.blk_lt hl; omega) (by omega) (.inl hxb)
  have r1 := hx'.read z_Pt i hi
  have r1' := read_sub (a := 1) (m := 1) r1 (by omega)
  simp only [cs_Pt, List.drop_succ_cons, List.drop_zero, List.take_succ_cons, List.take_zero, Nat.add_assoc] at r1'
  have hTl := hT.2.1
  have hvl' := hT.1
  have hcell := tab_read hg at_ (by omega)
  have hsl := hT.sl at_ (by omega) (by omega)
  have hgat : (t.set at_ cur)[at_]'(by omega) = cur := List.getElem_set_self ..
  rw [hgat] at hsl
  have hfin : k = 0 ∨ ¬ cur.length < 4 → fillL (t.getD at_ []) n (xs[i].m % 5) = (cur, n') := fun h => by
    rw [hfill]
    rcases h with h | h
    · subst h; rfl
    · cases k with
      | zero => rfl
      | succ k => rw [fillL, if_neg h]
  have done : k = 0 ∨ ¬ cur.length < 4 → ∀ tm', tm'.length = 59 → tm'.getD 0 IV.undef = x.iv → tm'.getD 2 IV.undef = y2 → tm'.getD 3 IV.undef = .ptr tb 0 → tm'.getD 4 IV.undef = .int .i64 n' → tm'.getD 5 IV.undef = .int .i64 i → Q (.ex (.jmp (.exit 2)) ⟨tm', []⟩) H' := fun h tm' a1 a2 a3 a4 a5 a6 => by
    have hf := hfin h
    have e1 : ofStep (t, n) xs[i] = (t.set at_ cur, n') := by
      simp only [ofStep, ← hat, hf]
    exact hQ H' tm' vs' (by rw [e1]; exact hT) hg hk hnn a1 a2 a3 a4 (by rw [e1]; exact a5) a6
  by_cases hk0 : k = 0
  · have hjm : ¬ (j : Int) < ((xs[i].m % 5 : Nat) : Int) := by omega
    simp (disch := omega) only [BAS, ↓BPR, reduceIte, reduceCtorEq, seval, -List.reduceReplicate, fpOf, freeNext, opW, binI, ev1, Heap.write, setAll, unI, eqKs, eqK, fillI, B20, F20l11, F20l13, ↓hx.idx, r1', tm5, hJ]
    refine done (.inl hk0) _ ?_ ?_ ?_ ?_ ?_ ?_ <;> rfl
  · by_cases hc : cur.length < 4
    · have hu : Sl (H'.new (.cells false 35 2 (Cell.cs (idN n')))) (.sl H'.n 0 1 1 true) [idN n'] := by
        refine ⟨rfl, by simp, fun _ => ⟨by rw [Heap.n_new]; omega, ?_⟩⟩
        rw [read_new, if_pos rfl, flat_one]
        rfl
      obtain ⟨H2, w, e1, e2, e3, e4⟩ := (hT.keep (Keep.new H' (.cells false 35 2 (Cell.cs (idN n'))))).push at_ (by omega) (by omega) (by rw [Heap.n_new]; omega) (by rw [hgat]; exact hc) (idN n') hu
      simp only [cs_Id, idN, SV.sl_iv] at e1
      have q1 : 1 + ((n' % 3 : Nat) : Int) = ((1 + n' % 3 : Nat) : Int) := by omega
      rw [Heap.n_new] at e2
      have htb2 : H2.get tb = some (.cells false 65 80 (flat vs')) := by
        rw [e3 tb (by rw [Heap.n_new]; omega) (.inr fun cs => by rw [Heap.get_new, if_neg (by omega), hg]; simp), Heap.get_new, if_neg (by omega)]; exact hg
      have hfl : (flat vs').length = 80 := by rw [flat_length, z_SV]; omega
      have hle : (at_ * 1 + 1 ≤ (flat vs').length) = True := by rw [hfl]; simp; omega
      have hput := tab_put at_ (by omega) w (vs := vs')
      simp (disch := omega) only [BAS, ↓BPR, reduceIte, reduceCtorEq, seval, -List.reduceReplicate, fpOf, freeNext, opW, binI, ev1, Heap.write, setAll, unI, eqKs, eqK, fillI, B20, F20l11, F20l13, ↓hx.idx, r1', tm5, tm3, td3, hcell, ↓hsl.ln, q1, ↓e1, htb2, hle, hput]
      have hset : (t.set at_ cur).set at_ ((t.set at_ cur)[at_]'(by omega) ++ [idN n']) = t.set at_ (cur ++ [idN n']) := by rw [hgat, List.set_set]
      rw [hset] at e4
      have e4' : Tb lo (H2.put tb (.cells false 65 80 (flat (vs'.set at_ w)))) (vs'.set at_ w) (t.set at_ (cur ++ [idN n'])) := by
        refine ⟨e4.1, e4.2.1, fun a b c => ?_, e4.2.2.2⟩
        rcases e4.2.2.1 a b c with h | ⟨b', q1, q2, q3, q4⟩
        · exact .inl h
        · refine .inr ⟨b', q1, q2, q3, q4.same (Nat.le_refl _) ?_⟩
          have : b' ≠ tb := fun e => by
            subst e
            have := q4.full
            rw [htb2] at this
            simp at this
          rw [Heap.get_put, if_neg (Ne.symm this)]
      refine hN (k - 1) _ _ (by omega) ⟨j + 1, _, cur ++ [idN n'], n' + 1, by omega, ?_, by simp; omega, by omega, e4', by rw [Heap.get_put, if_pos rfl], fun y h1 h2 h3 => ?_, by rw [Heap.n_put]; omega, rfl, rfl, rfl, rfl, rfl, rfl, rfl, rfl, rfl⟩
      · rw [hfill]
        cases k with
        | zero => omega
        | succ k => rw [fillL, if_pos hc]; rfl
      · rw [Heap.get_put, if_neg (Ne.symm h2), e3 y (by rw [Heap.n_new]; omega), Heap.get_new, if_neg (by omega)]
        · exact hk y h1 h2 h3
        · rcases h3 with h3 | h3
          · exact .inl h3
          · right
            intro cs
            rw [Heap.get_new, if_neg (by omega), hk y h1 h2 (.inr h3)]
            exact h3 cs
    · simp (disch := omega) only [BAS, ↓BPR, reduceIte, reduceCtorEq, seval, -List.reduceReplicate, fpOf, freeNext, opW, binI, ev1, Heap.write, setAll, unI, eqKs, eqK, fillI, B20, F20l11, F20l13, ↓hx.idx, r1', tm5, hcell, ↓hsl.ln, hJ]
      refine done (.inr hc) _ ?_ ?_ ?_ ?_ ?_ ?_ <;> rfl

theorem ofT_step (xs : List Pt) (i : Nat) (hi : i < xs.length) : (xs.take (i + 1)).foldl ofStep (List.replicate 80 [], 0) = ofStep ((xs.take i).foldl ofStep (List.replicate 80 [], 0)) xs[i] := by
  rw [List.take_succ_eq_append_getElem hi, List.foldl_append]; rfl

/-- What holds of a table that is made of plain data. -/
structure Good (s : List (List Id) × Nat) : Prop where
  len : s.1.length = 80
  four : ∀ l ∈ s.1, l.length ≤ 4
  ids : ∀ a ∈ s.1.flatten, ∃ j, j < s.2 ∧ a = idN j
  nd : s.1.flatten.Nodup
theorem idN_inj {i j : Nat} (h : idN i = idN j) : i = j := by
  unfold idN at h
  injection h with h1 h2
  omega

theorem Tb.init (lo : Nat) (H : Heap) : Tb lo H (List.replicate 80 .nil) (List.replicate 80 []) := by
  refine ⟨List.length_replicate .., List.length_replicate .., fun i h1 h2 => .inl ⟨List.getElem_replicate .., List.getElem_replicate ..⟩, fun i j h1 h2 _ h3 => ?_⟩
  rw [List.getElem_replicate] at h3
  exact absurd rfl h3
theorem Tb.put {lo x : Nat} {H : Heap} {vs : List SV} {t : List (List Id)} {ob : IObj} (h : Tb lo H vs t) (hx : ∀ cs, H.get x ≠ some (.cells false 35 2 cs)) : Tb lo (H.put x ob) vs t := by
  refine ⟨h.1, h.2.1, fun a b c => ?_, h.2.2.2⟩
  rcases h.2.2.1 a b c with h | ⟨b', q1, q2, q3, q4⟩
  · exact .inl h
  · refine .inr ⟨b', q1, q2, q3, q4.same (Nat.le_refl _) ?_⟩
    have : x ≠ b' := fun e => by subst e; exact hx _ q4.full
    rw [Heap.get_put, if_neg this]

theorem of_sp {x : SV} {xs : List Pt} {H : Heap} {lo : Nat} {Q : Out → Heap → Prop} (hx : Sl H x xs) (hb : ∀ p ∈ xs, p.a ≤ 255 ∧ p.m ≤ 255) (hlo : lo ≤ H.n) (hgood : ∀ i, i ≤ 40 → Good ((xs.take i).foldl ofStep (List.replicate 80 [], 0)) ∧ ((xs.take i).foldl ofStep (List.replicate 80 [], 0)).2 ≤ 4 * i)
    (h : ∀ H' vs, Keep H.n H H' → Tb H.n H' vs (ofT xs).1 → Q (.val (.agg (flat vs))) H') : W E0 lo (.call 20 [x.iv]) H Q := by
  refine W.pure plain hlo ?_
  rw [c20]
  have hz : ∀ zs : List IV, zs = rep 80 [.nilSlice] → zs = flat (List.replicate 80 SV.nil) := fun zs h => by rw [h]; exact rep_flat 80 SV.nil
  simp (disch := omega) only [BAS, ↓BPR, reduceIte, reduceCtorEq, seval, -List.reduceReplicate, fpOf, freeNext, opW, binI, ev1, Heap.write, setAll, unI, eqKs, eqK, fillI, B20]
  generalize hzs : [IV.nilSlice, _, _, _, _, _, _, _, _, _, _, _, _, _, _, _, _, _, _, _, _, _, _, _, _, _, _, _, _, _, _, _, _, _, _, _, _, _, _, _, _, _, _, _, _, _, _, _, _, _, _, _, _, _, _, _, _, _, _, _, _, _, _, _, _, _, _, _, _, _, _, _, _, _, _, _, _, _, _, _] = zs
  have hzs' := hz zs (by rw [← hzs]; rfl)
  clear hzs hz
  generalize hH_H1 : Heap.new _ _ = H1
  have hnH1 : H1.n = H.n + 2 := by rw [← hH_H1]; rfl
  have g0 := congrArg (fun h0 => Heap.get h0 (H.n)) hH_H1.symm
  simp (disch := omega) only [BAS, ↓BPR, reduceIte, reduceCtorEq, seval, -List.reduceReplicate, fpOf, freeNext, opW, binI, ev1, Heap.write, setAll, unI, eqKs, eqK, fillI] at g0
  have g1 := congrArg (fun h0 => Heap.get h0 (H.n + 1)) hH_H1.symm
  simp (disch := omega) only [BAS, ↓BPR, reduceIte, reduceCtorEq, seval, -List.reduceReplicate, fpOf, freeNext, opW, binI, ev1, Heap.write, setAll, unI, eqKs, eqK, fillI] at g1
  have kH1 : Keep H.n H H1 := ⟨by omega, fun x hx _ => by
    have gx := congrArg (fun h0 => Heap.get h0 x) hH_H1.symm
    simp (disch := omega) only [BAS, ↓BPR, reduceIte, reduceCtorEq, seval, -List.reduceReplicate, fpOf, freeNext, opW, binI, ev1, Heap.write, setAll, unI, eqKs, eqK, fillI] at gx
    exact gx⟩
  clear hH_H1
  rw [hzs'] at g1
  have key : ∀ H' tm', H.n + 2 ≤ H'.n → Keep H.n H H' → (∃ vs, Tb H.n H' vs (ofT xs).1 ∧ H'.get (H.n + 1) = some (.cells false 65 80 (flat vs))) → H'.get H.n = some (.cells false 65 80 zs) → tm'.length = 59 → tm'.getD 2 IV.undef = .ptr H.n 0 → tm'.getD 3 IV.undef = .ptr (H.n + 1) 0 → W E0 H.n (.code (.seq F20o14 .ret) none ⟨tm', []⟩) H' (retC H.n F20.results fun o H' => Keep H.n H H' → Q o H') := by
    intro H' tm' hn' hk ⟨vs, hT, hg⟩ hg0 htm t2 t3
    rw [expl59 tm' htm, t2, t3]
    have hfl : (flat vs).length = 80 := by rw [flat_length, z_SV, hT.1]
    have hzl : zs.length = 80 := by rw [hzs', flat_length, z_SV]; simp
    have r1 : H'.read (H.n + 1) 0 80 = some (flat vs) := by rw [read_get hg, hfl, if_pos (by omega), List.drop_zero, List.take_of_length_le (by omega)]
    have hsp : splice zs 0 (flat vs) = flat vs := by
      rw [splice_eq _ _ _ (by omega)]
      simp only [List.take_zero, List.nil_append, Nat.zero_add]
      rw [hfl, ← hzl, List.drop_length, List.append_nil]
    have hall := flat_all vs
    have rr : (if 0 + 80 ≤ (flat vs).length then some (((flat vs).drop 0).take 80) else none) = some (flat vs) := by rw [hfl, if_pos (by omega), List.drop_zero, List.take_of_length_le (by omega)]
    simp only [Nat.zero_add, List.drop_zero] at rr
    have htk : (flat vs).take 80 = flat vs := List.take_of_length_le (by omega)
    simp (disch := omega) only [BAS, ↓BPR, reduceIte, reduceCtorEq, seval, -List.reduceReplicate, fpOf, freeNext, opW, binI, ev1, Heap.write, setAll, unI, eqKs, eqK, fillI, B20, r1, hg0, hfl, hzl, hall, hsp, htk]
    exact fun hk => h _ vs hk (hT.put (by rw [hg0]; simp))
  have k0 : (xs.take 0).foldl ofStep (List.replicate 80 [], 0) = (List.replicate 80 [], 0) := rfl
  refine W_inv (fun k fr H' => ∃ i vs, i + k = min xs.length 40 ∧ H.n + 2 ≤ H'.n ∧ Keep H.n H H' ∧ Tb H.n H' vs ((xs.take i).foldl ofStep (List.replicate 80 [], 0)).1 ∧ H'.get (H.n + 1) = some (.cells false 65 80 (flat vs)) ∧ H'.get H.n = some (.cells false 65 80 zs) ∧ fr.marks = [] ∧ fr.tm.length = 59 ∧ fr.tm.getD 0 IV.undef = x.iv ∧ fr.tm.getD 2 IV.undef = .ptr H.n 0 ∧ fr.tm.getD 3 IV.undef = .ptr (H.n + 1) 0 ∧ fr.tm.getD 4 IV.undef = .int .i64 (((xs.take i).foldl ofStep (List.replicate 80 [], 0)).2 : Nat) ∧ fr.tm.getD 5 IV.undef = .int .i64 i) ?_ (min xs.length 40) ⟨0, List.replicate 80 .nil, by omega, by omega, kH1, Tb.init _ _, g1, g0, rfl, rfl, rfl, rfl, rfl, rfl, rfl⟩
  clear g0 g1 kH1 hnH1
  rintro k ⟨tm, mk⟩ H' ⟨i, vs, hik, hn', hk, hT, hg1, hg0, rfl, htm, t0, t2, t3, t4, t5⟩ L hN hJ
  rw [expl59 tm htm, t0, t2, t3, t4, t5]
  by_cases hi : i < xs.length
  · by_cases h40 : i < 40
    · obtain ⟨hgd, hnle⟩ := hgood i (by omega)
      have hx' := hx.keep hk
      have r1 := hx'.read z_Pt i hi
      have r1' := read_sub (a := 0) (m := 1) r1 (by omega)
      simp only [cs_Pt, List.drop_zero, List.take_succ_cons, List.take_zero, Nat.add_zero] at r1'
      have hpb := hb _ (List.getElem_mem hi)
      simp (disch := omega) only [BAS, ↓BPR, reduceIte, reduceCtorEq, seval, -List.reduceReplicate, fpOf, freeNext, opW, binI, ev1, Heap.write, setAll, unI, eqKs, eqK, fillI, wF20o0, F20p0, wF20o1, F20p1, wF20o2, F20p2, wF20o3, F20p3, wF20o4, F20p4, wF20o5, F20p5, wF20o6, F20p6, wF20o7, F20p7, wF20o8, F20p8, wF20o9, F20p9, wF20o10, F20p10, wF20o12, F20p12, F20l13, wF20o14, F20p14, F20b, F20, ↓hx.idx, ↓hx.ln, r1', tm80]
      have h4 : ((((xs.take i).foldl ofStep (List.replicate 80 [], 0)).1).getD (xs[i].a % 80) []).length ≤ 4 := by
        have hl := hgd.len
        rw [List.getD_eq_getElem?_getD, List.getElem?_eq_getElem (by omega), Option.getD_some]
        exact hgd.four _ (List.getElem_mem _)
      refine of_inner hx' hi hpb (hx.blk_lt' hi) hT hg1 (by omega) (by omega) (by omega) h4 rfl rfl rfl rfl rfl rfl rfl ?_
      intro H2 tm2 vs2 b1 b2 b3 b4 b5 b6 b7 b8 b9 b10
      rw [expl59 tm2 b5, b6, b7, b8, b9, b10]
      simp (disch := omega) only [BAS, ↓BPR, reduceIte, reduceCtorEq, seval, -List.reduceReplicate, fpOf, freeNext, opW, binI, ev1, Heap.write, setAll, unI, eqKs, eqK, fillI, wF20o0, F20p0, wF20o1, F20p1, wF20o2, F20p2, wF20o3, F20p3, wF20o4, F20p4, wF20o5, F20p5, wF20o6, F20p6, wF20o7, F20p7, wF20o8, F20p8, wF20o9, F20p9, wF20o10, F20p10, wF20o12, F20p12, F20l13, wF20o14, F20p14, F20b, F20]
      refine hN (k - 1) _ _ (by omega) ⟨i + 1, vs2, by omega, by omega, ⟨by omega, fun y h1 h2 => (b3 y (by omega) (by omega) (.inl h1)).trans (hk.2 y h1 h2)⟩, ?_, b2, ?_, rfl, rfl, rfl, rfl, rfl, ?_, rfl⟩
      · rw [ofT_step xs i hi]; exact b1
      · rw [b3 _ (by omega) (by omega) (.inr (by rw [hg0]; simp))]; exact hg0
      · rw [ofT_step xs i hi]; rfl
    · simp (disch := omega) only [BAS, ↓BPR, reduceIte, reduceCtorEq, seval, -List.reduceReplicate, fpOf, freeNext, opW, binI, ev1, Heap.write, setAll, unI, eqKs, eqK, fillI, wF20o0, F20p0, wF20o1, F20p1, wF20o2, F20p2, wF20o3, F20p3, wF20o4, F20p4, wF20o5, F20p5, wF20o6, F20p6, wF20o7, F20p7, wF20o8, F20p8, wF20o9, F20p9, wF20o10, F20p10, wF20o12, F20p12, F20l13, F20p14, F20b, F20, ↓hx.ln, hJ]
      rw [← W_seq]
      refine key H' _ hn' hk ⟨vs, ?_, hg1⟩ hg0 rfl rfl rfl
      have : i = 40 := by omega
      subst this; exact hT
  · simp (disch := omega) only [BAS, ↓BPR, reduceIte, reduceCtorEq, seval, -List.reduceReplicate, fpOf, freeNext, opW, binI, ev1, Heap.write, setAll, unI, eqKs, eqK, fillI, wF20o0, F20p0, wF20o1, F20p1, wF20o2, F20p2, wF20o3, F20p3, wF20o4, F20p4, wF20o5, F20p5, wF20o6, F20p6, wF20o7, F20p7, wF20o8, F20p8, wF20o9, F20p9, wF20o10, F20p10, wF20o12, F20p12, F20l13, F20p14, F20b, F20, ↓hx.ln, hJ]
    rw [← W_seq]
    refine key H' _ hn' hk ⟨vs, ?_, hg1⟩ hg0 rfl rfl rfl
    unfold ofT
    rw [List.take_of_length_le (by omega)] at hT ⊢
    exact hT
end Go.Iso.Gen
end

section
namespace Go.Iso.Gen
open Go.Iso
set_option maxHeartbeats 4000000
set_option maxRecDepth 10000

theorem perm_set_flatten {t : List (List Id)} {i : Nat} (hi : i < t.length) (l : List Id) : (t.set i (t[i] ++ l)).flatten.Perm (t.flatten ++ l) := by
  have e1 : t.flatten = (t.take i).flatten ++ (t[i] ++ (t.drop (i + 1)).flatten) := by
    have h0 : t = t.take i ++ t[i] :: t.drop (i + 1) := by rw [← List.drop_eq_getElem_cons hi, List.take_append_drop]
    have := congrArg List.flatten h0
    rw [List.flatten_append, List.flatten_cons] at this
    exact this
  rw [List.set_eq_take_append_cons_drop, if_pos hi, List.flatten_append, List.flatten_cons, e1]
  simp only [List.append_assoc]
  refine List.Perm.append_left _ (List.Perm.append_left _ ?_)
  exact List.perm_append_comm

/-- Names that are put on a needle. -/
theorem fillL_ids (m : Nat) : ∀ (l : List Id) (n : Nat), ∃ k, k ≤ m ∧ (fillL l n m).1 = l ++ (List.range' n k).map idN ∧ (fillL l n m).2 = n + k := by
  induction m with
  | zero => intro l n; exact ⟨0, by omega, by simp [fillL], rfl⟩
  | succ m ih =>
    intro l n
    unfold fillL
    split
    · obtain ⟨k, h1, h2, h3⟩ := ih (l ++ [idN n]) (n + 1)
      refine ⟨k + 1, by omega, ?_, by omega⟩
      rw [h2, List.append_assoc, List.range'_succ]
      rfl
    · exact ⟨0, by omega, by simp, rfl⟩

theorem good_step {s : List (List Id) × Nat} (h : Good s) (p : Pt) : Good (ofStep s p) ∧ (ofStep s p).2 ≤ s.2 + 4 := by
  obtain ⟨hl, h4, hids, hnd⟩ := h
  have hi : p.a % 80 < s.1.length := by omega
  have hget : s.1.getD (p.a % 80) [] = s.1[p.a % 80] := by rw [List.getD_eq_getElem?_getD, List.getElem?_eq_getElem hi, Option.getD_some]
  obtain ⟨k, h1, h2, h3⟩ := fillL_ids (p.m % 5) (s.1.getD (p.a % 80) []) s.2
  have hflen := fillL_len (p.m % 5) (s.1.getD (p.a % 80) []) s.2 (by rw [hget]; exact h4 _ (List.getElem_mem hi))
  have e1 : (ofStep s p).1 = s.1.set (p.a % 80) (s.1[p.a % 80] ++ (List.range' s.2 k).map idN) := by
    simp only [ofStep]; rw [h2, hget]
  have e2 : (ofStep s p).2 = s.2 + k := h3
  have hperm := perm_set_flatten hi ((List.range' s.2 k).map idN)
  rw [← e1] at hperm
  refine ⟨⟨?_, ?_, ?_, ?_⟩, by omega⟩
  · rw [e1, List.length_set]; exact hl
  · intro l hl
    have : (ofStep s p).1 = s.1.set (p.a % 80) (fillL (s.1.getD (p.a % 80) []) s.2 (p.m % 5)).1 := rfl
    rw [this] at hl
    rcases List.mem_or_eq_of_mem_set hl with hl | hl
    · exact h4 l hl
    · rw [hl]; exact hflen
  · intro a ha
    rw [hperm.mem_iff, List.mem_append, List.mem_map] at ha
    rw [e2]
    rcases ha with ha | ⟨j, hj, rfl⟩
    · obtain ⟨j, hj, e⟩ := hids a ha
      exact ⟨j, by omega, e⟩
    · rw [List.mem_range'_1] at hj
      exact ⟨j, by omega, rfl⟩
  · rw [hperm.nodup_iff, List.nodup_append]
    refine ⟨hnd, ?_, ?_⟩
    · refine List.Pairwise.map idN (fun a b (h : a ≠ b) => fun e => h (idN_inj e)) ?_
      exact List.nodup_range'
    · intro a ha b hb e
      subst e
      rw [List.mem_map] at hb
      obtain ⟨j, hj, rfl⟩ := hb
      rw [List.mem_range'_1] at hj
      obtain ⟨i, hi, e⟩ := hids _ ha
      have := idN_inj e
      omega

theorem good_all (xs : List Pt) : ∀ i, Good ((xs.take i).foldl ofStep (List.replicate 80 [], 0)) ∧ ((xs.take i).foldl ofStep (List.replicate 80 [], 0)).2 ≤ 4 * i := by
  intro i
  induction i with
  | zero =>
    refine ⟨⟨List.length_replicate .., fun l hl => ?_, fun a ha => ?_, ?_⟩, Nat.le_refl _⟩
    · rw [(List.mem_replicate.1 hl).2]; simp
    · obtain ⟨l, h1, h2⟩ := List.mem_flatten.1 ha
      rw [(List.mem_replicate.1 h1).2] at h2; cases h2
    · have : ((List.replicate 80 ([] : List Id))).flatten = [] := by simp
      show (List.replicate 80 ([] : List Id)).flatten.Nodup
      rw [this]; exact List.nodup_nil
  | succ i ih =>
    by_cases h : i < xs.length
    · rw [ofT_step xs i h]
      have := good_step ih.1 xs[i]
      exact ⟨this.1, by omega⟩
    · rw [List.take_of_length_le (by omega)]
      rw [List.take_of_length_le (by omega)] at ih
      exact ⟨ih.1, by omega⟩
theorem ofT_good (xs : List Pt) : Good (ofT xs) := (good_all xs 40).1
theorem ofT_n (xs : List Pt) : (ofT xs).2 ≤ 160 := (good_all xs 40).2
end Go.Iso.Gen
end

section
namespace Go.Iso.Gen
open Go.Iso
set_option maxHeartbeats 4000000
set_option maxRecDepth 10000

/-- The values of a table. -/
def Tab (H : Heap) (vs : List SV) (t : List (List Id)) : Prop := vs.length = 80 ∧ t.length = 80 ∧ ∀ i (h : i < vs.length) (h' : i < t.length), Sl H vs[i] t[i]
theorem Tab.keep {H H' : Heap} {vs : List SV} {t : List (List Id)} (h : Tab H vs t) (k : Keep H.n H H') : Tab H' vs t := ⟨h.1, h.2.1, fun i a b => (h.2.2 i a b).keep k⟩

def bedF (t : List (List Id)) : List (List Id) := shortL (t.take 40)
def bedB (t : List (List Id)) : List (List Id) := shortL (t.drop 40)

/-- A bed that is being made: nil while no needle has been found that holds something, then of its length. -/
def Made (n0 : Nat) (H : Heap) (n k : Nat) (v : SV) : Prop := (n ≤ k ∧ v = .nil) ∨ (k < n ∧ ∃ b, v = .sl b 0 n n true ∧ n0 ≤ b ∧ Own H b 56 n (List.replicate n SV.nil))
theorem Made.keep {n0 : Nat} {H H' : Heap} {n k : Nat} {v : SV} (h : Made n0 H n k v) (hk : H.n ≤ H'.n) (hg : ∀ x, n0 ≤ x → x < H.n → H'.get x = H.get x) : Made n0 H' n k v := by
  rcases h with h | ⟨h1, b, h2, h3, h4⟩
  · exact .inl h
  · exact .inr ⟨h1, b, h2, h3, h4.same hk (hg b h3 h4.2.1)⟩
theorem shortN_ge {α : Type} {l : List (List α)} {i : Nat} (hi : i < l.length) (h : l[i] ≠ []) : i < shortN l := by
  refine Nat.lt_of_not_le fun hle => h (shortN_behind l i hi hle)

theorem expl76 (tm : List IV) (h : tm.length = 76) : tm = [tm.getD 0 IV.undef, tm.getD 1 IV.undef, tm.getD 2 IV.undef, tm.getD 3 IV.undef, tm.getD 4 IV.undef, tm.getD 5 IV.undef, tm.getD 6 IV.undef, tm.getD 7 IV.undef, tm.getD 8 IV.undef, tm.getD 9 IV.undef, tm.getD 10 IV.undef, tm.getD 11 IV.undef, tm.getD 12 IV.undef, tm.getD 13 IV.undef, tm.getD 14 IV.undef, tm.getD 15 IV.undef, tm.getD 16 IV.undef, tm.getD 17 IV.undef, tm.getD 18 IV.undef, tm.getD 19 IV.undef, tm.getD 20 IV.undef, tm.getD 21 IV.undef, tm.getD 22 IV.undef, tm.getD 23 IV.undef, tm.getD 24 IV.undef, tm.getD 25 IV.undef, tm.getD 26 IV.undef, tm.getD 27 IV.undef, tm.getD 28 IV.undef, tm.getD 29 IV.undef, tm.getD 30 IV.undef, tm.getD 31 IV.undef, tm.getD 32 IV.undef, tm.getD 33 IV.undef, tm.getD 34 IV.undef, tm.getD 35 IV.undef, tm.getD 36 IV.undef, tm.getD 37 IV.undef, tm.getD 38 IV.undef, tm.getD 39 IV.undef, tm.getD 40 IV.undef, tm.getD 41 IV.undef, tm.getD 42 IV.undef, tm.getD 43 IV.undef, tm.getD 44 IV.undef, tm.getD 45 IV.undef, tm.getD 46 IV.undef, tm.getD 47 IV.undef, tm.getD 48 IV.undef, tm.getD 49 IV.undef, tm.getD 50 IV.undef, tm.getD 51 IV.undef, tm.getD 52 IV.undef, tm.getD 53 IV.undef, tm.getD 54 IV.undef, tm.getD 55 IV.undef, tm.getD 56 IV.undef, tm.getD 57 IV.undef, tm.getD 58 IV.undef, tm.getD 59 IV.undef, tm.getD 60 IV.undef, tm.getD 61 IV.undef, tm.getD 62 IV.undef, tm.getD 63 IV.undef, tm.getD 64 IV.undef, tm.getD 65 IV.undef, tm.getD 66 IV.undef, tm.getD 67 IV.undef, tm.getD 68 IV.undef, tm.getD 69 IV.undef, tm.getD 70 IV.undef, tm.getD 71 IV.undef, tm.getD 72 IV.undef, tm.getD 73 IV.undef, tm.getD 74 IV.undef, tm.getD 75 IV.undef] := (expl tm 76 h).trans rfl
theorem beds1_loop {tb bb : Nat} {H : Heap} {vs : List SV} {t : List (List Id)} {Q : Out → Heap → Prop} {tm : List IV} {lo : Nat} (hlo : lo ≤ bb) (hT : Tab H vs t) (hl4 : ∀ l ∈ t, l.length ≤ 1000000) (hg : H.get tb = some (.cells false 65 80 (flat vs))) (htb : tb < bb) (hbb : bb < H.n) (hgb : H.get bb = some (.cells false 26 2 [.nilSlice, .nilSlice]))
    (hTb : ∀ i (h : i < vs.length) (h' : i < t.length), t[i] ≠ [] → vs[i].blk < bb) (hn0 : H.n = bb + 1) (htm : tm.length = 76) (t1 : tm.getD 1 IV.undef = .ptr tb 0) (t3 : tm.getD 3 IV.undef = .ptr bb 0) (t4 : tm.getD 4 IV.undef = .int .i64 39)
    (hQ : ∀ H' tm' f b, H.n ≤ H'.n → (∀ x, x < H.n → x ≠ bb → H'.get x = H.get x) → H'.get bb = some (.cells false 26 2 [f.iv, b.iv]) → Made H.n H' (shortN (t.take 40)) 0 f → Made H.n H' (shortN (t.drop 40)) 0 b → (∀ x y, f.blk = x → b.blk = y → f ≠ .nil → b ≠ .nil → x ≠ y) → tm'.length = 76 → tm'.getD 1 IV.undef = .ptr tb 0 → tm'.getD 2 IV.undef = tm.getD 2 IV.undef → tm'.getD 3 IV.undef = .ptr bb 0 → Q (.ex (.jmp (.exit 0)) ⟨tm', []⟩) H') : W E0 lo (.code (.loop F21l9) none ⟨tm, []⟩) H Q := by
  have hs1 := shortN_le (t.take 40)
  have hs2 := shortN_le (t.drop 40)
  have htl := hT.2.1
  have hvl := hT.1
  rw [List.length_take] at hs1
  rw [List.length_drop] at hs2
  refine W_inv (fun k fr H' => ∃ f b, k ≤ 40 ∧ H.n ≤ H'.n ∧ (∀ x, x < H.n → x ≠ bb → H'.get x = H.get x) ∧ H'.get bb = some (.cells false 26 2 [f.iv, b.iv]) ∧ Made H.n H' (shortN (t.take 40)) k f ∧ Made H.n H' (shortN (t.drop 40)) k b ∧ (∀ x y, f.blk = x → b.blk = y → f ≠ .nil → b ≠ .nil → x ≠ y) ∧ fr.marks = [] ∧ fr.tm.length = 76 ∧ fr.tm.getD 1 IV.undef = .ptr tb 0 ∧ fr.tm.getD 2 IV.undef = tm.getD 2 IV.undef ∧ fr.tm.getD 3 IV.undef = .ptr bb 0 ∧ fr.tm.getD 4 IV.undef = .int .i64 ((k : Int) - 1)) ?_ 40 ⟨.nil, .nil, by omega, Nat.le_refl _, fun _ _ _ => rfl, hgb, .inl ⟨by omega, rfl⟩, .inl ⟨by omega, rfl⟩, fun _ _ _ _ h => absurd rfl h, rfl, htm, t1, rfl, t3, t4⟩
  generalize tm.getD 2 IV.undef = y2 at *
  clear htm t1 t3 t4
  rintro k ⟨tm, mk⟩ H' ⟨f, b, hk40, hn, hk, hgbb, mf, mb, hne, rfl, htm, t1, t2, t3, t4⟩ L hN hJ
  rw [expl76 tm htm, t1, t2, t3, t4]
  by_cases hk0 : k = 0
  · subst hk0
    simp (disch := omega) only [BAS, ↓BPR, reduceIte, reduceCtorEq, seval, -List.reduceReplicate, fpOf, freeNext, opW, binI, ev1, Heap.write, setAll, unI, eqKs, eqK, fillI, B21, F21l9, F21l14, F21l19, hJ]
    exact hQ _ _ f b hn hk hgbb mf mb hne rfl rfl rfl rfl
  have hgt := (hk tb (by omega) (by omega)).trans hg
  have hT' : ∀ H'', H.n ≤ H''.n → (∀ x, x < H.n → x ≠ bb → H''.get x = H.get x) → Tab H'' vs t := fun H'' h1 h2 => ⟨hvl, htl, fun i a b => (hT.2.2 i a b).same h1 fun hl => h2 _ ((hT.2.2 i a b).blk_lt hl) (by have := hTb i a b hl; omega)⟩
  have hc1 := tab_read hgt (k - 1) (by omega)
  have hsF := (hT' H' hn hk).2.2 (k - 1) (by omega) (by omega)
  have rb := read_get hgbb
  have ek : ((k : Int) - 1).toNat = k - 1 := by omega
  have ek2 : (40 + ((k : Int) - 1)).toNat = 40 + (k - 1) := by omega
  have eF : (t.take 40)[k - 1]'(by rw [List.length_take]; omega) = t[k - 1]'(by omega) := List.getElem_take ..
  have eB : (t.drop 40)[k - 1]'(by rw [List.length_drop]; omega) = t[40 + (k - 1)]'(by omega) := List.getElem_drop ..
  -- the back bed
  have second : ∀ (H2 : Heap) (f' : SV), H'.n ≤ H2.n → (∀ x, x < H.n → x ≠ bb → H2.get x = H.get x) → H2.get bb = some (.cells false 26 2 [f'.iv, b.iv]) → Made H.n H2 (shortN (t.take 40)) (k - 1) f' → Made H.n H2 (shortN (t.drop 40)) k b → (∀ x y, f'.blk = x → b.blk = y → f' ≠ .nil → b ≠ .nil → x ≠ y) → (f' ≠ .nil → f'.blk < H2.n) →
      ∀ tm, tm.length = 76 → tm.getD 1 IV.undef = .ptr tb 0 → tm.getD 2 IV.undef = y2 → tm.getD 3 IV.undef = .ptr bb 0 → tm.getD 4 IV.undef = .int .i64 ((k : Int) - 1) → W E0 lo (.code (.seq F21o6 (.cond (.tmp 37) F21o7 .skip)) none ⟨tm, []⟩) H2 (blkC 1 (thenC E0 lo none F21o8 L)) := by
    intro H2 f' hn2 hk2 hg2 mf2 mb2 hne2 hf2 tm htm t1 t2 t3 t4
    have hgt2 := (hk2 tb (by omega) (by omega)).trans hg
    have hc2 := tab_read hgt2 (40 + (k - 1)) (by omega)
    have hsB := (hT' H2 (by omega) hk2).2.2 (40 + (k - 1)) (by omega) (by omega)
    have rb2 := read_get hg2
    have hl2 := hl4 _ (List.getElem_mem (show 40 + (k - 1) < t.length by omega))
    rw [expl76 tm htm, t1, t2, t3, t4]
    rcases mb2 with ⟨h1, rfl⟩ | ⟨h1, c, rfl, h2, h3⟩
    · by_cases he : t[40 + (k - 1)]'(by omega) = []
      · have hln : (t[40 + (k - 1)]'(by omega)).length = 0 := by rw [he]; rfl
        simp (disch := omega) only [BAS, ↓BPR, reduceIte, reduceCtorEq, seval, -List.reduceReplicate, fpOf, freeNext, opW, binI, ev1, Heap.write, setAll, unI, eqKs, eqK, fillI, B21, F21l9, F21l14, F21l19, rb2, hc2, ek2, ↓hsB.ln, hln]
        refine hN (k - 1) _ _ (by omega) ⟨f', .nil, by omega, by omega, hk2, hg2, mf2, .inl ⟨?_, rfl⟩, hne2, rfl, rfl, rfl, rfl, rfl, ?_⟩
        · refine Nat.le_of_not_lt fun hlt => ?_
          exact shortN_last (t.drop 40) (k - 1) (by rw [List.length_drop]; omega) (by omega) (eB.trans he)
        · simp; omega
      · have hpos : 0 < (t[40 + (k - 1)]'(by omega)).length := List.length_pos_iff.2 he
        have hsn : shortN (t.drop 40) = k := by
          have := shortN_ge (l := t.drop 40) (i := k - 1) (by rw [List.length_drop]; omega) (by rw [eB]; exact he)
          omega
        have ho := Own.mksl (H := H2) (e := 56) (n := k) z_SV SV.nil
        simp only [cs_SV, SV.nil_iv] at ho
        have ekk : ((k : Int) - 1 + 1) = (k : Int) := by omega
        simp (disch := omega) only [BAS, ↓BPR, reduceIte, reduceCtorEq, seval, -List.reduceReplicate, fpOf, freeNext, opW, binI, ev1, Heap.write, setAll, unI, eqKs, eqK, fillI, B21, F21l9, F21l14, F21l19, rb2, hc2, ek2, ↓hsB.ln, ekk, hg2, Int.reducePow]
        refine hN (k - 1) _ _ (by omega) ⟨f', .sl H2.n 0 k k true, by omega, by rw [Heap.n_put, Heap.n_new]; omega, fun x h1 h2 => ?_, by rw [Heap.get_put, if_pos rfl]; rfl, mf2.keep (by rw [Heap.n_put, Heap.n_new]; omega) (fun x h1 h2 => ?_), .inr ⟨by omega, H2.n, by rw [hsn], by omega, ?_⟩, ?_, rfl, rfl, rfl, rfl, rfl, ?_⟩
        · rw [Heap.get_put, if_neg (Ne.symm h2), Heap.get_new, if_neg (by omega)]; exact hk2 x h1 h2
        · rw [Heap.get_put, if_neg (by omega), Heap.get_new, if_neg (by omega)]
        · rw [hsn]
          exact ho.same (Nat.le_refl _) (by rw [Heap.get_put, if_neg (by omega)])
        · intro x y h1 h2 h3 _
          have := hf2 h3
          rw [SV.blk_sl] at h2; omega
        · simp; omega
    · have hc0 : ¬ ((shortN (t.drop 40) : Nat) : Int) = 0 := by omega
      simp (disch := omega) only [BAS, ↓BPR, reduceIte, reduceCtorEq, seval, -List.reduceReplicate, fpOf, freeNext, opW, binI, ev1, Heap.write, setAll, unI, eqKs, eqK, fillI, B21, F21l9, F21l14, F21l19, rb2]
      refine hN (k - 1) _ _ (by omega) ⟨f', .sl c 0 _ _ true, by omega, by omega, hk2, hg2, mf2, .inr ⟨by omega, c, rfl, h2, h3⟩, hne2, rfl, rfl, rfl, rfl, rfl, ?_⟩
      simp; omega
  have hl1 := hl4 _ (List.getElem_mem (show k - 1 < t.length by omega))
  have mbk := mb
  rcases mf with ⟨h1, rfl⟩ | ⟨h1, c, rfl, h2, h3⟩
  · by_cases he : t[k - 1]'(by omega) = []
    · have hln : (t[k - 1]'(by omega)).length = 0 := by rw [he]; rfl
      simp (disch := omega) only [BAS, ↓BPR, reduceIte, reduceCtorEq, seval, -List.reduceReplicate, fpOf, freeNext, opW, binI, ev1, Heap.write, setAll, unI, eqKs, eqK, fillI, wF21o0, F21p0, wF21o1, F21p1, wF21o2, F21p2, wF21o3, F21p3, wF21o4, F21p4, wF21o5, F21p5, F21p6, wF21o7, F21p7, wF21o8, F21p8, F21l9, wF21o10, F21p10, wF21o11, F21p11, wF21o12, F21p12, wF21o13, F21p13, F21l14, wF21o15, F21p15, wF21o16, F21p16, wF21o17, F21p17, wF21o18, F21p18, F21l19, wF21o20, F21p20, F21b, F21, rb, hc1, ek, ↓hsF.ln, hln]
      rw [← W_seq]
      refine second H' .nil (Nat.le_refl _) hk hgbb (.inl ⟨?_, rfl⟩) mb (fun _ _ _ _ h => absurd rfl h) (fun h => absurd rfl h) _ rfl rfl rfl rfl rfl
      refine Nat.le_of_not_lt fun hlt => ?_
      exact shortN_last (t.take 40) (k - 1) (by rw [List.length_take]; omega) (by omega) (eF.trans he)
    · have hpos : 0 < (t[k - 1]'(by omega)).length := List.length_pos_iff.2 he
      have hsn : shortN (t.take 40) = k := by
        have := shortN_ge (l := t.take 40) (i := k - 1) (by rw [List.length_take]; omega) (by rw [eF]; exact he)
        omega
      have ho := Own.mksl (H := H') (e := 56) (n := k) z_SV SV.nil
      simp only [cs_SV, SV.nil_iv] at ho
      have ekk : ((k : Int) - 1 + 1) = (k : Int) := by omega
      simp (disch := omega) only [BAS, ↓BPR, reduceIte, reduceCtorEq, seval, -List.reduceReplicate, fpOf, freeNext, opW, binI, ev1, Heap.write, setAll, unI, eqKs, eqK, fillI, wF21o0, F21p0, wF21o1, F21p1, wF21o2, F21p2, wF21o3, F21p3, wF21o4, F21p4, wF21o5, F21p5, F21p6, wF21o7, F21p7, wF21o8, F21p8, F21l9, wF21o10, F21p10, wF21o11, F21p11, wF21o12, F21p12, wF21o13, F21p13, F21l14, wF21o15, F21p15, wF21o16, F21p16, wF21o17, F21p17, wF21o18, F21p18, F21l19, wF21o20, F21p20, F21b, F21, rb, hc1, ek, ↓hsF.ln, ekk, hgbb, Int.reducePow]
      rw [← W_seq]
      have hbn : b ≠ .nil → b.blk < H'.n := fun hb => by
        rcases mb with ⟨_, rfl⟩ | ⟨_, c, rfl, _, h3⟩
        · exact absurd rfl hb
        · exact h3.2.1
      refine second _ (.sl H'.n 0 k k true) (by rw [Heap.n_put, Heap.n_new]; omega) (fun x h1 h2 => ?_) (by rw [Heap.get_put, if_pos rfl]; rfl) (.inr ⟨by omega, H'.n, by rw [hsn], by omega, ?_⟩) (mb.keep (by rw [Heap.n_put, Heap.n_new]; omega) (fun x h1 h2 => ?_)) ?_ (fun _ => by rw [SV.blk_sl, Heap.n_put, Heap.n_new]; omega) _ rfl rfl rfl rfl rfl
      · rw [Heap.get_put, if_neg (Ne.symm h2), Heap.get_new, if_neg (by omega)]; exact hk x h1 h2
      · rw [hsn]
        exact ho.same (Nat.le_refl _) (by rw [Heap.get_put, if_neg (by omega)])
      · rw [Heap.get_put, if_neg (by omega), Heap.get_new, if_neg (by omega)]
      · intro x y h1 h2 _ h3
        have := hbn h3
        rw [SV.blk_sl] at h1; omega
  · simp (disch := omega) only [BAS, ↓BPR, reduceIte, reduceCtorEq, seval, -List.reduceReplicate, fpOf, freeNext, opW, binI, ev1, Heap.write, setAll, unI, eqKs, eqK, fillI, wF21o0, F21p0, wF21o1, F21p1, wF21o2, F21p2, wF21o3, F21p3, wF21o4, F21p4, wF21o5, F21p5, F21p6, wF21o7, F21p7, wF21o8, F21p8, F21l9, wF21o10, F21p10, wF21o11, F21p11, wF21o12, F21p12, wF21o13, F21p13, F21l14, wF21o15, F21p15, wF21o16, F21p16, wF21o17, F21p17, wF21o18, F21p18, F21l19, wF21o20, F21p20, F21b, F21, rb]
    rw [← W_seq]
    exact second H' (.sl c 0 _ _ true) (Nat.le_refl _) hk hgbb (.inr ⟨by omega, c, rfl, h2, h3⟩) mb hne (fun _ => h3.2.1) _ rfl rfl rfl rfl rfl
end Go.Iso.Gen
end

section
namespace Go.Iso.Gen
open Go.Iso
set_option maxHeartbeats 4000000
set_option maxRecDepth 10000

theorem append_e0 {α : Type} [Cell α] {H : Heap} {e : Nat} {m : List α} {v : SV} (hv : Sl H v m) {z : Nat} (hz : Cell.z α = z) (bytes lo b : Nat) (hb : m.length * (bytes + 1) ≤ 2 ^ 40) :
    ∃ H2 u, ev1 (.append e z bytes) [.slice b 0 0 0 true, v.iv] lo H = some (SV.iv u, H2) ∧ Keep H.n H H2 ∧ Sl H2 u m ∧ (m ≠ [] → H.n ≤ u.blk) := by
  have hs : Sl H (.sl b 0 ([] : List α).length 0 true) ([] : List α) := ⟨rfl, Nat.le_refl _, fun h => absurd rfl h⟩
  by_cases hm : m = []
  · subst hm
    refine ⟨H, .sl b 0 0 0 true, ?_, Keep.refl _ _, hs, fun h => absurd rfl h⟩
    simp only [ev1, hv.lenI, hv.srcI hz, Option.bind_some, appendI]
    rw [if_neg (by rw [flat_all]; decide)]
    rfl
  · have hpos : 0 < m.length := List.length_pos_iff.2 hm
    obtain ⟨H2, e1, e2, e3, e4⟩ := append_full (e := e) hs hv hz bytes lo hm (by rw [List.length_nil]; omega) (by rw [List.length_nil, Nat.zero_add]; exact hb)
    simp only [List.length_nil, Nat.zero_add, List.nil_append] at e1 e4
    exact ⟨H2, .sl H.n 0 m.length m.length false, e1, e3, e4.sl false, fun _ => Nat.le_refl _⟩

theorem beds2_loop {tb bb n lo n0 : Nat} {H : Heap} {vs : List SV} {t : List (List Id)} {g o : SV} {Q : Out → Heap → Prop} {tm : List IV} (hlo : lo ≤ n0) (hT : Tab H vs t) (hn : n ≤ 40) (hl4 : ∀ l ∈ t, l.length ≤ 1000000) (hg : H.get tb = some (.cells false 65 80 (flat vs))) (htb : tb < n0) (hbb : bb < n0) (hn0 : n0 ≤ H.n) (hgb : H.get bb = some (.cells false 26 2 [g.iv, o.iv])) (hv : ∀ i (h : i < vs.length) (h' : i < t.length), t[i] ≠ [] → vs[i].blk < n0)
    (hM : Made n0 H n 0 g)
    (htm : tm.length = 76) (t1 : tm.getD 1 IV.undef = .ptr tb 0) (t3 : tm.getD 3 IV.undef = .ptr bb 0) (t5 : tm.getD 5 IV.undef = .int .i64 0)
    (hQ : ∀ H' tm', H.n ≤ H'.n → (∀ x, x < H.n → (x = g.blk → g = .nil) → H'.get x = H.get x) → (∃ us : List SV, Sl H' g us ∧ us.length = ((t.drop 0).take n).length ∧ (us ≠ [] → n0 ≤ g.blk) ∧ ∀ (i : Nat) (h : i < ((t.drop 0).take n).length) (h' : i < us.length), Sl H' us[i] ((t.drop 0).take n)[i] ∧ (((t.drop 0).take n)[i] ≠ [] → H.n ≤ us[i].blk)) → tm'.length = 76 → tm'.getD 1 IV.undef = .ptr tb 0 → tm'.getD 2 IV.undef = tm.getD 2 IV.undef → tm'.getD 3 IV.undef = .ptr bb 0 → Q (.ex (.jmp (.exit 2)) ⟨tm', []⟩) H') : W E0 lo (.code (.loop F21l14) none ⟨tm, []⟩) H Q := by
  have htl := hT.2.1
  have hvl := hT.1
  have hdl : ((t.drop 0).take n).length = n := by rw [List.length_take, List.length_drop]; omega
  rcases hM with ⟨h0, rfl⟩ | ⟨h0, c, rfl, hc, ho⟩
  · have hn00 : n = 0 := by omega
    subst hn00
    refine W_inv (fun k fr H' => k = 0 ∧ H' = H ∧ fr.marks = [] ∧ fr.tm.length = 76 ∧ fr.tm.getD 1 IV.undef = .ptr tb 0 ∧ fr.tm.getD 2 IV.undef = tm.getD 2 IV.undef ∧ fr.tm.getD 3 IV.undef = .ptr bb 0 ∧ fr.tm.getD 5 IV.undef = .int .i64 0) ?_ 0 ⟨rfl, rfl, rfl, htm, t1, rfl, t3, t5⟩
    generalize tm.getD 2 IV.undef = y2 at *
    clear htm t1 t3 t5
    rintro k ⟨tm, mk⟩ H' ⟨rfl, rfl, rfl, htm, t1, t2, t3, t5⟩ L hN hJ
    rw [expl76 tm htm, t1, t2, t3, t5]
    have rb := read_get hgb
    simp (disch := omega) only [BAS, ↓BPR, reduceIte, reduceCtorEq, seval, -List.reduceReplicate, fpOf, freeNext, opW, binI, ev1, Heap.write, setAll, unI, eqKs, eqK, fillI, B21, F21l9, F21l14, F21l19, rb, hJ]
    exact hQ _ _ (Nat.le_refl _) (fun _ _ _ => rfl) ⟨[], rfl, by simp, fun h => absurd rfl h, fun i h => by simp at h⟩ rfl rfl rfl rfl
  · have hcb : c ≠ bb := fun e => by subst e; have := ho.2.1; omega
    refine W_inv (fun k fr H' => ∃ i us, i + k = n ∧ us.length = n ∧ H.n ≤ H'.n ∧ (∀ x, x < H.n → x ≠ c → H'.get x = H.get x) ∧ Own H' c 56 n us ∧ (∀ j (h : j < us.length) (h' : j < t.length), j < i → Sl H' us[j] t[j] ∧ (t[j] ≠ [] → H.n ≤ us[j].blk)) ∧ fr.marks = [] ∧ fr.tm.length = 76 ∧ fr.tm.getD 1 IV.undef = .ptr tb 0 ∧ fr.tm.getD 2 IV.undef = tm.getD 2 IV.undef ∧ fr.tm.getD 3 IV.undef = .ptr bb 0 ∧ fr.tm.getD 5 IV.undef = .int .i64 i) ?_ n ⟨0, List.replicate n .nil, by omega, by simp, Nat.le_refl _, fun _ _ _ => rfl, ho, fun j _ _ h => by omega, rfl, htm, t1, rfl, t3, t5⟩
    generalize tm.getD 2 IV.undef = y2 at *
    clear htm t1 t3 t5
    rintro k ⟨tm, mk⟩ H' ⟨i, us, hi, hul, hnn, hk, ho', hs, rfl, htm, t1, t2, t3, t5⟩ L hN hJ
    rw [expl76 tm htm, t1, t2, t3, t5]
    have hcn := ho.2.1
    have hgb' := (hk bb (by omega) (Ne.symm hcb)).trans hgb
    have rb := read_get hgb'
    have hsl := ho'.sl true
    rw [hul] at hsl
    by_cases hin : i < n
    · have hgt' := (hk tb (by omega) (by omega)).trans hg
      have hcell := tab_read hgt' (i) (by omega)
      have hse : Sl H' (vs[i]'(by omega)) (t[i]'(by omega)) := (hT.2.2 (i) (by omega) (by omega)).same hnn fun hl => hk _ ((hT.2.2 (i) (by omega) (by omega)).blk_lt hl) (by have := hv (i) (by omega) (by omega) hl; omega)
      have hl1 := hl4 _ (List.getElem_mem (show i < t.length by omega))
      have eki : ((40 : Int) + (i : Int)).toNat = 40 + i := by omega
      have he : Sl (H'.new (.cells false 35 2 [])) (.sl H'.n 0 ([] : List Id).length 0 true) ([] : List Id) := ⟨rfl, Nat.le_refl _, fun h => absurd rfl h⟩
      obtain ⟨H2, u, e1, k2, s2, ub⟩ := append_e0 (e := 35) (hse.keep (Keep.new H' (.cells false 35 2 []))) z_Id 16 lo H'.n (by omega)
      have hn2 := k2.1
      rw [Heap.n_new] at hn2
      have hoo : Own H2 c 56 us.length us := by
        rw [hul]
        exact (ho'.keep (Keep.new _ _)).keep k2
      have hfull := hoo.full
      have hput := hoo.put z_SV i (by omega) u
      simp only [z_SV, cs_SV] at hfull hput
      have hfl : (flat us).length = n := by rw [flat_length, z_SV, hul, Nat.mul_one]
      have hle : (i * 1 + 1 ≤ (flat us).length) = True := by rw [hfl]; simp; omega
      have hidx := hsl.idx
      simp only [SV.sl_iv, SV.blk_sl, SV.off_sl] at hidx
      have hix : (i : Int) < (us.length : Int) := by omega
      have hcn' := ho'.2.1
      simp (disch := omega) only [BAS, ↓BPR, reduceIte, reduceCtorEq, seval, -List.reduceReplicate, fpOf, freeNext, opW, binI, ev1, Heap.write, setAll, unI, eqKs, eqK, fillI, B21, F21l9, F21l14, F21l19, rb, hcell, eki, ↓e1, ↓hidx, hfull, hle]
      rw [hul] at hput
      refine hN (k - 1) _ _ (by omega) ⟨i + 1, us.set i u, by omega, by simpa using hul, by rw [Heap.n_put]; omega, fun x h1 h2 => ?_, hput, fun j h1 h2 h3 => ?_, rfl, rfl, rfl, rfl, rfl, rfl⟩
      · rw [Heap.get_put, if_neg (Ne.symm h2), k2.2 x (by rw [Heap.n_new]; omega) (by rw [Heap.n_new]; omega), Heap.get_new, if_neg (by omega)]
        exact hk x h1 h2
      · rw [List.length_set] at h1
        by_cases hj : j = i
        · subst hj
          rw [List.getElem_set_self]
          refine ⟨s2.same (Nat.le_refl _) fun hl => ?_, fun hl => ?_⟩
          · have := ub hl
            rw [Heap.n_new] at this
            rw [Heap.get_put, if_neg (by omega)]
          · have := ub hl
            rw [Heap.n_new] at this
            omega
        · rw [List.getElem_set_ne (Ne.symm hj)]
          obtain ⟨q1, q2⟩ := hs j h1 h2 (by omega)
          refine ⟨((q1.keep (Keep.new _ _)).keep k2).same (Nat.le_refl _) fun hl => ?_, q2⟩
          have := q2 hl
          rw [Heap.get_put, if_neg (by omega)]
    · simp (disch := omega) only [BAS, ↓BPR, reduceIte, reduceCtorEq, seval, -List.reduceReplicate, fpOf, freeNext, opW, binI, ev1, Heap.write, setAll, unI, eqKs, eqK, fillI, B21, F21l9, F21l14, F21l19, rb, hJ]
      refine hQ _ _ hnn (fun x h1 h2 => hk x h1 (fun e => by have := h2 e; cases this)) ⟨us, ?_, by omega, fun _ => by rw [SV.blk_sl]; exact hc, fun j h1 h2 => ?_⟩ rfl rfl rfl rfl
      · exact hsl
      · have := hs j h2 (by omega) (by omega)
        simp only [List.getElem_take, List.getElem_drop, Nat.zero_add]
        exact this

theorem beds3_loop {tb bb n lo n0 : Nat} {H : Heap} {vs : List SV} {t : List (List Id)} {g o : SV} {Q : Out → Heap → Prop} {tm : List IV} (hlo : lo ≤ n0) (hT : Tab H vs t) (hn : n ≤ 40) (hl4 : ∀ l ∈ t, l.length ≤ 1000000) (hg : H.get tb = some (.cells false 65 80 (flat vs))) (htb : tb < n0) (hbb : bb < n0) (hn0 : n0 ≤ H.n) (hgb : H.get bb = some (.cells false 26 2 [o.iv, g.iv])) (hv : ∀ i (h : i < vs.length) (h' : i < t.length), t[i] ≠ [] → vs[i].blk < n0)
    (hM : Made n0 H n 0 g)
    (htm : tm.length = 76) (t1 : tm.getD 1 IV.undef = .ptr tb 0) (t3 : tm.getD 3 IV.undef = .ptr bb 0) (t5 : tm.getD 6 IV.undef = .int .i64 0)
    (hQ : ∀ H' tm', H.n ≤ H'.n → (∀ x, x < H.n → (x = g.blk → g = .nil) → H'.get x = H.get x) → (∃ us : List SV, Sl H' g us ∧ us.length = ((t.drop 40).take n).length ∧ (us ≠ [] → n0 ≤ g.blk) ∧ ∀ (i : Nat) (h : i < ((t.drop 40).take n).length) (h' : i < us.length), Sl H' us[i] ((t.drop 40).take n)[i] ∧ (((t.drop 40).take n)[i] ≠ [] → H.n ≤ us[i].blk)) → tm'.length = 76 → tm'.getD 1 IV.undef = .ptr tb 0 → tm'.getD 2 IV.undef = tm.getD 2 IV.undef → tm'.getD 3 IV.undef = .ptr bb 0 → Q (.ex (.jmp (.exit 4)) ⟨tm', []⟩) H') : W E0 lo (.code (.loop F21l19) none ⟨tm, []⟩) H Q := by
  have htl := hT.2.1
  have hvl := hT.1
  have hdl : ((t.drop 40).take n).length = n := by rw [List.length_take, List.length_drop]; omega
  rcases hM with ⟨h0, rfl⟩ | ⟨h0, c, rfl, hc, ho⟩
  · have hn00 : n = 0 := by omega
    subst hn00
    refine W_inv (fun k fr H' => k = 0 ∧ H' = H ∧ fr.marks = [] ∧ fr.tm.length = 76 ∧ fr.tm.getD 1 IV.undef = .ptr tb 0 ∧ fr.tm.getD 2 IV.undef = tm.getD 2 IV.undef ∧ fr.tm.getD 3 IV.undef = .ptr bb 0 ∧ fr.tm.getD 6 IV.undef = .int .i64 0) ?_ 0 ⟨rfl, rfl, rfl, htm, t1, rfl, t3, t5⟩
    generalize tm.getD 2 IV.undef = y2 at *
    clear htm t1 t3 t5
    rintro k ⟨tm, mk⟩ H' ⟨rfl, rfl, rfl, htm, t1, t2, t3, t5⟩ L hN hJ
    rw [expl76 tm htm, t1, t2, t3, t5]
    have rb := read_get hgb
    simp (disch := omega) only [BAS, ↓BPR, reduceIte, reduceCtorEq, seval, -List.reduceReplicate, fpOf, freeNext, opW, binI, ev1, Heap.write, setAll, unI, eqKs, eqK, fillI, B21, F21l9, F21l14, F21l19, rb, hJ]
    exact hQ _ _ (Nat.le_refl _) (fun _ _ _ => rfl) ⟨[], rfl, by simp, fun h => absurd rfl h, fun i h => by simp at h⟩ rfl rfl rfl rfl
  · have hcb : c ≠ bb := fun e => by subst e; have := ho.2.1; omega
    refine W_inv (fun k fr H' => ∃ i us, i + k = n ∧ us.length = n ∧ H.n ≤ H'.n ∧ (∀ x, x < H.n → x ≠ c → H'.get x = H.get x) ∧ Own H' c 56 n us ∧ (∀ j (h : j < us.length) (h' : 40 + j < t.length), j < i → Sl H' us[j] t[40 + j] ∧ (t[40 + j] ≠ [] → H.n ≤ us[j].blk)) ∧ fr.marks = [] ∧ fr.tm.length = 76 ∧ fr.tm.getD 1 IV.undef = .ptr tb 0 ∧ fr.tm.getD 2 IV.undef = tm.getD 2 IV.undef ∧ fr.tm.getD 3 IV.undef = .ptr bb 0 ∧ fr.tm.getD 6 IV.undef = .int .i64 i) ?_ n ⟨0, List.replicate n .nil, by omega, by simp, Nat.le_refl _, fun _ _ _ => rfl, ho, fun j _ _ h => by omega, rfl, htm, t1, rfl, t3, t5⟩
    generalize tm.getD 2 IV.undef = y2 at *
    clear htm t1 t3 t5
    rintro k ⟨tm, mk⟩ H' ⟨i, us, hi, hul, hnn, hk, ho', hs, rfl, htm, t1, t2, t3, t5⟩ L hN hJ
    rw [expl76 tm htm, t1, t2, t3, t5]
    have hcn := ho.2.1
    have hgb' := (hk bb (by omega) (Ne.symm hcb)).trans hgb
    have rb := read_get hgb'
    have hsl := ho'.sl true
    rw [hul] at hsl
    by_cases hin : i < n
    · have hgt' := (hk tb (by omega) (by omega)).trans hg
      have hcell := tab_read hgt' (40 + i) (by omega)
      have hse : Sl H' (vs[40 + i]'(by omega)) (t[40 + i]'(by omega)) := (hT.2.2 (40 + i) (by omega) (by omega)).same hnn fun hl => hk _ ((hT.2.2 (40 + i) (by omega) (by omega)).blk_lt hl) (by have := hv (40 + i) (by omega) (by omega) hl; omega)
      have hl1 := hl4 _ (List.getElem_mem (show 40 + i < t.length by omega))
      have eki : ((40 : Int) + (i : Int)).toNat = 40 + i := by omega
      have he : Sl (H'.new (.cells false 35 2 [])) (.sl H'.n 0 ([] : List Id).length 0 true) ([] : List Id) := ⟨rfl, Nat.le_refl _, fun h => absurd rfl h⟩
      obtain ⟨H2, u, e1, k2, s2, ub⟩ := append_e0 (e := 35) (hse.keep (Keep.new H' (.cells false 35 2 []))) z_Id 16 lo H'.n (by omega)
      have hn2 := k2.1
      rw [Heap.n_new] at hn2
      have hoo : Own H2 c 56 us.length us := by
        rw [hul]
        exact (ho'.keep (Keep.new _ _)).keep k2
      have hfull := hoo.full
      have hput := hoo.put z_SV i (by omega) u
      simp only [z_SV, cs_SV] at hfull hput
      have hfl : (flat us).length = n := by rw [flat_length, z_SV, hul, Nat.mul_one]
      have hle : (i * 1 + 1 ≤ (flat us).length) = True := by rw [hfl]; simp; omega
      have hidx := hsl.idx
      simp only [SV.sl_iv, SV.blk_sl, SV.off_sl] at hidx
      have hix : (i : Int) < (us.length : Int) := by omega
      have hcn' := ho'.2.1
      simp (disch := omega) only [BAS, ↓BPR, reduceIte, reduceCtorEq, seval, -List.reduceReplicate, fpOf, freeNext, opW, binI, ev1, Heap.write, setAll, unI, eqKs, eqK, fillI, B21, F21l9, F21l14, F21l19, rb, hcell, eki, ↓e1, ↓hidx, hfull, hle]
      rw [hul] at hput
      refine hN (k - 1) _ _ (by omega) ⟨i + 1, us.set i u, by omega, by simpa using hul, by rw [Heap.n_put]; omega, fun x h1 h2 => ?_, hput, fun j h1 h2 h3 => ?_, rfl, rfl, rfl, rfl, rfl, rfl⟩
      · rw [Heap.get_put, if_neg (Ne.symm h2), k2.2 x (by rw [Heap.n_new]; omega) (by rw [Heap.n_new]; omega), Heap.get_new, if_neg (by omega)]
        exact hk x h1 h2
      · rw [List.length_set] at h1
        by_cases hj : j = i
        · subst hj
          rw [List.getElem_set_self]
          refine ⟨s2.same (Nat.le_refl _) fun hl => ?_, fun hl => ?_⟩
          · have := ub hl
            rw [Heap.n_new] at this
            rw [Heap.get_put, if_neg (by omega)]
          · have := ub hl
            rw [Heap.n_new] at this
            omega
        · rw [List.getElem_set_ne (Ne.symm hj)]
          obtain ⟨q1, q2⟩ := hs j h1 h2 (by omega)
          refine ⟨((q1.keep (Keep.new _ _)).keep k2).same (Nat.le_refl _) fun hl => ?_, q2⟩
          have := q2 hl
          rw [Heap.get_put, if_neg (by omega)]
    · simp (disch := omega) only [BAS, ↓BPR, reduceIte, reduceCtorEq, seval, -List.reduceReplicate, fpOf, freeNext, opW, binI, ev1, Heap.write, setAll, unI, eqKs, eqK, fillI, B21, F21l9, F21l14, F21l19, rb, hJ]
      refine hQ _ _ hnn (fun x h1 h2 => hk x h1 (fun e => by have := h2 e; cases this)) ⟨us, ?_, by omega, fun _ => by rw [SV.blk_sl]; exact hc, fun j h1 h2 => ?_⟩ rfl rfl rfl rfl
      · exact hsl
      · have := hs j h2 (by omega) (by omega)
        simp only [List.getElem_take, List.getElem_drop, Nat.zero_add]
        exact this
end Go.Iso.Gen
end

section
namespace Go.Iso.Gen
open Go.Iso
set_option maxHeartbeats 4000000
set_option maxRecDepth 10000

theorem bedsT_sp {vs : List SV} {t : List (List Id)} {H : Heap} {lo : Nat} {Q : Out → Heap → Prop} (hT : Tab H vs t) (hl4 : ∀ l ∈ t, l.length ≤ 1000000) (hlo : lo ≤ H.n)
    (h : ∀ H' f b, Keep H.n H H' → Beds H.n H' f b (bedF t) (bedB t) → Q (.val (bv f b)) H') : W E0 lo (.call 21 [.agg (flat vs)]) H Q := by
  refine W.pure plain hlo ?_
  rw [c21]
  have hvl := hT.1
  have htl := hT.2.1
  have hfl : (flat vs).length = 80 := by rw [flat_length, z_SV]; omega
  have hall := flat_all vs
  simp (disch := omega) only [BAS, ↓BPR, reduceIte, reduceCtorEq, seval, -List.reduceReplicate, fpOf, freeNext, opW, binI, ev1, Heap.write, setAll, unI, eqKs, eqK, fillI, B21, hfl, hall]
  generalize hH_H1 : Heap.new _ _ = H1
  have hnH1 : H1.n = H.n + 3 := by rw [← hH_H1]; rfl
  have g0 := congrArg (fun h0 => Heap.get h0 (H.n)) hH_H1.symm
  simp (disch := omega) only [BAS, ↓BPR, reduceIte, reduceCtorEq, seval, -List.reduceReplicate, fpOf, freeNext, opW, binI, ev1, Heap.write, setAll, unI, eqKs, eqK, fillI] at g0
  have g1 := congrArg (fun h0 => Heap.get h0 (H.n + 1)) hH_H1.symm
  simp (disch := omega) only [BAS, ↓BPR, reduceIte, reduceCtorEq, seval, -List.reduceReplicate, fpOf, freeNext, opW, binI, ev1, Heap.write, setAll, unI, eqKs, eqK, fillI] at g1
  have g2 := congrArg (fun h0 => Heap.get h0 (H.n + 2)) hH_H1.symm
  simp (disch := omega) only [BAS, ↓BPR, reduceIte, reduceCtorEq, seval, -List.reduceReplicate, fpOf, freeNext, opW, binI, ev1, Heap.write, setAll, unI, eqKs, eqK, fillI] at g2
  have kH1 : Keep H.n H H1 := ⟨by omega, fun x hx _ => by
    have gx := congrArg (fun h0 => Heap.get h0 x) hH_H1.symm
    simp (disch := omega) only [BAS, ↓BPR, reduceIte, reduceCtorEq, seval, -List.reduceReplicate, fpOf, freeNext, opW, binI, ev1, Heap.write, setAll, unI, eqKs, eqK, fillI] at gx
    exact gx⟩
  clear hH_H1
  have hs1 := shortN_le (t.take 40)
  have hs2 := shortN_le (t.drop 40)
  rw [List.length_take] at hs1
  rw [List.length_drop] at hs2
  refine beds1_loop (tb := H.n) (bb := H.n + 2) (by omega) (hT.keep kH1) hl4 g0 (by omega) (by omega) g2 (fun i a b hne => by have := (hT.2.2 i a b).blk_lt hne; omega) (by omega) rfl rfl rfl rfl ?_
  intro H2 tm2 f b hn2 hk2 gb mf mb hne htm2 t1 t2 t3
  have t2' : tm2.getD 2 IV.undef = .ptr (H.n + 1) 0 := t2
  clear t2
  have kk2 : Keep H.n H H2 := ⟨by omega, fun x h1 h3 => (hk2 x (by omega) (by omega)).trans (kH1.2 x h1 h3)⟩
  have g0' := (hk2 H.n (by omega) (by omega)).trans g0
  have g1' := (hk2 (H.n + 1) (by omega) (by omega)).trans g1
  rw [expl76 tm2 htm2, t1, t2', t3]
  simp (disch := omega) only [BAS, ↓BPR, reduceIte, reduceCtorEq, seval, -List.reduceReplicate, fpOf, freeNext, opW, binI, ev1, Heap.write, setAll, unI, eqKs, eqK, fillI, B21]
  have eF : (t.drop 0).take (shortN (t.take 40)) = bedF t := by
    unfold bedF shortL
    rw [List.drop_zero, List.take_take, Nat.min_eq_left (by omega)]
  have eB : (t.drop 40).take (shortN (t.drop 40)) = bedB t := rfl
  have hbn : b ≠ .nil → b.blk < H2.n ∧ H1.n ≤ b.blk := fun hb => by
    rcases mb with ⟨_, rfl⟩ | ⟨_, c, rfl, h2, h3⟩
    · exact absurd rfl hb
    · exact ⟨h3.2.1, h2⟩
  have hfn : f ≠ .nil → f.blk < H2.n ∧ H1.n ≤ f.blk := fun hb => by
    rcases mf with ⟨_, rfl⟩ | ⟨_, c, rfl, h2, h3⟩
    · exact absurd rfl hb
    · exact ⟨h3.2.1, h2⟩
  refine beds2_loop (tb := H.n) (bb := H.n + 2) (n0 := H1.n) (n := shortN (t.take 40)) (g := f) (o := b) (by omega) (hT.keep kk2) (by omega) hl4 g0' (by omega) (by omega) (by omega) gb (fun i a b hne => by have := (hT.2.2 i a b).blk_lt hne; omega) mf rfl rfl rfl rfl ?_
  intro H3 tm3 hn3 hk3 s3 htm3 u1 u2 u3
  simp only [eF] at s3
  have u2' : tm3.getD 2 IV.undef = .ptr (H.n + 1) 0 := u2
  clear u2
  have hk3' : ∀ x, x < H1.n → H3.get x = H2.get x := fun x hx => hk3 x (by omega) fun e => Classical.byContradiction fun hne => by have := (hfn hne).2; omega
  have kk3 : Keep H.n H H3 := ⟨by omega, fun x h1 h3 => (hk3' x (by omega)).trans (kk2.2 x h1 h3)⟩
  have gb3 := (hk3' (H.n + 2) (by omega)).trans gb
  rw [expl76 tm3 htm3, u1, u2', u3]
  simp (disch := omega) only [BAS, ↓BPR, reduceIte, reduceCtorEq, seval, -List.reduceReplicate, fpOf, freeNext, opW, binI, ev1, Heap.write, setAll, unI, eqKs, eqK, fillI, B21]
  have mb3 : Made H1.n H3 (shortN (t.drop 40)) 0 b := by
    rcases mb with ⟨h1, rfl⟩ | ⟨h1, c, rfl, h2, h3⟩
    · exact .inl ⟨h1, rfl⟩
    · refine .inr ⟨h1, c, rfl, h2, h3.same hn3 (hk3 c h3.2.1 fun e => Classical.byContradiction fun hf => ?_)⟩
      exact hne f.blk c rfl rfl hf (by simp) e.symm
  refine beds3_loop (tb := H.n) (bb := H.n + 2) (n0 := H1.n) (n := shortN (t.drop 40)) (g := b) (o := f) (by omega) (hT.keep kk3) (by omega) hl4 ((hk3' H.n (by omega)).trans g0') (by omega) (by omega) (by omega) gb3 (fun i a b hne => by have := (hT.2.2 i a b).blk_lt hne; omega) mb3 rfl rfl rfl rfl ?_
  intro H4 tm4 hn4 hk4 s4 htm4 v1 v2 v3
  simp only [eB] at s4
  have v2' : tm4.getD 2 IV.undef = .ptr (H.n + 1) 0 := v2
  clear v2
  have hk4' : ∀ x, x < H1.n → H4.get x = H3.get x := fun x hx => hk4 x (by omega) fun e => Classical.byContradiction fun hne => by have := (hbn hne).2; omega
  have gb4 := (hk4' (H.n + 2) (by omega)).trans gb3
  have g14 := (hk4' (H.n + 1) (by omega)).trans ((hk3' (H.n + 1) (by omega)).trans g1')
  have r4 := read_get gb4
  rw [expl76 tm4 htm4, v1, v2', v3]
  simp (disch := omega) only [BAS, ↓BPR, reduceIte, reduceCtorEq, seval, -List.reduceReplicate, fpOf, freeNext, opW, binI, ev1, Heap.write, setAll, unI, eqKs, eqK, fillI, B21, r4, g14, bv]
  have s3' : Sl2F H1.n H4 f (bedF t) := by
    obtain ⟨us, a1, a2, a3, a4⟩ := s3
    refine ⟨us, a1.same hn4 fun hl => ?_, a2, a3, fun i c d => ⟨(a4 i c d).1.same hn4 fun hl => ?_, fun hl => Nat.le_trans hn2 ((a4 i c d).2 hl)⟩⟩
    · refine hk4 _ (a1.blk_lt hl) fun e => Classical.byContradiction fun hb => ?_
      refine hne f.blk b.blk rfl rfl (fun e => ?_) hb e
      subst e
      exact hl a1
    · refine hk4 _ ((a4 i c d).1.blk_lt hl) fun e => Classical.byContradiction fun hb => ?_
      have h1 := (a4 i c d).2 hl
      have h2 := (hbn hb).1
      omega
  have s4' : Sl2F H1.n H4 b (bedB t) := by
    obtain ⟨us, a1, a2, a3, a4⟩ := s4
    exact ⟨us, a1, a2, a3, fun i c d => ⟨(a4 i c d).1, fun hl => Nat.le_trans (Nat.le_trans hn2 hn3) ((a4 i c d).2 hl)⟩⟩
  refine fun hk => h _ f b hk ⟨(s3'.put (by omega)).lower (by omega), (s4'.put (by omega)).lower (by omega), ?_, ?_⟩
  · rcases mf with ⟨_, rfl⟩ | ⟨_, c, rfl, h2, h3⟩
    · trivial
    · exact ⟨rfl, rfl⟩
  · rcases mb with ⟨_, rfl⟩ | ⟨_, c, rfl, h2, h3⟩
    · trivial
    · exact ⟨rfl, rfl⟩
end Go.Iso.Gen
end

section
namespace Go.Iso.Gen
open Go.Iso
set_option maxHeartbeats 4000000
set_option maxRecDepth 10000

def nB (i : Nat) : Int := ((i % 80 / 40 : Nat) : Int)
def nA (i : Nat) : Int := ((1 + i % 40 : Nat) : Int)
/-- A table's needles hold what the beds say, and the beds are short. -/
def Fits (t fs bs : List (List Id)) : Prop := (∀ i, i < 80 → atL fs bs (nB i) (nA i) = t.getD i []) ∧ shortN fs = fs.length ∧ shortN bs = bs.length

end Go.Iso.Gen
end

section
namespace Go.Iso
section
variable {α : Type}
theorem getD_in {ls : List (List α)} {i : Nat} (hi : i < ls.length) : ls.getD i [] = ls[i] := by rw [List.getD_eq_getElem?_getD, List.getElem?_eq_getElem hi, Option.getD_some]
theorem getD_out {ls : List (List α)} {i : Nat} (hi : ls.length ≤ i) : ls.getD i [] = [] := by rw [List.getD_eq_getElem?_getD, List.getElem?_eq_none hi, Option.getD_none]
end
end Go.Iso
namespace Go.Iso.Gen
open Go.Iso
set_option maxHeartbeats 1000000

theorem shortL_len (ls : List (List Id)) : (shortL ls).length = shortN ls := by
  have := shortN_le ls
  unfold shortL
  rw [List.length_take]; omega
theorem shortL_flatten (ls : List (List Id)) : (shortL ls).flatten = ls.flatten := by
  have h : ls = shortL ls ++ ls.drop (shortN ls) := by unfold shortL; rw [List.take_append_drop]
  have h2 : (ls.drop (shortN ls)).flatten = [] := by
    rw [List.flatten_eq_nil_iff]
    intro l hl
    obtain ⟨i, hi, rfl⟩ := List.mem_iff_getElem.1 hl
    rw [List.getElem_drop]
    exact shortN_behind ls _ _ (by omega)
  have := congrArg List.flatten h
  rw [List.flatten_append, h2, List.append_nil] at this
  exact this.symm
/-- The index of a needle. -/
def ix (b a : Int) : Nat := (40 * b + a - 1).toNat
theorem needle_v (i : Nat) : needleE (nB i) (nA i) = 0 := by
  unfold needleE nB nA
  rw [if_pos (by omega)]
theorem bedF_len (t : List (List Id)) : (bedF t).length ≤ 40 := by
  unfold bedF
  have := shortN_le (t.take 40)
  rw [List.length_take] at this
  rw [shortL_len]; omega
theorem bedB_len {t : List (List Id)} (ht : t.length = 80) : (bedB t).length ≤ 40 := by
  unfold bedB
  have := shortN_le (t.drop 40)
  rw [List.length_drop] at this
  rw [shortL_len]; omega
theorem beds_flatten (t : List (List Id)) : (bedF t ++ bedB t).flatten = t.flatten := by
  unfold bedF bedB
  rw [List.flatten_append, shortL_flatten, shortL_flatten, ← List.flatten_append, List.take_append_drop]
theorem bedF_mem {t : List (List Id)} {l : List Id} (h : l ∈ bedF t) : l ∈ t := List.mem_of_mem_take (List.mem_of_mem_take h)
theorem bedB_mem {t : List (List Id)} {l : List Id} (h : l ∈ bedB t) : l ∈ t := List.mem_of_mem_drop (List.mem_of_mem_take h)
/-- A table is held by valid beds. -/
structure Valid (t : List (List Id)) : Prop where
  len : t.length = 80
  four : ∀ l ∈ t, l.length ≤ 4
  named : ∀ a ∈ t.flatten, namedB a = true
  nd : t.flatten.Nodup
theorem Valid.check {t : List (List Id)} (h : Valid t) : checkE (bedF t) (bedB t) = 0 := by
  have key : ∀ ls : List (List Id), ls.length ≤ 40 → (∀ l ∈ ls, l ∈ t) → fullB ls = false := fun ls h1 h2 => by
    unfold fullB
    rw [Bool.or_eq_false_iff, List.any_eq_false]
    exact ⟨by simp; omega, fun l hl => by have := h.four l (h2 l hl); simp; omega⟩
  unfold checkE
  rw [beds_flatten, if_neg, if_neg, if_pos h.nd]
  · rw [Bool.not_eq_false, List.all_eq_true]; exact h.named
  · rw [key _ (bedF_len t) fun l => bedF_mem, key _ (bedB_len h.len) fun l => bedB_mem]; simp
theorem idN_named {j : Nat} (h : j < 1000) : namedB (idN j) = true := by
  unfold namedB idN
  simp only [Bool.and_eq_true, decide_eq_true_eq]
  omega
theorem ofT_valid (xs : List Pt) : Valid (ofT xs).1 := by
  have hg := ofT_good xs
  have hn := ofT_n xs
  refine ⟨hg.len, hg.four, fun a ha => ?_, hg.nd⟩
  obtain ⟨j, hj, rfl⟩ := hg.ids a ha
  exact idN_named (by omega)
end Go.Iso.Gen
end
