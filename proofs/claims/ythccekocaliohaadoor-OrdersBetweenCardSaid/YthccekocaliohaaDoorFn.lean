/-
  what the functions of layer 3 give.
-/
import Derived.Test.YthccekocaliohaaDoorGen
set_option linter.unusedSimpArgs false
set_option linter.unusedVariables false

section
namespace Go.Iso.Gen
open Go.Iso
set_option maxHeartbeats 1000000
set_option maxRecDepth 10000

/-- The name of a loop. -/
structure Id where
  y : Int
  n : Int
  deriving DecidableEq, Inhabited
instance : Cell Id where
  z := 2
  cs a := [.int .u8 a.y, .int .i64 a.n]
  len _ := rfl
  one _ := rfl
  pos := by omega
theorem cs_Id (a : Id) : Cell.cs a = [.int .u8 a.y, .int .i64 a.n] := rfl
theorem z_Id : Cell.z Id = 2 := rfl

theorem pureQ {Q : Out → Heap → Prop} {H : Heap} {lo : Nat} {f : FuncId} {args : List IV} (v : IV) (hlo : lo ≤ H.n) (h : ∀ H', Keep H.n H H' → Q (.val v) H') (k : ∀ R : Out → Heap → Prop, (∀ H', R (.val v) H') → W E0 H.n (.call f args) H R) : W E0 lo (.call f args) H Q :=
  W.pure plain hlo (k _ fun H' hk => h H' hk)

def namedB (a : Id) : Bool := decide (a.y ≥ 1) && (decide (a.y ≤ 6) && (decide (a.n ≥ 0) && decide (a.n < 2048)))
theorem named_sp (a : Id) {H : Heap} {lo : Nat} {Q : Out → Heap → Prop} (hlo : lo ≤ H.n) (h : ∀ H', Keep H.n H H' → Q (.val (.bool (namedB a))) H') : W E0 lo (.call 42 [.agg (Cell.cs a)]) H Q := by
  refine pureQ _ hlo h fun R hR => ?_
  rw [c42]
  unfold namedB at hR
  cases e0 : decide (a.y ≥ 1) <;> cases e1 : decide (a.y ≤ 6) <;> cases e2 : decide (a.n ≥ 0) <;> cases e3 : decide (a.n < 2048) <;> simp only [e0, e1, e2, e3, Bool.and_true, Bool.and_false] at hR <;> simp (disch := omega) only [BAS, ↓BPR, reduceIte, reduceCtorEq, seval, -List.reduceReplicate, fpOf, freeNext, opW, binI, ev1, Heap.write, setAll, unI, eqKs, eqK, fillI, B42, e0, e1, e2, e3, cs_Id] <;> exact hR _

/-- Whether a needle is valid: the error of its check. -/
def needleE (bed at_ : Int) : Int := if (bed = 0 ∨ bed = 1) ∧ 1 ≤ at_ ∧ at_ ≤ 40 then 0 else 1
theorem ncheck_sp (bed at_ : Int) {H : Heap} {lo : Nat} {Q : Out → Heap → Prop} (hlo : lo ≤ H.n) (h : ∀ H', Keep H.n H H' → Q (.val (.int .i64 (needleE bed at_))) H') : W E0 lo (.call 47 [.agg [.int .u8 bed, .int .i64 at_]]) H Q := by
  refine pureQ _ hlo h fun R hR => ?_
  rw [c47]
  unfold needleE at hR
  by_cases h1 : (bed = 0 ∨ bed = 1) ∧ 1 ≤ at_ ∧ at_ ≤ 40
  · rw [if_pos h1] at hR
    rcases h1 with ⟨rfl | rfl, h1, h2⟩ <;> simp (disch := omega) only [BAS, ↓BPR, reduceIte, reduceCtorEq, seval, -List.reduceReplicate, fpOf, freeNext, opW, binI, ev1, Heap.write, setAll, unI, eqKs, eqK, fillI, B47] <;> exact hR _
  · rw [if_neg h1] at hR
    by_cases h2 : bed = 0
    · subst h2
      by_cases h3 : at_ < 1
      · simp (disch := omega) only [BAS, ↓BPR, reduceIte, reduceCtorEq, seval, -List.reduceReplicate, fpOf, freeNext, opW, binI, ev1, Heap.write, setAll, unI, eqKs, eqK, fillI, B47]; exact hR _
      · simp (disch := omega) only [BAS, ↓BPR, reduceIte, reduceCtorEq, seval, -List.reduceReplicate, fpOf, freeNext, opW, binI, ev1, Heap.write, setAll, unI, eqKs, eqK, fillI, B47]; exact hR _
    · by_cases h2 : bed = 1
      · subst h2
        by_cases h3 : at_ < 1
        · simp (disch := omega) only [BAS, ↓BPR, reduceIte, reduceCtorEq, seval, -List.reduceReplicate, fpOf, freeNext, opW, binI, ev1, Heap.write, setAll, unI, eqKs, eqK, fillI, B47]; exact hR _
        · simp (disch := omega) only [BAS, ↓BPR, reduceIte, reduceCtorEq, seval, -List.reduceReplicate, fpOf, freeNext, opW, binI, ev1, Heap.write, setAll, unI, eqKs, eqK, fillI, B47]; exact hR _
      · simp (disch := omega) only [BAS, ↓BPR, reduceIte, reduceCtorEq, seval, -List.reduceReplicate, fpOf, freeNext, opW, binI, ev1, Heap.write, setAll, unI, eqKs, eqK, fillI, B47]; exact hR _
end Go.Iso.Gen
end

section
namespace Go.Iso.Gen
open Go.Iso
set_option maxHeartbeats 1000000
set_option maxRecDepth 10000

end Go.Iso.Gen
end

section
namespace Go.Iso.Gen
open Go.Iso
set_option maxHeartbeats 1000000
set_option maxRecDepth 10000

end Go.Iso.Gen
end

section
namespace Go.Iso.Gen
open Go.Iso
set_option maxHeartbeats 1000000
set_option maxRecDepth 10000

/-- What a needle holds. -/
def atL (fs bs : List (List Id)) (bed at_ : Int) : List Id := if needleE bed at_ = 0 then ((if bed = 1 then bs else fs)[(at_ - 1).toNat]?).getD [] else []

/-- The beds' value. -/
def bv (f b : SV) : IV := .agg [f.iv, b.iv]

end Go.Iso.Gen
end

section
namespace Go.Iso.Gen
open Go.Iso
set_option maxHeartbeats 1000000
set_option maxRecDepth 10000

theorem expl29 (tm : List IV) (h : tm.length = 29) : tm = [tm.getD 0 IV.undef, tm.getD 1 IV.undef, tm.getD 2 IV.undef, tm.getD 3 IV.undef, tm.getD 4 IV.undef, tm.getD 5 IV.undef, tm.getD 6 IV.undef, tm.getD 7 IV.undef, tm.getD 8 IV.undef, tm.getD 9 IV.undef, tm.getD 10 IV.undef, tm.getD 11 IV.undef, tm.getD 12 IV.undef, tm.getD 13 IV.undef, tm.getD 14 IV.undef, tm.getD 15 IV.undef, tm.getD 16 IV.undef, tm.getD 17 IV.undef, tm.getD 18 IV.undef, tm.getD 19 IV.undef, tm.getD 20 IV.undef, tm.getD 21 IV.undef, tm.getD 22 IV.undef, tm.getD 23 IV.undef, tm.getD 24 IV.undef, tm.getD 25 IV.undef, tm.getD 26 IV.undef, tm.getD 27 IV.undef, tm.getD 28 IV.undef] := (expl tm 29 h).trans rfl
/-- The loop of needled over one bed, whatever is done at each stack. -/
theorem needled_loop {v : SV} {ls : List (List Id)} {yb l1 lo : Nat} {bed : Int} {rd : Option Nat} {mk : List Nat} {Q : Out → Heap → Prop} (P : Nat → Heap → Prop) (D : Heap → Prop) (hls : ls.length ≤ 1000000)
    (hP : ∀ i H', P i H' → Sl2 H' v ls ∧ H'.read yb 0 1 = some [.yield l1])
    (step : ∀ i w H', (hi : i < ls.length) → i < 40 → P i H' → Sl H' w ls[i] → ∀ K : Out → Heap → Prop, (∀ H'', P (i + 1) H'' → K (.val (.bool true)) H'') → (∀ H'', D H'' → K (.val (.bool false)) H'') → W E0 lo (.apply (.yield l1) [.agg [.int .u8 bed, .int .i64 ((i : Int) + 1)], w.iv]) H' K)
    {H : Heap} {tm : List IV} (h0 : P 0 H) (htm : tm.length = 29) (t2 : tm.getD 2 IV.undef = .ptr yb 0) (t3 : tm.getD 3 IV.undef = .int .u8 bed) (t11 : tm.getD 11 IV.undef = v.iv) (t12 : tm.getD 12 IV.undef = .int .i64 ls.length) (t13 : tm.getD 13 IV.undef = .int .i64 0)
    (hQ : ∀ H' tm', P (min ls.length 40) H' → Q (.ex (.jmp (.exit 2)) ⟨tm', mk⟩) H') (hD : ∀ H' tm', D H' → Q (.ex (.jmp .ret) ⟨tm', mk⟩) H') : W E0 lo (.code (.loop F54l10) rd ⟨tm, mk⟩) H Q := by
  refine W_inv (fun k fr H' => ∃ i, i + k = ls.length ∧ i ≤ 40 ∧ P i H' ∧ fr.marks = mk ∧ fr.tm.length = 29 ∧ fr.tm.getD 2 IV.undef = .ptr yb 0 ∧ fr.tm.getD 3 IV.undef = .int .u8 bed ∧ fr.tm.getD 11 IV.undef = v.iv ∧ fr.tm.getD 12 IV.undef = .int .i64 ls.length ∧ fr.tm.getD 13 IV.undef = .int .i64 i) ?_ ls.length ⟨0, by omega, by omega, h0, rfl, htm, t2, t3, t11, t12, t13⟩
  rintro k ⟨tm, mk⟩ H' ⟨i, hi, h40, hp, rfl, htm, t2, t3, t11, t12, t13⟩ L hN hJ
  rw [expl29 tm htm, t2, t3, t11, t12, t13]
  obtain ⟨hv, hy⟩ := hP i H' hp
  by_cases hil : i < ls.length
  · obtain ⟨w, r1, r2, r3⟩ := hv.elem i hil
    by_cases h4 : i < 40
    · simp (disch := omega) only [BAS, ↓BPR, reduceIte, reduceCtorEq, seval, -List.reduceReplicate, fpOf, freeNext, opW, binI, ev1, Heap.write, setAll, unI, eqKs, eqK, fillI, B54, F54l10, ↓hv.idx, r1, hy]
      rw [← W_yield0]
      refine step i w H' hil h4 hp r2 _ (fun H'' h'' => ?_) (fun H'' h'' => ?_)
      · simp (disch := omega) only [BAS, ↓BPR, reduceIte, reduceCtorEq, seval, -List.reduceReplicate, fpOf, freeNext, opW, binI, ev1, Heap.write, setAll, unI, eqKs, eqK, fillI, B54, F54l10]
        exact hN (k - 1) _ _ (by omega) ⟨i + 1, by omega, by omega, h'', rfl, rfl, rfl, rfl, rfl, rfl, rfl⟩
      · simp (disch := omega) only [BAS, ↓BPR, reduceIte, reduceCtorEq, seval, -List.reduceReplicate, fpOf, freeNext, opW, binI, ev1, Heap.write, setAll, unI, eqKs, eqK, fillI, B54, F54l10, hJ]
        exact hD _ _ h''
    · simp (disch := omega) only [BAS, ↓BPR, reduceIte, reduceCtorEq, seval, -List.reduceReplicate, fpOf, freeNext, opW, binI, ev1, Heap.write, setAll, unI, eqKs, eqK, fillI, B54, F54l10, ↓hv.idx, r1, hJ]
      refine hQ _ _ ?_
      rw [show min ls.length 40 = i from by omega]
      exact hp
  · simp (disch := omega) only [BAS, ↓BPR, reduceIte, reduceCtorEq, seval, -List.reduceReplicate, fpOf, freeNext, opW, binI, ev1, Heap.write, setAll, unI, eqKs, eqK, fillI, B54, F54l10, hJ]
    refine hQ _ _ ?_
    rw [show min ls.length 40 = i from by omega]
    exact hp

def lens (ls : List (List Id)) : Nat := (ls.map List.length).sum
theorem lens_take (ls : List (List Id)) (i : Nat) (h : i < ls.length) : lens (ls.take (i + 1)) = lens (ls.take i) + ls[i].length := by
  unfold lens
  rw [List.take_succ_eq_append_getElem h, List.map_append, List.sum_append]
  simp
theorem lens_le (ls : List (List Id)) (m : Nat) (hm : ∀ l ∈ ls, l.length ≤ m) (i : Nat) : lens (ls.take i) ≤ i * m := by
  induction i with
  | zero => simp [lens]
  | succ i ih =>
    by_cases h : i < ls.length
    · rw [lens_take ls i h, Nat.succ_mul]
      have := hm ls[i] (List.getElem_mem h)
      omega
    · rw [List.take_of_length_le (by omega)]
      rw [List.take_of_length_le (by omega)] at ih
      rw [Nat.succ_mul]; omega

end Go.Iso.Gen
end

section
namespace Go.Iso.Gen
open Go.Iso
set_option maxHeartbeats 1000000
set_option maxRecDepth 10000

/-- A visit of all stacks. P: what holds behind so many stacks of the front bed (0) or the back bed (1); D: what holds when the visit is broken off. -/
theorem needled_W {f b : SV} {fs bs : List (List Id)} {H : Heap} {lo l1 nb : Nat} {R : Out → Heap → Prop} (P : Nat → Nat → Heap → Prop) (D : Heap → Prop) (hlo : lo ≤ H.n) (hlf : fs.length ≤ 1000000) (hlb : bs.length ≤ 1000000)
    (hnb : nb < H.n) (hg : H.read nb 0 2 = some [f.iv, b.iv])
    (hPs : ∀ c i H' H'', P c i H' → H'.n ≤ H''.n → (∀ x, x < H.n → H''.get x = H'.get x) → P c i H'')
    (hDs : ∀ H' H'', D H' → H'.n ≤ H''.n → (∀ x, x < H.n → H''.get x = H'.get x) → D H'')
    (hPd : ∀ c i H', P c i H' → Sl2 H' f fs ∧ Sl2 H' b bs)
    (step0 : ∀ i w H', (hi : i < fs.length) → i < 40 → H.n ≤ H'.n → P 0 i H' → Sl H' w fs[i] → ∀ K : Out → Heap → Prop, (∀ H'', P 0 (i + 1) H'' → H'.n ≤ H''.n → (∀ x, H.n ≤ x → x < H'.n → H''.get x = H'.get x) → K (.val (.bool true)) H'') → (∀ H'', D H'' → H'.n ≤ H''.n → (∀ x, H.n ≤ x → x < H'.n → H''.get x = H'.get x) → K (.val (.bool false)) H'') → W E0 lo (.apply (.yield l1) [.agg [.int .u8 0, .int .i64 ((i : Int) + 1)], w.iv]) H' K)
    (step1 : ∀ i w H', (hi : i < bs.length) → i < 40 → H.n ≤ H'.n → P 1 i H' → Sl H' w bs[i] → ∀ K : Out → Heap → Prop, (∀ H'', P 1 (i + 1) H'' → H'.n ≤ H''.n → (∀ x, H.n ≤ x → x < H'.n → H''.get x = H'.get x) → K (.val (.bool true)) H'') → (∀ H'', D H'' → H'.n ≤ H''.n → (∀ x, H.n ≤ x → x < H'.n → H''.get x = H'.get x) → K (.val (.bool false)) H'') → W E0 lo (.apply (.yield l1) [.agg [.int .u8 1, .int .i64 ((i : Int) + 1)], w.iv]) H' K)
    (h0 : P 0 0 H) (h01 : ∀ H', P 0 (min fs.length 40) H' → P 1 0 H')
    (hQ : ∀ H', P 1 (min bs.length 40) H' → H.n ≤ H'.n → R (.val (.tuple [])) H') (hD : ∀ H', D H' → H.n ≤ H'.n → R (.val (.tuple [])) H') : W E0 lo (.call 54 [.yield l1, .ptr nb 0]) H R := by
  rw [c54]
  obtain ⟨hf, hb⟩ := hPd 0 0 H h0
  simp (disch := omega) only [BAS, ↓BPR, reduceIte, reduceCtorEq, seval, -List.reduceReplicate, fpOf, freeNext, opW, binI, ev1, Heap.write, setAll, unI, eqKs, eqK, fillI, B54, B41, B52, c41, c52, ↓hf.ln, ↓hb.ln, hg]
  generalize hH1 : Heap.put _ _ _ = H1
  have hn1 : H1.n = H.n + 4 := by rw [← hH1]; rfl
  have g0 := congrArg (fun h0 => Heap.get h0 (H.n)) hH1.symm
  simp (disch := omega) only [BAS, ↓BPR, reduceIte, reduceCtorEq, seval, -List.reduceReplicate, fpOf, freeNext, opW, binI, ev1, Heap.write, setAll, unI, eqKs, eqK, fillI] at g0
  have g1 := congrArg (fun h0 => Heap.get h0 (H.n + 1)) hH1.symm
  simp (disch := omega) only [BAS, ↓BPR, reduceIte, reduceCtorEq, seval, -List.reduceReplicate, fpOf, freeNext, opW, binI, ev1, Heap.write, setAll, unI, eqKs, eqK, fillI] at g1
  have g2 := congrArg (fun h0 => Heap.get h0 (H.n + 2)) hH1.symm
  simp (disch := omega) only [BAS, ↓BPR, reduceIte, reduceCtorEq, seval, -List.reduceReplicate, fpOf, freeNext, opW, binI, ev1, Heap.write, setAll, unI, eqKs, eqK, fillI] at g2
  have g3 := congrArg (fun h0 => Heap.get h0 (H.n + 3)) hH1.symm
  simp (disch := omega) only [BAS, ↓BPR, reduceIte, reduceCtorEq, seval, -List.reduceReplicate, fpOf, freeNext, opW, binI, ev1, Heap.write, setAll, unI, eqKs, eqK, fillI] at g3
  have k1 : ∀ x, x < H.n → H1.get x = H.get x := fun x hx => by
    have gx := congrArg (fun h0 => Heap.get h0 x) hH1.symm
    simp (disch := omega) only [BAS, ↓BPR, reduceIte, reduceCtorEq, seval, -List.reduceReplicate, fpOf, freeNext, opW, binI, ev1, Heap.write, setAll, unI, eqKs, eqK, fillI] at gx
    exact gx
  clear hH1
  refine needled_loop (yb := H.n) (l1 := l1) (fun i H' => P 0 i H' ∧ H1.n ≤ H'.n ∧ ∀ x, H.n ≤ x → x < H1.n → H'.get x = H1.get x) (fun H' => D H' ∧ H1.n ≤ H'.n ∧ ∀ x, H.n ≤ x → x < H1.n → H'.get x = H1.get x) hlf (fun i H' hp => ⟨(hPd 0 i H' hp.1).1, by rw [read_get ((hp.2.2 H.n (by omega) (by omega)).trans g0)]; rfl⟩) ?_ ⟨hPs 0 0 H H1 h0 (by omega) k1, Nat.le_refl _, fun _ _ _ => rfl⟩ rfl rfl rfl rfl rfl rfl ?_ ?_
  · intro i w H' hi h4 hp hw K hK hK'
    refine step0 i w H' hi h4 (by omega) hp.1 hw K (fun H'' a1 a2 a3 => hK H'' ⟨a1, by omega, fun x b1 b2 => (a3 x b1 (by omega)).trans (hp.2.2 x b1 b2)⟩) (fun H'' a1 a2 a3 => hK' H'' ⟨a1, by omega, fun x b1 b2 => (a3 x b1 (by omega)).trans (hp.2.2 x b1 b2)⟩)
  · rintro H2 tm' ⟨hp2, hn2, hk2⟩
    have f0 := (hk2 _ (by omega) (by omega)).trans g0
    have f1 := (hk2 _ (by omega) (by omega)).trans g1
    have f2 := (hk2 _ (by omega) (by omega)).trans g2
    have f3 := (hk2 _ (by omega) (by omega)).trans g3
    have r1 := read_get f1
    simp (disch := omega) only [BAS, ↓BPR, reduceIte, reduceCtorEq, seval, -List.reduceReplicate, fpOf, freeNext, opW, binI, ev1, Heap.write, setAll, unI, eqKs, eqK, fillI, B54, B41, B52, f3, r1, ↓hf.ln, ↓hb.ln]
    generalize hH3 : Heap.put _ _ _ = H3
    have hn3 : H3.n = H2.n := by rw [← hH3]; rfl
    have k3 : ∀ x, x ≠ H.n + 3 → H3.get x = H2.get x := fun x hx => by
      rw [← hH3, Heap.get_put, if_neg (Ne.symm hx), Heap.get_put, if_neg (Ne.symm hx)]
    have e3 := congrArg (fun h0 => Heap.get h0 (H.n + 3)) hH3.symm
    simp (disch := omega) only [BAS, ↓BPR, reduceIte, reduceCtorEq, seval, -List.reduceReplicate, fpOf, freeNext, opW, binI, ev1, Heap.write, setAll, unI, eqKs, eqK, fillI] at e3
    have e0 := (k3 H.n (by omega)).trans f0
    have e1 := (k3 (H.n + 1) (by omega)).trans f1
    have e2 := (k3 (H.n + 2) (by omega)).trans f2
    clear hH3 f0 f1 f2 f3 r1
    refine needled_loop (yb := H.n) (l1 := l1) (fun i H' => P 1 i H' ∧ H3.n ≤ H'.n ∧ ∀ x, H.n ≤ x → x < H3.n → H'.get x = H3.get x) (fun H' => D H' ∧ H3.n ≤ H'.n ∧ ∀ x, H.n ≤ x → x < H3.n → H'.get x = H3.get x) hlb (fun i H' hp => ⟨(hPd 1 i H' hp.1).2, by rw [read_get ((hp.2.2 H.n (by omega) (by omega)).trans e0)]; rfl⟩) ?_ ⟨hPs 1 0 H2 H3 (h01 H2 hp2) (by omega) (fun x hx => k3 x (by omega)), Nat.le_refl _, fun _ _ _ => rfl⟩ rfl rfl rfl rfl rfl rfl ?_ ?_
    · intro i w H' hi h4 hp hw K hK hK'
      refine step1 i w H' hi h4 (by omega) hp.1 hw K (fun H'' a1 a2 a3 => hK H'' ⟨a1, by omega, fun x b1 b2 => (a3 x b1 (by omega)).trans (hp.2.2 x b1 b2)⟩) (fun H'' a1 a2 a3 => hK' H'' ⟨a1, by omega, fun x b1 b2 => (a3 x b1 (by omega)).trans (hp.2.2 x b1 b2)⟩)
    · rintro H4 tm4 ⟨hp4, hn4, hk4⟩
      have f2 := (hk4 _ (by omega) (by omega)).trans e2
      have f3 := (hk4 _ (by omega) (by omega)).trans e3
      simp (disch := omega) only [BAS, ↓BPR, reduceIte, reduceCtorEq, seval, -List.reduceReplicate, fpOf, freeNext, opW, binI, ev1, Heap.write, setAll, unI, eqKs, eqK, fillI, B54, B41, B52, f2, f3]
      refine hQ _ (hPs 1 _ H4 _ hp4 (Nat.le_refl _) fun x hx => ?_) (by simp only [Heap.n_put]; omega)
      simp (disch := omega) only [BAS, ↓BPR, reduceIte, reduceCtorEq, seval, -List.reduceReplicate, fpOf, freeNext, opW, binI, ev1, Heap.write, setAll, unI, eqKs, eqK, fillI]
    · rintro H4 tm4 ⟨hp4, hn4, hk4⟩
      have f2 := (hk4 _ (by omega) (by omega)).trans e2
      have f3 := (hk4 _ (by omega) (by omega)).trans e3
      simp (disch := omega) only [BAS, ↓BPR, reduceIte, reduceCtorEq, seval, -List.reduceReplicate, fpOf, freeNext, opW, binI, ev1, Heap.write, setAll, unI, eqKs, eqK, fillI, B54, B41, B52, f2, f3]
      refine hD _ (hDs H4 _ hp4 (Nat.le_refl _) fun x hx => ?_) (by simp only [Heap.n_put]; omega)
      simp (disch := omega) only [BAS, ↓BPR, reduceIte, reduceCtorEq, seval, -List.reduceReplicate, fpOf, freeNext, opW, binI, ev1, Heap.write, setAll, unI, eqKs, eqK, fillI]
  · rintro H2 tm' ⟨hp2, hn2, hk2⟩
    have f2 := (hk2 _ (by omega) (by omega)).trans g2
    have f3 := (hk2 _ (by omega) (by omega)).trans g3
    simp (disch := omega) only [BAS, ↓BPR, reduceIte, reduceCtorEq, seval, -List.reduceReplicate, fpOf, freeNext, opW, binI, ev1, Heap.write, setAll, unI, eqKs, eqK, fillI, B54, B41, B52, f2, f3]
    refine hD _ (hDs H2 _ hp2 (Nat.le_refl _) fun x hx => ?_) (by simp only [Heap.n_put]; omega)
    simp (disch := omega) only [BAS, ↓BPR, reduceIte, reduceCtorEq, seval, -List.reduceReplicate, fpOf, freeNext, opW, binI, ev1, Heap.write, setAll, unI, eqKs, eqK, fillI]
end Go.Iso.Gen
end

section
namespace Go.Iso.Gen
open Go.Iso
set_option maxHeartbeats 1000000
set_option maxRecDepth 10000

theorem count_sp {f b : SV} {fs bs : List (List Id)} {H : Heap} {lo : Nat} {Q : Out → Heap → Prop} (hf : Sl2 H f fs) (hb : Sl2 H b bs) (hlf : fs.length ≤ 1000000) (hlb : bs.length ≤ 1000000) (hl : ∀ l ∈ fs, l.length ≤ 1000000) (hl' : ∀ l ∈ bs, l.length ≤ 1000000) (hlo : lo ≤ H.n)
    (h : ∀ H', Keep H.n H H' → Q (.val (.int .i64 (lens (fs.take 40) + lens (bs.take 40) : Nat))) H') : W E0 lo (.call 23 [bv f b]) H Q := by
  refine pureQ _ hlo h fun R hR => ?_
  rw [c23]
  simp (disch := omega) only [BAS, ↓BPR, reduceIte, reduceCtorEq, seval, -List.reduceReplicate, fpOf, freeNext, opW, binI, ev1, Heap.write, setAll, unI, eqKs, eqK, fillI, B23, B46, bv, c46]
  generalize hH1 : Heap.new _ _ = H1
  have hn1 : H1.n = H.n + 5 := by rw [← hH1]; rfl
  have g1 := congrArg (fun h0 => Heap.get h0 (H.n + 1)) hH1.symm
  simp (disch := omega) only [BAS, ↓BPR, reduceIte, reduceCtorEq, seval, -List.reduceReplicate, fpOf, freeNext, opW, binI, ev1, Heap.write, setAll, unI, eqKs, eqK, fillI] at g1
  have g2 := congrArg (fun h0 => Heap.get h0 (H.n + 2)) hH1.symm
  simp (disch := omega) only [BAS, ↓BPR, reduceIte, reduceCtorEq, seval, -List.reduceReplicate, fpOf, freeNext, opW, binI, ev1, Heap.write, setAll, unI, eqKs, eqK, fillI] at g2
  have g3 := congrArg (fun h0 => Heap.get h0 (H.n + 3)) hH1.symm
  simp (disch := omega) only [BAS, ↓BPR, reduceIte, reduceCtorEq, seval, -List.reduceReplicate, fpOf, freeNext, opW, binI, ev1, Heap.write, setAll, unI, eqKs, eqK, fillI] at g3
  have g4 := congrArg (fun h0 => Heap.get h0 (H.n + 4)) hH1.symm
  simp (disch := omega) only [BAS, ↓BPR, reduceIte, reduceCtorEq, seval, -List.reduceReplicate, fpOf, freeNext, opW, binI, ev1, Heap.write, setAll, unI, eqKs, eqK, fillI] at g4
  have k1 : Keep H.n H H1 := ⟨by omega, fun x hx _ => by
    have gx := congrArg (fun h0 => Heap.get h0 x) hH1.symm
    simp (disch := omega) only [BAS, ↓BPR, reduceIte, reduceCtorEq, seval, -List.reduceReplicate, fpOf, freeNext, opW, binI, ev1, Heap.write, setAll, unI, eqKs, eqK, fillI] at gx
    exact gx⟩
  clear hH1
  have r2 := read_get g2
  have hle := lens_le fs 1000000 hl
  have hle' := lens_le bs 1000000 hl'
  have hPd : ∀ H', H1.n ≤ H'.n → (∀ x, x < H1.n → x ≠ H.n + 1 → H'.get x = H1.get x) → Keep H.n H H' := fun H' a1 a2 => ⟨by omega, fun x h1 _ => (a2 x (by omega) (by omega)).trans (k1.2 x h1 h1)⟩
  have hstep : ∀ (bed : Int) (i : Nat) (w : SV) (l : List Id) (s : Nat) (H' : Heap), s ≤ 80000000 → l.length ≤ 1000000 → H1.n ≤ H'.n → (∀ x, x < H1.n → x ≠ H.n + 1 → H'.get x = H1.get x) → H'.get (H.n + 1) = some (.cells false 3 1 [.int .i64 s]) → Sl H' w l → ∀ K : Out → Heap → Prop, (∀ H'', (∀ x, x < H1.n → x ≠ H.n + 1 → H''.get x = H1.get x) → H''.get (H.n + 1) = some (.cells false 3 1 [.int .i64 ((s + l.length : Nat) : Int)]) → H'.n ≤ H''.n → (∀ x, H1.n ≤ x → x < H'.n → H''.get x = H'.get x) → K (.val (.bool true)) H'') → W E0 H.n (.apply (.yield (H.n + 4)) [.agg [.int .u8 bed, .int .i64 ((i : Int) + 1)], w.iv]) H' K := by
    intro bed i w l s H' hs hl hn hk hg hw K hK
    have e4 := (hk (H.n + 4) (by omega) (by omega)).trans g4
    have er := read_get hg
    simp (disch := omega) only [BAS, ↓BPR, reduceIte, reduceCtorEq, seval, -List.reduceReplicate, fpOf, freeNext, opW, binI, ev1, Heap.write, setAll, unI, eqKs, eqK, fillI, B23, e4, er, hg, ↓hw.ln]
    refine hK _ (fun x h1 h2 => ?_) ?_ (Nat.le_refl _) (fun x h1 h2 => ?_)
    · by_cases hx : x = H.n + 4
      · subst hx; simp (disch := omega) only [BAS, ↓BPR, reduceIte, reduceCtorEq, seval, -List.reduceReplicate, fpOf, freeNext, opW, binI, ev1, Heap.write, setAll, unI, eqKs, eqK, fillI, g4]
      · rw [Heap.get_put, if_neg (Ne.symm hx), Heap.get_put, if_neg (Ne.symm h2), Heap.get_put, if_neg (Ne.symm hx)]
        exact hk x h1 h2
    · simp (disch := omega) only [BAS, ↓BPR, reduceIte, reduceCtorEq, seval, -List.reduceReplicate, fpOf, freeNext, opW, binI, ev1, Heap.write, setAll, unI, eqKs, eqK, fillI, Int.natCast_add]
    · simp (disch := omega) only [BAS, ↓BPR, reduceIte, reduceCtorEq, seval, -List.reduceReplicate, fpOf, freeNext, opW, binI, ev1, Heap.write, setAll, unI, eqKs, eqK, fillI]
  refine needled_W (f := f) (b := b) (fs := fs) (bs := bs) (fun c i H' => H1.n ≤ H'.n ∧ (∀ x, x < H1.n → x ≠ H.n + 1 → H'.get x = H1.get x) ∧ H'.get (H.n + 1) = some (.cells false 3 1 [.int .i64 ((if c = 0 then lens (fs.take i) else lens (fs.take 40) + lens (bs.take i) : Nat) : Int)])) (fun _ => False) (by omega) hlf hlb (by omega) (by rw [r2]; rfl) ?_ ?_ ?_ ?_ ?_ ?_ ?_ ?_ ?_
  · rintro c i H' H'' ⟨a1, a2, a3⟩ b1 b2
    exact ⟨by omega, fun x h1 h2 => (b2 x h1).trans (a2 x h1 h2), (b2 _ (by omega)).trans a3⟩
  · exact fun _ _ h _ _ => h
  · rintro c i H' ⟨a1, a2, a3⟩
    exact ⟨hf.keep (hPd H' a1 a2), hb.keep (hPd H' a1 a2)⟩
  · rintro i w H' hi h4 hn ⟨a1, a2, a3⟩ hw K hK hK'
    rw [if_pos rfl] at a3
    have := hle i
    refine hstep 0 i w fs[i] _ H' (by omega) (hl _ (List.getElem_mem _)) a1 a2 a3 hw K fun H'' c1 c2 c3 c4 => hK H'' ⟨by omega, c1, ?_⟩ c3 c4
    rw [if_pos rfl, lens_take fs i hi]; exact c2
  · rintro i w H' hi h4 hn ⟨a1, a2, a3⟩ hw K hK hK'
    rw [if_neg (by omega)] at a3
    have := hle 40
    have := hle' i
    refine hstep 1 i w bs[i] _ H' (by omega) (hl' _ (List.getElem_mem _)) a1 a2 a3 hw K fun H'' c1 c2 c3 c4 => hK H'' ⟨by omega, c1, ?_⟩ c3 c4
    rw [if_neg (by omega), lens_take bs i hi, ← Nat.add_assoc]; exact c2
  · exact ⟨Nat.le_refl _, fun _ _ _ => rfl, g1⟩
  · rintro H' ⟨a1, a2, a3⟩
    refine ⟨a1, a2, ?_⟩
    rw [if_pos rfl] at a3
    rw [if_neg (by omega), List.take_zero, a3]
    by_cases h4 : fs.length ≤ 40
    · rw [show min fs.length 40 = fs.length from by omega, List.take_length, List.take_of_length_le h4]; rfl
    · rw [show min fs.length 40 = 40 from by omega]; rfl
  · rintro H' ⟨a1, a2, a3⟩ hn
    rw [if_neg (by omega)] at a3
    have e3 := (a2 (H.n + 3) (by omega) (by omega)).trans g3
    have e4 := (a2 (H.n + 4) (by omega) (by omega)).trans g4
    have er := read_get a3
    have hb4 : bs.take (min bs.length 40) = bs.take 40 := by
      by_cases h4 : bs.length ≤ 40
      · rw [show min bs.length 40 = bs.length from by omega, List.take_length, List.take_of_length_le h4]
      · rw [show min bs.length 40 = 40 from by omega]
    simp (disch := omega) only [BAS, ↓BPR, reduceIte, reduceCtorEq, seval, -List.reduceReplicate, fpOf, freeNext, opW, binI, ev1, Heap.write, setAll, unI, eqKs, eqK, fillI, B23, e3, e4, er, hb4]
    exact hR _
  · exact fun _ h => h.elim
end Go.Iso.Gen
end

section
namespace Go.Iso.Gen
open Go.Iso
set_option maxHeartbeats 1000000
set_option maxRecDepth 10000

end Go.Iso.Gen
end

section
namespace Go.Iso.Gen
open Go.Iso
set_option maxHeartbeats 1000000
set_option maxRecDepth 10000

/-- The entries of a set of names. -/
def mapEs : List Id → Nat → List (IV × IV × Nat)
  | [], _ => []
  | k :: ks, s => (.agg (Cell.cs k), .bool true, s) :: mapEs ks (s + 1)
def idKy : Bool × List Pk := (true, [.int, .int])
theorem keyEq_id (a b : Id) : keyEq idKy (.agg (Cell.cs a)) (.agg (Cell.cs b)) = some (decide (a = b)) := by
  simp only [keyEq, idKy, shapeOk, Bool.and_self, if_true, IV.cells, cs_Id, eqKs, eqK]
  cases a with | mk y n => cases b with | mk y' n' =>
  congr 1
  by_cases h1 : y = y' <;> by_cases h2 : n = n' <;> simp [h1, h2]
theorem keyOk_id (a : Id) : keyOk idKy (.agg (Cell.cs a)) = true := rfl
theorem find_es (a : Id) : ∀ (ks : List Id) (s i : Nat), ∃ r, findI idKy (.agg (Cell.cs a)) (mapEs ks s) i = some r ∧ ((a ∈ ks ∧ ∃ j, r = some (i + j, .bool true) ∧ setVal (.agg (Cell.cs a)) (.bool true) (mapEs ks s) j = mapEs ks s) ∨ (a ∉ ks ∧ r = none)) := by
  intro ks
  induction ks with
  | nil => intro s i; exact ⟨none, rfl, .inr ⟨by simp, rfl⟩⟩
  | cons k ks ih =>
    intro s i
    by_cases h : a = k
    · subst h
      refine ⟨some (i, .bool true), ?_, .inl ⟨by simp, 0, rfl, rfl⟩⟩
      simp only [mapEs, findI, keyEq_id, decide_true]
    · obtain ⟨r, h1, h2⟩ := ih (s + 1) (i + 1)
      refine ⟨r, ?_, ?_⟩
      · simp only [mapEs, findI, keyEq_id, decide_eq_false h]; exact h1
      · rcases h2 with ⟨h2, j, h3, h4⟩ | ⟨h2, h3⟩
        · refine .inl ⟨by simp [h2], j + 1, by rw [h3]; congr 2; omega, ?_⟩
          simp only [mapEs, setVal, h4]
        · exact .inr ⟨by simp [h, h2], h3⟩
theorem mapEs_append : ∀ (ks : List Id) (a : Id) (s : Nat), mapEs (ks ++ [a]) s = mapEs ks s ++ [(.agg (Cell.cs a), .bool true, s + ks.length)]
  | [], a, s => rfl
  | k :: ks, a, s => by
    rw [List.cons_append, mapEs, mapEs_append ks a (s + 1), mapEs, List.cons_append, List.length_cons, show s + 1 + ks.length = s + (ks.length + 1) from by omega]

def MapIds (H : Heap) (mb : Nat) (ks : List Id) : Prop := H.get mb = some (.map (mapEs ks 0) ks.length)
theorem MapIds.look {H : Heap} {mb : Nat} {ks : List Id} (h : MapIds H mb ks) (a : Id) (t lo : Nat) : ev1 (.lookup t (true, [.int, .int]) (.bool false) false) [.map mb, .agg [.int .u8 a.y, .int .i64 a.n]] lo H = some (.bool (decide (a ∈ ks)), H) := by
  have h : H.get mb = some (.map (mapEs ks 0) ks.length) := h
  obtain ⟨r, h1, h2⟩ := find_es a ks 0 0
  have h1' : findI (true, [.int, .int]) (.agg [.int .u8 a.y, .int .i64 a.n]) (mapEs ks 0) 0 = some r := h1
  have hk : keyOk (true, [.int, .int]) (.agg [.int .u8 a.y, .int .i64 a.n]) = true := keyOk_id a
  simp only [ev1, mapAt, h, Option.map_some, hk, if_true, h1']
  rcases h2 with ⟨h2, j, rfl, _⟩ | ⟨h2, rfl⟩
  · rw [decide_eq_true h2]; rfl
  · rw [decide_eq_false h2]; rfl
theorem MapIds.upd {H : Heap} {mb : Nat} {ks : List Id} (h : MapIds H mb ks) (a : Id) (lo : Nat) (hlo : lo ≤ mb) : ∃ ob, ev1 (.mapUpd (true, [.int, .int])) [.map mb, .agg [.int .u8 a.y, .int .i64 a.n], .bool true] lo H = some (IV.undef, H.put mb ob) ∧ ob = .map (mapEs (if a ∈ ks then ks else ks ++ [a]) 0) (if a ∈ ks then ks else ks ++ [a]).length := by
  have h : H.get mb = some (.map (mapEs ks 0) ks.length) := h
  obtain ⟨r, h1, h2⟩ := find_es a ks 0 0
  have h1' : findI (true, [.int, .int]) (.agg [.int .u8 a.y, .int .i64 a.n]) (mapEs ks 0) 0 = some r := h1
  have hk : keyOk (true, [.int, .int]) (.agg [.int .u8 a.y, .int .i64 a.n]) = true := keyOk_id a
  simp only [ev1, mapAt, h, hk, h1', hlo, and_self, if_true]
  rcases h2 with ⟨h2, j, rfl, h3⟩ | ⟨h2, rfl⟩
  · rw [if_pos h2]
    refine ⟨_, rfl, ?_⟩
    rw [Nat.zero_add]
    exact congrArg (fun x => IObj.map x ks.length) h3
  · rw [if_neg h2]
    refine ⟨_, rfl, ?_⟩
    rw [mapEs_append, Nat.zero_add, List.length_append]
    rfl
end Go.Iso.Gen
end

section
namespace Go.Iso.Gen
open Go.Iso
set_option maxHeartbeats 1000000
set_option maxRecDepth 10000

theorem expl84 (tm : List IV) (h : tm.length = 84) : tm = [tm.getD 0 IV.undef, tm.getD 1 IV.undef, tm.getD 2 IV.undef, tm.getD 3 IV.undef, tm.getD 4 IV.undef, tm.getD 5 IV.undef, tm.getD 6 IV.undef, tm.getD 7 IV.undef, tm.getD 8 IV.undef, tm.getD 9 IV.undef, tm.getD 10 IV.undef, tm.getD 11 IV.undef, tm.getD 12 IV.undef, tm.getD 13 IV.undef, tm.getD 14 IV.undef, tm.getD 15 IV.undef, tm.getD 16 IV.undef, tm.getD 17 IV.undef, tm.getD 18 IV.undef, tm.getD 19 IV.undef, tm.getD 20 IV.undef, tm.getD 21 IV.undef, tm.getD 22 IV.undef, tm.getD 23 IV.undef, tm.getD 24 IV.undef, tm.getD 25 IV.undef, tm.getD 26 IV.undef, tm.getD 27 IV.undef, tm.getD 28 IV.undef, tm.getD 29 IV.undef, tm.getD 30 IV.undef, tm.getD 31 IV.undef, tm.getD 32 IV.undef, tm.getD 33 IV.undef, tm.getD 34 IV.undef, tm.getD 35 IV.undef, tm.getD 36 IV.undef, tm.getD 37 IV.undef, tm.getD 38 IV.undef, tm.getD 39 IV.undef, tm.getD 40 IV.undef, tm.getD 41 IV.undef, tm.getD 42 IV.undef, tm.getD 43 IV.undef, tm.getD 44 IV.undef, tm.getD 45 IV.undef, tm.getD 46 IV.undef, tm.getD 47 IV.undef, tm.getD 48 IV.undef, tm.getD 49 IV.undef, tm.getD 50 IV.undef, tm.getD 51 IV.undef, tm.getD 52 IV.undef, tm.getD 53 IV.undef, tm.getD 54 IV.undef, tm.getD 55 IV.undef, tm.getD 56 IV.undef, tm.getD 57 IV.undef, tm.getD 58 IV.undef, tm.getD 59 IV.undef, tm.getD 60 IV.undef, tm.getD 61 IV.undef, tm.getD 62 IV.undef, tm.getD 63 IV.undef, tm.getD 64 IV.undef, tm.getD 65 IV.undef, tm.getD 66 IV.undef, tm.getD 67 IV.undef, tm.getD 68 IV.undef, tm.getD 69 IV.undef, tm.getD 70 IV.undef, tm.getD 71 IV.undef, tm.getD 72 IV.undef, tm.getD 73 IV.undef, tm.getD 74 IV.undef, tm.getD 75 IV.undef, tm.getD 76 IV.undef, tm.getD 77 IV.undef, tm.getD 78 IV.undef, tm.getD 79 IV.undef, tm.getD 80 IV.undef, tm.getD 81 IV.undef, tm.getD 82 IV.undef, tm.getD 83 IV.undef] := (expl tm 84 h).trans rfl
theorem check1_loop {v : SV} {ls : List (List Id)} {rb lo : Nat} {x : IV} {H : Heap} {Q : Out → Heap → Prop} {rd : Option Nat} {mk : List Nat} {tm : List IV} (hv : Sl2 H v ls) (hl : ls.length ≤ 1000000) (hll : ∀ l ∈ ls, l.length ≤ 1000000)
    (hg : H.get rb = some (.cells false 29 1 [x])) (hlo : lo ≤ rb) (htm : tm.length = 84) (t2 : tm.getD 2 IV.undef = .ptr rb 0) (t27 : tm.getD 27 IV.undef = v.iv) (t28 : tm.getD 28 IV.undef = .int .i64 ls.length) (t29 : tm.getD 29 IV.undef = .int .i64 0)
    (hQ : (∀ l ∈ ls, l.length ≤ 4) → ∀ tm', Q (.ex (.jmp (.exit 2)) ⟨tm', mk⟩) H) (hR : (∃ l ∈ ls, l.length > 4) → ∀ tm', Q (.ex (.jmp .ret) ⟨tm', mk⟩) (H.put rb (.cells false 29 1 [.int .i64 9]))) : W E0 lo (.code (.loop F15l11) rd ⟨tm, mk⟩) H Q := by
  refine W_inv (fun k fr H' => ∃ i, i + k = ls.length ∧ (∀ j (h : j < ls.length), j < i → ls[j].length ≤ 4) ∧ H' = H ∧ fr.marks = mk ∧ fr.tm.length = 84 ∧ fr.tm.getD 2 IV.undef = .ptr rb 0 ∧ fr.tm.getD 27 IV.undef = v.iv ∧ fr.tm.getD 28 IV.undef = .int .i64 ls.length ∧ fr.tm.getD 29 IV.undef = .int .i64 i) ?_ ls.length ⟨0, by omega, fun j _ h => by omega, rfl, rfl, htm, t2, t27, t28, t29⟩
  rintro k ⟨tm, mk⟩ H' ⟨i, hi, hp, rfl, rfl, htm, t2, t27, t28, t29⟩ L hN hJ
  rw [expl84 tm htm, t2, t27, t28, t29]
  by_cases hil : i < ls.length
  · obtain ⟨w, r1, r2, r3⟩ := hv.elem i hil
    have hli := hll _ (List.getElem_mem hil)
    by_cases h4 : ls[i].length > 4
    · simp (disch := omega) only [BAS, ↓BPR, reduceIte, reduceCtorEq, seval, -List.reduceReplicate, fpOf, freeNext, opW, binI, ev1, Heap.write, setAll, unI, eqKs, eqK, fillI, B15, F15l11, F15l23, F15l25, F15l39, F15l41, ↓hv.idx, r1, ↓r2.ln, hg, hJ]
      exact hR ⟨_, List.getElem_mem hil, h4⟩ _
    · simp (disch := omega) only [BAS, ↓BPR, reduceIte, reduceCtorEq, seval, -List.reduceReplicate, fpOf, freeNext, opW, binI, ev1, Heap.write, setAll, unI, eqKs, eqK, fillI, B15, F15l11, F15l23, F15l25, F15l39, F15l41, ↓hv.idx, r1, ↓r2.ln]
      refine hN (k - 1) _ _ (by omega) ⟨i + 1, by omega, fun j h1 h2 => ?_, rfl, rfl, rfl, rfl, rfl, rfl, rfl⟩
      by_cases hj : j = i
      · subst hj; omega
      · exact hp j h1 (by omega)
  · simp (disch := omega) only [BAS, ↓BPR, reduceIte, reduceCtorEq, seval, -List.reduceReplicate, fpOf, freeNext, opW, binI, ev1, Heap.write, setAll, unI, eqKs, eqK, fillI, B15, F15l11, F15l23, F15l25, F15l39, F15l41, hJ]
    refine hQ (fun l hl => ?_) _
    obtain ⟨j, hj, rfl⟩ := List.mem_iff_getElem.1 hl
    exact hp j hj (by omega)

/-- The names of a stack are looked at. -/
theorem check2_inner {w : SV} {l : List Id} {rb lo : Nat} {x : IV} {H : Heap} {Q : Out → Heap → Prop} {rd : Option Nat} {mk : List Nat} {tm : List IV} (hw : Sl H w l) (hl : l.length ≤ 1000000)
    (hg : H.get rb = some (.cells false 29 1 [x])) (hrb : rb < H.n) (hlo : lo ≤ rb) (htm : tm.length = 84) (t2 : tm.getD 2 IV.undef = .ptr rb 0) (t47 : tm.getD 47 IV.undef = w.iv) (t48 : tm.getD 48 IV.undef = .int .i64 l.length) (t49 : tm.getD 49 IV.undef = .int .i64 0)
    (hQ : (∀ a ∈ l, namedB a = true) → ∀ H' tm', Keep H.n H H' → tm'.length = 84 → tm'.getD 2 IV.undef = .ptr rb 0 → tm'.getD 41 IV.undef = tm.getD 41 IV.undef → tm'.getD 42 IV.undef = tm.getD 42 IV.undef → tm'.getD 43 IV.undef = tm.getD 43 IV.undef → Q (.ex (.jmp (.exit 8)) ⟨tm', mk⟩) H') (hR : (∃ a ∈ l, namedB a = false) → ∀ H' tm', Keep H.n H H' → Q (.ex (.jmp .ret) ⟨tm', mk⟩) (H'.put rb (.cells false 29 1 [.int .i64 1]))) : W E0 lo (.code (.loop F15l23) rd ⟨tm, mk⟩) H Q := by
  refine W_inv (fun k fr H' => ∃ i, i + k = l.length ∧ (∀ j (h : j < l.length), j < i → namedB l[j] = true) ∧ Keep H.n H H' ∧ fr.marks = mk ∧ fr.tm.length = 84 ∧ fr.tm.getD 2 IV.undef = .ptr rb 0 ∧ fr.tm.getD 47 IV.undef = w.iv ∧ fr.tm.getD 48 IV.undef = .int .i64 l.length ∧ fr.tm.getD 49 IV.undef = .int .i64 i ∧ fr.tm.getD 41 IV.undef = tm.getD 41 IV.undef ∧ fr.tm.getD 42 IV.undef = tm.getD 42 IV.undef ∧ fr.tm.getD 43 IV.undef = tm.getD 43 IV.undef) ?_ l.length ⟨0, by omega, fun j _ h => by omega, Keep.refl _ _, rfl, htm, t2, t47, t48, t49, rfl, rfl, rfl⟩
  generalize tm.getD 41 IV.undef = y41 at *
  generalize tm.getD 42 IV.undef = y42 at *
  generalize tm.getD 43 IV.undef = y43 at *
  rintro k ⟨tm, mk⟩ H' ⟨i, hi, hp, hk, rfl, htm, t2, t47, t48, t49, t41, t42, t43⟩ L hN hJ
  have hn := hk.1
  have hw' := hw.keep hk
  have hg' := (hk.2 rb hrb hrb).trans hg
  rw [expl84 tm htm, t2, t47, t48, t49, t41, t42, t43]
  by_cases hil : i < l.length
  · have r1 := hw'.read z_Id i hil
    simp (disch := omega) only [BAS, ↓BPR, reduceIte, reduceCtorEq, seval, -List.reduceReplicate, fpOf, freeNext, opW, binI, ev1, Heap.write, setAll, unI, eqKs, eqK, fillI, B15, F15l11, F15l23, F15l25, F15l39, F15l41, ↓hw.idx, r1, cs_Id]
    generalize hH1 : Heap.put _ _ _ = H1
    have k1 : Keep H'.n H' H1 := by rw [← hH1]; exact Keep.newPut
    have hn1 := k1.1
    clear hH1
    rw [← cs_Id]
    refine named_sp _ (by omega) fun H2 k2 => ?_
    have hn2 := k2.1
    have kk : Keep H.n H H2 := hk.trans ((k1.trans (k2.lower hn1)).lower hn)
    have hg2 := (kk.2 rb hrb hrb).trans hg
    cases hb : namedB l[i]
    · simp (disch := omega) only [BAS, ↓BPR, reduceIte, reduceCtorEq, seval, -List.reduceReplicate, fpOf, freeNext, opW, binI, ev1, Heap.write, setAll, unI, eqKs, eqK, fillI, B15, F15l11, F15l23, F15l25, F15l39, F15l41, hg2, hJ]
      exact hR ⟨_, List.getElem_mem hil, hb⟩ _ _ kk
    · simp (disch := omega) only [BAS, ↓BPR, reduceIte, reduceCtorEq, seval, -List.reduceReplicate, fpOf, freeNext, opW, binI, ev1, Heap.write, setAll, unI, eqKs, eqK, fillI, B15, F15l11, F15l23, F15l25, F15l39, F15l41]
      refine hN (k - 1) _ _ (by omega) ⟨i + 1, by omega, fun j h1 h2 => ?_, kk, rfl, rfl, rfl, rfl, rfl, rfl, rfl, rfl, rfl⟩
      by_cases hj : j = i
      · subst hj; exact hb
      · exact hp j h1 (by omega)
  · simp (disch := omega) only [BAS, ↓BPR, reduceIte, reduceCtorEq, seval, -List.reduceReplicate, fpOf, freeNext, opW, binI, ev1, Heap.write, setAll, unI, eqKs, eqK, fillI, B15, F15l11, F15l23, F15l25, F15l39, F15l41, hJ]
    refine hQ (fun a ha => ?_) _ _ hk rfl rfl rfl rfl rfl
    obtain ⟨j, hj, rfl⟩ := List.mem_iff_getElem.1 ha
    exact hp j hj (by omega)

theorem check2_loop {v : SV} {ls : List (List Id)} {rb lo : Nat} {x : IV} {H : Heap} {Q : Out → Heap → Prop} {rd : Option Nat} {mk : List Nat} {tm : List IV} (hv : Sl2 H v ls) (hl : ls.length ≤ 1000000) (hll : ∀ l ∈ ls, l.length ≤ 1000000)
    (hg : H.get rb = some (.cells false 29 1 [x])) (hrb : rb < H.n) (hlo : lo ≤ rb) (htm : tm.length = 84) (t2 : tm.getD 2 IV.undef = .ptr rb 0) (t41 : tm.getD 41 IV.undef = v.iv) (t42 : tm.getD 42 IV.undef = .int .i64 ls.length) (t43 : tm.getD 43 IV.undef = .int .i64 0)
    (hQ : (∀ a ∈ ls.flatten, namedB a = true) → ∀ H' tm', Keep H.n H H' → Q (.ex (.jmp (.exit 6)) ⟨tm', mk⟩) H') (hR : (∃ a ∈ ls.flatten, namedB a = false) → ∀ H' tm', Keep H.n H H' → Q (.ex (.jmp .ret) ⟨tm', mk⟩) (H'.put rb (.cells false 29 1 [.int .i64 1]))) : W E0 lo (.code (.loop F15l25) rd ⟨tm, mk⟩) H Q := by
  refine W_inv (fun k fr H' => ∃ i, i + k = ls.length ∧ (∀ j (h : j < ls.length), j < i → ∀ a ∈ ls[j], namedB a = true) ∧ Keep H.n H H' ∧ fr.marks = mk ∧ fr.tm.length = 84 ∧ fr.tm.getD 2 IV.undef = .ptr rb 0 ∧ fr.tm.getD 41 IV.undef = v.iv ∧ fr.tm.getD 42 IV.undef = .int .i64 ls.length ∧ fr.tm.getD 43 IV.undef = .int .i64 i) ?_ ls.length ⟨0, by omega, fun j _ h => by omega, Keep.refl _ _, rfl, htm, t2, t41, t42, t43⟩
  rintro k ⟨tm, mk⟩ H' ⟨i, hi, hp, hk, rfl, htm, t2, t41, t42, t43⟩ L hN hJ
  have hn := hk.1
  have hv' := hv.keep hk
  have hg' := (hk.2 rb hrb hrb).trans hg
  rw [expl84 tm htm, t2, t41, t42, t43]
  by_cases hil : i < ls.length
  · obtain ⟨w, r1, r2, r3⟩ := hv'.elem i hil
    simp (disch := omega) only [BAS, ↓BPR, reduceIte, reduceCtorEq, seval, -List.reduceReplicate, fpOf, freeNext, opW, binI, ev1, Heap.write, setAll, unI, eqKs, eqK, fillI, B15, F15l11, F15l23, F15l25, F15l39, F15l41, ↓hv.idx, r1, ↓r2.ln]
    refine check2_inner r2 (hll _ (List.getElem_mem hil)) hg' (by omega) hlo rfl rfl rfl rfl rfl (fun hall H2 tm2 k2 a1 a2 a3 a4 a5 => ?_) (fun hex H2 tm2 k2 => ?_)
    · rw [expl84 tm2 a1, a2, a3, a4, a5]
      simp (disch := omega) only [BAS, ↓BPR, reduceIte, reduceCtorEq, seval, -List.reduceReplicate, fpOf, freeNext, opW, binI, ev1, Heap.write, setAll, unI, eqKs, eqK, fillI, B15, F15l11, F15l23, F15l25, F15l39, F15l41]
      refine hN (k - 1) _ _ (by omega) ⟨i + 1, by omega, fun j h1 h2 => ?_, hk.trans (k2.lower hn), rfl, rfl, rfl, rfl, rfl, rfl⟩
      by_cases hj : j = i
      · subst hj; exact hall
      · exact hp j h1 (by omega)
    · simp (disch := omega) only [BAS, ↓BPR, reduceIte, reduceCtorEq, seval, -List.reduceReplicate, fpOf, freeNext, opW, binI, ev1, Heap.write, setAll, unI, eqKs, eqK, fillI, B15, F15l11, F15l23, F15l25, F15l39, F15l41, hJ]
      obtain ⟨a, ha, hb⟩ := hex
      exact hR ⟨a, List.mem_flatten.2 ⟨_, List.getElem_mem hil, ha⟩, hb⟩ _ _ (hk.trans (k2.lower hn))
  · simp (disch := omega) only [BAS, ↓BPR, reduceIte, reduceCtorEq, seval, -List.reduceReplicate, fpOf, freeNext, opW, binI, ev1, Heap.write, setAll, unI, eqKs, eqK, fillI, B15, F15l11, F15l23, F15l25, F15l39, F15l41, hJ]
    refine hQ (fun a ha => ?_) _ _ hk
    obtain ⟨l, hl, ha⟩ := List.mem_flatten.1 ha
    obtain ⟨j, hj, rfl⟩ := List.mem_iff_getElem.1 hl
    exact hp j hj (by omega) a ha
end Go.Iso.Gen
end

section
namespace Go.Iso.Gen
open Go.Iso
set_option maxHeartbeats 1000000
set_option maxRecDepth 10000

/-- All blocks but one stay. -/
def KeepB (b : Nat) (H H' : Heap) : Prop := H.n ≤ H'.n ∧ ∀ x, x < H.n → x ≠ b → H'.get x = H.get x
theorem KeepB.refl (b : Nat) (H : Heap) : KeepB b H H := ⟨Nat.le_refl _, fun _ _ _ => rfl⟩
theorem KeepB.trans {b : Nat} {A B C : Heap} (h : KeepB b A B) (k : KeepB b B C) : KeepB b A C :=
  ⟨Nat.le_trans h.1 k.1, fun x h1 h2 => (k.2 x (Nat.lt_of_lt_of_le h1 h.1) h2).trans (h.2 x h1 h2)⟩
theorem KeepB.of {b : Nat} {A B : Heap} (h : Keep A.n A B) : KeepB b A B := ⟨h.1, fun x h1 _ => h.2 x h1 h1⟩
theorem KeepB.put {b : Nat} {H : Heap} {ob : IObj} : KeepB b H (H.put b ob) := ⟨Nat.le_refl _, fun x _ h => by rw [Heap.get_put, if_neg (Ne.symm h)]⟩
theorem Sl.keepB {α : Type} [Cell α] {H H' : Heap} {v : SV} {l : List α} {b : Nat} {es : List (IV × IV × Nat)} {c : Nat} (h : Sl H v l) (k : KeepB b H H') (hb : H.get b = some (.map es c)) : Sl H' v l :=
  h.same k.1 fun hl => k.2 _ (h.blk_lt hl) (h.off hl hb (by simp))
theorem Sl2.keepB {α : Type} [Cell α] {H H' : Heap} {v : SV} {ls : List (List α)} {b : Nat} {es : List (IV × IV × Nat)} {c : Nat} (h : Sl2 H v ls) (k : KeepB b H H') (hb : H.get b = some (.map es c)) : Sl2 H' v ls := by
  obtain ⟨vs, h1, h2, h3⟩ := h
  exact ⟨vs, Sl.keepB h1 k hb, h2, fun i a b => Sl.keepB (h3 i a b) k hb⟩

theorem nodup_snoc {ks : List Id} {a : Id} (h : ks.Nodup) (ha : a ∉ ks) : (ks ++ [a]).Nodup := by
  rw [List.nodup_append]
  refine ⟨h, by simp, ?_⟩
  intro x hx y hy
  rw [List.mem_singleton] at hy
  subst hy
  exact fun e => ha (e ▸ hx)
theorem not_nodup {ks l : List Id} {i : Nat} (hi : i < l.length) (h : l[i] ∈ ks ++ l.take i) : ¬ (ks ++ l).Nodup := by
  intro hn
  have e : ks ++ l = (ks ++ l.take i) ++ (l[i] :: l.drop (i + 1)) := by
    rw [List.append_assoc, ← List.drop_eq_getElem_cons hi, List.take_append_drop]
  rw [e, List.nodup_append] at hn
  exact hn.2.2 _ h _ (List.mem_cons_self ..) rfl

theorem check3_inner {w : SV} {l ks : List Id} {rb tb mb lo : Nat} {x : IV} {H : Heap} {Q : Out → Heap → Prop} {rd : Option Nat} {mk : List Nat} {tm : List IV} (hw : Sl H w l) (hl : l.length ≤ 1000000)
    (hg : H.get rb = some (.cells false 29 1 [x])) (hrb : rb < H.n) (hlo : lo ≤ rb) (hgt : H.get tb = some (.cells false 88 1 [.map mb])) (htb : tb < H.n) (hmb : mb < H.n) (hlm : lo ≤ mb) (hm : MapIds H mb ks) (hnd : ks.Nodup) (htm : tm.length = 84) (t2 : tm.getD 2 IV.undef = .ptr rb 0) (t13 : tm.getD 13 IV.undef = .ptr tb 0) (t71 : tm.getD 71 IV.undef = w.iv) (t72 : tm.getD 72 IV.undef = .int .i64 l.length) (t73 : tm.getD 73 IV.undef = .int .i64 0)
    (hQ : (ks ++ l).Nodup → ∀ H' tm', KeepB mb H H' → MapIds H' mb (ks ++ l) → tm'.length = 84 → tm'.getD 2 IV.undef = .ptr rb 0 → tm'.getD 13 IV.undef = .ptr tb 0 → tm'.getD 65 IV.undef = tm.getD 65 IV.undef → tm'.getD 66 IV.undef = tm.getD 66 IV.undef → tm'.getD 67 IV.undef = tm.getD 67 IV.undef → Q (.ex (.jmp (.exit 14)) ⟨tm', mk⟩) H') (hR : ¬ (ks ++ l).Nodup → ∀ H' tm', KeepB mb H H' → Q (.ex (.jmp .ret) ⟨tm', mk⟩) (H'.put rb (.cells false 29 1 [.int .i64 8]))) : W E0 lo (.code (.loop F15l39) rd ⟨tm, mk⟩) H Q := by
  refine W_inv (fun k fr H' => ∃ i, i + k = l.length ∧ (ks ++ l.take i).Nodup ∧ KeepB mb H H' ∧ MapIds H' mb (ks ++ l.take i) ∧ fr.marks = mk ∧ fr.tm.length = 84 ∧ fr.tm.getD 2 IV.undef = .ptr rb 0 ∧ fr.tm.getD 13 IV.undef = .ptr tb 0 ∧ fr.tm.getD 71 IV.undef = w.iv ∧ fr.tm.getD 72 IV.undef = .int .i64 l.length ∧ fr.tm.getD 73 IV.undef = .int .i64 i ∧ fr.tm.getD 65 IV.undef = tm.getD 65 IV.undef ∧ fr.tm.getD 66 IV.undef = tm.getD 66 IV.undef ∧ fr.tm.getD 67 IV.undef = tm.getD 67 IV.undef) ?_ l.length ⟨0, by omega, by simpa using hnd, KeepB.refl _ _, by simpa using hm, rfl, htm, t2, t13, t71, t72, t73, rfl, rfl, rfl⟩
  generalize tm.getD 65 IV.undef = y65 at *
  generalize tm.getD 66 IV.undef = y66 at *
  generalize tm.getD 67 IV.undef = y67 at *
  rintro k ⟨tm, mk⟩ H' ⟨i, hi, hnd', hk, hm', rfl, htm, t2, t13, t71, t72, t73, t65, t66, t67⟩ L hN hJ
  have hn := hk.1
  have hw' := Sl.keepB hw hk hm
  have hrm : rb ≠ mb := fun e => by subst e; have h2 : H.get rb = _ := hm; rw [h2] at hg; cases hg
  have htm' : tb ≠ mb := fun e => by subst e; have h2 : H.get tb = _ := hm; rw [h2] at hgt; cases hgt
  have hg' := (hk.2 rb hrb hrm).trans hg
  have hgt' := (hk.2 tb htb htm').trans hgt
  have rt := read_get hgt'
  rw [expl84 tm htm, t2, t13, t71, t72, t73, t65, t66, t67]
  by_cases hil : i < l.length
  · have r1 := hw'.read z_Id i hil
    have kk : KeepB mb H ((H'.new (.cells false 35 2 [.int .u8 0, .int .i64 0])).put H'.n (.cells false 35 2 (Cell.cs l[i]))) := hk.trans (KeepB.of Keep.newPut)
    have hm2 : MapIds ((H'.new (.cells false 35 2 [.int .u8 0, .int .i64 0])).put H'.n (.cells false 35 2 (Cell.cs l[i]))) mb (ks ++ l.take i) := by
      show Heap.get _ _ = _
      rw [Heap.get_put, if_neg (by omega), Heap.get_new, if_neg (by omega)]
      exact hm'
    have hlk := hm2.look l[i]
    have eb : (H'.n = rb) = False := by simp; omega
    by_cases hin : l[i] ∈ ks ++ l.take i
    · rw [decide_eq_true hin] at hlk
      simp only [cs_Id] at hlk
      simp (disch := omega) only [BAS, ↓BPR, reduceIte, reduceCtorEq, seval, -List.reduceReplicate, fpOf, freeNext, opW, binI, ev1, Heap.write, setAll, unI, eqKs, eqK, fillI, B15, F15l11, F15l23, F15l25, F15l39, F15l41, ↓hw.idx, r1, cs_Id, rt, ↓hlk, hg', eb, hJ]
      exact hR (not_nodup hil hin) _ _ kk
    · rw [decide_eq_false hin] at hlk
      obtain ⟨ob, hup, hob⟩ := hm2.upd l[i] lo hlm
      rw [if_neg hin, List.append_assoc, ← List.take_succ_eq_append_getElem hil] at hob
      simp only [cs_Id] at hlk hup
      simp (disch := omega) only [BAS, ↓BPR, reduceIte, reduceCtorEq, seval, -List.reduceReplicate, fpOf, freeNext, opW, binI, ev1, Heap.write, setAll, unI, eqKs, eqK, fillI, B15, F15l11, F15l23, F15l25, F15l39, F15l41, ↓hw.idx, r1, cs_Id, rt, ↓hlk, ↓hup]
      refine hN (k - 1) _ _ (by omega) ⟨i + 1, by omega, ?_, kk.trans KeepB.put, ?_, rfl, rfl, rfl, rfl, rfl, rfl, rfl, rfl, rfl, rfl⟩
      · rw [List.take_succ_eq_append_getElem hil, ← List.append_assoc]
        exact nodup_snoc hnd' hin
      · show Heap.get _ _ = _
        rw [Heap.get_put, if_pos rfl, hob]
  · rw [List.take_of_length_le (by omega)] at hnd' hm'
    simp (disch := omega) only [BAS, ↓BPR, reduceIte, reduceCtorEq, seval, -List.reduceReplicate, fpOf, freeNext, opW, binI, ev1, Heap.write, setAll, unI, eqKs, eqK, fillI, B15, F15l11, F15l23, F15l25, F15l39, F15l41, hJ]
    exact hQ hnd' _ _ hk hm' rfl rfl rfl rfl rfl rfl

theorem take_flatten (ls : List (List Id)) (i : Nat) (h : i < ls.length) : (ls.take (i + 1)).flatten = (ls.take i).flatten ++ ls[i] := by
  rw [List.take_succ_eq_append_getElem h, List.flatten_append]
  simp
theorem not_nodup_take {ks : List Id} {ls : List (List Id)} {i : Nat} (h : i < ls.length) (hn : ¬ ((ks ++ (ls.take i).flatten) ++ ls[i]).Nodup) : ¬ (ks ++ ls.flatten).Nodup := by
  intro hd
  apply hn
  rw [List.append_assoc, ← take_flatten ls i h]
  rw [← List.take_append_drop (i + 1) ls, List.flatten_append, ← List.append_assoc] at hd
  exact (List.nodup_append.1 hd).1

theorem check3_loop {v : SV} {ls : List (List Id)} {ks : List Id} {rb tb mb lo : Nat} {x : IV} {H : Heap} {Q : Out → Heap → Prop} {rd : Option Nat} {mk : List Nat} {tm : List IV} (hv : Sl2 H v ls) (hl : ls.length ≤ 1000000) (hll : ∀ l ∈ ls, l.length ≤ 1000000)
    (hg : H.get rb = some (.cells false 29 1 [x])) (hrb : rb < H.n) (hlo : lo ≤ rb) (hgt : H.get tb = some (.cells false 88 1 [.map mb])) (htb : tb < H.n) (hmb : mb < H.n) (hlm : lo ≤ mb) (hm : MapIds H mb ks) (hnd : ks.Nodup) (htm : tm.length = 84) (t2 : tm.getD 2 IV.undef = .ptr rb 0) (t13 : tm.getD 13 IV.undef = .ptr tb 0) (t65 : tm.getD 65 IV.undef = v.iv) (t66 : tm.getD 66 IV.undef = .int .i64 ls.length) (t67 : tm.getD 67 IV.undef = .int .i64 0)
    (hQ : (ks ++ ls.flatten).Nodup → ∀ H' tm', KeepB mb H H' → MapIds H' mb (ks ++ ls.flatten) → Q (.ex (.jmp (.exit 12)) ⟨tm', mk⟩) H') (hR : ¬ (ks ++ ls.flatten).Nodup → ∀ H' tm', KeepB mb H H' → Q (.ex (.jmp .ret) ⟨tm', mk⟩) (H'.put rb (.cells false 29 1 [.int .i64 8]))) : W E0 lo (.code (.loop F15l41) rd ⟨tm, mk⟩) H Q := by
  refine W_inv (fun k fr H' => ∃ i, i + k = ls.length ∧ (ks ++ (ls.take i).flatten).Nodup ∧ KeepB mb H H' ∧ MapIds H' mb (ks ++ (ls.take i).flatten) ∧ fr.marks = mk ∧ fr.tm.length = 84 ∧ fr.tm.getD 2 IV.undef = .ptr rb 0 ∧ fr.tm.getD 13 IV.undef = .ptr tb 0 ∧ fr.tm.getD 65 IV.undef = v.iv ∧ fr.tm.getD 66 IV.undef = .int .i64 ls.length ∧ fr.tm.getD 67 IV.undef = .int .i64 i) ?_ ls.length ⟨0, by omega, by simpa using hnd, KeepB.refl _ _, by simpa using hm, rfl, htm, t2, t13, t65, t66, t67⟩
  rintro k ⟨tm, mk⟩ H' ⟨i, hi, hnd', hk, hm', rfl, htm, t2, t13, t65, t66, t67⟩ L hN hJ
  have hn := hk.1
  have hv' := Sl2.keepB hv hk hm
  have hrm : rb ≠ mb := fun e => by subst e; have h2 : H.get rb = _ := hm; rw [h2] at hg; cases hg
  have htm' : tb ≠ mb := fun e => by subst e; have h2 : H.get tb = _ := hm; rw [h2] at hgt; cases hgt
  have hg' := (hk.2 rb hrb hrm).trans hg
  have hgt' := (hk.2 tb htb htm').trans hgt
  rw [expl84 tm htm, t2, t13, t65, t66, t67]
  by_cases hil : i < ls.length
  · obtain ⟨w, r1, r2, r3⟩ := hv'.elem i hil
    simp (disch := omega) only [BAS, ↓BPR, reduceIte, reduceCtorEq, seval, -List.reduceReplicate, fpOf, freeNext, opW, binI, ev1, Heap.write, setAll, unI, eqKs, eqK, fillI, B15, F15l11, F15l23, F15l25, F15l39, F15l41, ↓hv.idx, r1, ↓r2.ln]
    refine check3_inner r2 (hll _ (List.getElem_mem hil)) hg' (by omega) hlo hgt' (by omega) (by omega) hlm hm' hnd' rfl rfl rfl rfl rfl rfl (fun hall H2 tm2 k2 m2 a1 a2 a3 a4 a5 a6 => ?_) (fun hex H2 tm2 k2 => ?_)
    · rw [expl84 tm2 a1, a2, a3, a4, a5, a6]
      simp (disch := omega) only [BAS, ↓BPR, reduceIte, reduceCtorEq, seval, -List.reduceReplicate, fpOf, freeNext, opW, binI, ev1, Heap.write, setAll, unI, eqKs, eqK, fillI, B15, F15l11, F15l23, F15l25, F15l39, F15l41]
      refine hN (k - 1) _ _ (by omega) ⟨i + 1, by omega, ?_, hk.trans k2, ?_, rfl, rfl, rfl, rfl, rfl, rfl, rfl⟩
      · rw [take_flatten ls i hil, ← List.append_assoc]; exact hall
      · rw [take_flatten ls i hil, ← List.append_assoc]; exact m2
    · simp (disch := omega) only [BAS, ↓BPR, reduceIte, reduceCtorEq, seval, -List.reduceReplicate, fpOf, freeNext, opW, binI, ev1, Heap.write, setAll, unI, eqKs, eqK, fillI, B15, F15l11, F15l23, F15l25, F15l39, F15l41, hJ]
      exact hR (not_nodup_take hil hex) _ _ (hk.trans k2)
  · rw [List.take_of_length_le (by omega)] at hnd' hm'
    simp (disch := omega) only [BAS, ↓BPR, reduceIte, reduceCtorEq, seval, -List.reduceReplicate, fpOf, freeNext, opW, binI, ev1, Heap.write, setAll, unI, eqKs, eqK, fillI, B15, F15l11, F15l23, F15l25, F15l39, F15l41, hJ]
    exact hQ hnd' _ _ hk hm'
end Go.Iso.Gen
end

section
namespace Go.Iso.Gen
open Go.Iso
set_option maxHeartbeats 2000000
set_option maxRecDepth 10000

def fullB (ls : List (List Id)) : Bool := decide (ls.length > 40) || ls.any fun l => decide (l.length > 4)
/-- The error of beds. -/
def checkE (fs bs : List (List Id)) : Int :=
  if fullB fs = true ∨ fullB bs = true then 9
  else if (fs ++ bs).flatten.all namedB = false then 1
  else if (fs ++ bs).flatten.Nodup then 0 else 8

theorem check_sp {f b : SV} {fs bs : List (List Id)} {H : Heap} {lo : Nat} {Q : Out → Heap → Prop} (hf : Sl2 H f fs) (hb : Sl2 H b bs) (hlf : fs.length ≤ 1000000) (hlb : bs.length ≤ 1000000) (hl : ∀ l ∈ fs, l.length ≤ 1000000) (hl' : ∀ l ∈ bs, l.length ≤ 1000000) (hlo : lo ≤ H.n)
    (h : ∀ H' , Keep H.n H H' → Q (.val (.int .i64 (checkE fs bs))) H') : W E0 lo (.call 15 [bv f b]) H Q := by
  refine pureQ _ hlo h fun R hR => ?_
  clear h
  rw [c15]
  have full1 : ∀ ls : List (List Id), ls.length > 40 → fullB ls = true := fun ls h => by simp [fullB, h]
  have full2 : ∀ ls : List (List Id), (∃ l ∈ ls, l.length > 4) → fullB ls = true := fun ls ⟨l, h1, h2⟩ => by
    unfold fullB; rw [Bool.or_eq_true]; exact .inr (List.any_eq_true.2 ⟨l, h1, decide_eq_true h2⟩)
  have full3 : ∀ ls : List (List Id), ¬ ls.length > 40 → (∀ l ∈ ls, l.length ≤ 4) → fullB ls = false := fun ls h1 h2 => by
    unfold fullB; rw [decide_eq_false h1, Bool.false_or, List.any_eq_false]; intro l hl; have := h2 l hl; simp; omega
  by_cases h40 : fs.length > 40
  · have : checkE fs bs = 9 := by unfold checkE; rw [if_pos (.inl (full1 _ h40))]
    rw [this] at hR
    simp (disch := omega) only [BAS, ↓BPR, reduceIte, reduceCtorEq, seval, -List.reduceReplicate, fpOf, freeNext, opW, binI, ev1, Heap.write, setAll, unI, eqKs, eqK, fillI, B15, B41, B52, bv, c41, c52, ↓hf.ln]
    exact hR _
  simp (disch := omega) only [BAS, ↓BPR, reduceIte, reduceCtorEq, seval, -List.reduceReplicate, fpOf, freeNext, opW, binI, ev1, Heap.write, setAll, unI, eqKs, eqK, fillI, B15, B41, B52, bv, c41, c52, ↓hf.ln]
  generalize hH1 : Heap.put _ _ _ = H1
  have hn1 : H1.n = H.n + 5 := by rw [← hH1]; rfl
  have g0 := congrArg (fun h0 => Heap.get h0 (H.n)) hH1.symm
  simp (disch := omega) only [BAS, ↓BPR, reduceIte, reduceCtorEq, seval, -List.reduceReplicate, fpOf, freeNext, opW, binI, ev1, Heap.write, setAll, unI, eqKs, eqK, fillI] at g0
  have g1 := congrArg (fun h0 => Heap.get h0 (H.n + 1)) hH1.symm
  simp (disch := omega) only [BAS, ↓BPR, reduceIte, reduceCtorEq, seval, -List.reduceReplicate, fpOf, freeNext, opW, binI, ev1, Heap.write, setAll, unI, eqKs, eqK, fillI] at g1
  have g2 := congrArg (fun h0 => Heap.get h0 (H.n + 2)) hH1.symm
  simp (disch := omega) only [BAS, ↓BPR, reduceIte, reduceCtorEq, seval, -List.reduceReplicate, fpOf, freeNext, opW, binI, ev1, Heap.write, setAll, unI, eqKs, eqK, fillI] at g2
  have g3 := congrArg (fun h0 => Heap.get h0 (H.n + 3)) hH1.symm
  simp (disch := omega) only [BAS, ↓BPR, reduceIte, reduceCtorEq, seval, -List.reduceReplicate, fpOf, freeNext, opW, binI, ev1, Heap.write, setAll, unI, eqKs, eqK, fillI] at g3
  have g4 := congrArg (fun h0 => Heap.get h0 (H.n + 4)) hH1.symm
  simp (disch := omega) only [BAS, ↓BPR, reduceIte, reduceCtorEq, seval, -List.reduceReplicate, fpOf, freeNext, opW, binI, ev1, Heap.write, setAll, unI, eqKs, eqK, fillI] at g4
  have k1 : Keep H.n H H1 := ⟨by omega, fun x hx _ => by
    have gx := congrArg (fun h0 => Heap.get h0 x) hH1.symm
    simp (disch := omega) only [BAS, ↓BPR, reduceIte, reduceCtorEq, seval, -List.reduceReplicate, fpOf, freeNext, opW, binI, ev1, Heap.write, setAll, unI, eqKs, eqK, fillI] at gx
    exact gx⟩
  clear hH1
  refine check1_loop (hf.keep k1) hlf hl g1 (by omega) rfl rfl rfl rfl rfl (fun hall tm' => ?_) (fun hex tm' => ?_)
  case refine_2 =>
    have : checkE fs bs = 9 := by unfold checkE; rw [if_pos (.inl (full2 _ hex))]
    rw [this] at hR
    simp (disch := omega) only [BAS, ↓BPR, reduceIte, reduceCtorEq, seval, -List.reduceReplicate, fpOf, freeNext, opW, binI, ev1, Heap.write, setAll, unI, eqKs, eqK, fillI, B15, B41, B52, g3, g4]
    exact hR _
  have hff := full3 fs h40 hall
  have r2 := read_get g2
  by_cases h40' : bs.length > 40
  · have : checkE fs bs = 9 := by unfold checkE; rw [if_pos (.inr (full1 _ h40'))]
    rw [this] at hR
    simp (disch := omega) only [BAS, ↓BPR, reduceIte, reduceCtorEq, seval, -List.reduceReplicate, fpOf, freeNext, opW, binI, ev1, Heap.write, setAll, unI, eqKs, eqK, fillI, B15, B41, B52, g1, g3, g4, r2, ↓hb.ln]
    exact hR _
  simp (disch := omega) only [BAS, ↓BPR, reduceIte, reduceCtorEq, seval, -List.reduceReplicate, fpOf, freeNext, opW, binI, ev1, Heap.write, setAll, unI, eqKs, eqK, fillI, B15, B41, B52, g1, g3, g4, r2, ↓hb.ln]
  generalize hH2 : Heap.put _ _ _ = H2
  have hn2 : H2.n = H.n + 5 := by rw [← hH2]; exact hn1
  have f4 := congrArg (fun h0 => Heap.get h0 (H.n + 4)) hH2.symm
  simp (disch := omega) only [BAS, ↓BPR, reduceIte, reduceCtorEq, seval, -List.reduceReplicate, fpOf, freeNext, opW, binI, ev1, Heap.write, setAll, unI, eqKs, eqK, fillI] at f4
  have k2 : ∀ x, x ≠ H.n + 4 → H2.get x = H1.get x := fun x hx => by rw [← hH2, Heap.get_put, if_neg (Ne.symm hx), Heap.get_put, if_neg (Ne.symm hx)]
  clear hH2
  have f0 := (k2 (H.n) (by omega)).trans g0
  have f1 := (k2 (H.n + 1) (by omega)).trans g1
  have f3 := (k2 (H.n + 3) (by omega)).trans g3
  have kk2 : Keep H.n H H2 := ⟨by omega, fun x hx _ => (k2 x (by omega)).trans (k1.2 x hx hx)⟩
  clear g0 g1 g2 g3 g4 r2 k2 k1 hn1
  refine check1_loop (hb.keep kk2) hlb hl' f1 (by omega) rfl rfl rfl rfl rfl (fun hall' tm2 => ?_) (fun hex tm2 => ?_)
  case refine_2 =>
    have : checkE fs bs = 9 := by unfold checkE; rw [if_pos (.inr (full2 _ hex))]
    rw [this] at hR
    simp (disch := omega) only [BAS, ↓BPR, reduceIte, reduceCtorEq, seval, -List.reduceReplicate, fpOf, freeNext, opW, binI, ev1, Heap.write, setAll, unI, eqKs, eqK, fillI, B15, B41, B52, f3, f4]
    exact hR _
  have hfb := full3 bs h40' hall'
  have r0 := read_get f0
  simp (disch := omega) only [BAS, ↓BPR, reduceIte, reduceCtorEq, seval, -List.reduceReplicate, fpOf, freeNext, opW, binI, ev1, Heap.write, setAll, unI, eqKs, eqK, fillI, B15, B41, B52, f3, f4, r0, c41, c52, ↓hf.ln]
  generalize hH3 : Heap.put _ _ _ = H3
  have hn3 : H3.n = H2.n + 3 := by rw [← hH3]; rfl
  have p0 := congrArg (fun h0 => Heap.get h0 (H2.n)) hH3.symm
  simp (disch := omega) only [BAS, ↓BPR, reduceIte, reduceCtorEq, seval, -List.reduceReplicate, fpOf, freeNext, opW, binI, ev1, Heap.write, setAll, unI, eqKs, eqK, fillI] at p0
  have p1 := congrArg (fun h0 => Heap.get h0 (H2.n + 1)) hH3.symm
  simp (disch := omega) only [BAS, ↓BPR, reduceIte, reduceCtorEq, seval, -List.reduceReplicate, fpOf, freeNext, opW, binI, ev1, Heap.write, setAll, unI, eqKs, eqK, fillI] at p1
  have p2 := congrArg (fun h0 => Heap.get h0 (H2.n + 2)) hH3.symm
  simp (disch := omega) only [BAS, ↓BPR, reduceIte, reduceCtorEq, seval, -List.reduceReplicate, fpOf, freeNext, opW, binI, ev1, Heap.write, setAll, unI, eqKs, eqK, fillI] at p2
  have k3 : ∀ x, x < H2.n → x ≠ H.n + 4 → H3.get x = H2.get x := fun x h1 h2 => by
    rw [← hH3, Heap.get_put, if_neg (by omega), Heap.get_new, if_neg (by simp only [Heap.n_new, Heap.n_put]; omega), Heap.get_new, if_neg (by simp only [Heap.n_new, Heap.n_put]; omega), Heap.get_new, if_neg (by simp only [Heap.n_new, Heap.n_put]; omega), Heap.get_put, if_neg (Ne.symm h2), Heap.get_put, if_neg (Ne.symm h2)]
  clear hH3
  have q0 := (k3 (H.n) (by omega) (by omega)).trans f0
  have q1 := (k3 (H.n + 1) (by omega) (by omega)).trans f1
  have q3 := (k3 (H.n + 3) (by omega) (by omega)).trans f3
  have kk3 : Keep H.n H H3 := ⟨by omega, fun x hx _ => (k3 x (by omega) (by omega)).trans (kk2.2 x hx hx)⟩
  clear f0 f1 f3 f4 r0 k3 kk2
  have bad1 : ∀ ls : List (List Id), (ls = fs ∨ ls = bs) → (∃ a ∈ ls.flatten, namedB a = false) → checkE fs bs = 1 := by
    intro ls hls ⟨a, h1, h2⟩
    have : (fs ++ bs).flatten.all namedB = false := by
      rw [List.all_eq_false]
      refine ⟨a, ?_, by rw [h2]; simp⟩
      rw [List.flatten_append, List.mem_append]
      rcases hls with rfl | rfl
      · exact .inl h1
      · exact .inr h1
    unfold checkE
    rw [if_neg (by rw [hff, hfb]; simp), if_pos this]
  refine check2_loop (hf.keep kk3) hlf hl q1 (by omega) (by omega) rfl rfl rfl rfl rfl (fun hnf H4 tm4 k4 => ?_) (fun hex H4 tm4 k4 => ?_)
  case refine_2 =>
    have u1 := (k4.2 _ (by omega) (by omega)).trans p1
    have u2 := (k4.2 _ (by omega) (by omega)).trans p2
    have u3 := (k4.2 _ (by omega) (by omega)).trans q3
    rw [bad1 fs (.inl rfl) hex] at hR
    simp (disch := omega) only [BAS, ↓BPR, reduceIte, reduceCtorEq, seval, -List.reduceReplicate, fpOf, freeNext, opW, binI, ev1, Heap.write, setAll, unI, eqKs, eqK, fillI, B15, B41, B52, u1, u2, u3]
    exact hR _
  have hn4 := k4.1
  have s0 := (k4.2 _ (by omega) (by omega)).trans p0
  have s1 := (k4.2 _ (by omega) (by omega)).trans p1
  have s2 := (k4.2 _ (by omega) (by omega)).trans p2
  have v0 := (k4.2 _ (by omega) (by omega)).trans q0
  have v1 := (k4.2 _ (by omega) (by omega)).trans q1
  have v3 := (k4.2 _ (by omega) (by omega)).trans q3
  have kk4 : Keep H.n H H4 := kk3.trans (k4.lower (by omega))
  have rs0 := read_get s0
  clear p0 p1 p2 q0 q1 q3
  simp (disch := omega) only [BAS, ↓BPR, reduceIte, reduceCtorEq, seval, -List.reduceReplicate, fpOf, freeNext, opW, binI, ev1, Heap.write, setAll, unI, eqKs, eqK, fillI, B15, B41, B52, s1, s2, rs0, ↓hb.ln]
  generalize hH5 : Heap.put _ _ _ = H5
  have hn5 : H5.n = H4.n := by rw [← hH5]; rfl
  have p2 := congrArg (fun h0 => Heap.get h0 (H2.n + 2)) hH5.symm
  simp (disch := omega) only [BAS, ↓BPR, reduceIte, reduceCtorEq, seval, -List.reduceReplicate, fpOf, freeNext, opW, binI, ev1, Heap.write, setAll, unI, eqKs, eqK, fillI] at p2
  have k5 : ∀ x, x ≠ H2.n + 2 → H5.get x = H4.get x := fun x hx => by rw [← hH5, Heap.get_put, if_neg (Ne.symm hx), Heap.get_put, if_neg (Ne.symm hx)]
  clear hH5
  have p1 := (k5 (H2.n + 1) (by omega)).trans s1
  have q0 := (k5 (H.n) (by omega)).trans v0
  have q1 := (k5 (H.n + 1) (by omega)).trans v1
  have q3 := (k5 (H.n + 3) (by omega)).trans v3
  have kk5 : Keep H.n H H5 := ⟨by omega, fun x hx _ => (k5 x (by omega)).trans (kk4.2 x hx hx)⟩
  clear s0 s1 s2 v0 v1 v3 rs0 k5 kk4
  refine check2_loop (hb.keep kk5) hlb hl' q1 (by omega) (by omega) rfl rfl rfl rfl rfl (fun hnb H6 tm6 k6 => ?_) (fun hex H6 tm6 k6 => ?_)
  case refine_2 =>
    have u1 := (k6.2 _ (by omega) (by omega)).trans p1
    have u2 := (k6.2 _ (by omega) (by omega)).trans p2
    have u3 := (k6.2 _ (by omega) (by omega)).trans q3
    rw [bad1 bs (.inr rfl) hex] at hR
    simp (disch := omega) only [BAS, ↓BPR, reduceIte, reduceCtorEq, seval, -List.reduceReplicate, fpOf, freeNext, opW, binI, ev1, Heap.write, setAll, unI, eqKs, eqK, fillI, B15, B41, B52, u1, u2, u3]
    exact hR _
  have hn6 := k6.1
  have s1 := (k6.2 _ (by omega) (by omega)).trans p1
  have s2 := (k6.2 _ (by omega) (by omega)).trans p2
  have v0 := (k6.2 _ (by omega) (by omega)).trans q0
  have v1 := (k6.2 _ (by omega) (by omega)).trans q1
  have v3 := (k6.2 _ (by omega) (by omega)).trans q3
  have kk6 : Keep H.n H H6 := kk5.trans (k6.lower (by omega))
  have rv0 := read_get v0
  clear p1 p2 q0 q1 q3
  have hall6 : (fs ++ bs).flatten.all namedB = true := by
    rw [List.all_eq_true]
    intro a ha
    rw [List.flatten_append, List.mem_append] at ha
    rcases ha with ha | ha
    · exact hnf a ha
    · exact hnb a ha
  simp (disch := omega) only [BAS, ↓BPR, reduceIte, reduceCtorEq, seval, -List.reduceReplicate, fpOf, freeNext, opW, binI, ev1, Heap.write, setAll, unI, eqKs, eqK, fillI, B15, B41, B52, s1, s2, rv0]
  generalize hH7 : Heap.put _ _ _ = H7
  have hn7 : H7.n = H6.n := by rw [← hH7]; rfl
  have k7 : ∀ x, x ≠ H2.n + 2 → H7.get x = H6.get x := fun x hx => by rw [← hH7, Heap.get_put, if_neg (Ne.symm hx), Heap.get_put, if_neg (Ne.symm hx)]
  clear hH7
  have p1 := (k7 (H2.n + 1) (by omega)).trans s1
  have q0 := (k7 (H.n) (by omega)).trans v0
  have q1 := (k7 (H.n + 1) (by omega)).trans v1
  have q3 := (k7 (H.n + 3) (by omega)).trans v3
  have kk7 : Keep H.n H H7 := ⟨by omega, fun x hx _ => (k7 x (by omega)).trans (kk6.2 x hx hx)⟩
  clear s1 s2 v0 v1 v3 rv0 k7 kk6
  have hbv : IV.agg [f.iv, b.iv] = bv f b := rfl
  rw [hbv]
  refine count_sp (hf.keep kk7) (hb.keep kk7) hlf hlb hl hl' (by omega) fun H8 k8 => ?_
  have hn8 := k8.1
  have s1 := (k8.2 _ (by omega) (by omega)).trans p1
  have v0 := (k8.2 _ (by omega) (by omega)).trans q0
  have v1 := (k8.2 _ (by omega) (by omega)).trans q1
  have v3 := (k8.2 _ (by omega) (by omega)).trans q3
  have kk8 : Keep H.n H H8 := kk7.trans (k8.lower (by omega))
  have rv0 := read_get v0
  clear p1 q0 q1 q3
  simp (disch := omega) only [BAS, ↓BPR, reduceIte, reduceCtorEq, seval, -List.reduceReplicate, fpOf, freeNext, opW, binI, ev1, Heap.write, setAll, unI, eqKs, eqK, fillI, B15, B41, B52, bv, rv0, c41, c52, ↓hf.ln]
  generalize hH9 : Heap.put _ _ _ = H9
  have hn9 : H9.n = H8.n + 5 := by rw [← hH9]; rfl
  have m0 := congrArg (fun h0 => Heap.get h0 (H8.n)) hH9.symm
  simp (disch := omega) only [BAS, ↓BPR, reduceIte, reduceCtorEq, seval, -List.reduceReplicate, fpOf, freeNext, opW, binI, ev1, Heap.write, setAll, unI, eqKs, eqK, fillI] at m0
  have m1 := congrArg (fun h0 => Heap.get h0 (H8.n + 1)) hH9.symm
  simp (disch := omega) only [BAS, ↓BPR, reduceIte, reduceCtorEq, seval, -List.reduceReplicate, fpOf, freeNext, opW, binI, ev1, Heap.write, setAll, unI, eqKs, eqK, fillI] at m1
  have m2 := congrArg (fun h0 => Heap.get h0 (H8.n + 2)) hH9.symm
  simp (disch := omega) only [BAS, ↓BPR, reduceIte, reduceCtorEq, seval, -List.reduceReplicate, fpOf, freeNext, opW, binI, ev1, Heap.write, setAll, unI, eqKs, eqK, fillI] at m2
  have m3 := congrArg (fun h0 => Heap.get h0 (H8.n + 3)) hH9.symm
  simp (disch := omega) only [BAS, ↓BPR, reduceIte, reduceCtorEq, seval, -List.reduceReplicate, fpOf, freeNext, opW, binI, ev1, Heap.write, setAll, unI, eqKs, eqK, fillI] at m3
  have m4 := congrArg (fun h0 => Heap.get h0 (H8.n + 4)) hH9.symm
  simp (disch := omega) only [BAS, ↓BPR, reduceIte, reduceCtorEq, seval, -List.reduceReplicate, fpOf, freeNext, opW, binI, ev1, Heap.write, setAll, unI, eqKs, eqK, fillI] at m4
  have k9 : ∀ x, x < H8.n → H9.get x = H8.get x := fun x h1 => by
    have gx := congrArg (fun h0 => Heap.get h0 x) hH9.symm
    simp (disch := omega) only [BAS, ↓BPR, reduceIte, reduceCtorEq, seval, -List.reduceReplicate, fpOf, freeNext, opW, binI, ev1, Heap.write, setAll, unI, eqKs, eqK, fillI] at gx
    exact gx
  clear hH9
  have p1 := (k9 (H2.n + 1) (by omega)).trans s1
  have q1 := (k9 (H.n + 1) (by omega)).trans v1
  have q3 := (k9 (H.n + 3) (by omega)).trans v3
  have kk9 : Keep H.n H H9 := ⟨by omega, fun x hx _ => (k9 x (by omega)).trans (kk8.2 x hx hx)⟩
  clear s1 v0 v1 v3 rv0 k9 kk8
  have dup1 : ¬ (fs ++ bs).flatten.Nodup → checkE fs bs = 8 := fun hd => by
    unfold checkE
    rw [if_neg (by rw [hff, hfb]; simp), if_neg (by rw [hall6]; simp), if_neg hd]
  refine check3_loop (ks := []) (hf.keep kk9) hlf hl q1 (by omega) (by omega) m1 (by omega) (by omega) (by omega) m0 List.nodup_nil rfl rfl rfl rfl rfl rfl (fun hnd H10 tm10 k10 mm10 => ?_) (fun hex H10 tm10 k10 => ?_)
  case refine_2 =>
    have u1 := (k10.2 _ (by omega) (by omega)).trans m3
    have u2 := (k10.2 _ (by omega) (by omega)).trans m4
    have u3 := (k10.2 _ (by omega) (by omega)).trans p1
    have u4 := (k10.2 _ (by omega) (by omega)).trans q3
    rw [dup1 (fun hd => hex (by rw [List.flatten_append] at hd; rw [List.nil_append]; exact (List.nodup_append.1 hd).1))] at hR
    simp (disch := omega) only [BAS, ↓BPR, reduceIte, reduceCtorEq, seval, -List.reduceReplicate, fpOf, freeNext, opW, binI, ev1, Heap.write, setAll, unI, eqKs, eqK, fillI, B15, B41, B52, u1, u2, u3, u4]
    exact hR _
  rw [List.nil_append] at hnd mm10
  have hn10 := k10.1
  have mg : H9.get H8.n = some (.map (mapEs [] 0) 0) := m0
  have s1 := (k10.2 _ (by omega) (by omega)).trans m1
  have s2 := (k10.2 _ (by omega) (by omega)).trans m2
  have s3 := (k10.2 _ (by omega) (by omega)).trans m3
  have s4 := (k10.2 _ (by omega) (by omega)).trans m4
  have s5 := (k10.2 _ (by omega) (by omega)).trans p1
  have s6 := (k10.2 _ (by omega) (by omega)).trans q1
  have s7 := (k10.2 _ (by omega) (by omega)).trans q3
  have hb10 := Sl2.keepB (hb.keep kk9) k10 mg
  have rs2 := read_get s2
  clear m0 m1 m2 m3 m4 p1 q1 q3 mg k10
  simp (disch := omega) only [BAS, ↓BPR, reduceIte, reduceCtorEq, seval, -List.reduceReplicate, fpOf, freeNext, opW, binI, ev1, Heap.write, setAll, unI, eqKs, eqK, fillI, B15, B41, B52, s4, rs2, ↓hb.ln]
  generalize hH11 : Heap.put _ _ _ = H11
  have hn11 : H11.n = H10.n := by rw [← hH11]; rfl
  have p4 := congrArg (fun h0 => Heap.get h0 (H8.n + 4)) hH11.symm
  simp (disch := omega) only [BAS, ↓BPR, reduceIte, reduceCtorEq, seval, -List.reduceReplicate, fpOf, freeNext, opW, binI, ev1, Heap.write, setAll, unI, eqKs, eqK, fillI] at p4
  have k11 : KeepB (H8.n + 4) H10 H11 := ⟨by omega, fun x _ hx => by rw [← hH11, Heap.get_put, if_neg (Ne.symm hx), Heap.get_put, if_neg (Ne.symm hx)]⟩
  clear hH11
  have p1 := (k11.2 _ (by omega) (by omega)).trans s1
  have p3 := (k11.2 _ (by omega) (by omega)).trans s3
  have p5 := (k11.2 _ (by omega) (by omega)).trans s5
  have p6 := (k11.2 _ (by omega) (by omega)).trans s6
  have p7 := (k11.2 _ (by omega) (by omega)).trans s7
  have mm11 : MapIds H11 H8.n fs.flatten := (k11.2 _ (by omega) (by omega)).trans mm10
  have hb11 : Sl2 H11 b bs := by
    obtain ⟨vs, h1, h2, h3⟩ := hb10
    exact ⟨vs, h1.same k11.1 fun hl => k11.2 _ (h1.blk_lt hl) (h1.off hl s4 (by simp)), h2, fun i a b => (h3 i a b).same k11.1 fun hl => k11.2 _ ((h3 i a b).blk_lt hl) ((h3 i a b).off hl s4 (by simp))⟩
  clear s1 s2 s3 s4 s5 s6 s7 rs2 k11 mm10 hb10
  refine check3_loop (ks := fs.flatten) hb11 hlb hl' p6 (by omega) (by omega) p1 (by omega) (by omega) (by omega) mm11 hnd rfl rfl rfl rfl rfl rfl (fun hnd' H12 tm12 k12 mm12 => ?_) (fun hex H12 tm12 k12 => ?_)
  case refine_2 =>
    have u1 := (k12.2 _ (by omega) (by omega)).trans p3
    have u2 := (k12.2 _ (by omega) (by omega)).trans p4
    have u3 := (k12.2 _ (by omega) (by omega)).trans p5
    have u4 := (k12.2 _ (by omega) (by omega)).trans p7
    rw [dup1 (by rw [List.flatten_append]; exact hex)] at hR
    simp (disch := omega) only [BAS, ↓BPR, reduceIte, reduceCtorEq, seval, -List.reduceReplicate, fpOf, freeNext, opW, binI, ev1, Heap.write, setAll, unI, eqKs, eqK, fillI, B15, B41, B52, u1, u2, u3, u4]
    exact hR _
  have hn12 := k12.1
  have u1 := (k12.2 _ (by omega) (by omega)).trans p3
  have u2 := (k12.2 _ (by omega) (by omega)).trans p4
  have u3 := (k12.2 _ (by omega) (by omega)).trans p5
  have u4 := (k12.2 _ (by omega) (by omega)).trans p7
  have u5 := (k12.2 _ (by omega) (by omega)).trans p6
  have ok : checkE fs bs = 0 := by
    unfold checkE
    rw [if_neg (by rw [hff, hfb]; simp), if_neg (by rw [hall6]; simp), if_pos (by rw [List.flatten_append]; exact hnd')]
  rw [ok] at hR
  simp (disch := omega) only [BAS, ↓BPR, reduceIte, reduceCtorEq, seval, -List.reduceReplicate, fpOf, freeNext, opW, binI, ev1, Heap.write, setAll, unI, eqKs, eqK, fillI, B15, B41, B52, u1, u2, u3, u4, u5]
  exact hR _
end Go.Iso.Gen
end

section
namespace Go.Iso
/-- A slice of slices, all in blocks from n0 on. -/
def Sl2F {α : Type} [Cell α] (n0 : Nat) (H : Heap) (v : SV) (ls : List (List α)) : Prop := ∃ vs : List SV, Sl H v vs ∧ vs.length = ls.length ∧ (vs ≠ [] → n0 ≤ v.blk) ∧ ∀ (i : Nat) (h : i < ls.length) (h' : i < vs.length), Sl H vs[i] ls[i] ∧ (ls[i] ≠ [] → n0 ≤ vs[i].blk)
theorem Sl2F.sl2 {α : Type} [Cell α] {n0 : Nat} {H : Heap} {v : SV} {ls : List (List α)} (h : Sl2F n0 H v ls) : Sl2 H v ls := by
  obtain ⟨vs, h1, h2, h3, h4⟩ := h
  exact ⟨vs, h1, h2, fun i a b => (h4 i a b).1⟩
theorem Sl2F.keep {α : Type} [Cell α] {n0 : Nat} {H H' : Heap} {v : SV} {ls : List (List α)} (h : Sl2F n0 H v ls) (k : Keep H.n H H') : Sl2F n0 H' v ls := by
  obtain ⟨vs, h1, h2, h3, h4⟩ := h
  exact ⟨vs, h1.keep k, h2, h3, fun i a b => ⟨(h4 i a b).1.keep k, (h4 i a b).2⟩⟩
theorem Sl2F.put {α : Type} [Cell α] {n0 x : Nat} {H : Heap} {v : SV} {ls : List (List α)} {ob : IObj} (h : Sl2F n0 H v ls) (hx : x < n0) : Sl2F n0 (H.put x ob) v ls := by
  obtain ⟨vs, h1, h2, h3, h4⟩ := h
  refine ⟨vs, h1.same (Nat.le_refl _) fun hl => ?_, h2, h3, fun i a b => ⟨(h4 i a b).1.same (Nat.le_refl _) fun hl => ?_, (h4 i a b).2⟩⟩
  · have := h3 hl
    rw [Heap.get_put, if_neg (by omega)]
  · have := (h4 i a b).2 hl
    rw [Heap.get_put, if_neg (by omega)]
theorem Sl2F.lower {α : Type} [Cell α] {n0 n1 : Nat} {H : Heap} {v : SV} {ls : List (List α)} (h : Sl2F n0 H v ls) (hn : n1 ≤ n0) : Sl2F n1 H v ls := by
  obtain ⟨vs, h1, h2, h3, h4⟩ := h
  exact ⟨vs, h1, h2, fun a => Nat.le_trans hn (h3 a), fun i a b => ⟨(h4 i a b).1, fun c => Nat.le_trans hn ((h4 i a b).2 c)⟩⟩
end Go.Iso
namespace Go.Iso.Gen
open Go.Iso
set_option maxHeartbeats 2000000
set_option maxRecDepth 10000

/-- A bed in which a needle holds these loops (none if at is 0), with room for the needle. -/
def padL (ls : List (List Id)) (at_ : Nat) (l : List Id) : List (List Id) :=
  if at_ = 0 then ls else (ls ++ List.replicate (at_ - ls.length) []).set (at_ - 1) l
def putL (ls : List (List Id)) (at_ : Nat) (l : List Id) : List (List Id) := (padL ls at_ l).take (shortN (padL ls at_ l))

end Go.Iso.Gen
end

section
namespace Go.Iso.Gen
open Go.Iso
set_option maxHeartbeats 2000000
set_option maxRecDepth 10000

/-- Beds that a call has made: short, of the exact capacities. -/
def Beds (n0 : Nat) (H : Heap) (f b : SV) (fs bs : List (List Id)) : Prop := Sl2F n0 H f fs ∧ Sl2F n0 H b bs ∧ f.tight ∧ b.tight
theorem Beds.keep {n0 : Nat} {H H' : Heap} {f b : SV} {fs bs : List (List Id)} (h : Beds n0 H f b fs bs) (k : Keep H.n H H') : Beds n0 H' f b fs bs := ⟨h.1.keep k, h.2.1.keep k, h.2.2⟩
def placeF (fs : List (List Id)) (bed : Int) (at_ : Nat) (l : List Id) : List (List Id) := if bed = 0 then putL fs at_ l else putL fs 0 []
def placeB (bs : List (List Id)) (bed : Int) (at_ : Nat) (l : List Id) : List (List Id) := if bed = 0 then putL bs 0 [] else putL bs at_ l

end Go.Iso.Gen
end

section
namespace Go.Iso
theorem append_any {α : Type} [Cell α] {H : Heap} {b e n : Nat} {l m : List α} {v : SV} (hs : Sl H (.sl b 0 l.length n true) l) (hn : n = l.length) (hv : Sl H v m) {z : Nat} (hz : Cell.z α = z) (bytes lo : Nat) (hb : (l.length + m.length) * (bytes + 1) ≤ 2 ^ 40) :
    ∃ H2 u, ev1 (.append e z bytes) [.slice b 0 l.length n true, v.iv] lo H = some (SV.iv u, H2) ∧ Keep H.n H H2 ∧ Sl H2 u (l ++ m) := by
  by_cases hm : m = []
  · subst hm
    refine ⟨H, .sl b 0 l.length n true, ?_, Keep.refl _ _, by simpa using hs⟩
    simp only [ev1, hv.lenI, hv.srcI hz, Option.bind_some, appendI]
    rw [if_neg (by rw [flat_all]; decide)]
    rfl
  · have hpos : 0 < m.length := List.length_pos_iff.2 hm
    obtain ⟨H2, e1, e2, e3, e4⟩ := append_full (e := e) hs hv hz bytes lo hm (by omega) hb
    exact ⟨H2, .sl H.n 0 (l.length + m.length) (l.length + m.length) false, e1, e3, by rw [← List.length_append]; rw [← List.length_append] at e4; exact e4.sl false⟩
end Go.Iso
namespace Go.Iso.Gen
open Go.Iso
set_option maxHeartbeats 2000000
set_option maxRecDepth 10000

def joinE (fs bs : List (List Id)) (fb fa tb ta : Int) : Int :=
  if checkE fs bs ≠ 0 then checkE fs bs
  else if needleE fb fa ≠ 0 ∨ needleE tb ta ≠ 0 ∨ fb = tb then 1
  else if (atL fs bs fb fa).length = 0 then 13
  else if (atL fs bs fb fa).length + (atL fs bs tb ta).length > 4 then 9 else 0
def joinS (fs bs : List (List Id)) (fb fa tb ta : Int) : List Id := if fb = 1 then atL fs bs fb fa ++ atL fs bs tb ta else atL fs bs tb ta ++ atL fs bs fb fa
def joinF (fs bs : List (List Id)) (fb fa tb ta : Int) : List (List Id) := placeF (placeF fs fb fa.toNat []) tb ta.toNat (joinS fs bs fb fa tb ta)
def joinB (fs bs : List (List Id)) (fb fa tb ta : Int) : List (List Id) := placeB (placeB bs fb fa.toNat []) tb ta.toNat (joinS fs bs fb fa tb ta)

theorem needle_ok {b a : Int} (h : needleE b a = 0) : (b = 0 ∨ b = 1) ∧ 1 ≤ a ∧ a ≤ 40 := by
  unfold needleE at h
  split at h
  · assumption
  · omega
theorem needle_01 (b a : Int) : needleE b a = 0 ∨ needleE b a = 1 := by
  unfold needleE
  split
  · exact .inl rfl
  · exact .inr rfl
theorem check_len {fs bs : List (List Id)} (h : checkE fs bs = 0) : fs.length ≤ 40 ∧ bs.length ≤ 40 ∧ (∀ l ∈ fs, l.length ≤ 4) ∧ (∀ l ∈ bs, l.length ≤ 4) ∧ (∀ a ∈ (fs ++ bs).flatten, namedB a = true) ∧ (fs ++ bs).flatten.Nodup := by
  unfold checkE at h
  split at h
  · omega
  split at h
  · omega
  split at h
  · rename_i h1 h2 h3
    rw [not_or, Bool.not_eq_true, Bool.not_eq_true] at h1
    have key : ∀ ls : List (List Id), fullB ls = false → ls.length ≤ 40 ∧ ∀ l ∈ ls, l.length ≤ 4 := fun ls h => by
      unfold fullB at h
      rw [Bool.or_eq_false_iff, List.any_eq_false] at h
      refine ⟨by simpa using h.1, fun l hl => by have := h.2 l hl; simpa using this⟩
    obtain ⟨a1, a2⟩ := key fs h1.1
    obtain ⟨a3, a4⟩ := key bs h1.2
    rw [Bool.not_eq_false, List.all_eq_true] at h2
    exact ⟨a1, a3, a2, a4, h2, h3⟩
  · omega
theorem atL_len (fs bs : List (List Id)) (b a : Int) (m : Nat) (h : ∀ x ∈ fs, x.length ≤ m) (h' : ∀ x ∈ bs, x.length ≤ m) : (atL fs bs b a).length ≤ m := by
  unfold atL
  split
  · have key : ∀ (ls : List (List Id)) (i : Nat), (∀ x ∈ ls, x.length ≤ m) → ((ls[i]?).getD []).length ≤ m := fun ls i h => by
      by_cases hi : i < ls.length
      · rw [List.getElem?_eq_getElem hi]; exact h _ (List.getElem_mem hi)
      · rw [List.getElem?_eq_none (by omega)]; simp
    split
    · exact key _ _ h'
    · exact key _ _ h
  · simp

end Go.Iso.Gen
end

section
namespace Go.Iso.Gen
open Go.Iso
set_option maxHeartbeats 2000000
set_option maxRecDepth 10000

/-- A bed without the empty needles at its end. -/
def shortL (ls : List (List Id)) : List (List Id) := ls.take (shortN ls)

/-- A slice whose room is known, or whose block has elements of one cell. -/
def Cut (H : Heap) (v : SV) : Prop := match v with | .nil => True | .sl b _ _ _ ex => ex = true ∨ (b < H.n ∧ ezAt H b 1 = true)
theorem Cut.keep {H H' : Heap} {v : SV} (h : Cut H v) (k : Keep H.n H H') : Cut H' v := by
  cases v with
  | nil => trivial
  | sl b o n c ex =>
    rcases h with h | ⟨h1, h2⟩
    · exact .inl h
    · refine .inr ⟨Nat.lt_of_lt_of_le h1 k.1, ?_⟩
      unfold ezAt at *
      rw [k.2 b h1 h1]; exact h2
theorem Cut.tight {H : Heap} {v : SV} (h : v.tight) : Cut H v := by
  cases v with
  | nil => trivial
  | sl b o n c ex => exact .inl h.2
end Go.Iso.Gen
end
