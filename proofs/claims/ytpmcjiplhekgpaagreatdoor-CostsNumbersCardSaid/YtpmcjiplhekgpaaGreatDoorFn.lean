/-
  what the functions of the statement give.
-/
import Derived.Test.YtpmcjiplhekgpaaGreatDoorGen
import Derived.Test.YtpmcjiplhekgpaaGreatDoorIsoP7
set_option linter.unusedSimpArgs false
set_option linter.unusedVariables false

section
namespace Go.Iso
theorem Tabs.keep' {ts : List (List Int)} {H H' : Heap} (h : Tabs ts H) (k : Keep H.n H H') : Tabs ts H' := h.keep k.1 fun i hi => k.2 i (by have := h.1; omega) (by have := h.1; omega)
end Go.Iso
namespace Go.Iso.Gen
open Go.Iso
set_option maxHeartbeats 4000000
set_option maxRecDepth 10000

theorem pureV {Q : Out → Heap → Prop} {H : Heap} {lo : Nat} {f : FuncId} {args : List IV} (v : IV) (hlo : lo ≤ H.n) (h : ∀ H', Keep H.n H H' → Q (.val v) H') (k : ∀ R : Out → Heap → Prop, (∀ H', R (.val v) H') → W E0 H.n (.call f args) H R) : W E0 lo (.call f args) H Q :=
  W.pure plain hlo (k _ fun H' hk => h H' hk)

end Go.Iso.Gen
end

section
namespace Go.Iso.Gen
open Go.Iso
set_option maxHeartbeats 4000000
set_option maxRecDepth 10000

structure Co where
  l : Int
  f : Int
  e : Int
  deriving Inhabited, DecidableEq
def coL (a : Co) : List IV := [.int .i64 a.l, .int .i64 a.f, .int .i64 a.e]
def z0 : Nat → Co := fun _ => ⟨0, 0, 0⟩
def upd (c : Nat → Co) (i : Nat) (a : Co) : Nat → Co := fun j => if j = i then a else c j
/-- A total: the costs of six yarns, passes, time. -/
def totL (c : Nat → Co) (p t : Int) : List IV := coL (c 0) ++ (coL (c 1) ++ (coL (c 2) ++ (coL (c 3) ++ (coL (c 4) ++ (coL (c 5) ++ [.int .i64 p, .int .i64 t])))))
theorem totL_len (c : Nat → Co) (p t : Int) : (totL c p t).length = 20 := rfl
theorem totL_one (c : Nat → Co) (p t : Int) : (totL c p t).all IV.one = true := rfl
theorem totL_z : [IV.int .i64 0, .int .i64 0, .int .i64 0, .int .i64 0, .int .i64 0, .int .i64 0, .int .i64 0, .int .i64 0, .int .i64 0, .int .i64 0, .int .i64 0, .int .i64 0, .int .i64 0, .int .i64 0, .int .i64 0, .int .i64 0, .int .i64 0, .int .i64 0, .int .i64 0, .int .i64 0] = totL z0 0 0 := rfl
theorem totL_congr {c d : Nat → Co} (p t : Int) (h : ∀ j, j < 6 → c j = d j) : totL c p t = totL d p t := by
  unfold totL
  rw [h 0 (by omega), h 1 (by omega), h 2 (by omega), h 3 (by omega), h 4 (by omega), h 5 (by omega)]
theorem six {P : Nat → Prop} {i : Nat} (hi : i < 6) (h0 : P 0) (h1 : P 1) (h2 : P 2) (h3 : P 3) (h4 : P 4) (h5 : P 5) : P i := by
  rcases (by omega : i = 0 ∨ i = 1 ∨ i = 2 ∨ i = 3 ∨ i = 4 ∨ i = 5) with rfl | rfl | rfl | rfl | rfl | rfl <;> assumption
theorem tot_fill (p t : Int) : fillI [(18, 1), (19, 1)] [.int .i64 p, .int .i64 t] (totL z0 0 0) = some (totL z0 p t) := rfl
theorem tot_fill0 : fillI [] [] (totL z0 0 0) = some (totL z0 0 0) := rfl
theorem tot_all {ro : Bool} {e ez : Nat} (c : Nat → Co) (p t : Int) : readO (.cells ro e ez (totL c p t)) 0 20 = some (totL c p t) := rfl
theorem tot_p {ro : Bool} {e ez : Nat} (c : Nat → Co) (p t : Int) : readO (.cells ro e ez (totL c p t)) 18 1 = some [.int .i64 p] := rfl
theorem tot_t {ro : Bool} {e ez : Nat} (c : Nat → Co) (p t : Int) : readO (.cells ro e ez (totL c p t)) 19 1 = some [.int .i64 t] := rfl
theorem tot_c {ro : Bool} {e ez : Nat} (c : Nat → Co) (p t : Int) {i : Nat} (hi : i < 6) : readO (.cells ro e ez (totL c p t)) (i * 3) 3 = some [.int .i64 (c i).l, .int .i64 (c i).f, .int .i64 (c i).e] :=
  six (P := fun i => readO (.cells ro e ez (totL c p t)) (i * 3) 3 = some [.int .i64 (c i).l, .int .i64 (c i).f, .int .i64 (c i).e]) hi rfl rfl rfl rfl rfl rfl
theorem tot_sp (c : Nat → Co) (p t x : Int) : splice (totL c p t) 18 [.int .i64 x] = totL c x t := rfl
theorem tot_st (c : Nat → Co) (p t x : Int) : splice (totL c p t) 19 [.int .i64 x] = totL c p x := rfl
theorem tot_sa (c d : Nat → Co) (p t q s : Int) : splice (totL c p t) 0 (totL d q s) = totL d q s := rfl
theorem tot_sc (c : Nat → Co) (p t l f e : Int) {i : Nat} (hi : i < 6) : splice (totL c p t) (i * 3) [.int .i64 l, .int .i64 f, .int .i64 e] = totL (upd c i ⟨l, f, e⟩) p t :=
  six (P := fun i => splice (totL c p t) (i * 3) [.int .i64 l, .int .i64 f, .int .i64 e] = totL (upd c i ⟨l, f, e⟩) p t) hi rfl rfl rfl rfl rfl rfl
theorem tot_eq (c : Nat → Co) (p t : Int) : eqKs [.int, .int, .int, .int, .int, .int, .int, .int, .int, .int, .int, .int, .int, .int, .int, .int, .int, .int, .int, .int] (totL c p t) (totL c p t) = some true := by
  simp [totL, coL, eqKs, eqK]
def clipI (n : Int) : Int := if n < 0 then 0 else if n > 1000000 then 1000000 else n
theorem clipI_b (n : Int) : 0 ≤ clipI n ∧ clipI n ≤ 1000000 := by unfold clipI; repeat' split <;> omega
theorem clip_eq (n : Int) {lo : Nat} {H : Heap} {Q : Out → Heap → Prop} : W E0 lo (.call 39 [.int .i64 n, .int .i64 1000000]) H Q = Q (.val (.int .i64 (clipI n))) H := by
  rw [c39]
  unfold clipI
  by_cases h1 : n < 0
  · rw [if_pos h1]
    simp (disch := omega) only [BAS, ↓BPR, reduceIte, reduceCtorEq, seval, -List.reduceReplicate, fpOf, freeNext, opW, binI, ev1, Heap.write, setAll, unI, eqKs, eqK, fillI, B39, show (0 : Int) > n by omega]
  · rw [if_neg h1]
    by_cases h2 : n > 1000000
    · rw [if_pos h2]
      simp (disch := omega) only [BAS, ↓BPR, reduceIte, reduceCtorEq, seval, -List.reduceReplicate, fpOf, freeNext, opW, binI, ev1, Heap.write, setAll, unI, eqKs, eqK, fillI, B39, show ¬ (0 : Int) > n by omega, show (1000000 : Int) < n by omega]
    · rw [if_neg h2]
      simp (disch := omega) only [BAS, ↓BPR, reduceIte, reduceCtorEq, seval, -List.reduceReplicate, fpOf, freeNext, opW, binI, ev1, Heap.write, setAll, unI, eqKs, eqK, fillI, B39, show ¬ (0 : Int) > n by omega, show ¬ (1000000 : Int) < n by omega]
theorem lclip_eq (n : Int) {lo : Nat} {H : Heap} {Q : Out → Heap → Prop} : W E0 lo (.call 15 [.int .i64 n]) H Q = Q (.val (.int .i64 (clipI n))) H := by
  rw [c15]
  unfold clipI
  by_cases h1 : n < 0
  · rw [if_pos h1]
    simp (disch := omega) only [BAS, ↓BPR, reduceIte, reduceCtorEq, seval, -List.reduceReplicate, fpOf, freeNext, opW, binI, ev1, Heap.write, setAll, unI, eqKs, eqK, fillI, B15, h1]
  · rw [if_neg h1]
    by_cases h2 : n > 1000000
    · rw [if_pos h2]
      simp (disch := omega) only [BAS, ↓BPR, reduceIte, reduceCtorEq, seval, -List.reduceReplicate, fpOf, freeNext, opW, binI, ev1, Heap.write, setAll, unI, eqKs, eqK, fillI, B15, h1, h2]
    · rw [if_neg h2]
      simp (disch := omega) only [BAS, ↓BPR, reduceIte, reduceCtorEq, seval, -List.reduceReplicate, fpOf, freeNext, opW, binI, ev1, Heap.write, setAll, unI, eqKs, eqK, fillI, B15, h1, h2]
def addI (x y : Int) : Int := clipI (clipI x + clipI y)
def mulI (n x : Int) : Int := clipI (clipI x * n)
theorem add_eq (x y : Int) {lo : Nat} {H : Heap} {Q : Out → Heap → Prop} : W E0 lo (.call 38 [.int .i64 x, .int .i64 y]) H Q = Q (.val (.int .i64 (addI x y))) H := by
  rw [c38]
  have h1 := clipI_b x
  have h2 := clipI_b y
  unfold addI
  simp (disch := omega) only [BAS, ↓BPR, reduceIte, reduceCtorEq, seval, -List.reduceReplicate, fpOf, freeNext, opW, binI, ev1, Heap.write, setAll, unI, eqKs, eqK, fillI, B38, clip_eq]
theorem mul_le {x n : Int} (hn : 0 ≤ n ∧ n ≤ 1000000) : 0 ≤ clipI x * n ∧ clipI x * n ≤ 1000000 * 1000000 := by
  have h1 := clipI_b x
  exact ⟨Int.mul_nonneg h1.1 hn.1, Int.mul_le_mul h1.2 hn.2 hn.1 (by omega)⟩
theorem times_eq (x y : Int) {n : Int} (hn : 0 ≤ n ∧ n ≤ 1000000) {b e : Nat} {lo : Nat} {H : Heap} {Q : Out → Heap → Prop} (hg : H.get b = some (.cells false e 1 [.int .i64 n])) : W E0 lo (.call 40 [.int .i64 x, .int .i64 y, .ptr b 0]) H Q = Q (.val (.int .i64 (mulI n x))) H := by
  rw [c40]
  have h1 := mul_le (x := x) hn
  have r := read_get hg
  unfold mulI
  simp (disch := omega) only [BAS, ↓BPR, reduceIte, reduceCtorEq, seval, -List.reduceReplicate, fpOf, freeNext, opW, binI, ev1, Heap.write, setAll, unI, eqKs, eqK, fillI, B40, clip_eq, r]

def coJ (g : Int → Int → Int) (a b : Co) : Co := ⟨g a.l b.l, g a.f b.f, g a.e b.e⟩
def joinC (g : Int → Int → Int) (c d : Nat → Co) : Nat → Co := fun j => coJ g (c j) (d j)
theorem expl59 (tm : List IV) (h : tm.length = 59) : tm = [tm.getD 0 IV.undef, tm.getD 1 IV.undef, tm.getD 2 IV.undef, tm.getD 3 IV.undef, tm.getD 4 IV.undef, tm.getD 5 IV.undef, tm.getD 6 IV.undef, tm.getD 7 IV.undef, tm.getD 8 IV.undef, tm.getD 9 IV.undef, tm.getD 10 IV.undef, tm.getD 11 IV.undef, tm.getD 12 IV.undef, tm.getD 13 IV.undef, tm.getD 14 IV.undef, tm.getD 15 IV.undef, tm.getD 16 IV.undef, tm.getD 17 IV.undef, tm.getD 18 IV.undef, tm.getD 19 IV.undef, tm.getD 20 IV.undef, tm.getD 21 IV.undef, tm.getD 22 IV.undef, tm.getD 23 IV.undef, tm.getD 24 IV.undef, tm.getD 25 IV.undef, tm.getD 26 IV.undef, tm.getD 27 IV.undef, tm.getD 28 IV.undef, tm.getD 29 IV.undef, tm.getD 30 IV.undef, tm.getD 31 IV.undef, tm.getD 32 IV.undef, tm.getD 33 IV.undef, tm.getD 34 IV.undef, tm.getD 35 IV.undef, tm.getD 36 IV.undef, tm.getD 37 IV.undef, tm.getD 38 IV.undef, tm.getD 39 IV.undef, tm.getD 40 IV.undef, tm.getD 41 IV.undef, tm.getD 42 IV.undef, tm.getD 43 IV.undef, tm.getD 44 IV.undef, tm.getD 45 IV.undef, tm.getD 46 IV.undef, tm.getD 47 IV.undef, tm.getD 48 IV.undef, tm.getD 49 IV.undef, tm.getD 50 IV.undef, tm.getD 51 IV.undef, tm.getD 52 IV.undef, tm.getD 53 IV.undef, tm.getD 54 IV.undef, tm.getD 55 IV.undef, tm.getD 56 IV.undef, tm.getD 57 IV.undef, tm.getD 58 IV.undef] := (expl tm 59 h).trans rfl
theorem join_sp {c d : Nat → Co} {p t p' t' : Int} (fv : IV) (g : Int → Int → Int) {H : Heap} {lo : Nat} {Q : Out → Heap → Prop} (hlo : lo ≤ H.n)
    (hg : ∀ (x y : Int) (H' : Heap) (lo' : Nat) (Q' : Out → Heap → Prop), Keep H.n H H' → W E0 lo' (.apply fv [.int .i64 x, .int .i64 y]) H' Q' = Q' (.val (.int .i64 (g x y))) H')
    (h : ∀ H', Keep H.n H H' → Q (.val (.agg (totL (joinC g c d) (g p p') (g t t')))) H') : W E0 lo (.call 37 [.agg (totL c p t), .agg (totL d p' t'), fv]) H Q := by
  refine W.pure plain hlo ?_
  rw [c37]
  simp (disch := omega) only [BAS, ↓BPR, reduceIte, reduceCtorEq, seval, -List.reduceReplicate, fpOf, freeNext, opW, binI, ev1, Heap.write, setAll, unI, eqKs, eqK, fillI, B37, ↓totL_z, ↓tot_p, ↓tot_t]
  generalize hH_H1 : Heap.new _ _ = H1
  have hnH1 : H1.n = H.n + 3 := by rw [← hH_H1]; rfl
  have ga := congrArg (fun h0 => Heap.get h0 (H.n)) hH_H1.symm
  simp (disch := omega) only [BAS, ↓BPR, reduceIte, reduceCtorEq, seval, -List.reduceReplicate, fpOf, freeNext, opW, binI, ev1, Heap.write, setAll, unI, eqKs, eqK, fillI] at ga
  have gb := congrArg (fun h0 => Heap.get h0 (H.n + 1)) hH_H1.symm
  simp (disch := omega) only [BAS, ↓BPR, reduceIte, reduceCtorEq, seval, -List.reduceReplicate, fpOf, freeNext, opW, binI, ev1, Heap.write, setAll, unI, eqKs, eqK, fillI] at gb
  have gr := congrArg (fun h0 => Heap.get h0 (H.n + 2)) hH_H1.symm
  simp (disch := omega) only [BAS, ↓BPR, reduceIte, reduceCtorEq, seval, -List.reduceReplicate, fpOf, freeNext, opW, binI, ev1, Heap.write, setAll, unI, eqKs, eqK, fillI] at gr
  have kH1 : Keep H.n H H1 := ⟨by omega, fun x hx _ => by
    have gx := congrArg (fun h0 => Heap.get h0 x) hH_H1.symm
    simp (disch := omega) only [BAS, ↓BPR, reduceIte, reduceCtorEq, seval, -List.reduceReplicate, fpOf, freeNext, opW, binI, ev1, Heap.write, setAll, unI, eqKs, eqK, fillI] at gx
    exact gx⟩
  clear hH_H1
  have ra : H1.read H.n 19 1 = some [.int .i64 t] := (read_get ga _ _).trans rfl
  have rb : H1.read (H.n + 1) 19 1 = some [.int .i64 t'] := (read_get gb _ _).trans rfl
  rw [hg _ _ _ _ _ kH1]
  simp (disch := omega) only [BAS, ↓BPR, reduceIte, reduceCtorEq, seval, -List.reduceReplicate, fpOf, freeNext, opW, binI, ev1, Heap.write, setAll, unI, eqKs, eqK, fillI, B37, ra, rb]
  rw [hg _ _ _ _ _ kH1]
  simp (disch := omega) only [BAS, ↓BPR, reduceIte, reduceCtorEq, seval, -List.reduceReplicate, fpOf, freeNext, opW, binI, ev1, Heap.write, setAll, unI, eqKs, eqK, fillI, B37, ↓totL_z, ↓tot_fill, totL_len, totL_one, ↓tot_sa]
  generalize hH_H2 : Heap.put _ _ _ = H2
  have hnH2 : H2.n = H1.n + 1 := by rw [← hH_H2]; rfl
  have g7 := congrArg (fun h0 => Heap.get h0 (H1.n)) hH_H2.symm
  simp (disch := omega) only [BAS, ↓BPR, reduceIte, reduceCtorEq, seval, -List.reduceReplicate, fpOf, freeNext, opW, binI, ev1, Heap.write, setAll, unI, eqKs, eqK, fillI] at g7
  have kH2 : Keep H1.n H1 H2 := ⟨by omega, fun x hx _ => by
    have gx := congrArg (fun h0 => Heap.get h0 x) hH_H2.symm
    simp (disch := omega) only [BAS, ↓BPR, reduceIte, reduceCtorEq, seval, -List.reduceReplicate, fpOf, freeNext, opW, binI, ev1, Heap.write, setAll, unI, eqKs, eqK, fillI] at gx
    exact gx⟩
  clear hH_H2
  replace ga := (kH2.2 _ (by omega) (by omega)).trans ga
  replace gb := (kH2.2 _ (by omega) (by omega)).trans gb
  replace gr := (kH2.2 _ (by omega) (by omega)).trans gr
  replace kH1 : Keep H.n H H2 := kH1.trans (kH2.lower (by omega))
  refine W_inv (fun q fm H' => ∃ (i : Nat) (x : Nat → Co), i + q = 6 ∧ Keep H.n H H' ∧ H2.n ≤ H'.n ∧ H'.get H.n = some (.cells false 44 20 (totL c p t)) ∧ H'.get (H.n + 1) = some (.cells false 44 20 (totL d p' t')) ∧ H'.get (H.n + 2) = some (.cells false 44 20 (totL z0 0 0)) ∧ H'.get H1.n = some (.cells false 44 20 (totL x (g p p') (g t t'))) ∧ (∀ j, j < i → x j = joinC g c d j) ∧ fm.marks = [] ∧ fm.tm.length = 59 ∧ fm.tm.getD 2 IV.undef = fv ∧ fm.tm.getD 3 IV.undef = .ptr H.n 0 ∧ fm.tm.getD 4 IV.undef = .ptr (H.n + 1) 0 ∧ fm.tm.getD 6 IV.undef = .ptr (H.n + 2) 0 ∧ fm.tm.getD 7 IV.undef = .ptr H1.n 0 ∧ fm.tm.getD 24 IV.undef = .int .i64 i) ?_ 6 ⟨0, z0, by omega, kH1, Nat.le_refl _, ga, gb, gr, g7, fun j hj => by omega, rfl, rfl, rfl, rfl, rfl, rfl, rfl, rfl⟩
  clear ga gb gr g7 kH1 kH2 ra rb
  rintro q ⟨tm, mk⟩ H' ⟨i, x, hiq, kk, hn, ga, gb, gr, g7, hx, rfl, htm, t2, t3, t4, t6, t7, t24⟩ L hN hJ
  rw [expl59 tm htm, t2, t3, t4, t6, t7, t24]
  by_cases hi : i < 6
  · have ra := (show H'.read H.n (i * 3) 3 = readO (.cells false 44 20 (totL c p t)) (i * 3) 3 from (read_get ga _ _).trans rfl).trans (tot_c c p t hi)
    have rb := (show H'.read (H.n + 1) (i * 3) 3 = readO (.cells false 44 20 (totL d p' t')) (i * 3) 3 from (read_get gb _ _).trans rfl).trans (tot_c d p' t' hi)
    simp (disch := omega) only [BAS, ↓BPR, reduceIte, reduceCtorEq, seval, -List.reduceReplicate, fpOf, freeNext, opW, binI, ev1, Heap.write, setAll, unI, eqKs, eqK, fillI, B37, F37l8, ra, rb, ap_lt, ap_gt]
    generalize hH_H3 : Heap.put _ _ _ = H3
    have hnH3 : H3.n = H'.n + 2 := by rw [← hH_H3]; rfl
    have g9 := congrArg (fun h0 => Heap.get h0 (H'.n)) hH_H3.symm
    simp (disch := omega) only [BAS, ↓BPR, reduceIte, reduceCtorEq, seval, -List.reduceReplicate, fpOf, freeNext, opW, binI, ev1, Heap.write, setAll, unI, eqKs, eqK, fillI] at g9
    have g10 := congrArg (fun h0 => Heap.get h0 (H'.n + 1)) hH_H3.symm
    simp (disch := omega) only [BAS, ↓BPR, reduceIte, reduceCtorEq, seval, -List.reduceReplicate, fpOf, freeNext, opW, binI, ev1, Heap.write, setAll, unI, eqKs, eqK, fillI] at g10
    have kH3 : Keep H'.n H' H3 := ⟨by omega, fun x hx _ => by
      have gx := congrArg (fun h0 => Heap.get h0 x) hH_H3.symm
      simp (disch := omega) only [BAS, ↓BPR, reduceIte, reduceCtorEq, seval, -List.reduceReplicate, fpOf, freeNext, opW, binI, ev1, Heap.write, setAll, unI, eqKs, eqK, fillI] at gx
      exact gx⟩
    clear hH_H3
    replace ga := (kH3.2 _ (by omega) (by omega)).trans ga
    replace gb := (kH3.2 _ (by omega) (by omega)).trans gb
    replace gr := (kH3.2 _ (by omega) (by omega)).trans gr
    replace g7 := (kH3.2 _ (by omega) (by omega)).trans g7
    have k3 : Keep H.n H H3 := kk.trans (kH3.lower (by omega))
    rw [hg _ _ _ _ _ k3]
    simp (disch := omega) only [BAS, ↓BPR, reduceIte, reduceCtorEq, seval, -List.reduceReplicate, fpOf, freeNext, opW, binI, ev1, Heap.write, setAll, unI, eqKs, eqK, fillI, B37, F37l8, read_get g9, read_get g10]
    rw [hg _ _ _ _ _ k3]
    simp (disch := omega) only [BAS, ↓BPR, reduceIte, reduceCtorEq, seval, -List.reduceReplicate, fpOf, freeNext, opW, binI, ev1, Heap.write, setAll, unI, eqKs, eqK, fillI, B37, F37l8, read_get g9, read_get g10]
    rw [hg _ _ _ _ _ k3]
    simp (disch := omega) only [BAS, ↓BPR, reduceIte, reduceCtorEq, seval, -List.reduceReplicate, fpOf, freeNext, opW, binI, ev1, Heap.write, setAll, unI, eqKs, eqK, fillI, B37, F37l8, g7, totL_len, ↓tot_sc]
    refine hN (q - 1) _ _ (by omega) ⟨i + 1, upd x i (coJ g (c i) (d i)), by omega, k3.trans (.put _ _ (by omega)), by rw [Heap.n_put]; omega, ?_, ?_, ?_, ?_, fun j hj => ?_, rfl, rfl, rfl, rfl, rfl, rfl, rfl, rfl⟩
    · rw [Heap.get_put, if_neg (by omega), ga]
    · rw [Heap.get_put, if_neg (by omega), gb]
    · rw [Heap.get_put, if_neg (by omega), gr]
    · rw [Heap.get_put, if_pos rfl]; rfl
    · unfold upd
      by_cases hji : j = i
      · rw [if_pos hji, hji]; rfl
      · rw [if_neg hji]; exact hx j (by omega)
  · have r7 := (show H'.read H1.n 0 20 = readO (.cells false 44 20 (totL x (g p p') (g t t'))) 0 20 from (read_get g7 _ _).trans rfl).trans (tot_all _ _ _)
    simp (disch := omega) only [BAS, ↓BPR, reduceIte, reduceCtorEq, seval, -List.reduceReplicate, fpOf, freeNext, opW, binI, ev1, Heap.write, setAll, unI, eqKs, eqK, fillI, B37, F37l8, hJ, r7, gr, totL_len, totL_one, ↓tot_sa, ↓tot_all]
    rw [totL_congr (g p p') (g t t') fun j hj => hx j (by omega)]
    exact fun hk => h _ hk
end Go.Iso.Gen
end

section
namespace Go.Iso.Gen
open Go.Iso
set_option maxHeartbeats 4000000
set_option maxRecDepth 10000

theorem add_sp {c d : Nat → Co} {p t p' t' : Int} {H : Heap} {lo : Nat} {Q : Out → Heap → Prop} (hlo : lo ≤ H.n)
    (h : ∀ H', Keep H.n H H' → Q (.val (.agg (totL (joinC addI c d) (addI p p') (addI t t')))) H') : W E0 lo (.call 14 [.agg (totL c p t), .agg (totL d p' t')]) H Q := by
  refine W.pure plain hlo ?_
  rw [c14]
  simp (disch := omega) only [BAS, ↓BPR, reduceIte, reduceCtorEq, seval, -List.reduceReplicate, fpOf, freeNext, opW, binI, ev1, Heap.write, setAll, unI, eqKs, eqK, fillI, B14, ↓totL_z, ↓tot_all]
  generalize hH_H1 : Heap.new _ _ = H1
  have hnH1 : H1.n = H.n + 3 := by rw [← hH_H1]; rfl
  have ga := congrArg (fun h0 => Heap.get h0 (H.n)) hH_H1.symm
  simp (disch := omega) only [BAS, ↓BPR, reduceIte, reduceCtorEq, seval, -List.reduceReplicate, fpOf, freeNext, opW, binI, ev1, Heap.write, setAll, unI, eqKs, eqK, fillI] at ga
  have gb := congrArg (fun h0 => Heap.get h0 (H.n + 1)) hH_H1.symm
  simp (disch := omega) only [BAS, ↓BPR, reduceIte, reduceCtorEq, seval, -List.reduceReplicate, fpOf, freeNext, opW, binI, ev1, Heap.write, setAll, unI, eqKs, eqK, fillI] at gb
  have gr := congrArg (fun h0 => Heap.get h0 (H.n + 2)) hH_H1.symm
  simp (disch := omega) only [BAS, ↓BPR, reduceIte, reduceCtorEq, seval, -List.reduceReplicate, fpOf, freeNext, opW, binI, ev1, Heap.write, setAll, unI, eqKs, eqK, fillI] at gr
  have kH1 : Keep H.n H H1 := ⟨by omega, fun x hx _ => by
    have gx := congrArg (fun h0 => Heap.get h0 x) hH_H1.symm
    simp (disch := omega) only [BAS, ↓BPR, reduceIte, reduceCtorEq, seval, -List.reduceReplicate, fpOf, freeNext, opW, binI, ev1, Heap.write, setAll, unI, eqKs, eqK, fillI] at gx
    exact gx⟩
  clear hH_H1
  refine join_sp (.fn 38 [] []) addI (by omega) (fun x y H' lo' Q' _ => ?_) fun H2 k2 => ?_
  · simp (disch := omega) only [BAS, ↓BPR, reduceIte, reduceCtorEq, seval, -List.reduceReplicate, fpOf, freeNext, opW, binI, ev1, Heap.write, setAll, unI, eqKs, eqK, fillI, add_eq]
  · have hn2 := k2.1
    replace gr := (k2.2 _ (by omega) (by omega)).trans gr
    simp (disch := omega) only [BAS, ↓BPR, reduceIte, reduceCtorEq, seval, -List.reduceReplicate, fpOf, freeNext, opW, binI, ev1, Heap.write, setAll, unI, eqKs, eqK, fillI, B14, gr, totL_len, totL_one, ↓tot_sa, ↓tot_all]
    exact fun hk => h _ hk

theorem times_sp {c : Nat → Co} {p t n : Int} {H : Heap} {lo : Nat} {Q : Out → Heap → Prop} (hlo : lo ≤ H.n) (hn : 0 ≤ n ∧ n ≤ 1000000)
    (h : ∀ H', Keep H.n H H' → Q (.val (.tuple [.agg (totL (joinC (fun x _ => mulI n x) c z0) (mulI n p) (mulI n t)), .int .i64 0])) H') : W E0 lo (.call 18 [.agg (totL c p t), .int .i64 n]) H Q := by
  refine W.pure plain hlo ?_
  rw [c18]
  have h1 : ¬ n < 0 := by omega
  have h2 : ¬ n > 1000000 := by omega
  simp (disch := omega) only [BAS, ↓BPR, reduceIte, reduceCtorEq, seval, -List.reduceReplicate, fpOf, freeNext, opW, binI, ev1, Heap.write, setAll, unI, eqKs, eqK, fillI, B18, ↓totL_z, ↓tot_all, h1, h2, ↓tot_fill0]
  generalize hH_H1 : Heap.new _ _ = H1
  have hnH1 : H1.n = H.n + 3 := by rw [← hH_H1]; rfl
  have ga := congrArg (fun h0 => Heap.get h0 (H.n)) hH_H1.symm
  simp (disch := omega) only [BAS, ↓BPR, reduceIte, reduceCtorEq, seval, -List.reduceReplicate, fpOf, freeNext, opW, binI, ev1, Heap.write, setAll, unI, eqKs, eqK, fillI] at ga
  have gb := congrArg (fun h0 => Heap.get h0 (H.n + 1)) hH_H1.symm
  simp (disch := omega) only [BAS, ↓BPR, reduceIte, reduceCtorEq, seval, -List.reduceReplicate, fpOf, freeNext, opW, binI, ev1, Heap.write, setAll, unI, eqKs, eqK, fillI] at gb
  have gr := congrArg (fun h0 => Heap.get h0 (H.n + 2)) hH_H1.symm
  simp (disch := omega) only [BAS, ↓BPR, reduceIte, reduceCtorEq, seval, -List.reduceReplicate, fpOf, freeNext, opW, binI, ev1, Heap.write, setAll, unI, eqKs, eqK, fillI] at gr
  have kH1 : Keep H.n H H1 := ⟨by omega, fun x hx _ => by
    have gx := congrArg (fun h0 => Heap.get h0 x) hH_H1.symm
    simp (disch := omega) only [BAS, ↓BPR, reduceIte, reduceCtorEq, seval, -List.reduceReplicate, fpOf, freeNext, opW, binI, ev1, Heap.write, setAll, unI, eqKs, eqK, fillI] at gx
    exact gx⟩
  clear hH_H1
  refine join_sp (.fn 40 [] [.ptr (H.n + 1) 0]) (fun x _ => mulI n x) (by omega) (fun x y H' lo' Q' k => ?_) fun H2 k2 => ?_
  · have gb' := (k.2 (H.n + 1) (by omega) (by omega)).trans gb
    simp (disch := omega) only [BAS, ↓BPR, reduceIte, reduceCtorEq, seval, -List.reduceReplicate, fpOf, freeNext, opW, binI, ev1, Heap.write, setAll, unI, eqKs, eqK, fillI]
    exact times_eq x y hn gb'
  · have hn2 := k2.1
    replace gr := (k2.2 _ (by omega) (by omega)).trans gr
    simp (disch := omega) only [BAS, ↓BPR, reduceIte, reduceCtorEq, seval, -List.reduceReplicate, fpOf, freeNext, opW, binI, ev1, Heap.write, setAll, unI, eqKs, eqK, fillI, B18, gr, totL_len, totL_one, ↓tot_sa, ↓tot_all]
    exact fun hk => h _ hk
theorem times_bad {c : Nat → Co} {p t n : Int} {H : Heap} {lo : Nat} {Q : Out → Heap → Prop} (hlo : lo ≤ H.n) (hn : n < 0 ∨ n > 1000000)
    (h : ∀ H', Keep H.n H H' → Q (.val (.tuple [.agg (totL z0 0 0), .int .i64 1])) H') : W E0 lo (.call 18 [.agg (totL c p t), .int .i64 n]) H Q := by
  refine W.pure plain hlo ?_
  rw [c18]
  by_cases h1 : n < 0
  · simp (disch := omega) only [BAS, ↓BPR, reduceIte, reduceCtorEq, seval, -List.reduceReplicate, fpOf, freeNext, opW, binI, ev1, Heap.write, setAll, unI, eqKs, eqK, fillI, B18, ↓totL_z, ↓tot_all, h1, ↓tot_fill0, totL_len, totL_one, ↓tot_sa]
    exact fun hk => h _ hk
  · have h2 : n > 1000000 := by omega
    simp (disch := omega) only [BAS, ↓BPR, reduceIte, reduceCtorEq, seval, -List.reduceReplicate, fpOf, freeNext, opW, binI, ev1, Heap.write, setAll, unI, eqKs, eqK, fillI, B18, ↓totL_z, ↓tot_all, h1, h2, ↓tot_fill0, totL_len, totL_one, ↓tot_sa]
    exact fun hk => h _ hk

def lenC (a : Co) : Int := 110 * clipI a.l + 8 * clipI a.f + 1500 * clipI a.e
theorem length_sp (a : Co) {H : Heap} {lo : Nat} {Q : Out → Heap → Prop} (hlo : lo ≤ H.n)
    (h : ∀ H', Keep H.n H H' → Q (.val (.int .i64 (lenC a))) H') : W E0 lo (.call 17 [.agg [.int .i64 a.l, .int .i64 a.f, .int .i64 a.e]]) H Q := by
  refine pureV _ hlo h fun R hR => ?_
  rw [c17]
  have h1 := clipI_b a.l
  have h2 := clipI_b a.f
  have h3 := clipI_b a.e
  unfold lenC at hR
  simp (disch := omega) only [BAS, ↓BPR, reduceIte, reduceCtorEq, seval, -List.reduceReplicate, fpOf, freeNext, opW, binI, ev1, Heap.write, setAll, unI, eqKs, eqK, fillI, B17, clip_eq]
  exact hR _

def l6 (f : Nat → Int) : List IV := [.int .i64 (f 0), .int .i64 (f 1), .int .i64 (f 2), .int .i64 (f 3), .int .i64 (f 4), .int .i64 (f 5)]
def updN (f : Nat → Int) (i : Nat) (a : Int) : Nat → Int := fun j => if j = i then a else f j
theorem l6_len (f : Nat → Int) : (l6 f).length = 6 := rfl
theorem l6_one (f : Nat → Int) : (l6 f).all IV.one = true := rfl
theorem l6_z : [IV.int .i64 0, .int .i64 0, .int .i64 0, .int .i64 0, .int .i64 0, .int .i64 0] = l6 fun _ => 0 := rfl
theorem l6_all {ro : Bool} {e ez : Nat} (f : Nat → Int) : readO (.cells ro e ez (l6 f)) 0 6 = some (l6 f) := rfl
theorem l6_sa (f g : Nat → Int) : splice (l6 f) 0 (l6 g) = l6 g := rfl
theorem l6_sc (f : Nat → Int) (x : Int) {i : Nat} (hi : i < 6) : splice (l6 f) i [.int .i64 x] = l6 (updN f i x) :=
  six (P := fun i => splice (l6 f) i [.int .i64 x] = l6 (updN f i x)) hi rfl rfl rfl rfl rfl rfl
theorem l6_eq (f : Nat → Int) : eqKs [.int, .int, .int, .int, .int, .int] (l6 f) (l6 f) = some true := by simp [l6, eqKs, eqK]
theorem l6_congr {f g : Nat → Int} (h : ∀ j, j < 6 → f j = g j) : l6 f = l6 g := by
  unfold l6
  rw [h 0 (by omega), h 1 (by omega), h 2 (by omega), h 3 (by omega), h 4 (by omega), h 5 (by omega)]
def tot18 (c : Nat → Co) : List IV := coL (c 0) ++ (coL (c 1) ++ (coL (c 2) ++ (coL (c 3) ++ (coL (c 4) ++ coL (c 5)))))
theorem tot_18 {ro : Bool} {e ez : Nat} (c : Nat → Co) (p t : Int) : readO (.cells ro e ez (totL c p t)) 0 18 = some (tot18 c) := rfl
theorem tot18_len (c : Nat → Co) : (tot18 c).length = 18 := rfl
theorem tot18_at (c : Nat → Co) {i : Nat} (hi : i < 6) : ((tot18 c).drop (i * 3)).take 3 = [.int .i64 (c i).l, .int .i64 (c i).f, .int .i64 (c i).e] :=
  six (P := fun i => ((tot18 c).drop (i * 3)).take 3 = [.int .i64 (c i).l, .int .i64 (c i).f, .int .i64 (c i).e]) hi rfl rfl rfl rfl rfl rfl
theorem expl18 (tm : List IV) (h : tm.length = 18) : tm = [tm.getD 0 IV.undef, tm.getD 1 IV.undef, tm.getD 2 IV.undef, tm.getD 3 IV.undef, tm.getD 4 IV.undef, tm.getD 5 IV.undef, tm.getD 6 IV.undef, tm.getD 7 IV.undef, tm.getD 8 IV.undef, tm.getD 9 IV.undef, tm.getD 10 IV.undef, tm.getD 11 IV.undef, tm.getD 12 IV.undef, tm.getD 13 IV.undef, tm.getD 14 IV.undef, tm.getD 15 IV.undef, tm.getD 16 IV.undef, tm.getD 17 IV.undef] := (expl tm 18 h).trans rfl
theorem lengths_sp {c : Nat → Co} {p t : Int} {H : Heap} {lo : Nat} {Q : Out → Heap → Prop} (hlo : lo ≤ H.n)
    (h : ∀ H', Keep H.n H H' → Q (.val (.agg (l6 fun j => lenC (c j)))) H') : W E0 lo (.call 16 [.agg (totL c p t)]) H Q := by
  refine W.pure plain hlo ?_
  rw [c16]
  simp (disch := omega) only [BAS, ↓BPR, reduceIte, reduceCtorEq, seval, -List.reduceReplicate, fpOf, freeNext, opW, binI, ev1, Heap.write, setAll, unI, eqKs, eqK, fillI, B16, ↓l6_z, ↓tot_18]
  generalize hH_H1 : Heap.new _ _ = H1
  have hnH1 : H1.n = H.n + 3 := by rw [← hH_H1]; rfl
  have ga := congrArg (fun h0 => Heap.get h0 (H.n)) hH_H1.symm
  simp (disch := omega) only [BAS, ↓BPR, reduceIte, reduceCtorEq, seval, -List.reduceReplicate, fpOf, freeNext, opW, binI, ev1, Heap.write, setAll, unI, eqKs, eqK, fillI] at ga
  have gr := congrArg (fun h0 => Heap.get h0 (H.n + 1)) hH_H1.symm
  simp (disch := omega) only [BAS, ↓BPR, reduceIte, reduceCtorEq, seval, -List.reduceReplicate, fpOf, freeNext, opW, binI, ev1, Heap.write, setAll, unI, eqKs, eqK, fillI] at gr
  have g3 := congrArg (fun h0 => Heap.get h0 (H.n + 2)) hH_H1.symm
  simp (disch := omega) only [BAS, ↓BPR, reduceIte, reduceCtorEq, seval, -List.reduceReplicate, fpOf, freeNext, opW, binI, ev1, Heap.write, setAll, unI, eqKs, eqK, fillI] at g3
  have kH1 : Keep H.n H H1 := ⟨by omega, fun x hx _ => by
    have gx := congrArg (fun h0 => Heap.get h0 x) hH_H1.symm
    simp (disch := omega) only [BAS, ↓BPR, reduceIte, reduceCtorEq, seval, -List.reduceReplicate, fpOf, freeNext, opW, binI, ev1, Heap.write, setAll, unI, eqKs, eqK, fillI] at gx
    exact gx⟩
  clear hH_H1
  refine W_inv (fun q fm H' => ∃ (i : Nat) (x : Nat → Int), i + q = 6 ∧ Keep H.n H H' ∧ H.n + 3 ≤ H'.n ∧ H'.get (H.n + 1) = some (.cells false 47 6 (l6 fun _ => 0)) ∧ H'.get (H.n + 2) = some (.cells false 47 6 (l6 x)) ∧ (∀ j, j < i → x j = lenC (c j)) ∧ fm.marks = [] ∧ fm.tm.length = 18 ∧ fm.tm.getD 2 IV.undef = .ptr (H.n + 1) 0 ∧ fm.tm.getD 3 IV.undef = .ptr (H.n + 2) 0 ∧ fm.tm.getD 7 IV.undef = .agg (tot18 c) ∧ fm.tm.getD 8 IV.undef = .int .i64 i) ?_ 6 ⟨0, fun _ => 0, by omega, kH1, by omega, gr, g3, fun j hj => by omega, rfl, rfl, rfl, rfl, rfl, rfl⟩
  clear ga gr g3 kH1
  rintro q ⟨tm, mk⟩ H' ⟨i, x, hiq, kk, hn, gr, g3, hx, rfl, htm, t2, t3, t7, t8⟩ L hN hJ
  rw [expl18 tm htm, t2, t3, t7, t8]
  by_cases hi : i < 6
  · simp (disch := omega) only [BAS, ↓BPR, reduceIte, reduceCtorEq, seval, -List.reduceReplicate, fpOf, freeNext, opW, binI, ev1, Heap.write, setAll, unI, eqKs, eqK, fillI, B16, F16l7, tot18_len, ↓tot18_at]
    generalize hH_H3 : Heap.put _ _ _ = H3
    have hnH3 : H3.n = H'.n + 1 := by rw [← hH_H3]; rfl
    have g5 := congrArg (fun h0 => Heap.get h0 (H'.n)) hH_H3.symm
    simp (disch := omega) only [BAS, ↓BPR, reduceIte, reduceCtorEq, seval, -List.reduceReplicate, fpOf, freeNext, opW, binI, ev1, Heap.write, setAll, unI, eqKs, eqK, fillI] at g5
    have kH3 : Keep H'.n H' H3 := ⟨by omega, fun x hx _ => by
      have gx := congrArg (fun h0 => Heap.get h0 x) hH_H3.symm
      simp (disch := omega) only [BAS, ↓BPR, reduceIte, reduceCtorEq, seval, -List.reduceReplicate, fpOf, freeNext, opW, binI, ev1, Heap.write, setAll, unI, eqKs, eqK, fillI] at gx
      exact gx⟩
    clear hH_H3
    replace gr := (kH3.2 _ (by omega) (by omega)).trans gr
    replace g3 := (kH3.2 _ (by omega) (by omega)).trans g3
    have k3 : Keep H.n H H3 := kk.trans (kH3.lower (by omega))
    refine length_sp (c i) (by omega) fun H4 k4 => ?_
    have hn4 := k4.1
    replace gr := (k4.2 _ (by omega) (by omega)).trans gr
    replace g3 := (k4.2 _ (by omega) (by omega)).trans g3
    simp (disch := omega) only [BAS, ↓BPR, reduceIte, reduceCtorEq, seval, -List.reduceReplicate, fpOf, freeNext, opW, binI, ev1, Heap.write, setAll, unI, eqKs, eqK, fillI, B16, F16l7, g3, l6_len, ↓l6_sc]
    refine hN (q - 1) _ _ (by omega) ⟨i + 1, updN x i (lenC (c i)), by omega, (k3.trans (k4.lower (by omega))).trans (.put _ _ (by omega)), by rw [Heap.n_put]; omega, ?_, ?_, fun j hj => ?_, rfl, rfl, rfl, rfl, rfl, rfl⟩
    · rw [Heap.get_put, if_neg (by omega), gr]
    · rw [Heap.get_put, if_pos rfl, Nat.mul_one]
    · unfold updN
      by_cases hji : j = i
      · rw [if_pos hji, hji]
      · rw [if_neg hji]; exact hx j (by omega)
  · have r3 : H'.read (H.n + 2) 0 6 = some (l6 x) := (read_get g3 _ _).trans rfl
    simp (disch := omega) only [BAS, ↓BPR, reduceIte, reduceCtorEq, seval, -List.reduceReplicate, fpOf, freeNext, opW, binI, ev1, Heap.write, setAll, unI, eqKs, eqK, fillI, B16, F16l7, hJ, r3, gr, l6_len, l6_one, ↓l6_sa, ↓l6_all]
    rw [l6_congr fun j hj => hx j (by omega)]
    exact fun hk => h _ hk
end Go.Iso.Gen
end

section
namespace Go.Iso.Gen
open Go.Iso
set_option maxHeartbeats 8000000
set_option maxRecDepth 20000

def lim (n : Int) : Prop := -9223372036854775808 ≤ n ∧ n ≤ 9223372036854775807
theorem clipI_0 : clipI 0 = 0 := rfl
theorem join_upd (a b : Co) (i : Nat) : joinC addI (upd z0 i a) (upd z0 i b) = upd z0 i (coJ addI a b) := by
  funext j
  unfold joinC upd
  by_cases h : j = i
  · simp only [h, if_true]
  · simp only [h, if_false]; rfl
theorem mul_0 {n : Int} : mulI n 0 = 0 := by unfold mulI; rw [clipI_0, Int.zero_mul]; rfl
theorem join_mul (a : Co) (i : Nat) (n : Int) : joinC (fun x _ => mulI n x) (upd z0 i a) z0 = upd z0 i ⟨mulI n a.l, mulI n a.f, mulI n a.e⟩ := by
  funext j
  unfold joinC upd
  by_cases h : j = i
  · simp only [h, if_true]; rfl
  · simp only [h, if_false]
    show Co.mk (mulI n 0) (mulI n 0) (mulI n 0) = ⟨0, 0, 0⟩
    rw [mul_0]
theorem upd_upd (c : Nat → Co) (i : Nat) (a b : Co) : upd (upd c i a) i b = upd c i b := by
  funext j; unfold upd; by_cases h : j = i <;> simp [h]
theorem len_upd (a : Co) (i : Nat) : (l6 fun j => lenC (upd z0 i a j)) = l6 (updN (fun _ => 0) i (lenC a)) := by
  congr 1
  funext j
  unfold upd updN
  by_cases h : j = i
  · simp only [h, if_true]
  · simp only [h, if_false]; rfl


/-- The temporaries that count. -/
def TmN (tm : List IV) (n i h1 h2 r : Nat) (e u v : IV) : Prop := tm.length = 199 ∧ tm.getD 3 IV.undef = .ptr n 0 ∧ tm.getD 4 IV.undef = .ptr (n + 1) 0 ∧ tm.getD 5 IV.undef = .ptr (n + 2) 0 ∧ tm.getD 7 IV.undef = .int .i64 i ∧ tm.getD 8 IV.undef = .ptr h1 0 ∧ tm.getD 9 IV.undef = .ptr (h1 + 1) 0 ∧ tm.getD 10 IV.undef = .ptr h2 0 ∧ tm.getD 11 IV.undef = .ptr r 0 ∧ tm.getD 12 IV.undef = e ∧ tm.getD 15 IV.undef = u ∧ tm.getD 16 IV.undef = v
theorem expl199 (tm : List IV) (h : tm.length = 199) : tm = [tm.getD 0 IV.undef, tm.getD 1 IV.undef, tm.getD 2 IV.undef, tm.getD 3 IV.undef, tm.getD 4 IV.undef, tm.getD 5 IV.undef, tm.getD 6 IV.undef, tm.getD 7 IV.undef, tm.getD 8 IV.undef, tm.getD 9 IV.undef, tm.getD 10 IV.undef, tm.getD 11 IV.undef, tm.getD 12 IV.undef, tm.getD 13 IV.undef, tm.getD 14 IV.undef, tm.getD 15 IV.undef, tm.getD 16 IV.undef, tm.getD 17 IV.undef, tm.getD 18 IV.undef, tm.getD 19 IV.undef, tm.getD 20 IV.undef, tm.getD 21 IV.undef, tm.getD 22 IV.undef, tm.getD 23 IV.undef, tm.getD 24 IV.undef, tm.getD 25 IV.undef, tm.getD 26 IV.undef, tm.getD 27 IV.undef, tm.getD 28 IV.undef, tm.getD 29 IV.undef, tm.getD 30 IV.undef, tm.getD 31 IV.undef, tm.getD 32 IV.undef, tm.getD 33 IV.undef, tm.getD 34 IV.undef, tm.getD 35 IV.undef, tm.getD 36 IV.undef, tm.getD 37 IV.undef, tm.getD 38 IV.undef, tm.getD 39 IV.undef, tm.getD 40 IV.undef, tm.getD 41 IV.undef, tm.getD 42 IV.undef, tm.getD 43 IV.undef, tm.getD 44 IV.undef, tm.getD 45 IV.undef, tm.getD 46 IV.undef, tm.getD 47 IV.undef, tm.getD 48 IV.undef, tm.getD 49 IV.undef, tm.getD 50 IV.undef, tm.getD 51 IV.undef, tm.getD 52 IV.undef, tm.getD 53 IV.undef, tm.getD 54 IV.undef, tm.getD 55 IV.undef, tm.getD 56 IV.undef, tm.getD 57 IV.undef, tm.getD 58 IV.undef, tm.getD 59 IV.undef, tm.getD 60 IV.undef, tm.getD 61 IV.undef, tm.getD 62 IV.undef, tm.getD 63 IV.undef, tm.getD 64 IV.undef, tm.getD 65 IV.undef, tm.getD 66 IV.undef, tm.getD 67 IV.undef, tm.getD 68 IV.undef, tm.getD 69 IV.undef, tm.getD 70 IV.undef, tm.getD 71 IV.undef, tm.getD 72 IV.undef, tm.getD 73 IV.undef, tm.getD 74 IV.undef, tm.getD 75 IV.undef, tm.getD 76 IV.undef, tm.getD 77 IV.undef, tm.getD 78 IV.undef, tm.getD 79 IV.undef, tm.getD 80 IV.undef, tm.getD 81 IV.undef, tm.getD 82 IV.undef, tm.getD 83 IV.undef, tm.getD 84 IV.undef, tm.getD 85 IV.undef, tm.getD 86 IV.undef, tm.getD 87 IV.undef, tm.getD 88 IV.undef, tm.getD 89 IV.undef, tm.getD 90 IV.undef, tm.getD 91 IV.undef, tm.getD 92 IV.undef, tm.getD 93 IV.undef, tm.getD 94 IV.undef, tm.getD 95 IV.undef, tm.getD 96 IV.undef, tm.getD 97 IV.undef, tm.getD 98 IV.undef, tm.getD 99 IV.undef, tm.getD 100 IV.undef, tm.getD 101 IV.undef, tm.getD 102 IV.undef, tm.getD 103 IV.undef, tm.getD 104 IV.undef, tm.getD 105 IV.undef, tm.getD 106 IV.undef, tm.getD 107 IV.undef, tm.getD 108 IV.undef, tm.getD 109 IV.undef, tm.getD 110 IV.undef, tm.getD 111 IV.undef, tm.getD 112 IV.undef, tm.getD 113 IV.undef, tm.getD 114 IV.undef, tm.getD 115 IV.undef, tm.getD 116 IV.undef, tm.getD 117 IV.undef, tm.getD 118 IV.undef, tm.getD 119 IV.undef, tm.getD 120 IV.undef, tm.getD 121 IV.undef, tm.getD 122 IV.undef, tm.getD 123 IV.undef, tm.getD 124 IV.undef, tm.getD 125 IV.undef, tm.getD 126 IV.undef, tm.getD 127 IV.undef, tm.getD 128 IV.undef, tm.getD 129 IV.undef, tm.getD 130 IV.undef, tm.getD 131 IV.undef, tm.getD 132 IV.undef, tm.getD 133 IV.undef, tm.getD 134 IV.undef, tm.getD 135 IV.undef, tm.getD 136 IV.undef, tm.getD 137 IV.undef, tm.getD 138 IV.undef, tm.getD 139 IV.undef, tm.getD 140 IV.undef, tm.getD 141 IV.undef, tm.getD 142 IV.undef, tm.getD 143 IV.undef, tm.getD 144 IV.undef, tm.getD 145 IV.undef, tm.getD 146 IV.undef, tm.getD 147 IV.undef, tm.getD 148 IV.undef, tm.getD 149 IV.undef, tm.getD 150 IV.undef, tm.getD 151 IV.undef, tm.getD 152 IV.undef, tm.getD 153 IV.undef, tm.getD 154 IV.undef, tm.getD 155 IV.undef, tm.getD 156 IV.undef, tm.getD 157 IV.undef, tm.getD 158 IV.undef, tm.getD 159 IV.undef, tm.getD 160 IV.undef, tm.getD 161 IV.undef, tm.getD 162 IV.undef, tm.getD 163 IV.undef, tm.getD 164 IV.undef, tm.getD 165 IV.undef, tm.getD 166 IV.undef, tm.getD 167 IV.undef, tm.getD 168 IV.undef, tm.getD 169 IV.undef, tm.getD 170 IV.undef, tm.getD 171 IV.undef, tm.getD 172 IV.undef, tm.getD 173 IV.undef, tm.getD 174 IV.undef, tm.getD 175 IV.undef, tm.getD 176 IV.undef, tm.getD 177 IV.undef, tm.getD 178 IV.undef, tm.getD 179 IV.undef, tm.getD 180 IV.undef, tm.getD 181 IV.undef, tm.getD 182 IV.undef, tm.getD 183 IV.undef, tm.getD 184 IV.undef, tm.getD 185 IV.undef, tm.getD 186 IV.undef, tm.getD 187 IV.undef, tm.getD 188 IV.undef, tm.getD 189 IV.undef, tm.getD 190 IV.undef, tm.getD 191 IV.undef, tm.getD 192 IV.undef, tm.getD 193 IV.undef, tm.getD 194 IV.undef, tm.getD 195 IV.undef, tm.getD 196 IV.undef, tm.getD 197 IV.undef, tm.getD 198 IV.undef] := (expl tm 199 h).trans rfl
theorem n9 {a b : Co} {x y : Int} {n i h1 h2 r : Nat} {e u v : IV} {c : Nat → Co} {p t : Int} (hi : i < 6) {lo : Nat} {H : Heap} {tm : List IV} {Q : Out → Heap → Prop} (htm : TmN tm n i h1 h2 r e u v) (hr : lo ≤ r) 
    (g0 : H.get n = some (.cells false 40 3 [.int .i64 a.l, .int .i64 a.f, .int .i64 a.e])) (g1 : H.get (n + 1) = some (.cells false 40 3 [.int .i64 b.l, .int .i64 b.f, .int .i64 b.e])) (g2 : H.get (n + 2) = some (.cells false 41 2 [.int .i64 x, .int .i64 y])) (gr : H.get r = some (.cells false 44 20 (totL c p t)))
    (h : ∀ tm', TmN tm' n i h1 h2 r e u v → Q (.ex .normal ⟨tm', []⟩) (H.put r (.cells false 44 20 (totL c (clipI (clipI x + clipI y)) t)))) : W E0 lo (.code F5o9 none ⟨tm, []⟩) H Q := by
  obtain ⟨htm, t3, t4, t5, t7, t8, t9, t10, t11, t12, t15, t16⟩ := htm
  rw [expl199 tm htm, t3, t4, t5, t7, t8, t9, t10, t11, t12, t15, t16]
  clear htm t3 t4 t5 t7 t8 t9 t10 t11 t12 t15 t16
  have r0 := read_get g0
  have r1 := read_get g1
  have r2 := read_get g2
  have q1 := clipI_b x
  have q2 := clipI_b y
  simp (disch := omega) only [BAS, ↓BPR, reduceIte, reduceCtorEq, seval, -List.reduceReplicate, fpOf, freeNext, opW, binI, ev1, Heap.write, setAll, unI, eqKs, eqK, fillI, B5, r2, gr, lclip_eq, totL_len, ↓tot_sc, ↓tot_sp, ↓tot_st, ↓FR, FW]
  exact h _ ⟨rfl, rfl, rfl, rfl, rfl, rfl, rfl, rfl, rfl, rfl, rfl, rfl⟩
theorem n10 {a b : Co} {x y : Int} {n i h1 h2 r : Nat} {e u v : IV} {c : Nat → Co} {p t : Int} (hi : i < 6) {lo : Nat} {H : Heap} {tm : List IV} {Q : Out → Heap → Prop} (htm : TmN tm n i h1 h2 r e u v) (hr : lo ≤ r) 
    (g0 : H.get n = some (.cells false 40 3 [.int .i64 a.l, .int .i64 a.f, .int .i64 a.e])) (g1 : H.get (n + 1) = some (.cells false 40 3 [.int .i64 b.l, .int .i64 b.f, .int .i64 b.e])) (g2 : H.get (n + 2) = some (.cells false 41 2 [.int .i64 x, .int .i64 y])) (gr : H.get r = some (.cells false 44 20 (totL c p t)))
    (h : ∀ tm', TmN tm' n i h1 h2 r e u v → Q (.ex .normal ⟨tm', []⟩) (H.put r (.cells false 44 20 (totL c p (clipI (clipI y + clipI a.l)))))) : W E0 lo (.code F5o10 none ⟨tm, []⟩) H Q := by
  obtain ⟨htm, t3, t4, t5, t7, t8, t9, t10, t11, t12, t15, t16⟩ := htm
  rw [expl199 tm htm, t3, t4, t5, t7, t8, t9, t10, t11, t12, t15, t16]
  clear htm t3 t4 t5 t7 t8 t9 t10 t11 t12 t15 t16
  have r0 := read_get g0
  have r1 := read_get g1
  have r2 := read_get g2
  have q1 := clipI_b y
  have q2 := clipI_b a.l
  simp (disch := omega) only [BAS, ↓BPR, reduceIte, reduceCtorEq, seval, -List.reduceReplicate, fpOf, freeNext, opW, binI, ev1, Heap.write, setAll, unI, eqKs, eqK, fillI, B5, r0, r2, gr, lclip_eq, totL_len, ↓tot_sc, ↓tot_sp, ↓tot_st, ↓FR, FW]
  exact h _ ⟨rfl, rfl, rfl, rfl, rfl, rfl, rfl, rfl, rfl, rfl, rfl, rfl⟩
theorem n11 {a b : Co} {x y : Int} {n i h1 h2 r : Nat} {e u v : IV} {c : Nat → Co} {p t : Int} (hi : i < 6) {lo : Nat} {H : Heap} {tm : List IV} {Q : Out → Heap → Prop} (htm : TmN tm n i h1 h2 r e u v) (hr : lo ≤ r) 
    (g0 : H.get n = some (.cells false 40 3 [.int .i64 a.l, .int .i64 a.f, .int .i64 a.e])) (g1 : H.get (n + 1) = some (.cells false 40 3 [.int .i64 b.l, .int .i64 b.f, .int .i64 b.e])) (g2 : H.get (n + 2) = some (.cells false 41 2 [.int .i64 x, .int .i64 y])) (gr : H.get r = some (.cells false 44 20 (totL c p t)))
    (h : ∀ tm', TmN tm' n i h1 h2 r e u v → Q (.ex .normal ⟨tm', []⟩) (H.put r (.cells false 44 20 (totL (upd c i (coJ addI a b)) p t)))) : W E0 lo (.code F5o11 none ⟨tm, []⟩) H Q := by
  obtain ⟨htm, t3, t4, t5, t7, t8, t9, t10, t11, t12, t15, t16⟩ := htm
  rw [expl199 tm htm, t3, t4, t5, t7, t8, t9, t10, t11, t12, t15, t16]
  clear htm t3 t4 t5 t7 t8 t9 t10 t11 t12 t15 t16
  have r0 := read_get g0
  have r1 := read_get g1
  have r2 := read_get g2
  have q1 := clipI_b a.l
  have q2 := clipI_b a.f
  have q3 := clipI_b a.e
  have q4 := clipI_b b.l
  have q5 := clipI_b b.f
  have q6 := clipI_b b.e
  simp (disch := omega) only [BAS, ↓BPR, reduceIte, reduceCtorEq, seval, -List.reduceReplicate, fpOf, freeNext, opW, binI, ev1, Heap.write, setAll, unI, eqKs, eqK, fillI, B5, r0, r1, gr, lclip_eq, totL_len, ↓tot_sc, ↓tot_sp, ↓tot_st, ↓FR, FW]
  exact h _ ⟨rfl, rfl, rfl, rfl, rfl, rfl, rfl, rfl, rfl, rfl, rfl, rfl⟩
theorem n21 {a b : Co} {x y : Int} {n i h1 h2 r : Nat} {e u v : IV} {c : Nat → Co} {p t : Int} (hi : i < 6) {lo : Nat} {H : Heap} {tm : List IV} {Q : Out → Heap → Prop} (htm : TmN tm n i h1 h2 r e u v) (hr : lo ≤ r) (hx : 0 ≤ x ∧ x ≤ 1000000)
    (g0 : H.get n = some (.cells false 40 3 [.int .i64 a.l, .int .i64 a.f, .int .i64 a.e])) (g1 : H.get (n + 1) = some (.cells false 40 3 [.int .i64 b.l, .int .i64 b.f, .int .i64 b.e])) (g2 : H.get (n + 2) = some (.cells false 41 2 [.int .i64 x, .int .i64 y])) (gr : H.get r = some (.cells false 44 20 (totL c p t)))
    (h : ∀ tm', TmN tm' n i h1 h2 r e u v → Q (.ex .normal ⟨tm', []⟩) (H.put r (.cells false 44 20 (totL c (mulI x x) t)))) : W E0 lo (.code F5o21 none ⟨tm, []⟩) H Q := by
  obtain ⟨htm, t3, t4, t5, t7, t8, t9, t10, t11, t12, t15, t16⟩ := htm
  rw [expl199 tm htm, t3, t4, t5, t7, t8, t9, t10, t11, t12, t15, t16]
  clear htm t3 t4 t5 t7 t8 t9 t10 t11 t12 t15 t16
  have r0 := read_get g0
  have r1 := read_get g1
  have r2 := read_get g2
  have q1 := mul_le (x := x) hx
  simp (disch := omega) only [BAS, ↓BPR, reduceIte, reduceCtorEq, seval, -List.reduceReplicate, fpOf, freeNext, opW, binI, ev1, Heap.write, setAll, unI, eqKs, eqK, fillI, B5, r2, gr, lclip_eq, totL_len, ↓tot_sc, ↓tot_sp, ↓tot_st, ↓FR, FW]
  exact h _ ⟨rfl, rfl, rfl, rfl, rfl, rfl, rfl, rfl, rfl, rfl, rfl, rfl⟩
theorem n22 {a b : Co} {x y : Int} {n i h1 h2 r : Nat} {e u v : IV} {c : Nat → Co} {p t : Int} (hi : i < 6) {lo : Nat} {H : Heap} {tm : List IV} {Q : Out → Heap → Prop} (htm : TmN tm n i h1 h2 r e u v) (hr : lo ≤ r) (hx : 0 ≤ x ∧ x ≤ 1000000)
    (g0 : H.get n = some (.cells false 40 3 [.int .i64 a.l, .int .i64 a.f, .int .i64 a.e])) (g1 : H.get (n + 1) = some (.cells false 40 3 [.int .i64 b.l, .int .i64 b.f, .int .i64 b.e])) (g2 : H.get (n + 2) = some (.cells false 41 2 [.int .i64 x, .int .i64 y])) (gr : H.get r = some (.cells false 44 20 (totL c p t)))
    (h : ∀ tm', TmN tm' n i h1 h2 r e u v → Q (.ex .normal ⟨tm', []⟩) (H.put r (.cells false 44 20 (totL c p (mulI x y))))) : W E0 lo (.code F5o22 none ⟨tm, []⟩) H Q := by
  obtain ⟨htm, t3, t4, t5, t7, t8, t9, t10, t11, t12, t15, t16⟩ := htm
  rw [expl199 tm htm, t3, t4, t5, t7, t8, t9, t10, t11, t12, t15, t16]
  clear htm t3 t4 t5 t7 t8 t9 t10 t11 t12 t15 t16
  have r0 := read_get g0
  have r1 := read_get g1
  have r2 := read_get g2
  have q1 := mul_le (x := y) hx
  simp (disch := omega) only [BAS, ↓BPR, reduceIte, reduceCtorEq, seval, -List.reduceReplicate, fpOf, freeNext, opW, binI, ev1, Heap.write, setAll, unI, eqKs, eqK, fillI, B5, r2, gr, lclip_eq, totL_len, ↓tot_sc, ↓tot_sp, ↓tot_st, ↓FR, FW]
  exact h _ ⟨rfl, rfl, rfl, rfl, rfl, rfl, rfl, rfl, rfl, rfl, rfl, rfl⟩
theorem n23 {a b : Co} {x y : Int} {n i h1 h2 r : Nat} {e u v : IV} {c : Nat → Co} {p t : Int} (hi : i < 6) {lo : Nat} {H : Heap} {tm : List IV} {Q : Out → Heap → Prop} (htm : TmN tm n i h1 h2 r e u v) (hr : lo ≤ r) (hx : 0 ≤ x ∧ x ≤ 1000000)
    (g0 : H.get n = some (.cells false 40 3 [.int .i64 a.l, .int .i64 a.f, .int .i64 a.e])) (g1 : H.get (n + 1) = some (.cells false 40 3 [.int .i64 b.l, .int .i64 b.f, .int .i64 b.e])) (g2 : H.get (n + 2) = some (.cells false 41 2 [.int .i64 x, .int .i64 y])) (gr : H.get r = some (.cells false 44 20 (totL c p t)))
    (h : ∀ tm', TmN tm' n i h1 h2 r e u v → Q (.ex .normal ⟨tm', []⟩) (H.put r (.cells false 44 20 (totL (upd c i ⟨mulI x a.l, mulI x a.f, mulI x a.e⟩) p t)))) : W E0 lo (.code F5o23 none ⟨tm, []⟩) H Q := by
  obtain ⟨htm, t3, t4, t5, t7, t8, t9, t10, t11, t12, t15, t16⟩ := htm
  rw [expl199 tm htm, t3, t4, t5, t7, t8, t9, t10, t11, t12, t15, t16]
  clear htm t3 t4 t5 t7 t8 t9 t10 t11 t12 t15 t16
  have r0 := read_get g0
  have r1 := read_get g1
  have r2 := read_get g2
  have q1 := mul_le (x := a.l) hx
  have q2 := mul_le (x := a.f) hx
  have q3 := mul_le (x := a.e) hx
  simp (disch := omega) only [BAS, ↓BPR, reduceIte, reduceCtorEq, seval, -List.reduceReplicate, fpOf, freeNext, opW, binI, ev1, Heap.write, setAll, unI, eqKs, eqK, fillI, B5, r0, r2, gr, lclip_eq, totL_len, ↓tot_sc, ↓tot_sp, ↓tot_st, ↓FR, FW]
  exact h _ ⟨rfl, rfl, rfl, rfl, rfl, rfl, rfl, rfl, rfl, rfl, rfl, rfl⟩
theorem n12 {a : Co} {n i h1 h2 r : Nat} {e u v : IV} {lo : Nat} {H : Heap} {tm : List IV} {Q : Out → Heap → Prop} (htm : TmN tm n i h1 h2 r e u v)
    (g0 : H.get n = some (.cells false 40 3 [.int .i64 a.l, .int .i64 a.f, .int .i64 a.e]))
    (h : ∀ tm', TmN tm' n i h1 h2 r (.int .i64 (lenC a)) u v → Q (.ex .normal ⟨tm', []⟩) H) : W E0 lo (.code F5o12 none ⟨tm, []⟩) H Q := by
  obtain ⟨htm, t3, t4, t5, t7, t8, t9, t10, t11, t12, t15, t16⟩ := htm
  rw [expl199 tm htm, t3, t4, t5, t7, t8, t9, t10, t11, t12, t15, t16]
  clear htm t3 t4 t5 t7 t8 t9 t10 t11 t12 t15 t16
  have r0 := read_get g0
  have q1 := clipI_b a.l
  have q2 := clipI_b a.f
  have q3 := clipI_b a.e
  simp (disch := omega) only [BAS, ↓BPR, reduceIte, reduceCtorEq, seval, -List.reduceReplicate, fpOf, freeNext, opW, binI, ev1, Heap.write, setAll, unI, eqKs, eqK, fillI, B5, r0, lclip_eq, ↓FR, FW]
  exact h _ ⟨rfl, rfl, rfl, rfl, rfl, rfl, rfl, rfl, rfl, rfl, rfl, rfl⟩
end Go.Iso.Gen
end

section
namespace Go.Iso.Gen
open Go.Iso
set_option maxHeartbeats 8000000
set_option maxRecDepth 20000

theorem get_put_ne {H : Heap} {b x : Nat} {o : IObj} (h : b < x ∨ x < b) : (H.put b o).get x = H.get x := by rw [Heap.get_put, if_neg (by omega)]
theorem get_put_eq {H : Heap} {b : Nat} {o : IObj} : (H.put b o).get b = some o := by rw [Heap.get_put, if_pos rfl]
/-- What lies where, while the numbers are made. -/
structure St (H : Heap) (n h1 h2 i : Nat) (a b : Co) (x y : Int) (sc wc : Nat → Co) (sp st wp wt : Int) (k0 : Heap) : Prop where
  k : Keep n k0 H
  kn : n = k0.n
  ord : n + 3 ≤ h1 ∧ h1 + 2 ≤ h2 ∧ h2 + 2 ≤ H.n
  g0 : H.get n = some (.cells false 40 3 [.int .i64 a.l, .int .i64 a.f, .int .i64 a.e])
  g1 : H.get (n + 1) = some (.cells false 40 3 [.int .i64 b.l, .int .i64 b.f, .int .i64 b.e])
  g2 : H.get (n + 2) = some (.cells false 41 2 [.int .i64 x, .int .i64 y])
  g8 : H.get h1 = some (.cells false 44 20 (totL (upd z0 i a) x y))
  gs : H.get h2 = some (.cells false 44 20 (totL sc sp st))
  gw : H.get (h2 + 1) = some (.cells false 44 20 (totL wc wp wt))
theorem St.put {H : Heap} {n h1 h2 i : Nat} {a b : Co} {x y : Int} {sc wc : Nat → Co} {sp st wp wt : Int} {k0 : Heap} (s : St H n h1 h2 i a b x y sc wc sp st wp wt k0) (wc' : Nat → Co) (wp' wt' : Int) :
    St (H.put (h2 + 1) (.cells false 44 20 (totL wc' wp' wt'))) n h1 h2 i a b x y sc wc' sp st wp' wt' k0 := by
  obtain ⟨k, kn, ⟨o1, o2, o3⟩, g0, g1, g2, g8, gs, gw⟩ := s
  exact ⟨k.trans (.put _ _ (by omega)), kn, ⟨o1, o2, o3⟩, (get_put_ne (by omega)).trans g0, (get_put_ne (by omega)).trans g1, (get_put_ne (by omega)).trans g2, (get_put_ne (by omega)).trans g8, (get_put_ne (by omega)).trans gs, get_put_eq⟩
theorem St.keep {H H' : Heap} {n h1 h2 i : Nat} {a b : Co} {x y : Int} {sc wc : Nat → Co} {sp st wp wt : Int} {k0 : Heap} (s : St H n h1 h2 i a b x y sc wc sp st wp wt k0) (j : Keep H.n H H') :
    St H' n h1 h2 i a b x y sc wc sp st wp wt k0 := by
  obtain ⟨k, kn, ⟨o1, o2, o3⟩, g0, g1, g2, g8, gs, gw⟩ := s
  have hj := j.1
  exact ⟨k.trans (j.lower (by omega)), kn, ⟨o1, o2, by omega⟩, (j.2 _ (by omega) (by omega)).trans g0, (j.2 _ (by omega) (by omega)).trans g1, (j.2 _ (by omega) (by omega)).trans g2, (j.2 _ (by omega) (by omega)).trans g8, (j.2 _ (by omega) (by omega)).trans gs, (j.2 _ (by omega) (by omega)).trans gw⟩
theorem end_main {a b : Co} {x y : Int} {n h1 h2 h5 i : Nat} {e : IV} (hi : i < 6) (hx : 0 ≤ x ∧ x ≤ 1000000) {H H1 : Heap} (ht : Tabs tabs H) {wc : Nat → Co} {wp wt : Int} (hw : wc = upd z0 i (coJ addI a b)) (S : St H1 n h1 h2 i a b x y (upd z0 i (coJ addI a b)) wc (addI x y) (addI y a.l) wp wt H)
    (g15 : H1.get h5 = some (.cells false 44 20 (totL (upd z0 i ⟨mulI x a.l, mulI x a.f, mulI x a.e⟩) (mulI x x) (mulI x y)))) (h5g : h2 + 2 ≤ h5 ∧ h5 < H1.n)
    {tm : List IV} (htm : TmN tm n i h1 h2 (h2 + 1) e (.ptr h5 0) (.int .i64 0)) :
    W E0 n (.code (.seq F5o21 (.seq F5o22 (.seq F5o23 (.seq F5o24 .ret)))) none ⟨tm, []⟩) H1 (retC n F5.results fun o _ => o = .val (.bool true)) := by
  rw [W_seq]
  refine n21 hi htm (by have := S.ord; omega) hx S.g0 S.g1 S.g2 S.gw fun tm1 htm1 => ?_
  have g15a := (get_put_ne (H := H1) (b := h2 + 1) (x := h5) (o := .cells false 44 20 (totL wc (mulI x x) wt)) (by omega)).trans g15
  replace S := S.put wc (mulI x x) wt
  generalize Heap.put _ _ _ = H5 at S g15a
  rw [thenC_n, W_seq]
  refine n22 hi htm1 (by have := S.ord; omega) hx S.g0 S.g1 S.g2 S.gw fun tm2 htm2 => ?_
  have g15b := (get_put_ne (H := H5) (b := h2 + 1) (x := h5) (o := .cells false 44 20 (totL wc (mulI x x) (mulI x y))) (by omega)).trans g15a
  replace S := S.put wc (mulI x x) (mulI x y)
  generalize Heap.put _ _ _ = H6 at S g15b
  rw [thenC_n, W_seq]
  refine n23 hi htm2 (by have := S.ord; omega) hx S.g0 S.g1 S.g2 S.gw fun tm3 htm3 => ?_
  rw [hw, upd_upd] at *
  have g15c := (get_put_ne (H := H6) (b := h2 + 1) (x := h5) (o := .cells false 44 20 (totL (upd z0 i ⟨mulI x a.l, mulI x a.f, mulI x a.e⟩) (mulI x x) (mulI x y))) (by omega)).trans g15b
  replace S := S.put (upd z0 i ⟨mulI x a.l, mulI x a.f, mulI x a.e⟩) (mulI x x) (mulI x y)
  generalize Heap.put _ _ _ = H7 at S g15c
  rw [thenC_n]
  obtain ⟨htm, t3, t4, t5, t7, t8, t9, t10, t11, t12, t15, t16⟩ := htm3
  rw [expl199 tm3 htm, t3, t4, t5, t7, t8, t9, t10, t11, t12, t15, t16]
  clear htm t3 t4 t5 t7 t8 t9 t10 t11 t12 t15 t16
  have kk : Keep H.n H H7 := by have := S.k; rw [S.kn] at this; exact this
  have r1 : H7.read h5 0 20 = some (totL (upd z0 i ⟨mulI x a.l, mulI x a.f, mulI x a.e⟩) (mulI x x) (mulI x y)) := (read_get g15c _ _).trans rfl
  have r2 : H7.read (h2 + 1) 0 20 = some (totL (upd z0 i ⟨mulI x a.l, mulI x a.f, mulI x a.e⟩) (mulI x x) (mulI x y)) := (read_get S.gw _ _).trans rfl
  simp (disch := omega) only [BAS, ↓BPR, reduceIte, reduceCtorEq, seval, -List.reduceReplicate, fpOf, freeNext, opW, binI, ev1, Heap.write, setAll, unI, eqKs, eqK, fillI, B5, r1, r2, ↓tot_eq]
  refine c13 (ht.keep' kk) ?_
  simp (disch := omega) only [BAS, ↓BPR, reduceIte, reduceCtorEq, seval, -List.reduceReplicate, fpOf, freeNext, opW, binI, ev1, Heap.write, setAll, unI, eqKs, eqK, fillI, B5]

theorem tail_main {a b : Co} {x y : Int} {n h1 h2 i : Nat} {u v : IV} (hi : i < 6) {H H1 : Heap} (ht : Tabs tabs H) (S : St H1 n h1 h2 i a b x y (upd z0 i (coJ addI a b)) (upd z0 i (coJ addI a b)) (addI x y) (addI y a.l) (addI x y) (addI y a.l) H)
    {tm : List IV} (htm : TmN tm n i h1 h2 (h2 + 1) (.int .i64 (lenC a)) u v) :
    W E0 n (.code (.seq F5o13 (.seq F5o14 (.seq F5o15 (.seq (.seq F5o16 (.cond (.tmp 122) (.seq F5o17 .ret) .skip)) (.seq F5o18 (.seq (.seq F5o19 (.cond (.tmp 137) (.seq F5o20 .ret) .skip)) (.seq F5o21 (.seq F5o22 (.seq F5o23 (.seq F5o24 .ret)))))))))) none ⟨tm, []⟩) H1 (retC n F5.results fun o _ => o = .val (.bool true)) := by
  obtain ⟨htm, t3, t4, t5, t7, t8, t9, t10, t11, t12, t15, t16⟩ := htm
  rw [expl199 tm htm, t3, t4, t5, t7, t8, t9, t10, t11, t12, t15, t16]
  clear htm t3 t4 t5 t7 t8 t9 t10 t11 t12 t15 t16
  have r8 : H1.read h1 0 20 = some (totL (upd z0 i a) x y) := (read_get S.g8 _ _).trans rfl
  simp (disch := omega) only [BAS, ↓BPR, reduceIte, reduceCtorEq, seval, -List.reduceReplicate, fpOf, freeNext, opW, binI, ev1, Heap.write, setAll, unI, eqKs, eqK, fillI, wF5o0, F5p0, wF5o1, F5p1, wF5o2, F5p2, wF5o3, F5p3, wF5o4, F5p4, wF5o5, F5p5, wF5o6, F5p6, wF5o7, F5p7, wF5o8, F5p8, wF5o9, F5p9, wF5o10, F5p10, wF5o11, F5p11, wF5o12, F5p12, wF5o13, F5p13, wF5o14, F5p14, wF5o15, F5p15, F5p16, F5p17, F5p18, F5p19, F5p20, F5p21, F5p22, F5p23, F5p24, F5b, F5, r8]
  have o1 := S.ord
  refine lengths_sp (by omega) fun H3 k3 => ?_
  rw [len_upd]
  replace S := S.keep k3
  have o2 := S.ord
  have hn3 := k3.1
  have hn : n ≤ H3.n := by omega
  simp (disch := omega) only [BAS, ↓BPR, reduceIte, reduceCtorEq, seval, -List.reduceReplicate, fpOf, freeNext, opW, binI, ev1, Heap.write, setAll, unI, eqKs, eqK, fillI, wF5o0, F5p0, wF5o1, F5p1, wF5o2, F5p2, wF5o3, F5p3, wF5o4, F5p4, wF5o5, F5p5, wF5o6, F5p6, wF5o7, F5p7, wF5o8, F5p8, wF5o9, F5p9, wF5o10, F5p10, wF5o11, F5p11, wF5o12, F5p12, wF5o13, F5p13, wF5o14, F5p14, wF5o15, F5p15, F5p16, F5p17, F5p18, F5p19, F5p20, F5p21, F5p22, F5p23, F5p24, F5b, F5, ↓l6_z, l6_len, l6_one, ↓l6_sa, ↓l6_sc, hn, Nat.mul_one]
  generalize hH_H4 : Heap.put _ _ _ = H4
  have hnH4 : H4.n = H3.n + 2 := by rw [← hH_H4]; rfl
  have g13 := congrArg (fun h0 => Heap.get h0 (H3.n)) hH_H4.symm
  simp (disch := omega) only [BAS, ↓BPR, reduceIte, reduceCtorEq, seval, -List.reduceReplicate, fpOf, freeNext, opW, binI, ev1, Heap.write, setAll, unI, eqKs, eqK, fillI] at g13
  have g14 := congrArg (fun h0 => Heap.get h0 (H3.n + 1)) hH_H4.symm
  simp (disch := omega) only [BAS, ↓BPR, reduceIte, reduceCtorEq, seval, -List.reduceReplicate, fpOf, freeNext, opW, binI, ev1, Heap.write, setAll, unI, eqKs, eqK, fillI] at g14
  have kH4 : Keep H3.n H3 H4 := ⟨by omega, fun x hx _ => by
    have gx := congrArg (fun h0 => Heap.get h0 x) hH_H4.symm
    simp (disch := omega) only [BAS, ↓BPR, reduceIte, reduceCtorEq, seval, -List.reduceReplicate, fpOf, freeNext, opW, binI, ev1, Heap.write, setAll, unI, eqKs, eqK, fillI] at gx
    exact gx⟩
  clear hH_H4
  replace S := S.keep kH4
  clear kH4
  have s1 : H4.read h2 0 20 = some (totL (upd z0 i (coJ addI a b)) (addI x y) (addI y a.l)) := (read_get S.gs _ _).trans rfl
  have s2 : H4.read (h2 + 1) 0 20 = some (totL (upd z0 i (coJ addI a b)) (addI x y) (addI y a.l)) := (read_get S.gw _ _).trans rfl
  have s0 := read_get S.g0
  simp (disch := omega) only [BAS, ↓BPR, reduceIte, reduceCtorEq, seval, -List.reduceReplicate, fpOf, freeNext, opW, binI, ev1, Heap.write, setAll, unI, eqKs, eqK, fillI, wF5o0, F5p0, wF5o1, F5p1, wF5o2, F5p2, wF5o3, F5p3, wF5o4, F5p4, wF5o5, F5p5, wF5o6, F5p6, wF5o7, F5p7, wF5o8, F5p8, wF5o9, F5p9, wF5o10, F5p10, wF5o11, F5p11, wF5o12, F5p12, wF5o13, F5p13, wF5o14, F5p14, wF5o15, F5p15, wF5o16, F5p16, F5p17, F5p18, F5p19, F5p20, F5p21, F5p22, F5p23, F5p24, F5b, F5, s1, s2, s0, ↓tot_eq]
  refine length_sp a (by omega) fun H5 k5 => ?_
  have hn5 := k5.1
  replace g13 := (k5.2 _ (by omega) (by omega)).trans g13
  replace g14 := (k5.2 _ (by omega) (by omega)).trans g14
  replace S := S.keep k5
  have s3 : H5.read H3.n 0 6 = some (l6 (updN (fun _ => 0) i (lenC a))) := (read_get g13 _ _).trans rfl
  have s4 : H5.read (H3.n + 1) 0 6 = some (l6 (updN (fun _ => 0) i (lenC a))) := (read_get g14 _ _).trans rfl
  have s8 : H5.read h1 0 20 = some (totL (upd z0 i a) x y) := (read_get S.g8 _ _).trans rfl
  have x2 := read_get S.g2
  have o3 := S.ord
  simp (disch := omega) only [BAS, ↓BPR, reduceIte, reduceCtorEq, seval, -List.reduceReplicate, fpOf, freeNext, opW, binI, ev1, Heap.write, setAll, unI, eqKs, eqK, fillI, wF5o0, F5p0, wF5o1, F5p1, wF5o2, F5p2, wF5o3, F5p3, wF5o4, F5p4, wF5o5, F5p5, wF5o6, F5p6, wF5o7, F5p7, wF5o8, F5p8, wF5o9, F5p9, wF5o10, F5p10, wF5o11, F5p11, wF5o12, F5p12, wF5o13, F5p13, wF5o14, F5p14, wF5o15, F5p15, wF5o16, F5p16, wF5o17, F5p17, wF5o18, F5p18, F5p19, F5p20, F5p21, F5p22, F5p23, F5p24, F5b, F5, s3, s4, ↓l6_eq, s8, x2]
  by_cases hx : 0 ≤ x ∧ x ≤ 1000000
  · refine times_sp (by omega) hx fun H6 k6 => ?_
    have hn6 := k6.1
    rw [join_mul]
    replace S := S.keep k6
    have o4 := S.ord
    have x3 := read_get S.g2
    have hn6' : n ≤ H6.n := by omega
    simp (disch := omega) only [BAS, ↓BPR, reduceIte, reduceCtorEq, seval, -List.reduceReplicate, fpOf, freeNext, opW, binI, ev1, Heap.write, setAll, unI, eqKs, eqK, fillI, wF5o0, F5p0, wF5o1, F5p1, wF5o2, F5p2, wF5o3, F5p3, wF5o4, F5p4, wF5o5, F5p5, wF5o6, F5p6, wF5o7, F5p7, wF5o8, F5p8, wF5o9, F5p9, wF5o10, F5p10, wF5o11, F5p11, wF5o12, F5p12, wF5o13, F5p13, wF5o14, F5p14, wF5o15, F5p15, wF5o16, F5p16, wF5o17, F5p17, wF5o18, F5p18, wF5o19, F5p19, F5p20, F5p21, F5p22, F5p23, F5p24, F5b, F5, ↓totL_z, totL_len, totL_one, ↓tot_sa, x3, show ¬ x < 0 by omega, show ¬ x > 1000000 by omega, hn6']
    generalize hH_H7 : Heap.put _ _ _ = H7
    have hnH7 : H7.n = H6.n + 1 := by rw [← hH_H7]; rfl
    have g15 := congrArg (fun h0 => Heap.get h0 (H6.n)) hH_H7.symm
    simp (disch := omega) only [BAS, ↓BPR, reduceIte, reduceCtorEq, seval, -List.reduceReplicate, fpOf, freeNext, opW, binI, ev1, Heap.write, setAll, unI, eqKs, eqK, fillI] at g15
    have kH7 : Keep H6.n H6 H7 := ⟨by omega, fun x hx _ => by
      have gx := congrArg (fun h0 => Heap.get h0 x) hH_H7.symm
      simp (disch := omega) only [BAS, ↓BPR, reduceIte, reduceCtorEq, seval, -List.reduceReplicate, fpOf, freeNext, opW, binI, ev1, Heap.write, setAll, unI, eqKs, eqK, fillI] at gx
      exact gx⟩
    clear hH_H7
    replace S := S.keep kH7
    rw [← W_seq]
    refine end_main (e := .int .i64 (lenC a)) hi hx ht rfl S g15 (by omega) ?_
    exact ⟨rfl, rfl, rfl, rfl, rfl, rfl, rfl, rfl, rfl, rfl, rfl, rfl⟩
  · refine times_bad (by omega) (by omega) fun H6 k6 => ?_
    have hn6 := k6.1
    replace S := S.keep k6
    have o4 := S.ord
    have x3 := read_get S.g2
    have hn6' : n ≤ H6.n := by omega
    have kn := S.kn
    have kk : Keep H.n H H6 := by have := S.k; rw [kn] at this; exact this
    by_cases h0 : x < 0
    · simp (disch := omega) only [BAS, ↓BPR, reduceIte, reduceCtorEq, seval, -List.reduceReplicate, fpOf, freeNext, opW, binI, ev1, Heap.write, setAll, unI, eqKs, eqK, fillI, wF5o0, F5p0, wF5o1, F5p1, wF5o2, F5p2, wF5o3, F5p3, wF5o4, F5p4, wF5o5, F5p5, wF5o6, F5p6, wF5o7, F5p7, wF5o8, F5p8, wF5o9, F5p9, wF5o10, F5p10, wF5o11, F5p11, wF5o12, F5p12, wF5o13, F5p13, wF5o14, F5p14, wF5o15, F5p15, wF5o16, F5p16, wF5o17, F5p17, wF5o18, F5p18, wF5o19, F5p19, wF5o20, F5p20, F5p21, F5p22, F5p23, F5p24, F5b, F5, ↓totL_z, ↓tot_fill0, totL_len, totL_one, ↓tot_sa, x3, h0, hn6', ↓tot_all, ↓tot_eq]
      refine c13 ?_ ?_
      · exact (ht.keep' kk).keep' Keep.newPut
      · simp (disch := omega) only [BAS, ↓BPR, reduceIte, reduceCtorEq, seval, -List.reduceReplicate, fpOf, freeNext, opW, binI, ev1, Heap.write, setAll, unI, eqKs, eqK, fillI, B5]
    · simp (disch := omega) only [BAS, ↓BPR, reduceIte, reduceCtorEq, seval, -List.reduceReplicate, fpOf, freeNext, opW, binI, ev1, Heap.write, setAll, unI, eqKs, eqK, fillI, wF5o0, F5p0, wF5o1, F5p1, wF5o2, F5p2, wF5o3, F5p3, wF5o4, F5p4, wF5o5, F5p5, wF5o6, F5p6, wF5o7, F5p7, wF5o8, F5p8, wF5o9, F5p9, wF5o10, F5p10, wF5o11, F5p11, wF5o12, F5p12, wF5o13, F5p13, wF5o14, F5p14, wF5o15, F5p15, wF5o16, F5p16, wF5o17, F5p17, wF5o18, F5p18, wF5o19, F5p19, wF5o20, F5p20, F5p21, F5p22, F5p23, F5p24, F5b, F5, ↓totL_z, ↓tot_fill0, totL_len, totL_one, ↓tot_sa, x3, h0, show x > 1000000 by omega, hn6', ↓tot_all, ↓tot_eq]
      refine c13 ?_ ?_
      · exact (ht.keep' kk).keep' Keep.newPut
      · simp (disch := omega) only [BAS, ↓BPR, reduceIte, reduceCtorEq, seval, -List.reduceReplicate, fpOf, freeNext, opW, binI, ev1, Heap.write, setAll, unI, eqKs, eqK, fillI, B5]
theorem numbers_main {a b : Co} {x y : Int} {i : Nat} (hi : i < 6) {H H1 : Heap} (ht : Tabs tabs H) (k1 : Keep H.n H H1) (hn1 : H1.n = H.n + 3)
    (g0 : H1.get H.n = some (.cells false 40 3 [.int .i64 a.l, .int .i64 a.f, .int .i64 a.e])) (g1 : H1.get (H.n + 1) = some (.cells false 40 3 [.int .i64 b.l, .int .i64 b.f, .int .i64 b.e])) (g2 : H1.get (H.n + 2) = some (.cells false 41 2 [.int .i64 x, .int .i64 y]))
    {tm : List IV} (htm : tm.length = 199) (t3 : tm.getD 3 IV.undef = .ptr H.n 0) (t4 : tm.getD 4 IV.undef = .ptr (H.n + 1) 0) (t5 : tm.getD 5 IV.undef = .ptr (H.n + 2) 0) (t7 : tm.getD 7 IV.undef = .int .i64 i) :
    W E0 H.n (.code (.seq F5o4 (.seq F5o5 (.seq F5o6 (.seq F5o7 (.seq F5o8 (.seq F5o9 (.seq F5o10 (.seq F5o11 (.seq F5o12 (.seq F5o13 (.seq F5o14 (.seq F5o15 (.seq (.seq F5o16 (.cond (.tmp 122) (.seq F5o17 .ret) .skip)) (.seq F5o18 (.seq (.seq F5o19 (.cond (.tmp 137) (.seq F5o20 .ret) .skip)) (.seq F5o21 (.seq F5o22 (.seq F5o23 (.seq F5o24 .ret))))))))))))))))))) none ⟨tm, []⟩) H1 (retC H.n F5.results fun o _ => o = .val (.bool true)) := by
  rw [expl199 tm htm, t3, t4, t5, t7]
  clear htm t3 t4 t5 t7
  have r0 := read_get g0
  have r1 := read_get g1
  have r2 := read_get g2
  simp (disch := omega) only [BAS, ↓BPR, reduceIte, reduceCtorEq, seval, -List.reduceReplicate, fpOf, freeNext, opW, binI, ev1, Heap.write, setAll, unI, eqKs, eqK, fillI, wF5o0, F5p0, wF5o1, F5p1, wF5o2, F5p2, wF5o3, F5p3, wF5o4, F5p4, wF5o5, F5p5, wF5o6, F5p6, wF5o7, F5p7, wF5o8, F5p8, F5p9, F5p10, F5p11, F5p12, F5p13, F5p14, F5p15, F5p16, F5p17, F5p18, F5p19, F5p20, F5p21, F5p22, F5p23, F5p24, F5b, F5, r0, r1, r2, ↓totL_z, ↓tot_fill, totL_len, totL_one, ↓tot_sa, ↓tot_sc, ↓tot_all, ↓FR, FW]
  generalize hH_H2 : Heap.put _ _ _ = H2
  have hnH2 : H2.n = H1.n + 2 := by rw [← hH_H2]; rfl
  have g8 := congrArg (fun h0 => Heap.get h0 (H1.n)) hH_H2.symm
  simp (disch := omega) only [BAS, ↓BPR, reduceIte, reduceCtorEq, seval, -List.reduceReplicate, fpOf, freeNext, opW, binI, ev1, Heap.write, setAll, unI, eqKs, eqK, fillI] at g8
  have g9 := congrArg (fun h0 => Heap.get h0 (H1.n + 1)) hH_H2.symm
  simp (disch := omega) only [BAS, ↓BPR, reduceIte, reduceCtorEq, seval, -List.reduceReplicate, fpOf, freeNext, opW, binI, ev1, Heap.write, setAll, unI, eqKs, eqK, fillI] at g9
  have kH2 : Keep H1.n H1 H2 := ⟨by omega, fun x hx _ => by
    have gx := congrArg (fun h0 => Heap.get h0 x) hH_H2.symm
    simp (disch := omega) only [BAS, ↓BPR, reduceIte, reduceCtorEq, seval, -List.reduceReplicate, fpOf, freeNext, opW, binI, ev1, Heap.write, setAll, unI, eqKs, eqK, fillI] at gx
    exact gx⟩
  clear hH_H2
  replace g0 := (kH2.2 _ (by omega) (by omega)).trans g0
  replace g1 := (kH2.2 _ (by omega) (by omega)).trans g1
  replace g2 := (kH2.2 _ (by omega) (by omega)).trans g2
  replace k1 : Keep H.n H H2 := k1.trans (kH2.lower (by omega))
  clear kH2 r0 r1 r2
  refine add_sp (by omega) fun H3 k3 => ?_
  have hn3 := k3.1
  replace g0 := (k3.2 _ (by omega) (by omega)).trans g0
  replace g1 := (k3.2 _ (by omega) (by omega)).trans g1
  replace g2 := (k3.2 _ (by omega) (by omega)).trans g2
  replace g8 := (k3.2 _ (by omega) (by omega)).trans g8
  replace g9 := (k3.2 _ (by omega) (by omega)).trans g9
  replace k1 : Keep H.n H H3 := k1.trans (k3.lower (by omega))
  clear k3
  rw [join_upd]
  simp (disch := omega) only [BAS, ↓BPR, reduceIte, reduceCtorEq, seval, -List.reduceReplicate, fpOf, freeNext, opW, binI, ev1, Heap.write, setAll, unI, eqKs, eqK, fillI, wF5o0, F5p0, wF5o1, F5p1, wF5o2, F5p2, wF5o3, F5p3, wF5o4, F5p4, wF5o5, F5p5, wF5o6, F5p6, wF5o7, F5p7, wF5o8, F5p8, F5p9, F5p10, F5p11, F5p12, F5p13, F5p14, F5p15, F5p16, F5p17, F5p18, F5p19, F5p20, F5p21, F5p22, F5p23, F5p24, F5b, F5, ↓totL_z, totL_len, totL_one, ↓tot_sa]
  generalize hH_H4 : Heap.new _ _ = H4
  have hnH4 : H4.n = H3.n + 2 := by rw [← hH_H4]; rfl
  have gs := congrArg (fun h0 => Heap.get h0 (H3.n)) hH_H4.symm
  simp (disch := omega) only [BAS, ↓BPR, reduceIte, reduceCtorEq, seval, -List.reduceReplicate, fpOf, freeNext, opW, binI, ev1, Heap.write, setAll, unI, eqKs, eqK, fillI] at gs
  have gw := congrArg (fun h0 => Heap.get h0 (H3.n + 1)) hH_H4.symm
  simp (disch := omega) only [BAS, ↓BPR, reduceIte, reduceCtorEq, seval, -List.reduceReplicate, fpOf, freeNext, opW, binI, ev1, Heap.write, setAll, unI, eqKs, eqK, fillI] at gw
  have kH4 : Keep H3.n H3 H4 := ⟨by omega, fun x hx _ => by
    have gx := congrArg (fun h0 => Heap.get h0 x) hH_H4.symm
    simp (disch := omega) only [BAS, ↓BPR, reduceIte, reduceCtorEq, seval, -List.reduceReplicate, fpOf, freeNext, opW, binI, ev1, Heap.write, setAll, unI, eqKs, eqK, fillI] at gx
    exact gx⟩
  clear hH_H4
  replace g0 := (kH4.2 _ (by omega) (by omega)).trans g0
  replace g1 := (kH4.2 _ (by omega) (by omega)).trans g1
  replace g2 := (kH4.2 _ (by omega) (by omega)).trans g2
  replace g8 := (kH4.2 _ (by omega) (by omega)).trans g8
  replace g9 := (kH4.2 _ (by omega) (by omega)).trans g9
  replace k1 : Keep H.n H H4 := k1.trans (kH4.lower (by omega))
  clear kH4
  have S : St H4 H.n H1.n H3.n i a b x y (upd z0 i (coJ addI a b)) z0 (addI x y) (addI y a.l) 0 0 H := ⟨k1, rfl, by omega, g0, g1, g2, g8, gs, gw⟩
  clear k1 g0 g1 g2 g8 g9 gs gw
  refine n9 hi ⟨rfl, rfl, rfl, rfl, rfl, rfl, rfl, rfl, rfl, rfl, rfl, rfl⟩ (by have := S.ord; omega) S.g0 S.g1 S.g2 S.gw fun tm1 htm1 => ?_
  replace S := S.put z0 (clipI (clipI x + clipI y)) 0
  generalize Heap.put _ _ _ = H5 at S
  rw [thenC_n, W_seq]
  refine n10 hi htm1 (by have := S.ord; omega) S.g0 S.g1 S.g2 S.gw fun tm2 htm2 => ?_
  replace S := S.put z0 (clipI (clipI x + clipI y)) (clipI (clipI y + clipI a.l))
  generalize Heap.put _ _ _ = H6 at S
  rw [thenC_n, W_seq]
  refine n11 hi htm2 (by have := S.ord; omega) S.g0 S.g1 S.g2 S.gw fun tm3 htm3 => ?_
  replace S := S.put (upd z0 i (coJ addI a b)) (clipI (clipI x + clipI y)) (clipI (clipI y + clipI a.l))
  generalize Heap.put _ _ _ = H7 at S
  rw [thenC_n, W_seq]
  refine n12 htm3 S.g0 fun tm4 htm4 => ?_
  rw [thenC_n]
  exact tail_main hi ht S htm4
end Go.Iso.Gen
end

section
namespace Go.Iso.Gen
open Go.Iso
set_option maxHeartbeats 8000000
set_option maxRecDepth 20000

theorem costsNumbers_run {a b : Co} {x y : Int} {H : Heap} (ht : Tabs tabs H) : W E0 H.n (.call 5 [.agg (coL a), .agg (coL b), .agg [.int .i64 x, .int .i64 y]]) H (fun o _ => o = .val (.bool true)) := by
  rw [c5]
  unfold coL
  by_cases hy : y > 0
  · obtain ⟨i, hi⟩ : ∃ i : Nat, (i : Int) = y.tmod 6 := ⟨(y.tmod 6).toNat, Int.toNat_of_nonneg (by rw [Int.tmod_eq_emod_of_nonneg (by omega)]; omega)⟩
    have hi6 : i < 6 := by rw [Int.tmod_eq_emod_of_nonneg (by omega)] at hi; omega
    simp (disch := omega) only [BAS, ↓BPR, reduceIte, reduceCtorEq, seval, -List.reduceReplicate, fpOf, freeNext, opW, binI, ev1, Heap.write, setAll, unI, eqKs, eqK, fillI, wF5o0, F5p0, wF5o1, F5p1, wF5o2, F5p2, wF5o3, F5p3, F5p4, wF5o5, F5p5, wF5o6, F5p6, wF5o7, F5p7, wF5o8, F5p8, F5p9, F5p10, F5p11, F5p12, F5p13, F5p14, F5p15, F5p16, F5p17, F5p18, F5p19, F5p20, F5p21, F5p22, F5p23, F5p24, F5b, F5, hy, ← hi]
    generalize hH_H1 : Heap.new _ _ = H1
    have hnH1 : H1.n = H.n + 3 := by rw [← hH_H1]; rfl
    have g0 := congrArg (fun h0 => Heap.get h0 (H.n)) hH_H1.symm
    simp (disch := omega) only [BAS, ↓BPR, reduceIte, reduceCtorEq, seval, -List.reduceReplicate, fpOf, freeNext, opW, binI, ev1, Heap.write, setAll, unI, eqKs, eqK, fillI] at g0
    have g1 := congrArg (fun h0 => Heap.get h0 (H.n + 1)) hH_H1.symm
    simp (disch := omega) only [BAS, ↓BPR, reduceIte, reduceCtorEq, seval, -List.reduceReplicate, fpOf, freeNext, opW, binI, ev1, Heap.write, setAll, unI, eqKs, eqK, fillI] at g1
    have g2 := congrArg (fun h0 => Heap.get h0 (H.n + 2)) hH_H1.symm
    simp (disch := omega) only [BAS, ↓BPR, reduceIte, reduceCtorEq, seval, -List.reduceReplicate, fpOf, freeNext, opW, binI, ev1, Heap.write, setAll, unI, eqKs, eqK, fillI] at g2
    have kH1 : Keep H.n H H1 := ⟨by omega, fun x hx _ => by
      have gx := congrArg (fun h0 => Heap.get h0 x) hH_H1.symm
      simp (disch := omega) only [BAS, ↓BPR, reduceIte, reduceCtorEq, seval, -List.reduceReplicate, fpOf, freeNext, opW, binI, ev1, Heap.write, setAll, unI, eqKs, eqK, fillI] at gx
      exact gx⟩
    clear hH_H1
    rw [← W_seq]
    exact numbers_main hi6 ht kH1 hnH1 g0 g1 g2 rfl rfl rfl rfl rfl
  · simp (disch := omega) only [BAS, ↓BPR, reduceIte, reduceCtorEq, seval, -List.reduceReplicate, fpOf, freeNext, opW, binI, ev1, Heap.write, setAll, unI, eqKs, eqK, fillI, wF5o0, F5p0, wF5o1, F5p1, wF5o2, F5p2, wF5o3, F5p3, F5p4, wF5o5, F5p5, wF5o6, F5p6, wF5o7, F5p7, wF5o8, F5p8, F5p9, F5p10, F5p11, F5p12, F5p13, F5p14, F5p15, F5p16, F5p17, F5p18, F5p19, F5p20, F5p21, F5p22, F5p23, F5p24, F5b, F5, hy]
    generalize hH_H1 : Heap.new _ _ = H1
    have hnH1 : H1.n = H.n + 3 := by rw [← hH_H1]; rfl
    have g0 := congrArg (fun h0 => Heap.get h0 (H.n)) hH_H1.symm
    simp (disch := omega) only [BAS, ↓BPR, reduceIte, reduceCtorEq, seval, -List.reduceReplicate, fpOf, freeNext, opW, binI, ev1, Heap.write, setAll, unI, eqKs, eqK, fillI] at g0
    have g1 := congrArg (fun h0 => Heap.get h0 (H.n + 1)) hH_H1.symm
    simp (disch := omega) only [BAS, ↓BPR, reduceIte, reduceCtorEq, seval, -List.reduceReplicate, fpOf, freeNext, opW, binI, ev1, Heap.write, setAll, unI, eqKs, eqK, fillI] at g1
    have g2 := congrArg (fun h0 => Heap.get h0 (H.n + 2)) hH_H1.symm
    simp (disch := omega) only [BAS, ↓BPR, reduceIte, reduceCtorEq, seval, -List.reduceReplicate, fpOf, freeNext, opW, binI, ev1, Heap.write, setAll, unI, eqKs, eqK, fillI] at g2
    have kH1 : Keep H.n H H1 := ⟨by omega, fun x hx _ => by
      have gx := congrArg (fun h0 => Heap.get h0 x) hH_H1.symm
      simp (disch := omega) only [BAS, ↓BPR, reduceIte, reduceCtorEq, seval, -List.reduceReplicate, fpOf, freeNext, opW, binI, ev1, Heap.write, setAll, unI, eqKs, eqK, fillI] at gx
      exact gx⟩
    clear hH_H1
    rw [← W_seq]
    exact numbers_main (i := 0) (by omega) ht kH1 hnH1 g0 g1 g2 rfl rfl rfl rfl rfl
end Go.Iso.Gen
end
