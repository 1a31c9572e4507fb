/-
  a run of OrdersBetween.
-/
import Derived.Test.YthccekocaliohaaDoorOrd
set_option linter.unusedSimpArgs false
set_option linter.unusedVariables false

section
namespace Go.Iso.Gen
open Go.Iso
set_option maxHeartbeats 2000000
set_option maxRecDepth 10000

end Go.Iso.Gen
end

section
namespace Go.Iso.Gen
open Go.Iso
set_option maxHeartbeats 2000000
set_option maxRecDepth 10000

def flipP (p : Ps) : Ps := ⟨p.id, p.front, if p.dir = 1 then 0 else 1⟩
def invL (l : List Ps) : List Ps := (l.map flipP).reverse
end Go.Iso.Gen
end

section
namespace Go.Iso.Gen
open Go.Iso
set_option maxHeartbeats 2000000
set_option maxRecDepth 10000

/-- A crossing on the way back. -/
def crF (c : Cr) : Cr := ⟨c.b, c.a, -c.s⟩
end Go.Iso.Gen
end

section
namespace Go.Iso.Gen
open Go.Iso
set_option maxHeartbeats 4000000
set_option maxRecDepth 10000

end Go.Iso.Gen
end

section
namespace Go.Iso.Gen
open Go.Iso
set_option maxHeartbeats 4000000
set_option maxRecDepth 10000

/-- Whether a loop behind the step is one before it that has changed sides. -/
def cndM (p : Int) (x y : Hd) : Bool := decide (y.id = x.id) && (decide (x.spot < p) != decide (y.spot < p))
def oneM (p way : Int) (behind : List Hd) (x : Hd) : List Ps := (behind.filter (cndM p x)).map fun _ => psE way x.id
end Go.Iso.Gen
end

section
namespace Go.Iso.Gen
open Go.Iso
set_option maxHeartbeats 4000000
set_option maxRecDepth 10000

/-- All stacks in one list. -/
def allT (fs bs : List (List Id)) : List (List Id) := fs ++ List.replicate (40 - fs.length) [] ++ bs
def movedH (r' p : Int) (x : Hd) : Bool := decide (x.spot < p) != decide (spotE x.bed x.at_ r' < p)
/-- What a carrier meets, by the order of the loops. -/
def ordD (way : Int) (l : List Hd) : List Hd := if way = 0 then l.reverse else l
def wantM (p way : Int) (before behind : List Hd) : List Ps := (ordD way before).flatMap (oneM p way behind)
def metH (bs : List (List Id)) (r d p : Int) : List Hd := (bs.mapIdx fun (i : Nat) st => if metAt r d p i then stackH 1 ((i : Int) + 1) (spotE 1 ((i : Int) + 1) r) (8 * (40 + i)) st else []).flatten
end Go.Iso.Gen
end

section
namespace Go.Iso.Gen
open Go.Iso
set_option maxHeartbeats 4000000
set_option maxRecDepth 10000

end Go.Iso.Gen
end

section
namespace Go.Iso.Gen
open Go.Iso
set_option maxHeartbeats 4000000
set_option maxRecDepth 10000

end Go.Iso.Gen
end

section
namespace Go.Iso.Gen
open Go.Iso
set_option maxHeartbeats 4000000
set_option maxRecDepth 10000

/-- Two neighbours of different beds cross; the front one goes in front. -/
def Adj (c : Cr) (l l' : List Hd) : Prop := ∃ P x y S, l = P ++ x :: y :: S ∧ l' = P ++ y :: x :: S ∧ x.id = c.a ∧ y.id = c.b ∧ x.bed ≠ y.bed ∧ c.s = (if x.bed = 0 then 1 else -1)
def Chain : List Cr → List Hd → List Hd → Prop
  | [], l, l' => l = l'
  | c :: cs, l, l' => ∃ m, Adj c l m ∧ Chain cs m l'
theorem Chain.append {a b : List Cr} {l m n : List Hd} (h : Chain a l m) (k : Chain b m n) : Chain (a ++ b) l n := by
  induction a generalizing l with
  | nil => have h : l = m := h; subst h; exact k
  | cons c a ih => obtain ⟨x, h1, h2⟩ := h; exact ⟨x, h1, ih h2⟩
/-- The loops at a spot of the back bed, and at one of the front bed. -/
def rowB (fs bs : List (List Id)) (r q : Int) : List Hd := stackH 1 (q - r) (4 * q) (8 * (39 + (q - r))).toNat (atL fs bs 1 (q - r))
def rowF (fs bs : List (List Id)) (q : Int) : List Hd := stackH 0 q (4 * q + 2) (8 * (q - 1)).toNat (atL fs bs 0 q)
def ordL (fs bs : List (List Id)) (r : Int) : List Hd := (List.range 48).flatMap fun (u : Nat) => rowB fs bs r ((u : Int) - 3) ++ rowF fs bs ((u : Int) - 3)
end Go.Iso.Gen
end

section
namespace Go.Iso.Gen
open Go.Iso
set_option maxHeartbeats 4000000
set_option maxRecDepth 10000

end Go.Iso.Gen
end

section
namespace Go.Iso.Gen
open Go.Iso
set_option maxHeartbeats 4000000
set_option maxRecDepth 10000

end Go.Iso.Gen
end

section
namespace Go.Iso.Gen
open Go.Iso
set_option maxHeartbeats 4000000
set_option maxRecDepth 10000

theorem Adj.perm {c : Cr} {l m : List Hd} (h : Adj c l m) : m.Perm l := by
  obtain ⟨P, x, y, S, rfl, rfl, _⟩ := h
  exact List.Perm.append_left _ (List.Perm.swap _ _ _)

end Go.Iso.Gen
end

section
namespace Go.Iso.Gen
open Go.Iso
set_option maxHeartbeats 4000000
set_option maxRecDepth 10000

end Go.Iso.Gen
end

section
namespace Go.Iso.Gen
open Go.Iso
set_option maxHeartbeats 4000000
set_option maxRecDepth 10000

def digA (y : Int) : UInt8 := UInt8.ofNat (IntKind.u8.wrap (48 + y)).toNat
def digB (n : Int) : UInt8 := UInt8.ofNat (IntKind.u8.wrap (48 + IntKind.u8.wrap (n.tmod 10))).toNat
def elS (p : Ps) : List UInt8 := digA p.id.y :: 46 :: digB p.id.n :: ((if p.front = true then [43] else []) ++ (if p.dir = 0 then [60, 32] else [62, 32]))
def passS (l : List Ps) : List UInt8 := l.flatMap elS
theorem passS_len (l : List Ps) : (passS l).length ≤ 6 * l.length := by
  induction l with
  | nil => simp [passS]
  | cons a l ih =>
    have : passS (a :: l) = elS a ++ passS l := rfl
    rw [this, List.length_append, List.length_cons]
    have : (elS a).length ≤ 6 := by unfold elS; simp only [List.length_cons, List.length_append]; split <;> split <;> simp
    omega

theorem expl49 (tm : List IV) (h : tm.length = 49) : tm = [tm.getD 0 IV.undef, tm.getD 1 IV.undef, tm.getD 2 IV.undef, tm.getD 3 IV.undef, tm.getD 4 IV.undef, tm.getD 5 IV.undef, tm.getD 6 IV.undef, tm.getD 7 IV.undef, tm.getD 8 IV.undef, tm.getD 9 IV.undef, tm.getD 10 IV.undef, tm.getD 11 IV.undef, tm.getD 12 IV.undef, tm.getD 13 IV.undef, tm.getD 14 IV.undef, tm.getD 15 IV.undef, tm.getD 16 IV.undef, tm.getD 17 IV.undef, tm.getD 18 IV.undef, tm.getD 19 IV.undef, tm.getD 20 IV.undef, tm.getD 21 IV.undef, tm.getD 22 IV.undef, tm.getD 23 IV.undef, tm.getD 24 IV.undef, tm.getD 25 IV.undef, tm.getD 26 IV.undef, tm.getD 27 IV.undef, tm.getD 28 IV.undef, tm.getD 29 IV.undef, tm.getD 30 IV.undef, tm.getD 31 IV.undef, tm.getD 32 IV.undef, tm.getD 33 IV.undef, tm.getD 34 IV.undef, tm.getD 35 IV.undef, tm.getD 36 IV.undef, tm.getD 37 IV.undef, tm.getD 38 IV.undef, tm.getD 39 IV.undef, tm.getD 40 IV.undef, tm.getD 41 IV.undef, tm.getD 42 IV.undef, tm.getD 43 IV.undef, tm.getD 44 IV.undef, tm.getD 45 IV.undef, tm.getD 46 IV.undef, tm.getD 47 IV.undef, tm.getD 48 IV.undef] := (expl tm 49 h).trans rfl
theorem passed_sp {u : SV} {l : List Ps} {H : Heap} {lo : Nat} {Q : Out → Heap → Prop} (hu : Sl H u l) (hl : l.length ≤ 1000) (hd : ∀ p ∈ l, p.dir = 0 ∨ p.dir = 1) (hlo : lo ≤ H.n)
    (h : ∀ H', Keep H.n H H' → Q (.val (.str (passS l))) H') : W E0 lo (.call 18 [u.iv]) H Q := by
  refine pureQ _ hlo h fun R hR => ?_
  rw [c18]
  simp (disch := omega) only [BAS, ↓BPR, reduceIte, reduceCtorEq, seval, -List.reduceReplicate, fpOf, freeNext, opW, binI, ev1, Heap.write, setAll, unI, eqKs, eqK, fillI, B18]
  refine W_inv (fun k fr H' => ∃ i, i + k = l.length ∧ Keep H.n H H' ∧ fr.marks = [] ∧ fr.tm.length = 49 ∧ fr.tm.getD 0 IV.undef = u.iv ∧ fr.tm.getD 2 IV.undef = .str [] ∧ fr.tm.getD 3 IV.undef = .str (passS (l.take i)) ∧ fr.tm.getD 4 IV.undef = .int .i64 i) ?_ l.length ⟨0, by omega, Keep.refl _ _, rfl, rfl, rfl, rfl, rfl, rfl⟩
  rintro k ⟨tm, mk⟩ H' ⟨i, hik, hk, rfl, htm, t0, t2, t3, t4⟩ L hN hJ
  have hn := hk.1
  have hu' := hu.keep hk
  rw [expl49 tm htm, t0, t2, t3, t4]
  by_cases hi : i < l.length
  · have r1 := hu'.read z_Ps i hi
    have hvb := hu'.blk_lt' hi
    have q0 := read_sub (a := 0) (m := 1) r1 (by omega)
    have q1 := read_sub (a := 1) (m := 1) r1 (by omega)
    have q2 := read_sub (a := 2) (m := 1) r1 (by omega)
    have q3 := read_sub (a := 3) (m := 1) r1 (by omega)
    simp only [cs_Ps, List.drop_zero, List.drop_succ_cons, List.take_succ_cons, List.take_zero, Nat.add_zero, Nat.add_assoc] at q0 q1 q2 q3
    have hlen := passS_len (l.take i)
    rw [List.length_take] at hlen
    have e2 : passS (l.take (i + 1)) = passS (l.take i) ++ elS l[i] := by unfold passS; rw [List.take_succ_eq_append_getElem hi, List.flatMap_append]; simp
    have hdi := hd _ (List.getElem_mem hi)
    by_cases hf : l[i].front = true
    · rcases hdi with hdi | hdi
      · have e3 : IV.str (passS (l.take i) ++ [UInt8.ofNat (IntKind.u8.wrap (48 + l[i].id.y)).toNat, 46, UInt8.ofNat (IntKind.u8.wrap (48 + IntKind.u8.wrap (l[i].id.n.tmod 10))).toNat] ++ [43] ++ [60, 32]) = IV.str (passS (l.take (i + 1))) := by
          rw [e2]; unfold elS digA digB; rw [if_pos hf, if_pos hdi]; simp only [List.append_assoc, List.cons_append, List.nil_append]
        simp (disch := omega) only [BAS, ↓BPR, reduceIte, reduceCtorEq, seval, -List.reduceReplicate, fpOf, freeNext, opW, binI, ev1, Heap.write, setAll, unI, eqKs, eqK, fillI, B18, F18l9, ↓hu'.ln, ↓hu'.idx, q0, q1, q2, q3, hf, hdi, bytesI, Nat.reducePow, List.length_append]
        exact hN (k - 1) _ _ (by omega) ⟨i + 1, by omega, (hk.trans (Keep.new _ _)).trans (Keep.new _ _), rfl, rfl, rfl, rfl, e3, rfl⟩
      · have e3 : IV.str (passS (l.take i) ++ [UInt8.ofNat (IntKind.u8.wrap (48 + l[i].id.y)).toNat, 46, UInt8.ofNat (IntKind.u8.wrap (48 + IntKind.u8.wrap (l[i].id.n.tmod 10))).toNat] ++ [43] ++ [62, 32]) = IV.str (passS (l.take (i + 1))) := by
          rw [e2]; unfold elS digA digB; rw [if_pos hf, if_neg (by omega)]; simp only [List.append_assoc, List.cons_append, List.nil_append]
        simp (disch := omega) only [BAS, ↓BPR, reduceIte, reduceCtorEq, seval, -List.reduceReplicate, fpOf, freeNext, opW, binI, ev1, Heap.write, setAll, unI, eqKs, eqK, fillI, B18, F18l9, ↓hu'.ln, ↓hu'.idx, q0, q1, q2, q3, hf, hdi, bytesI, Nat.reducePow, List.length_append]
        exact hN (k - 1) _ _ (by omega) ⟨i + 1, by omega, (hk.trans (Keep.new _ _)).trans (Keep.new _ _), rfl, rfl, rfl, rfl, e3, rfl⟩
    · have hf : l[i].front = false := by simpa using hf
      rcases hdi with hdi | hdi
      · have e3 : IV.str (passS (l.take i) ++ [UInt8.ofNat (IntKind.u8.wrap (48 + l[i].id.y)).toNat, 46, UInt8.ofNat (IntKind.u8.wrap (48 + IntKind.u8.wrap (l[i].id.n.tmod 10))).toNat] ++ [60, 32]) = IV.str (passS (l.take (i + 1))) := by
          rw [e2]; unfold elS digA digB; rw [if_neg (by simp [hf]), if_pos hdi]; simp only [List.append_assoc, List.cons_append, List.nil_append]
        simp (disch := omega) only [BAS, ↓BPR, reduceIte, reduceCtorEq, seval, -List.reduceReplicate, fpOf, freeNext, opW, binI, ev1, Heap.write, setAll, unI, eqKs, eqK, fillI, B18, F18l9, ↓hu'.ln, ↓hu'.idx, q0, q1, q2, q3, hf, hdi, bytesI, Nat.reducePow, List.length_append]
        exact hN (k - 1) _ _ (by omega) ⟨i + 1, by omega, (hk.trans (Keep.new _ _)).trans (Keep.new _ _), rfl, rfl, rfl, rfl, e3, rfl⟩
      · have e3 : IV.str (passS (l.take i) ++ [UInt8.ofNat (IntKind.u8.wrap (48 + l[i].id.y)).toNat, 46, UInt8.ofNat (IntKind.u8.wrap (48 + IntKind.u8.wrap (l[i].id.n.tmod 10))).toNat] ++ [62, 32]) = IV.str (passS (l.take (i + 1))) := by
          rw [e2]; unfold elS digA digB; rw [if_neg (by simp [hf]), if_neg (by omega)]; simp only [List.append_assoc, List.cons_append, List.nil_append]
        simp (disch := omega) only [BAS, ↓BPR, reduceIte, reduceCtorEq, seval, -List.reduceReplicate, fpOf, freeNext, opW, binI, ev1, Heap.write, setAll, unI, eqKs, eqK, fillI, B18, F18l9, ↓hu'.ln, ↓hu'.idx, q0, q1, q2, q3, hf, hdi, bytesI, Nat.reducePow, List.length_append]
        exact hN (k - 1) _ _ (by omega) ⟨i + 1, by omega, (hk.trans (Keep.new _ _)).trans (Keep.new _ _), rfl, rfl, rfl, rfl, e3, rfl⟩
  · rw [List.take_of_length_le (by omega)]
    simp (disch := omega) only [BAS, ↓BPR, reduceIte, reduceCtorEq, seval, -List.reduceReplicate, fpOf, freeNext, opW, binI, ev1, Heap.write, setAll, unI, eqKs, eqK, fillI, B18, F18l9, ↓hu'.ln, hJ]
    exact hR _
end Go.Iso.Gen
end

section
namespace Go.Iso.Gen
open Go.Iso
set_option maxHeartbeats 4000000
set_option maxRecDepth 10000

/-- Two passes that cancel. -/
def cancelB (q p : Ps) : Bool := (q.dir != p.dir) && (q.id.y == p.id.y && (q.id.n == p.id.n && q.front == p.front))
theorem cancel_sp (q p : Ps) {H : Heap} {lo : Nat} {Q : Out → Heap → Prop} (hq : q.dir = 0 ∨ q.dir = 1) (hp : p.dir = 0 ∨ p.dir = 1) (hlo : lo ≤ H.n)
    (h : ∀ H', Keep H.n H H' → Q (.val (.bool (cancelB q p))) H') : W E0 lo (.call 53 [.agg [.int .u8 q.id.y, .int .i64 q.id.n, .bool q.front, .int .u8 q.dir], .agg [.int .u8 p.id.y, .int .i64 p.id.n, .bool p.front, .int .u8 p.dir]]) H Q := by
  refine pureQ _ hlo h fun R hR => ?_
  rw [c53]
  rcases q with ⟨⟨qy, qn⟩, qf, qd⟩
  rcases p with ⟨⟨py, pn⟩, pf, pd⟩
  simp only at hq hp
  rcases hq with rfl | rfl <;> rcases hp with rfl | rfl
  all_goals
    simp (disch := omega) only [BAS, ↓BPR, reduceIte, reduceCtorEq, seval, -List.reduceReplicate, fpOf, freeNext, opW, binI, ev1, Heap.write, setAll, unI, eqKs, eqK, fillI, B53, c57, B57]
    exact hR _

theorem Own.pop {H : Heap} {b e cap : Nat} {s : List Ps} {q : Ps} (h : Own H b e cap (s ++ [q])) : Own H b e cap s := by
  obtain ⟨h1, h2, r, h3, h4⟩ := h
  rw [List.length_append, List.length_singleton] at h1 h4
  refine ⟨by omega, h2, Cell.cs q ++ r, ?_, ?_⟩
  · rw [h3, flat_append, List.append_assoc]; simp [flat]
  · rw [List.length_append, h4, z_Ps]
    show 4 + _ = _
    omega
def pushS (st : List Ps) (p : Ps) : List Ps := match st.getLast? with
  | some q => if cancelB q p then st.dropLast else st ++ [p]
  | none => st ++ [p]
theorem pushS_nil (p : Ps) : pushS [] p = [p] := rfl
theorem pushS_app (s : List Ps) (q p : Ps) : pushS (s ++ [q]) p = if cancelB q p then s else s ++ [q] ++ [p] := by
  unfold pushS
  rw [List.getLast?_concat]
  simp only [List.dropLast_concat]
def redS (l : List Ps) : List Ps := l.foldl pushS []
theorem pushS_mem (st : List Ps) (p q : Ps) (h : q ∈ pushS st p) : q ∈ st ∨ q = p := by
  rcases List.eq_nil_or_concat st with rfl | ⟨s, x, rfl⟩
  · rw [pushS_nil] at h; exact .inr (by simpa using h)
  · rw [List.concat_eq_append] at h ⊢
    rw [pushS_app] at h
    split at h
    · exact .inl (by simp [h])
    · rw [List.mem_append] at h
      rcases h with h | h
      · exact .inl h
      · exact .inr (by simpa using h)
theorem redS_mem (l : List Ps) : ∀ (st : List Ps) (q : Ps), q ∈ l.foldl pushS st → q ∈ st ∨ q ∈ l := by
  induction l with
  | nil => intro st q h; exact .inl h
  | cons a l ih =>
    intro st q h
    rcases ih _ _ h with h | h
    · rcases pushS_mem _ _ _ h with h | rfl
      · exact .inl h
      · exact .inr (by simp)
    · exact .inr (by simp [h])
theorem pushS_len (st : List Ps) (p : Ps) : (pushS st p).length ≤ st.length + 1 := by
  rcases List.eq_nil_or_concat st with rfl | ⟨s, x, rfl⟩
  · rw [pushS_nil]; simp
  · rw [List.concat_eq_append, pushS_app]
    split
    · simp; omega
    · simp
theorem redS_len (l : List Ps) : ∀ st : List Ps, (l.foldl pushS st).length ≤ st.length + l.length := by
  induction l with
  | nil => intro st; simp
  | cons a l ih =>
    intro st
    have h1 := ih (pushS st a)
    have h2 := pushS_len st a
    rw [List.foldl_cons, List.length_cons]
    omega
end Go.Iso.Gen
end

section
namespace Go.Iso.Gen
open Go.Iso
set_option maxHeartbeats 4000000
set_option maxRecDepth 10000

theorem own_push {H : Heap} {b e cap lo : Nat} {st : List Ps} (ho : Own H b e cap st) (p : Ps) (hr : st.length + 1 ≤ cap) (hlo : lo ≤ b) :
    ∃ H4, ev1 (.append e 4 24) [.slice b 0 st.length cap true, .slice H.n 0 1 1 true] lo (H.new (.cells false e 4 (Cell.cs p))) = some (.slice b 0 (st.length + 1) cap true, H4) ∧ (∀ n0, n0 ≤ b → Keep n0 H H4) ∧ Own H4 b e cap (st ++ [p]) := by
  have ho1 := ho.keep (.new _ (.cells false e 4 (Cell.cs p)))
  obtain ⟨H4, e1, n1, k1, o1⟩ := append_room (ex := true) (m := [p]) (v := .sl H.n 0 1 1 true) ho1 ((own_new z_Ps p).sl true) z_Ps 24 lo hr hlo
  exact ⟨H4, e1, fun n0 hn0 => (Keep.new _ _).trans ⟨by omega, fun x h1 h2 => k1 x (by omega)⟩, o1⟩

theorem push_sp {n0 b cap : Nat} {u : SV} {l : List Ps} {H : Heap} {lo : Nat} {Q : Out → Heap → Prop} (hlo : lo ≤ n0) (hn0 : n0 ≤ b) (hb : b < H.n) (hu : ∀ H', Keep n0 H H' → Sl H' u l) (ho : Own H b 54 cap ([] : List Ps)) (hcap : l.length ≤ cap) (hcap2 : cap ≤ 1000000) (hd : ∀ p ∈ l, p.dir = 0 ∨ p.dir = 1)
    (h : ∀ H', Keep n0 H H' → Own H' b 54 cap (redS l) → Q (.val (.slice b 0 (redS l).length cap true)) H') : W E0 lo (.call 44 [.slice b 0 0 cap true, u.iv]) H Q := by
  have hu0 := hu H (Keep.refl _ _)
  rw [c44]
  simp (disch := omega) only [BAS, ↓BPR, reduceIte, reduceCtorEq, seval, -List.reduceReplicate, fpOf, freeNext, opW, binI, ev1, Heap.write, setAll, unI, eqKs, eqK, fillI, B44, ↓hu0.ln]
  refine W_inv (fun k fr H' => ∃ i st, i + k = l.length ∧ st = redS (l.take i) ∧ Keep n0 H H' ∧ Own H' b 54 cap st ∧ fr.marks = [] ∧ fr.tm.length = 39 ∧ fr.tm.getD 0 IV.undef = .slice b 0 st.length cap true ∧ fr.tm.getD 8 IV.undef = u.iv ∧ fr.tm.getD 9 IV.undef = .int .i64 l.length ∧ fr.tm.getD 10 IV.undef = .int .i64 i) ?_ l.length ⟨0, [], by omega, rfl, Keep.refl _ _, ho, rfl, rfl, rfl, rfl, rfl, rfl⟩
  rintro k ⟨tm, mk⟩ H' ⟨i, st, hik, hst, hk, ho, rfl, htm, t0, t8, t9, t10⟩ L hN hJ
  have hn := hk.1
  have hu' := hu H' hk
  rw [expl39 tm htm, t0, t8, t9, t10]
  by_cases hi : i < l.length
  · have r1 := hu'.read z_Ps i hi
    have e2 : redS (l.take (i + 1)) = pushS st l[i] := by rw [hst]; unfold redS; rw [List.take_succ_eq_append_getElem hi, List.foldl_append]; rfl
    have hsl : st.length ≤ i := by
      rw [hst]
      have := redS_len (l.take i) []
      rw [List.length_take, List.length_nil] at this
      unfold redS; omega
    have hdi := hd _ (List.getElem_mem hi)
    have hds : ∀ q ∈ st, q.dir = 0 ∨ q.dir = 1 := fun q hq => by
      rw [hst] at hq
      rcases redS_mem _ _ _ hq with h | h
      · cases h
      · exact hd _ (List.mem_of_mem_take h)
    rcases List.eq_nil_or_concat st with rfl | ⟨s, q, hsq⟩
    · have ho1 := ho.keep (Keep.newPut (o := .cells false 54 4 [.int .u8 0, .int .i64 0, .bool false, .int .u8 0]) (o' := .cells false 54 4 [.int .u8 l[i].id.y, .int .i64 l[i].id.n, .bool l[i].front, .int .u8 l[i].dir]))
      obtain ⟨H4, e4, k4, o4⟩ := own_push (lo := lo) ho1 l[i] (by rw [List.length_nil]; omega) (by omega)
      rw [Heap.n_put, Heap.n_new] at e4
      rw [cs_Ps, List.length_nil] at e4
      simp (disch := omega) only [BAS, ↓BPR, reduceIte, reduceCtorEq, seval, -List.reduceReplicate, fpOf, freeNext, opW, binI, ev1, Heap.write, setAll, unI, eqKs, eqK, fillI, B44, F44l9, ↓hu'.idx, r1, cs_Ps, ↓e4]
      exact hN (k - 1) _ _ (by omega) ⟨i + 1, [l[i]], by omega, by rw [e2, pushS_nil], (hk.trans (Keep.newPut.lower (by omega))).trans (k4 n0 hn0), o4, rfl, rfl, rfl, rfl, rfl, rfl⟩
    · rw [List.concat_eq_append] at hsq
      subst hsq
      have ho1 := ho.keep (Keep.newPut (o := .cells false 54 4 [.int .u8 0, .int .i64 0, .bool false, .int .u8 0]) (o' := .cells false 54 4 [.int .u8 l[i].id.y, .int .i64 l[i].id.n, .bool l[i].front, .int .u8 l[i].dir]))
      have e6 : (s ++ [q])[s.length]'(by simp) = q := by simp
      have e5 : (s ++ [q]).length = s.length + 1 := by simp
      have r2 : H'.read b (s.length * 4) 4 = some (Cell.cs q) := by
        have := (ho.sl true).read z_Ps s.length (by simp)
        rw [e6] at this
        simpa [SV.blk, SV.off] using this
      have d1 : ((s.length + 1 : Nat) : Int) > 0 := by omega
      have ej : ((s.length + 1 : Nat) : Int) - 1 = (s.length : Int) := by omega
      rw [e5] at hsl
      have hq := hds q (by simp)
      simp (disch := omega) only [BAS, ↓BPR, reduceIte, reduceCtorEq, seval, -List.reduceReplicate, fpOf, freeNext, opW, binI, ev1, Heap.write, setAll, unI, eqKs, eqK, fillI, B44, F44l9, ↓hu'.idx, r1, cs_Ps, e5, d1, ej, r2, Int.toNat_natCast]
      refine cancel_sp q l[i] hq hdi (by rw [Heap.n_put, Heap.n_new]; omega) fun H2 k2 => ?_
      have hn2 := k2.1
      have g2 : H2.get H'.n = some (.cells false 54 4 [.int .u8 l[i].id.y, .int .i64 l[i].id.n, .bool l[i].front, .int .u8 l[i].dir]) := by rw [k2.2 _ (by rw [Heap.n_put, Heap.n_new]; omega) (by rw [Heap.n_put, Heap.n_new]; omega), Heap.get_put, if_pos rfl]
      rw [Heap.n_put, Heap.n_new] at hn2
      have ho2 := ho1.keep k2
      have kk : Keep n0 H H2 := (hk.trans (Keep.newPut.lower (by omega))).trans (k2.lower (by rw [Heap.n_put, Heap.n_new]; omega))
      have rg := read_get g2
      clear k2
      by_cases hc : cancelB q l[i] = true
      · rw [pushS_app, if_pos hc] at e2
        have hle := ho2.1
        rw [e5] at hle
        have bb : boundsI (s.length + 1) cap false true true [IV.int .i64 (s.length : Int), IV.int .i64 (cap : Int)] = some (0, s.length, some cap) := by
          simp only [boundsI, boundI]
          rw [if_pos ⟨by omega, by omega⟩]
          simp only [Option.bind_some, Int.toNat_natCast]
          rw [if_pos ⟨by omega, by omega⟩]
          rfl
        simp (disch := omega) only [BAS, ↓BPR, reduceIte, reduceCtorEq, seval, -List.reduceReplicate, fpOf, freeNext, opW, binI, ev1, Heap.write, setAll, unI, eqKs, eqK, fillI, B44, F44l9, hc, e5, d1, ej, bb]
        exact hN (k - 1) _ _ (by omega) ⟨i + 1, s, by omega, e2.symm, kk, Own.pop ho2, rfl, rfl, rfl, rfl, rfl, rfl⟩
      · rw [pushS_app, if_neg hc] at e2
        have hc : cancelB q l[i] = false := by simpa using hc
        obtain ⟨H4, e4, k4, o4⟩ := own_push (lo := lo) ho2 l[i] (by rw [e5]; omega) (by omega)
        rw [cs_Ps, e5] at e4
        simp (disch := omega) only [BAS, ↓BPR, reduceIte, reduceCtorEq, seval, -List.reduceReplicate, fpOf, freeNext, opW, binI, ev1, Heap.write, setAll, unI, eqKs, eqK, fillI, B44, F44l9, hc, e5, d1, ej, rg, ↓e4]
        refine hN (k - 1) _ _ (by omega) ⟨i + 1, s ++ [q] ++ [l[i]], by omega, e2.symm, kk.trans (k4 n0 hn0), o4, rfl, rfl, ?_⟩
        exact ⟨by rw [List.length_append, e5]; rfl, rfl, rfl, rfl⟩
  · rw [List.take_of_length_le (by omega)] at hst
    subst hst
    simp (disch := omega) only [BAS, ↓BPR, reduceIte, reduceCtorEq, seval, -List.reduceReplicate, fpOf, freeNext, opW, binI, ev1, Heap.write, setAll, unI, eqKs, eqK, fillI, B44, F44l9, hJ]
    exact h H' hk ho
end Go.Iso.Gen
end

section
namespace Go.Iso.Gen
open Go.Iso
set_option maxHeartbeats 4000000
set_option maxRecDepth 10000

theorem copiedY_sp {v : SV} {l : List Ps} {H : Heap} {lo : Nat} {Q : Out → Heap → Prop} (hv : Sl H v l) (hl : l.length ≤ 1000000) (hlo : lo ≤ H.n)
    (h : ∀ H' b, Keep H.n H H' → H.n ≤ b → Own H' b 54 l.length l → Q (.val (SV.sl b 0 l.length l.length true).iv) H') : W E0 lo (.call 43 [v.iv]) H Q := by
  refine W.pure plain hlo ?_
  rw [c43]
  obtain ⟨H2, e1, e2, e3, e4⟩ := copy_new hv (z := 4) rfl 54 H.n [IV.int .u8 0, .int .i64 0, .bool false, .int .u8 0] rfl (Nat.le_refl _)
  simp (disch := omega) only [BAS, ↓BPR, reduceIte, reduceCtorEq, seval, -List.reduceReplicate, fpOf, freeNext, opW, binI, ev1, Heap.write, setAll, unI, eqKs, eqK, fillI, B43, ↓hv.ln, ↓e1, Int.reducePow]
  exact fun hk => h _ _ hk (Nat.le_refl _) e4

theorem reduce_sp {v : SV} {l : List Ps} {H : Heap} {lo : Nat} {Q : Out → Heap → Prop} (hv : Sl H v l) (hl : l.length ≤ 1000000) (hd : ∀ p ∈ l, p.dir = 0 ∨ p.dir = 1) (hlo : lo ≤ H.n)
    (h : ∀ H' b, Keep H.n H H' → H.n ≤ b → Own H' b 54 (redS l).length (redS l) → Q (.val (SV.sl b 0 (redS l).length (redS l).length true).iv) H') : W E0 lo (.call 19 [v.iv]) H Q := by
  refine W.pure plain hlo ?_
  rw [c19]
  have hrl := redS_len l []
  rw [List.length_nil] at hrl
  have hrl : (redS l).length ≤ l.length := by unfold redS; omega
  simp (disch := omega) only [BAS, ↓BPR, reduceIte, reduceCtorEq, seval, -List.reduceReplicate, fpOf, freeNext, opW, binI, ev1, Heap.write, setAll, unI, eqKs, eqK, fillI, B19, ↓hv.ln, Int.reducePow]
  refine push_sp (n0 := H.n) (b := H.n) (cap := l.length) (Nat.le_refl _) (Nat.le_refl _) (by rw [Heap.n_new]; omega) (fun H' k => (hv.keep (.new _ _)).same k.1 fun hne => ?_) (Own.mksl0 z_Ps (by simp [rep_length])) (Nat.le_refl _) hl hd fun H2 k2 o2 => ?_
  · have hb := hv.blk_lt hne
    exact k.2 _ hb (by rw [Heap.n_new]; omega)
  have kk : Keep H.n H H2 := (Keep.new _ _).trans k2
  have hn2 := kk.1
  simp (disch := omega) only [BAS, ↓BPR, reduceIte, reduceCtorEq, seval, -List.reduceReplicate, fpOf, freeNext, opW, binI, ev1, Heap.write, setAll, unI, eqKs, eqK, fillI, B19]
  refine copiedY_sp (o2.sl true) (by omega) (by omega) fun H3 b3 k3 hb3 o3 => ?_
  simp (disch := omega) only [BAS, ↓BPR, reduceIte, reduceCtorEq, seval, -List.reduceReplicate, fpOf, freeNext, opW, binI, ev1, Heap.write, setAll, unI, eqKs, eqK, fillI, B19]
  exact fun hk => h H3 b3 hk (by omega) o3

/-- A way there and back leaves nothing. -/
def flipQ (p : Ps) : Ps := ⟨p.id, p.front, 1 - p.dir⟩
theorem red_same {d : Int} (m : List Ps) (hm : ∀ p ∈ m, p.dir = d) : ∀ st : List Ps, (∀ p ∈ st, p.dir = d) → m.foldl pushS st = st ++ m := by
  induction m with
  | nil => intro st _; simp
  | cons p m ih =>
    intro st hst
    have hp := hm p (by simp)
    have e : pushS st p = st ++ [p] := by
      rcases List.eq_nil_or_concat st with rfl | ⟨s, x, rfl⟩
      · rfl
      · rw [List.concat_eq_append] at hst ⊢
        rw [pushS_app, if_neg]
        have hx := hst x (by simp)
        unfold cancelB
        rw [hx, hp]; simp
    rw [List.foldl_cons, e, ih (fun q hq => hm q (by simp [hq])) (st ++ [p]) fun q hq => ?_]
    · simp
    · rw [List.mem_append] at hq
      rcases hq with hq | hq
      · exact hst q hq
      · rw [List.mem_singleton] at hq; subst hq; exact hp
theorem red_back (n : Nat) : ∀ m : List Ps, m.length = n → (∀ q ∈ m, q.dir = 0 ∨ q.dir = 1) → (m.reverse.map flipQ).foldl pushS m = [] := by
  induction n with
  | zero => intro m h _; rw [List.length_eq_zero_iff.1 h]; rfl
  | succ n ih =>
    intro m h hd
    rcases List.eq_nil_or_concat m with rfl | ⟨s, x, rfl⟩
    · rfl
    · rw [List.concat_eq_append] at h hd ⊢
      rw [List.reverse_append, List.reverse_singleton, List.singleton_append, List.map_cons, List.foldl_cons, pushS_app, if_pos]
      · exact ih s (by simpa using h) fun q hq => hd q (by simp [hq])
      · have := hd x (by simp)
        unfold cancelB flipQ
        rcases this with h | h <;> simp [h]
theorem red_there {d : Int} (hd : d = 0 ∨ d = 1) (m : List Ps) (hm : ∀ p ∈ m, p.dir = d) : redS (m ++ m.reverse.map flipQ) = [] := by
  unfold redS
  rw [List.foldl_append, red_same m hm [] (fun p h => by cases h), List.nil_append]
  exact red_back _ m rfl fun q hq => by rw [hm q hq]; exact hd
theorem btwF_flip (l : List Hd) (low high d : Int) : (btwF l low high d).map flipQ = btwF l low high (1 - d) := by
  unfold btwF
  rw [List.map_map]; rfl
theorem btwF_same (l : List Hd) (a d : Int) : btwF l a a d = [] := by
  unfold btwF
  rw [List.filter_eq_nil_iff.2]
  · rfl
  · intro h _
    unfold inB
    simp
    omega
theorem btwL_back (l : List Hd) (a b : Int) : btwL l b a = (btwL l a b).reverse.map flipQ := by
  unfold btwL
  by_cases h : b > a
  · rw [if_pos h, if_neg (by omega), List.map_reverse, btwF_flip]; rfl
  · by_cases h2 : a > b
    · rw [if_neg h, if_pos h2, List.reverse_reverse, btwF_flip]; rfl
    · have : a = b := by omega
      subst this
      rw [if_neg h, btwF_same]; rfl
theorem btwL_dir (l : List Hd) (a b : Int) : ∀ p ∈ btwL l a b, p.dir = if b > a then 1 else 0 := by
  have key : ∀ (l : List Hd) (x y d : Int), ∀ p ∈ btwF l x y d, p.dir = d := fun l x y d p hp => by
    unfold btwF at hp
    obtain ⟨h, _, rfl⟩ := List.mem_map.1 hp
    rfl
  intro p hp
  unfold btwL at hp
  split at hp
  · rename_i h; rw [if_pos h]; exact key _ _ _ _ _ hp
  · rename_i h; rw [if_neg h]; exact key _ _ _ _ _ (List.mem_reverse.1 hp)
theorem btwL_red (l : List Hd) (a b : Int) : redS (btwL l a b ++ btwL l b a) = [] := by
  rw [btwL_back l a b]
  refine red_there (d := if b > a then 1 else 0) ?_ _ (btwL_dir l a b)
  split
  · exact .inr rfl
  · exact .inl rfl
theorem btwL_len (l : List Hd) (a b : Int) : (btwL l a b).length ≤ l.length := by
  unfold btwL
  split
  · exact btwF_len _ _ _ _
  · rw [List.length_reverse]; exact btwF_len _ _ _ _
def ordB (a b : Int) (l : List Hd) : List Hd := if b > a then l else l.reverse
theorem ordB_length (a b : Int) (l : List Hd) : (ordB a b l).length = l.length := by unfold ordB; split <;> simp
theorem btwF_rev (l : List Hd) (low high d : Int) : btwF l.reverse low high d = (btwF l low high d).reverse := by
  unfold btwF
  rw [List.filter_reverse, List.map_reverse]
end Go.Iso.Gen
end

section
namespace Go.Iso.Gen
open Go.Iso
set_option maxHeartbeats 4000000
set_option maxRecDepth 10000

theorem expl150 (tm : List IV) (h : tm.length = 150) : tm = [tm.getD 0 IV.undef, tm.getD 1 IV.undef, tm.getD 2 IV.undef, tm.getD 3 IV.undef, tm.getD 4 IV.undef, tm.getD 5 IV.undef, tm.getD 6 IV.undef, tm.getD 7 IV.undef, tm.getD 8 IV.undef, tm.getD 9 IV.undef, tm.getD 10 IV.undef, tm.getD 11 IV.undef, tm.getD 12 IV.undef, tm.getD 13 IV.undef, tm.getD 14 IV.undef, tm.getD 15 IV.undef, tm.getD 16 IV.undef, tm.getD 17 IV.undef, tm.getD 18 IV.undef, tm.getD 19 IV.undef, tm.getD 20 IV.undef, tm.getD 21 IV.undef, tm.getD 22 IV.undef, tm.getD 23 IV.undef, tm.getD 24 IV.undef, tm.getD 25 IV.undef, tm.getD 26 IV.undef, tm.getD 27 IV.undef, tm.getD 28 IV.undef, tm.getD 29 IV.undef, tm.getD 30 IV.undef, tm.getD 31 IV.undef, tm.getD 32 IV.undef, tm.getD 33 IV.undef, tm.getD 34 IV.undef, tm.getD 35 IV.undef, tm.getD 36 IV.undef, tm.getD 37 IV.undef, tm.getD 38 IV.undef, tm.getD 39 IV.undef, tm.getD 40 IV.undef, tm.getD 41 IV.undef, tm.getD 42 IV.undef, tm.getD 43 IV.undef, tm.getD 44 IV.undef, tm.getD 45 IV.undef, tm.getD 46 IV.undef, tm.getD 47 IV.undef, tm.getD 48 IV.undef, tm.getD 49 IV.undef, tm.getD 50 IV.undef, tm.getD 51 IV.undef, tm.getD 52 IV.undef, tm.getD 53 IV.undef, tm.getD 54 IV.undef, tm.getD 55 IV.undef, tm.getD 56 IV.undef, tm.getD 57 IV.undef, tm.getD 58 IV.undef, tm.getD 59 IV.undef, tm.getD 60 IV.undef, tm.getD 61 IV.undef, tm.getD 62 IV.undef, tm.getD 63 IV.undef, tm.getD 64 IV.undef, tm.getD 65 IV.undef, tm.getD 66 IV.undef, tm.getD 67 IV.undef, tm.getD 68 IV.undef, tm.getD 69 IV.undef, tm.getD 70 IV.undef, tm.getD 71 IV.undef, tm.getD 72 IV.undef, tm.getD 73 IV.undef, tm.getD 74 IV.undef, tm.getD 75 IV.undef, tm.getD 76 IV.undef, tm.getD 77 IV.undef, tm.getD 78 IV.undef, tm.getD 79 IV.undef, tm.getD 80 IV.undef, tm.getD 81 IV.undef, tm.getD 82 IV.undef, tm.getD 83 IV.undef, tm.getD 84 IV.undef, tm.getD 85 IV.undef, tm.getD 86 IV.undef, tm.getD 87 IV.undef, tm.getD 88 IV.undef, tm.getD 89 IV.undef, tm.getD 90 IV.undef, tm.getD 91 IV.undef, tm.getD 92 IV.undef, tm.getD 93 IV.undef, tm.getD 94 IV.undef, tm.getD 95 IV.undef, tm.getD 96 IV.undef, tm.getD 97 IV.undef, tm.getD 98 IV.undef, tm.getD 99 IV.undef, tm.getD 100 IV.undef, tm.getD 101 IV.undef, tm.getD 102 IV.undef, tm.getD 103 IV.undef, tm.getD 104 IV.undef, tm.getD 105 IV.undef, tm.getD 106 IV.undef, tm.getD 107 IV.undef, tm.getD 108 IV.undef, tm.getD 109 IV.undef, tm.getD 110 IV.undef, tm.getD 111 IV.undef, tm.getD 112 IV.undef, tm.getD 113 IV.undef, tm.getD 114 IV.undef, tm.getD 115 IV.undef, tm.getD 116 IV.undef, tm.getD 117 IV.undef, tm.getD 118 IV.undef, tm.getD 119 IV.undef, tm.getD 120 IV.undef, tm.getD 121 IV.undef, tm.getD 122 IV.undef, tm.getD 123 IV.undef, tm.getD 124 IV.undef, tm.getD 125 IV.undef, tm.getD 126 IV.undef, tm.getD 127 IV.undef, tm.getD 128 IV.undef, tm.getD 129 IV.undef, tm.getD 130 IV.undef, tm.getD 131 IV.undef, tm.getD 132 IV.undef, tm.getD 133 IV.undef, tm.getD 134 IV.undef, tm.getD 135 IV.undef, tm.getD 136 IV.undef, tm.getD 137 IV.undef, tm.getD 138 IV.undef, tm.getD 139 IV.undef, tm.getD 140 IV.undef, tm.getD 141 IV.undef, tm.getD 142 IV.undef, tm.getD 143 IV.undef, tm.getD 144 IV.undef, tm.getD 145 IV.undef, tm.getD 146 IV.undef, tm.getD 147 IV.undef, tm.getD 148 IV.undef, tm.getD 149 IV.undef] := (expl tm 150 h).trans rfl
theorem want_loop {n0 : Nat} {a b low high dir : Int} (hcase : (b > a ∧ dir = 1) ∨ (¬ b > a ∧ dir = 0)) {u : SV} {l : List Hd} {y12 : IV} {H : Heap} {lo : Nat} {Q : Out → Heap → Prop} {tm : List IV} (hlo : lo ≤ n0) (hn0 : n0 = H.n) (hu : Sl H u l) (hl : l.length ≤ 1000)
    (i : Nat) (v' : SV) (hi0 : i = 0) (hv0 : v' = .nil) (htm : tm.length = 150) (t6 : tm.getD 6 IV.undef = .bool false) (t8 : tm.getD 8 IV.undef = u.iv) (t10 : tm.getD 10 IV.undef = .int .i64 a) (t11 : tm.getD 11 IV.undef = .int .i64 b) (t12 : tm.getD 12 IV.undef = y12) (t13 : tm.getD 13 IV.undef = .int .i64 low) (t14 : tm.getD 14 IV.undef = .int .i64 high) (t15 : tm.getD 15 IV.undef = v'.iv) (t16 : tm.getD 16 IV.undef = .int .i64 i)
    (hQ : ∀ H' v' tm', Keep n0 H H' → Gr n0 H' 54 v' (btwF (ordB a b l) low high dir) → tm'.length = 150 → tm'.getD 6 IV.undef = .bool false → tm'.getD 8 IV.undef = u.iv → tm'.getD 10 IV.undef = .int .i64 a → tm'.getD 11 IV.undef = .int .i64 b → tm'.getD 12 IV.undef = y12 → tm'.getD 15 IV.undef = v'.iv → Q (.ex (.jmp (.exit 0)) ⟨tm', []⟩) H') :
    W E0 lo (.code (.loop F8l22) none ⟨tm, []⟩) H Q := by
  subst hi0 hv0 hn0
  have hol := ordB_length a b l
  refine W_inv (fun k fm H' => ∃ i v', i + k = l.length ∧ Keep H.n H H' ∧ Gr H.n H' 54 v' (btwF ((ordB a b l).take i) low high dir) ∧ fm.marks = [] ∧ fm.tm.length = 150 ∧ fm.tm.getD 6 IV.undef = .bool false ∧ fm.tm.getD 8 IV.undef = u.iv ∧ fm.tm.getD 10 IV.undef = .int .i64 a ∧ fm.tm.getD 11 IV.undef = .int .i64 b ∧ fm.tm.getD 12 IV.undef = y12 ∧ fm.tm.getD 13 IV.undef = .int .i64 low ∧ fm.tm.getD 14 IV.undef = .int .i64 high ∧ fm.tm.getD 15 IV.undef = v'.iv ∧ fm.tm.getD 16 IV.undef = .int .i64 i) ?_ l.length ⟨0, .nil, by omega, Keep.refl _ _, by simpa [btwF] using (Gr.nil : Gr H.n H 54 .nil ([] : List Ps)), rfl, htm, t6, t8, t10, t11, t12, t13, t14, t15, t16⟩
  clear htm t6 t8 t10 t11 t12 t13 t14 t15 t16
  rintro k ⟨tm, mk⟩ H' ⟨i, v', hik, hk, hG, rfl, htm, t6, t8, t10, t11, t12, t13, t14, t15, t16⟩ L hN hJ
  have hn := hk.1
  have hu' := hu.keep hk
  rw [expl150 tm htm, t6, t8, t10, t11, t12, t13, t14, t15, t16]
  by_cases hi : i < l.length
  · have hlen := btwF_len ((ordB a b l).take i) low high dir
    rw [List.length_take] at hlen
    have e2 := btwF_succ (ordB a b l) low high dir i (by omega)
    rcases hcase with ⟨hba, rfl⟩ | ⟨hba, rfl⟩
    · have eo : ordB a b l = l := by unfold ordB; rw [if_pos hba]
      simp only [eo] at e2 hlen hG hN hJ
      have hab : ¬ b ≤ a := by omega
      have r1 := hu'.read z_Hd i (by omega)
      have q0 := read_sub (a := 0) (m := 2) r1 (by omega)
      have q2 := read_sub (a := 2) (m := 1) r1 (by omega)
      have q4 := read_sub (a := 4) (m := 1) r1 (by omega)
      simp only [cs_Hd, List.drop_zero, List.drop_succ_cons, List.take_succ_cons, List.take_zero, Nat.add_zero, Nat.add_assoc] at q0 q2 q4
      by_cases c1 : l[i].spot ≤ low
      · have hin : ¬ inB low high l[i] = true := by unfold inB; simp; omega
        rw [if_neg hin, List.append_nil] at e2
        simp (disch := omega) only [BAS, ↓BPR, reduceIte, reduceCtorEq, seval, -List.reduceReplicate, fpOf, freeNext, opW, binI, ev1, Heap.write, setAll, unI, eqKs, eqK, fillI, B8, F8l22, F8l30, ↓hu'.ln, ↓hu'.idx, q0, q2, q4, hab, hba, c1]
        exact hN (k - 1) _ _ (by omega) ⟨i + 1, v', by omega, hk, by rw [e2]; exact hG, rfl, rfl, rfl, rfl, rfl, rfl, rfl, rfl, rfl, rfl, rfl⟩
      · by_cases c2 : l[i].spot ≥ high
        · have hin : ¬ inB low high l[i] = true := by unfold inB; simp; omega
          rw [if_neg hin, List.append_nil] at e2
          simp (disch := omega) only [BAS, ↓BPR, reduceIte, reduceCtorEq, seval, -List.reduceReplicate, fpOf, freeNext, opW, binI, ev1, Heap.write, setAll, unI, eqKs, eqK, fillI, B8, F8l22, F8l30, ↓hu'.ln, ↓hu'.idx, q0, q2, q4, hab, hba, c1, c2]
          exact hN (k - 1) _ _ (by omega) ⟨i + 1, v', by omega, hk, by rw [e2]; exact hG, rfl, rfl, rfl, rfl, rfl, rfl, rfl, rfl, rfl, rfl, rfl⟩
        · have hin : inB low high l[i] = true := by unfold inB; simp; omega
          rw [if_pos hin] at e2
          have k1 : Keep H'.n H' ((H'.new (.cells false 54 4 [.int .u8 0, .int .i64 0, .bool false, .int .u8 0])).put H'.n (.cells false 54 4 [.int .u8 l[i].id.y, .int .i64 l[i].id.n, .bool (l[i].bed == 1), .int .u8 0])) := Keep.newPut
          replace k1 : Keep H'.n H' (((H'.new (.cells false 54 4 [.int .u8 0, .int .i64 0, .bool false, .int .u8 0])).put H'.n (.cells false 54 4 [.int .u8 l[i].id.y, .int .i64 l[i].id.n, .bool (l[i].bed == 1), .int .u8 0])).put H'.n (.cells false 54 4 [.int .u8 l[i].id.y, .int .i64 l[i].id.n, .bool (l[i].bed == 1), .int .u8 1])) := k1.trans (Keep.put _ _ (Nat.le_refl _))
          obtain ⟨H5, w5, e5, k5, o5⟩ := (hG.keep k1).pushNew (psB 1 l[i]) z_Ps 24 lo hlo (by have := k1.1; omega) (by omega)
          rw [show Cell.cs (psB 1 l[i]) = [.int .u8 l[i].id.y, .int .i64 l[i].id.n, .bool (l[i].bed == 1), .int .u8 1] from rfl] at e5
          simp only [Heap.n_put, Heap.n_new] at e5
          replace k1 : Keep H.n H' H5 := (k1.lower hn).trans (k5.low (by have := k1.1; omega))
          simp (disch := omega) only [BAS, ↓BPR, reduceIte, reduceCtorEq, seval, -List.reduceReplicate, fpOf, freeNext, opW, binI, ev1, Heap.write, setAll, unI, eqKs, eqK, fillI, B8, F8l22, F8l30, ↓hu'.ln, ↓hu'.idx, q0, q2, q4, hab, hba, c1, c2, ↓e5]
          exact hN (k - 1) _ _ (by omega) ⟨i + 1, w5, by omega, hk.trans k1, by rw [e2]; exact o5, rfl, rfl, rfl, rfl, rfl, rfl, rfl, rfl, rfl, rfl, rfl⟩
    · obtain ⟨kk, hkk⟩ : ∃ kk, kk = l.length - 1 - i := ⟨_, rfl⟩
      have hkl : kk < l.length := by omega
      have eo : (ordB a b l)[i]'(by omega) = l[kk] := by
        have : ordB a b l = l.reverse := by unfold ordB; rw [if_neg hba]
        simp only [this, List.getElem_reverse, hkk]
      rw [eo] at e2
      have hab : b ≤ a := by omega
      have ek : (l.length : Int) - 1 - (i : Int) = (kk : Int) := by omega
      have r1 := hu'.read z_Hd kk (by omega)
      have q0 := read_sub (a := 0) (m := 2) r1 (by omega)
      have q2 := read_sub (a := 2) (m := 1) r1 (by omega)
      have q4 := read_sub (a := 4) (m := 1) r1 (by omega)
      simp only [cs_Hd, List.drop_zero, List.drop_succ_cons, List.take_succ_cons, List.take_zero, Nat.add_zero, Nat.add_assoc] at q0 q2 q4
      by_cases c1 : l[kk].spot ≤ low
      · have hin : ¬ inB low high l[kk] = true := by unfold inB; simp; omega
        rw [if_neg hin, List.append_nil] at e2
        simp (disch := omega) only [BAS, ↓BPR, reduceIte, reduceCtorEq, seval, -List.reduceReplicate, fpOf, freeNext, opW, binI, ev1, Heap.write, setAll, unI, eqKs, eqK, fillI, B8, F8l22, F8l30, ↓hu'.ln, ↓hu'.idx, q0, q2, q4, hab, hba, ek, c1]
        exact hN (k - 1) _ _ (by omega) ⟨i + 1, v', by omega, hk, by rw [e2]; exact hG, rfl, rfl, rfl, rfl, rfl, rfl, rfl, rfl, rfl, rfl, rfl⟩
      · by_cases c2 : l[kk].spot ≥ high
        · have hin : ¬ inB low high l[kk] = true := by unfold inB; simp; omega
          rw [if_neg hin, List.append_nil] at e2
          simp (disch := omega) only [BAS, ↓BPR, reduceIte, reduceCtorEq, seval, -List.reduceReplicate, fpOf, freeNext, opW, binI, ev1, Heap.write, setAll, unI, eqKs, eqK, fillI, B8, F8l22, F8l30, ↓hu'.ln, ↓hu'.idx, q0, q2, q4, hab, hba, ek, c1, c2]
          exact hN (k - 1) _ _ (by omega) ⟨i + 1, v', by omega, hk, by rw [e2]; exact hG, rfl, rfl, rfl, rfl, rfl, rfl, rfl, rfl, rfl, rfl, rfl⟩
        · have hin : inB low high l[kk] = true := by unfold inB; simp; omega
          rw [if_pos hin] at e2
          have k1 : Keep H'.n H' ((H'.new (.cells false 54 4 [.int .u8 0, .int .i64 0, .bool false, .int .u8 0])).put H'.n (.cells false 54 4 [.int .u8 l[kk].id.y, .int .i64 l[kk].id.n, .bool (l[kk].bed == 1), .int .u8 0])) := Keep.newPut
          obtain ⟨H5, w5, e5, k5, o5⟩ := (hG.keep k1).pushNew (psB 0 l[kk]) z_Ps 24 lo hlo (by have := k1.1; omega) (by omega)
          rw [show Cell.cs (psB 0 l[kk]) = [.int .u8 l[kk].id.y, .int .i64 l[kk].id.n, .bool (l[kk].bed == 1), .int .u8 0] from rfl] at e5
          simp only [Heap.n_put, Heap.n_new] at e5
          replace k1 : Keep H.n H' H5 := (k1.lower hn).trans (k5.low (by have := k1.1; omega))
          simp (disch := omega) only [BAS, ↓BPR, reduceIte, reduceCtorEq, seval, -List.reduceReplicate, fpOf, freeNext, opW, binI, ev1, Heap.write, setAll, unI, eqKs, eqK, fillI, B8, F8l22, F8l30, ↓hu'.ln, ↓hu'.idx, q0, q2, q4, hab, hba, ek, c1, c2, ↓e5]
          exact hN (k - 1) _ _ (by omega) ⟨i + 1, w5, by omega, hk.trans k1, by rw [e2]; exact o5, rfl, rfl, rfl, rfl, rfl, rfl, rfl, rfl, rfl, rfl, rfl⟩
  · rw [List.take_of_length_le (by omega)] at hG
    simp (disch := omega) only [BAS, ↓BPR, reduceIte, reduceCtorEq, seval, -List.reduceReplicate, fpOf, freeNext, opW, binI, ev1, Heap.write, setAll, unI, eqKs, eqK, fillI, B8, F8l22, F8l30, ↓hu'.ln, hJ]
    exact hQ H' v' _ hk hG rfl rfl rfl rfl rfl rfl rfl
end Go.Iso.Gen
end

section
namespace Go.Iso.Gen
open Go.Iso
set_option maxHeartbeats 4000000
set_option maxRecDepth 10000

theorem tm9 (a : Nat) : (a : Int).tmod 9 = ((a % 9 : Nat) : Int) := tmodN a 9
theorem append_two {H : Heap} {e : Nat} {m m2 : List Ps} {v v2 : SV} (hv : Sl H v m) (hv2 : Sl H v2 m2) (hm : m.length ≤ 100000) (hm2 : m2.length ≤ 100000) (lo : Nat) (hlo : lo ≤ H.n) :
    ∃ H2 u1 H3 u2, ev1 (.append e 4 24) [.slice H.n 0 0 0 true, v.iv] lo (H.new (.cells false e 4 [])) = some (SV.iv u1, H2) ∧ ev1 (.append e 4 24) [SV.iv u1, v2.iv] lo H2 = some (SV.iv u2, H3) ∧ Keep H.n H H3 ∧ Sl H3 u2 (m ++ m2) := by
  have k0 : Keep H.n H (H.new (.cells false e 4 [])) := Keep.new _ _
  have o0 : Own (H.new (.cells false e 4 [])) H.n e 0 ([] : List Ps) := Own.mksl0 z_Ps rfl
  have s0 := o0.sl true
  by_cases h : m = []
  · subst h
    obtain ⟨H2, e1, n1, k1, o1⟩ := append_room (ex := true) o0 (hv.keep k0) z_Ps 24 lo (by simp) hlo
    have kk : Keep H.n H H2 := k0.trans ⟨by omega, fun x h1 h2 => k1 x (by omega)⟩
    obtain ⟨H3, u2, e2, k2, s2⟩ := append_any (n := 0) (o1.sl true) rfl (hv2.keep kk) z_Ps 24 lo (by simp; omega)
    exact ⟨H2, .sl H.n 0 0 0 true, H3, u2, e1, e2, kk.trans (k2.lower kk.1), s2⟩
  · have hpos : 0 < m.length := List.length_pos_iff.2 h
    obtain ⟨H2, e1, n1, k1, o1⟩ := append_full (e := e) s0 (hv.keep k0) z_Ps 24 lo h (by rw [List.length_nil]; omega) (by rw [List.length_nil]; omega)
    have kk : Keep H.n H H2 := k0.trans (k1.lower k0.1)
    have hn1 : (H.new (.cells false e 4 [])).n = H.n + 1 := Heap.n_new _ _
    simp only [List.length_nil, Nat.zero_add, List.nil_append] at e1 o1
    by_cases h2 : m2 = []
    · subst h2
      obtain ⟨H3, e2, n2, k2, o2⟩ := append_room (ex := false) o1 (hv2.keep kk) z_Ps 24 lo (by simp) (by omega)
      exact ⟨H2, .sl (H.new (.cells false e 4 [])).n 0 m.length m.length false, H3, .sl (H.new (.cells false e 4 [])).n 0 m.length m.length false, e1, e2, kk.trans ⟨by omega, fun x h1 h2 => k2 x (by omega)⟩, by simpa using o2.sl false⟩
    · obtain ⟨H3, e2, n2, k2, o2⟩ := append_grow o1 rfl (hv2.keep kk) z_Ps 24 lo h2 (by omega) (by omega)
      refine ⟨H2, .sl (H.new (.cells false e 4 [])).n 0 m.length m.length false, H3, .sl H2.n 0 (m.length + m2.length) (m.length + m2.length) false, e1, e2, kk.trans ⟨by omega, fun x h1 h2 => k2 x (by omega) (by have := kk.1; omega)⟩, ?_⟩
      have := o2.sl false
      simpa using this
theorem want_eq (l : List Hd) (a b low high dir : Int) (h : (b > a ∧ dir = 1 ∧ low = a ∧ high = b) ∨ (¬ b > a ∧ dir = 0 ∧ low = b ∧ high = a)) : btwF (ordB a b l) low high dir = btwL l a b := by
  unfold ordB btwL
  rcases h with ⟨h, rfl, rfl, rfl⟩ | ⟨h, rfl, rfl, rfl⟩
  · rw [if_pos h, if_pos h]
  · rw [if_neg h, if_neg h, btwF_rev]

theorem ordersBetween_run {x : SV} {xs : List Pt} {rk : Nat} (hrk : rk ≤ 255) (a b : Int) {H : Heap} (ht : Tabs tabs H) (hx : Sl H x xs) (hxb : ∀ p ∈ xs, p.a ≤ 255 ∧ p.m ≤ 255) : W E0 H.n (.call 8 [x.iv, .int .u8 rk, .agg [.int .i64 a, .int .i64 b]]) H (fun o _ => o = .val (.bool true)) := by
  rw [c8]
  obtain ⟨r, hr⟩ : ∃ r : Int, r = ((rk % 9 : Nat) : Int) - 4 := ⟨_, rfl⟩
  simp (disch := omega) only [BAS, ↓BPR, reduceIte, reduceCtorEq, seval, -List.reduceReplicate, fpOf, freeNext, opW, binI, ev1, Heap.write, setAll, unI, eqKs, eqK, fillI, B8, tm9, ← hr]
  generalize hH_H0 : Heap.new _ _ = H0
  have hnH0 : H0.n = H.n + 1 := by rw [← hH_H0]; rfl
  have gz := congrArg (fun h0 => Heap.get h0 (H.n)) hH_H0.symm
  simp (disch := omega) only [BAS, ↓BPR, reduceIte, reduceCtorEq, seval, -List.reduceReplicate, fpOf, freeNext, opW, binI, ev1, Heap.write, setAll, unI, eqKs, eqK, fillI] at gz
  have kH0 : Keep H.n H H0 := ⟨by omega, fun x hx _ => by
    have gx := congrArg (fun h0 => Heap.get h0 x) hH_H0.symm
    simp (disch := omega) only [BAS, ↓BPR, reduceIte, reduceCtorEq, seval, -List.reduceReplicate, fpOf, freeNext, opW, binI, ev1, Heap.write, setAll, unI, eqKs, eqK, fillI] at gx
    exact gx⟩
  clear hH_H0
  refine Of_sp (hx.keep kH0) hxb (by omega) fun H1 f d k1 s1 => ?_
  have hn1 := k1.1
  replace gz := (k1.2 _ (by omega) (by omega)).trans gz
  have kk1 : Keep H.n H H1 := kH0.trans (k1.lower (by omega))
  have hV := ofT_valid xs
  generalize (ofT xs).1 = t at s1 hV
  have hck := hV.check
  obtain ⟨c1, c2, c3, c4, _⟩ := check_len hck
  have hr0 : rackB r = true := rackB_iff.2 (by omega)
  have hlf : ∀ l ∈ bedF t, l.length ≤ 1000000 := fun l hl => by have := c3 l hl; omega
  have hlb : ∀ l ∈ bedB t, l.length ≤ 1000000 := fun l hl => by have := c4 l hl; omega
  have ec0 : ocheckE (bedF t) (bedB t) r = 0 := by unfold ocheckE; rw [if_neg (by simp [hck]), if_pos hr0]
  have hheld := heldL_length (bedF t) (bedB t)
  have hlens1 := lens_le4 c1 c3
  have hlens2 := lens_le4 c2 c4
  simp (disch := omega) only [BAS, ↓BPR, reduceIte, reduceCtorEq, seval, -List.reduceReplicate, fpOf, freeNext, opW, binI, ev1, Heap.write, setAll, unI, eqKs, eqK, fillI, B8, bv]
  rw [show IV.agg [f.iv, d.iv] = bv f d from rfl]
  refine olist_sp r s1.1.sl2 s1.2.1.sl2 (by omega) (by omega) hlf hlb (by omega) (fun H5 k5 h5 => absurd ec0 h5) fun H5 v5 l5 k5 _ hv5 hp5 hs5 => ?_
  have hl5 := order_eq hck hr0 hp5 hs5
  subst hl5
  have hll : (listedL (bedF t) (bedB t) r).length ≤ 1000 := by rw [hp5.length_eq, hheld]; omega
  generalize listedL (bedF t) (bedB t) r = l at hv5 hll
  have hn5 := k5.1
  replace gz := (k5.2 _ (by omega) (by omega)).trans gz
  have rz := read_get gz
  have kk5 : Keep H.n H H5 := kk1.trans (k5.lower (by omega))
  have ht5 := ht.keep' kk5
  simp (disch := omega) only [BAS, ↓BPR, reduceIte, reduceCtorEq, seval, -List.reduceReplicate, fpOf, freeNext, opW, binI, ev1, Heap.write, setAll, unI, eqKs, eqK, fillI, B8, rz]
  refine between_sp a b hv5.sl (by omega) (by omega) fun H6 v6 k6 hv6 => ?_
  have hn6 := k6.1
  have ht6 := ht5.keep' k6
  have hml := btwL_len l a b
  have hdl := btwL_dir l a b
  have hm2 := btwL_len l b a
  have hd2 := btwL_dir l b a
  have hv56 := hv5.sl.keep k6
  have next : ∀ (low high dir : Int), (b > a ∧ dir = 1 ∧ low = a ∧ high = b) ∨ (¬ b > a ∧ dir = 0 ∧ low = b ∧ high = a) → ∀ tm9 : List IV, tm9.length = 150 → tm9.getD 6 IV.undef = .bool false → tm9.getD 8 IV.undef = v5.iv → tm9.getD 10 IV.undef = .int .i64 a → tm9.getD 11 IV.undef = .int .i64 b → tm9.getD 12 IV.undef = v6.iv → tm9.getD 13 IV.undef = .int .i64 low → tm9.getD 14 IV.undef = .int .i64 high → W E0 H.n (.code (.seq F8o10 (.seq (.seq F8o11 (.block 0 (.loop F8l22))) (.seq (.seq F8o23 (.cond (.tmp 119) (.seq F8o24 .ret) .skip)) (.seq (.seq F8o25 (.block 2 (.loop F8l30))) (.seq F8o31 (.seq F8o32 .ret)))))) none ⟨tm9, []⟩) H6 (retC H.n F8.results fun o _ => o = .val (.bool true)) := by
    intro low high dir hcs tm9 htm9 u6 u8 u10 u11 u12 u13 u14
    rw [expl150 tm9 htm9, u6, u8, u10, u11, u12, u13, u14]
    simp (disch := omega) only [BAS, ↓BPR, reduceIte, reduceCtorEq, seval, -List.reduceReplicate, fpOf, freeNext, opW, binI, ev1, Heap.write, setAll, unI, eqKs, eqK, fillI, B8]
    refine want_loop (n0 := H6.n) (dir := dir) (by rcases hcs with ⟨h, h2, _⟩ | ⟨h, h2, _⟩; exact .inl ⟨h, h2⟩; exact .inr ⟨h, h2⟩) (by omega) rfl hv56 hll 0 .nil rfl rfl rfl rfl rfl rfl rfl rfl rfl rfl rfl rfl fun H7 v7 tm7 k7 g7 w w6 w8 w10 w11 w12 w15 => ?_
    rw [want_eq l a b low high dir hcs] at g7
    have hn7 := k7.1
    have hg7 := g7.sl
    have hv67 := hv6.sl.keep k7
    rw [expl150 tm7 w, w6, w8, w10, w11, w12, w15]
    simp (disch := omega) only [BAS, ↓BPR, reduceIte, reduceCtorEq, seval, -List.reduceReplicate, fpOf, freeNext, opW, binI, ev1, Heap.write, setAll, unI, eqKs, eqK, fillI, B8]
    refine passed_sp hv67 (by omega) (fun p hp => ?_) (by omega) fun H8 k8 => ?_
    · rw [hdl p hp]; split
      · exact .inr rfl
      · exact .inl rfl
    have hn8 := k8.1
    simp (disch := omega) only [BAS, ↓BPR, reduceIte, reduceCtorEq, seval, -List.reduceReplicate, fpOf, freeNext, opW, binI, ev1, Heap.write, setAll, unI, eqKs, eqK, fillI, B8]
    refine passed_sp (hg7.keep k8) (by omega) (fun p hp => ?_) (by omega) fun H9 k9 => ?_
    · rw [hdl p hp]; split
      · exact .inr rfl
      · exact .inl rfl
    have hn9 := k9.1
    have hv69 := (hv67.keep k8).keep k9
    have hg9 := (hg7.keep k8).keep k9
    have hv59 := ((hv56.keep k7).keep k8).keep k9
    have ht9 := ((ht6.keep' k7).keep' k8).keep' k9
    simp (disch := omega) only [BAS, ↓BPR, reduceIte, reduceCtorEq, seval, -List.reduceReplicate, fpOf, freeNext, opW, binI, ev1, Heap.write, setAll, unI, eqKs, eqK, fillI, B8, ↓hv69.ln, ↓hg9.ln, ↓hv69.cap hv6.tight]
    refine W_inv (fun k fr H' => ∃ i, i + k = (btwL l a b).length ∧ H' = H9 ∧ fr.marks = [] ∧ fr.tm.length = 150 ∧ fr.tm.getD 6 IV.undef = .bool false ∧ fr.tm.getD 8 IV.undef = v5.iv ∧ fr.tm.getD 10 IV.undef = .int .i64 a ∧ fr.tm.getD 11 IV.undef = .int .i64 b ∧ fr.tm.getD 12 IV.undef = v6.iv ∧ fr.tm.getD 15 IV.undef = v7.iv ∧ fr.tm.getD 19 IV.undef = .int .i64 i) ?_ _ ⟨0, Nat.zero_add _, rfl, rfl, rfl, rfl, rfl, rfl, rfl, rfl, rfl, rfl⟩
    rintro k ⟨tm, mk⟩ H' ⟨i, hik, he, rfl, htm, t6, t8, t10, t11, t12, t15, t19⟩ L hN hJ
    subst he
    rw [expl150 tm htm, t6, t8, t10, t11, t12, t15, t19]
    by_cases hi : i < (btwL l a b).length
    · have q1 := hv69.read z_Ps i hi
      have q2 := hg9.read z_Ps i hi
      simp (disch := omega) only [BAS, ↓BPR, reduceIte, reduceCtorEq, seval, -List.reduceReplicate, fpOf, freeNext, opW, binI, ev1, Heap.write, setAll, unI, eqKs, eqK, fillI, B8, F8l22, F8l30, ↓hv69.ln, ↓hv69.idx, ↓hg9.idx, q1, q2, cs_Ps]
      exact hN (k - 1) _ _ (by omega) ⟨i + 1, by omega, rfl, rfl, rfl, rfl, rfl, rfl, rfl, rfl, rfl, rfl⟩
    · simp (disch := omega) only [BAS, ↓BPR, reduceIte, reduceCtorEq, seval, -List.reduceReplicate, fpOf, freeNext, opW, binI, ev1, Heap.write, setAll, unI, eqKs, eqK, fillI, B8, F8l22, F8l30, ↓hv69.ln, hJ]
      refine between_sp b a hv59 (by omega) (by omega) fun H10 v10 k10 hv10 => ?_
      have hn10 := k10.1
      obtain ⟨H11, u1, H12, u2, e1, e2, k12, s12⟩ := append_two (e := 54) (hv69.keep k10) hv10.sl (by omega) (by omega) H.n (by omega)
      have hn12 := k12.1
      simp (disch := omega) only [BAS, ↓BPR, reduceIte, reduceCtorEq, seval, -List.reduceReplicate, fpOf, freeNext, opW, binI, ev1, Heap.write, setAll, unI, eqKs, eqK, fillI, B8, ↓e1, ↓e2]
      refine reduce_sp s12 (by rw [List.length_append]; omega) (fun p hp => ?_) (by omega) fun H13 b13 k13 hb13 o13 => ?_
      · rcases List.mem_append.1 hp with hp | hp
        · rw [hdl p hp]; split
          · exact .inr rfl
          · exact .inl rfl
        · rw [hd2 p hp]; split
          · exact .inr rfl
          · exact .inl rfl
      rw [btwL_red]
      simp (disch := omega) only [BAS, ↓BPR, reduceIte, reduceCtorEq, seval, -List.reduceReplicate, fpOf, freeNext, opW, binI, ev1, Heap.write, setAll, unI, eqKs, eqK, fillI, B8]
      refine c11 (((ht9.keep' k10).keep' k12).keep' k13) ?_
      simp (disch := omega) only [BAS, ↓BPR, reduceIte, reduceCtorEq, seval, -List.reduceReplicate, fpOf, freeNext, opW, binI, ev1, Heap.write, setAll, unI, eqKs, eqK, fillI, B8]
  rcases Int.lt_trichotomy a b with hab | hab | hab
  · simp (disch := omega) only [BAS, ↓BPR, reduceIte, reduceCtorEq, seval, -List.reduceReplicate, fpOf, freeNext, opW, binI, ev1, Heap.write, setAll, unI, eqKs, eqK, fillI, wF8o0, F8p0, wF8o1, F8p1, wF8o2, F8p2, wF8o3, F8p3, wF8o4, F8p4, wF8o5, F8p5, wF8o6, F8p6, wF8o7, F8p7, wF8o8, F8p8, wF8o9, F8p9, F8p10, wF8o11, F8p11, wF8o12, F8p12, wF8o13, F8p13, wF8o14, F8p14, wF8o15, F8p15, wF8o16, F8p16, wF8o17, F8p17, wF8o18, F8p18, wF8o19, F8p19, wF8o20, F8p20, wF8o21, F8p21, wF8o23, F8p23, wF8o24, F8p24, wF8o25, F8p25, wF8o26, F8p26, wF8o27, F8p27, wF8o28, F8p28, wF8o29, F8p29, wF8o31, F8p31, wF8o32, F8p32, F8b, F8, show ¬ a > b by omega]
    rw [← W_seq]
    exact next a b 1 (.inl ⟨by omega, rfl, rfl, rfl⟩) _ rfl rfl rfl rfl rfl rfl rfl rfl
  · simp (disch := omega) only [BAS, ↓BPR, reduceIte, reduceCtorEq, seval, -List.reduceReplicate, fpOf, freeNext, opW, binI, ev1, Heap.write, setAll, unI, eqKs, eqK, fillI, wF8o0, F8p0, wF8o1, F8p1, wF8o2, F8p2, wF8o3, F8p3, wF8o4, F8p4, wF8o5, F8p5, wF8o6, F8p6, wF8o7, F8p7, wF8o8, F8p8, wF8o9, F8p9, F8p10, wF8o11, F8p11, wF8o12, F8p12, wF8o13, F8p13, wF8o14, F8p14, wF8o15, F8p15, wF8o16, F8p16, wF8o17, F8p17, wF8o18, F8p18, wF8o19, F8p19, wF8o20, F8p20, wF8o21, F8p21, wF8o23, F8p23, wF8o24, F8p24, wF8o25, F8p25, wF8o26, F8p26, wF8o27, F8p27, wF8o28, F8p28, wF8o29, F8p29, wF8o31, F8p31, wF8o32, F8p32, F8b, F8, show ¬ a > b by omega]
    rw [← W_seq]
    exact next a b 0 (.inr ⟨by omega, rfl, hab, hab.symm⟩) _ rfl rfl rfl rfl rfl rfl rfl rfl
  · simp (disch := omega) only [BAS, ↓BPR, reduceIte, reduceCtorEq, seval, -List.reduceReplicate, fpOf, freeNext, opW, binI, ev1, Heap.write, setAll, unI, eqKs, eqK, fillI, wF8o0, F8p0, wF8o1, F8p1, wF8o2, F8p2, wF8o3, F8p3, wF8o4, F8p4, wF8o5, F8p5, wF8o6, F8p6, wF8o7, F8p7, wF8o8, F8p8, wF8o9, F8p9, F8p10, wF8o11, F8p11, wF8o12, F8p12, wF8o13, F8p13, wF8o14, F8p14, wF8o15, F8p15, wF8o16, F8p16, wF8o17, F8p17, wF8o18, F8p18, wF8o19, F8p19, wF8o20, F8p20, wF8o21, F8p21, wF8o23, F8p23, wF8o24, F8p24, wF8o25, F8p25, wF8o26, F8p26, wF8o27, F8p27, wF8o28, F8p28, wF8o29, F8p29, wF8o31, F8p31, wF8o32, F8p32, F8b, F8, show a > b by omega]
    rw [← W_seq]
    exact next b a 0 (.inr ⟨by omega, rfl, rfl, rfl⟩) _ rfl rfl rfl rfl rfl rfl rfl rfl
end Go.Iso.Gen
end
