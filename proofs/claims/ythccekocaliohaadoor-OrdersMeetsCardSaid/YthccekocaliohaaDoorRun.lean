/-
  a run of OrdersMeets.
-/
import Derived.Test.YthccekocaliohaaDoorOrd
set_option linter.unusedSimpArgs false
set_option linter.unusedVariables false

section
namespace Go.Iso.Gen
open Go.Iso
set_option maxHeartbeats 2000000
set_option maxRecDepth 10000

end Go.Iso.Gen
end

section
namespace Go.Iso.Gen
open Go.Iso
set_option maxHeartbeats 2000000
set_option maxRecDepth 10000

def flipP (p : Ps) : Ps := ⟨p.id, p.front, if p.dir = 1 then 0 else 1⟩
def invL (l : List Ps) : List Ps := (l.map flipP).reverse
end Go.Iso.Gen
end

section
namespace Go.Iso.Gen
open Go.Iso
set_option maxHeartbeats 2000000
set_option maxRecDepth 10000

/-- A crossing on the way back. -/
def crF (c : Cr) : Cr := ⟨c.b, c.a, -c.s⟩
theorem meetL_len {bs : List (List Id)} (h1 : bs.length ≤ 40) (h' : ∀ x ∈ bs, x.length ≤ 4) (r d p : Int) : (meetL bs r d p).length ≤ 160 := by
  have := meetR_len h' r d p bs.length (Nat.le_refl _)
  rw [meetR_all] at this
  unfold meetL
  split
  · rw [List.length_reverse]; omega
  · omega
theorem tm8 (a : Nat) : (a : Int).tmod 8 = ((a % 8 : Nat) : Int) := tmodN a 8
end Go.Iso.Gen
end

section
namespace Go.Iso.Gen
open Go.Iso
set_option maxHeartbeats 4000000
set_option maxRecDepth 10000

end Go.Iso.Gen
end

section
namespace Go.Iso.Gen
open Go.Iso
set_option maxHeartbeats 4000000
set_option maxRecDepth 10000

/-- Whether a loop behind the step is one before it that has changed sides. -/
def cndM (p : Int) (x y : Hd) : Bool := decide (y.id = x.id) && (decide (x.spot < p) != decide (y.spot < p))
theorem id_beq (a b : Id) : ((a.y == b.y) && (a.n == b.n)) = decide (a = b) := by
  by_cases h : a = b
  · subst h; simp
  · rw [decide_eq_false h]; exact id_ne h
def oneM (p way : Int) (behind : List Hd) (x : Hd) : List Ps := (behind.filter (cndM p x)).map fun _ => psE way x.id
theorem oneM_take (p way : Int) (behind : List Hd) (x : Hd) (j : Nat) (hj : j < behind.length) : oneM p way (behind.take (j + 1)) x = oneM p way (behind.take j) x ++ (if cndM p x behind[j] = true then [psE way x.id] else []) := by
  unfold oneM
  rw [List.take_succ_eq_append_getElem hj, List.filter_append, List.map_append]
  congr 1
  by_cases h : cndM p x behind[j] = true
  · rw [if_pos h]; simp [h]
  · rw [if_neg h]; simp [h]

theorem expl180 (tm : List IV) (h : tm.length = 180) : tm = [tm.getD 0 IV.undef, tm.getD 1 IV.undef, tm.getD 2 IV.undef, tm.getD 3 IV.undef, tm.getD 4 IV.undef, tm.getD 5 IV.undef, tm.getD 6 IV.undef, tm.getD 7 IV.undef, tm.getD 8 IV.undef, tm.getD 9 IV.undef, tm.getD 10 IV.undef, tm.getD 11 IV.undef, tm.getD 12 IV.undef, tm.getD 13 IV.undef, tm.getD 14 IV.undef, tm.getD 15 IV.undef, tm.getD 16 IV.undef, tm.getD 17 IV.undef, tm.getD 18 IV.undef, tm.getD 19 IV.undef, tm.getD 20 IV.undef, tm.getD 21 IV.undef, tm.getD 22 IV.undef, tm.getD 23 IV.undef, tm.getD 24 IV.undef, tm.getD 25 IV.undef, tm.getD 26 IV.undef, tm.getD 27 IV.undef, tm.getD 28 IV.undef, tm.getD 29 IV.undef, tm.getD 30 IV.undef, tm.getD 31 IV.undef, tm.getD 32 IV.undef, tm.getD 33 IV.undef, tm.getD 34 IV.undef, tm.getD 35 IV.undef, tm.getD 36 IV.undef, tm.getD 37 IV.undef, tm.getD 38 IV.undef, tm.getD 39 IV.undef, tm.getD 40 IV.undef, tm.getD 41 IV.undef, tm.getD 42 IV.undef, tm.getD 43 IV.undef, tm.getD 44 IV.undef, tm.getD 45 IV.undef, tm.getD 46 IV.undef, tm.getD 47 IV.undef, tm.getD 48 IV.undef, tm.getD 49 IV.undef, tm.getD 50 IV.undef, tm.getD 51 IV.undef, tm.getD 52 IV.undef, tm.getD 53 IV.undef, tm.getD 54 IV.undef, tm.getD 55 IV.undef, tm.getD 56 IV.undef, tm.getD 57 IV.undef, tm.getD 58 IV.undef, tm.getD 59 IV.undef, tm.getD 60 IV.undef, tm.getD 61 IV.undef, tm.getD 62 IV.undef, tm.getD 63 IV.undef, tm.getD 64 IV.undef, tm.getD 65 IV.undef, tm.getD 66 IV.undef, tm.getD 67 IV.undef, tm.getD 68 IV.undef, tm.getD 69 IV.undef, tm.getD 70 IV.undef, tm.getD 71 IV.undef, tm.getD 72 IV.undef, tm.getD 73 IV.undef, tm.getD 74 IV.undef, tm.getD 75 IV.undef, tm.getD 76 IV.undef, tm.getD 77 IV.undef, tm.getD 78 IV.undef, tm.getD 79 IV.undef, tm.getD 80 IV.undef, tm.getD 81 IV.undef, tm.getD 82 IV.undef, tm.getD 83 IV.undef, tm.getD 84 IV.undef, tm.getD 85 IV.undef, tm.getD 86 IV.undef, tm.getD 87 IV.undef, tm.getD 88 IV.undef, tm.getD 89 IV.undef, tm.getD 90 IV.undef, tm.getD 91 IV.undef, tm.getD 92 IV.undef, tm.getD 93 IV.undef, tm.getD 94 IV.undef, tm.getD 95 IV.undef, tm.getD 96 IV.undef, tm.getD 97 IV.undef, tm.getD 98 IV.undef, tm.getD 99 IV.undef, tm.getD 100 IV.undef, tm.getD 101 IV.undef, tm.getD 102 IV.undef, tm.getD 103 IV.undef, tm.getD 104 IV.undef, tm.getD 105 IV.undef, tm.getD 106 IV.undef, tm.getD 107 IV.undef, tm.getD 108 IV.undef, tm.getD 109 IV.undef, tm.getD 110 IV.undef, tm.getD 111 IV.undef, tm.getD 112 IV.undef, tm.getD 113 IV.undef, tm.getD 114 IV.undef, tm.getD 115 IV.undef, tm.getD 116 IV.undef, tm.getD 117 IV.undef, tm.getD 118 IV.undef, tm.getD 119 IV.undef, tm.getD 120 IV.undef, tm.getD 121 IV.undef, tm.getD 122 IV.undef, tm.getD 123 IV.undef, tm.getD 124 IV.undef, tm.getD 125 IV.undef, tm.getD 126 IV.undef, tm.getD 127 IV.undef, tm.getD 128 IV.undef, tm.getD 129 IV.undef, tm.getD 130 IV.undef, tm.getD 131 IV.undef, tm.getD 132 IV.undef, tm.getD 133 IV.undef, tm.getD 134 IV.undef, tm.getD 135 IV.undef, tm.getD 136 IV.undef, tm.getD 137 IV.undef, tm.getD 138 IV.undef, tm.getD 139 IV.undef, tm.getD 140 IV.undef, tm.getD 141 IV.undef, tm.getD 142 IV.undef, tm.getD 143 IV.undef, tm.getD 144 IV.undef, tm.getD 145 IV.undef, tm.getD 146 IV.undef, tm.getD 147 IV.undef, tm.getD 148 IV.undef, tm.getD 149 IV.undef, tm.getD 150 IV.undef, tm.getD 151 IV.undef, tm.getD 152 IV.undef, tm.getD 153 IV.undef, tm.getD 154 IV.undef, tm.getD 155 IV.undef, tm.getD 156 IV.undef, tm.getD 157 IV.undef, tm.getD 158 IV.undef, tm.getD 159 IV.undef, tm.getD 160 IV.undef, tm.getD 161 IV.undef, tm.getD 162 IV.undef, tm.getD 163 IV.undef, tm.getD 164 IV.undef, tm.getD 165 IV.undef, tm.getD 166 IV.undef, tm.getD 167 IV.undef, tm.getD 168 IV.undef, tm.getD 169 IV.undef, tm.getD 170 IV.undef, tm.getD 171 IV.undef, tm.getD 172 IV.undef, tm.getD 173 IV.undef, tm.getD 174 IV.undef, tm.getD 175 IV.undef, tm.getD 176 IV.undef, tm.getD 177 IV.undef, tm.getD 178 IV.undef, tm.getD 179 IV.undef] := (expl tm 180 h).trans rfl
theorem meets_in {n0 i : Nat} {p way : Int} {b c v : SV} {before behind : List Hd} {acc : List Ps} {y10 y11 y21 : IV} {H : Heap} {lo : Nat} {Q : Out → Heap → Prop} {tm : List IV} (hlo : lo ≤ n0) (hn0 : n0 ≤ H.n) (hb : ∀ H', Keep n0 H H' → Sl H' b before) (hc : ∀ H', Keep n0 H H' → Sl H' c behind) (hi : i < before.length) (hbl : before.length ≤ 1000) (hcl : behind.length ≤ 1000) (hacc : acc.length ≤ 2000000)
    (hG : Gr n0 H 54 v acc) (htm : tm.length = 180) (t6 : tm.getD 6 IV.undef = .bool false) (t9 : tm.getD 9 IV.undef = .int .i64 p) (t10 : tm.getD 10 IV.undef = y10) (t11 : tm.getD 11 IV.undef = y11) (t15 : tm.getD 15 IV.undef = .int .u8 way) (t16 : tm.getD 16 IV.undef = b.iv) (t18 : tm.getD 18 IV.undef = c.iv) (t20 : tm.getD 20 IV.undef = v.iv) (t21 : tm.getD 21 IV.undef = y21) (t22 : tm.getD 22 IV.undef = .int .i64 i) (t23 : tm.getD 23 IV.undef = .int .i64 0)
    (hQ : ∀ H' v' tm', Keep n0 H H' → Gr n0 H' 54 v' (acc ++ oneM p way behind before[i]) → tm'.length = 180 → tm'.getD 6 IV.undef = .bool false → tm'.getD 9 IV.undef = .int .i64 p → tm'.getD 10 IV.undef = y10 → tm'.getD 11 IV.undef = y11 → tm'.getD 15 IV.undef = .int .u8 way → tm'.getD 16 IV.undef = b.iv → tm'.getD 18 IV.undef = c.iv → tm'.getD 20 IV.undef = v'.iv → tm'.getD 21 IV.undef = y21 → Q (.ex (.jmp (.exit 2)) ⟨tm', []⟩) H') :
    W E0 lo (.code (.loop F5l25) none ⟨tm, []⟩) H Q := by
  refine W_inv (fun k fm H' => ∃ j v', j + k = behind.length ∧ KeepG n0 54 4 H H' ∧ Gr n0 H' 54 v' (acc ++ oneM p way (behind.take j) before[i]) ∧ fm.marks = [] ∧ fm.tm.length = 180 ∧ fm.tm.getD 6 IV.undef = .bool false ∧ fm.tm.getD 9 IV.undef = .int .i64 p ∧ fm.tm.getD 10 IV.undef = y10 ∧ fm.tm.getD 11 IV.undef = y11 ∧ fm.tm.getD 15 IV.undef = .int .u8 way ∧ fm.tm.getD 16 IV.undef = b.iv ∧ fm.tm.getD 18 IV.undef = c.iv ∧ fm.tm.getD 20 IV.undef = v'.iv ∧ fm.tm.getD 21 IV.undef = y21 ∧ fm.tm.getD 22 IV.undef = .int .i64 i ∧ fm.tm.getD 23 IV.undef = .int .i64 j) ?_ behind.length ⟨0, v, by omega, KeepG.refl _ _ _ _, by simpa [oneM] using hG, rfl, htm, t6, t9, t10, t11, t15, t16, t18, t20, t21, t22, t23⟩
  clear htm t6 t9 t10 t11 t15 t16 t18 t20 t21 t22 t23 hG
  rintro k ⟨tm, mk⟩ H' ⟨j, v', hjk, hk, hG, rfl, htm, t6, t9, t10, t11, t15, t16, t18, t20, t21, t22, t23⟩ L hN hJ
  have hn := hk.1
  have hb' := hb H' (hk.low hn0)
  have hc' := hc H' (hk.low hn0)
  rw [expl180 tm htm, t6, t9, t10, t11, t15, t16, t18, t20, t21, t22, t23]
  by_cases hj : j < behind.length
  · have r1 := hb'.read z_Hd i hi
    have r2 := hc'.read z_Hd j hj
    have rb0 := read_sub (a := 0) (m := 2) r1 (by omega)
    have rb4 := read_sub (a := 4) (m := 1) r1 (by omega)
    have rc0 := read_sub (a := 0) (m := 2) r2 (by omega)
    have rc4 := read_sub (a := 4) (m := 1) r2 (by omega)
    simp only [cs_Hd, List.drop_zero, List.drop_succ_cons, List.take_succ_cons, List.take_zero, Nat.add_zero, Nat.add_assoc] at rb0 rb4 rc0 rc4
    have hlen : (acc ++ oneM p way (behind.take j) before[i]).length ≤ 2001000 := by
      have : (oneM p way (behind.take j) before[i]).length ≤ (behind.take j).length := by unfold oneM; rw [List.length_map]; exact List.length_filter_le _ _
      rw [List.length_append]
      rw [List.length_take] at this
      omega
    have e2 := oneM_take p way behind before[i] j hj
    have eb := id_beq behind[j].id before[i].id
    by_cases c1 : behind[j].id = before[i].id
    · rw [decide_eq_true c1] at eb
      rw [c1] at eb rc0
      have ex : (true != (decide (before[i].spot < p) == decide (behind[j].spot < p))) = (decide (before[i].spot < p) != decide (behind[j].spot < p)) := by cases decide (before[i].spot < p) <;> cases decide (behind[j].spot < p) <;> rfl
      by_cases c2 : (decide (before[i].spot < p) != decide (behind[j].spot < p)) = true
      · have hin : cndM p before[i] behind[j] = true := by unfold cndM; rw [c2, decide_eq_true c1]; rfl
        rw [if_pos hin] at e2
        obtain ⟨H5, w5, e5, k5, o5⟩ := hG.pushNew (psE way before[i].id) z_Ps 24 lo hlo (by omega) (by omega)
        rw [show Cell.cs (psE way before[i].id) = [.int .u8 before[i].id.y, .int .i64 before[i].id.n, .bool true, .int .u8 way] from rfl] at e5
        simp (disch := omega) only [BAS, ↓BPR, reduceIte, reduceCtorEq, seval, -List.reduceReplicate, fpOf, freeNext, opW, binI, ev1, Heap.write, setAll, unI, eqKs, eqK, fillI, B5, F5l25, F5l27, F5l35, ↓hb'.idx, ↓hc'.idx, ↓hc'.ln, rb0, rb4, rc0, rc4, eb, ex, c2, ↓e5]
        refine hN (k - 1) _ _ (by omega) ⟨j + 1, w5, by omega, hk.trans k5, ?_, rfl, rfl, rfl, rfl, rfl, rfl, rfl, rfl, rfl, rfl, rfl, rfl, rfl⟩
        rw [e2, ← List.append_assoc]; exact o5
      · have hin : ¬ cndM p before[i] behind[j] = true := by unfold cndM; simp [c2]
        rw [if_neg hin, List.append_nil] at e2
        rw [Bool.not_eq_true] at c2
        simp (disch := omega) only [BAS, ↓BPR, reduceIte, reduceCtorEq, seval, -List.reduceReplicate, fpOf, freeNext, opW, binI, ev1, Heap.write, setAll, unI, eqKs, eqK, fillI, B5, F5l25, F5l27, F5l35, ↓hb'.idx, ↓hc'.idx, ↓hc'.ln, rb0, rb4, rc0, rc4, eb, ex, c2]
        refine hN (k - 1) _ _ (by omega) ⟨j + 1, v', by omega, hk, ?_, rfl, rfl, rfl, rfl, rfl, rfl, rfl, rfl, rfl, rfl, rfl, rfl, rfl⟩
        rw [e2]; exact hG
    · rw [decide_eq_false c1] at eb
      have hin : ¬ cndM p before[i] behind[j] = true := by unfold cndM; simp [c1]
      rw [if_neg hin, List.append_nil] at e2
      simp (disch := omega) only [BAS, ↓BPR, reduceIte, reduceCtorEq, seval, -List.reduceReplicate, fpOf, freeNext, opW, binI, ev1, Heap.write, setAll, unI, eqKs, eqK, fillI, B5, F5l25, F5l27, F5l35, ↓hb'.idx, ↓hc'.idx, ↓hc'.ln, rb0, rb4, rc0, rc4, eb]
      refine hN (k - 1) _ _ (by omega) ⟨j + 1, v', by omega, hk, ?_, rfl, rfl, rfl, rfl, rfl, rfl, rfl, rfl, rfl, rfl, rfl, rfl, rfl⟩
      rw [e2]; exact hG
  · rw [List.take_of_length_le (by omega)] at hG
    simp (disch := omega) only [BAS, ↓BPR, reduceIte, reduceCtorEq, seval, -List.reduceReplicate, fpOf, freeNext, opW, binI, ev1, Heap.write, setAll, unI, eqKs, eqK, fillI, B5, F5l25, F5l27, F5l35, ↓hc'.ln, hJ]
    exact hQ H' v' _ (hk.low hn0) hG rfl rfl rfl rfl rfl rfl rfl rfl rfl rfl
end Go.Iso.Gen
end

section
namespace Go.Iso.Gen
open Go.Iso
set_option maxHeartbeats 4000000
set_option maxRecDepth 10000

/-- All stacks in one list. -/
def allT (fs bs : List (List Id)) : List (List Id) := fs ++ List.replicate (40 - fs.length) [] ++ bs
theorem allT_flatten (fs bs : List (List Id)) : (allT fs bs).flatten = (fs ++ bs).flatten := by
  unfold allT
  simp
theorem allT_get {fs bs : List (List Id)} (h : fs.length ≤ 40) (i : Nat) (hi : i < 80) : (allT fs bs).getD i [] = atL fs bs (nB i) (nA i) := by
  rw [atL_get fs bs i hi]
  unfold allT
  rw [List.getD_eq_getElem?_getD, List.getD_eq_getElem?_getD]
  by_cases h1 : i < 40
  · rw [if_pos h1, show i % 40 = i from by omega]
    rw [List.getElem?_append_left (by simp; omega)]
    by_cases h2 : i < fs.length
    · rw [List.getElem?_append_left h2]
    · rw [List.getElem?_append_right (by omega), List.getElem?_eq_none (l := fs) (by omega), List.getElem?_replicate, if_pos (by omega)]; rfl
  · rw [if_neg h1]
    rw [List.getElem?_append_right (by simp; omega)]
    congr 2
    simp; omega
theorem atL_uniq {fs bs : List (List Id)} (hc : checkE fs bs = 0) {i j : Nat} (hi : i < 80) (hj : j < 80) {a : Id} (h1 : a ∈ atL fs bs (nB i) (nA i)) (h2 : a ∈ atL fs bs (nB j) (nA j)) : i = j := by
  obtain ⟨c1, c2, c3, c4, c5, c6⟩ := check_len hc
  rw [← allT_get c1 i hi] at h1
  rw [← allT_get c1 j hj] at h2
  exact nd_uniq (t := allT fs bs) (by rw [allT_flatten]; exact c6) h1 h2
theorem atL_nodup {fs bs : List (List Id)} (hc : checkE fs bs = 0) (b a : Int) : (atL fs bs b a).Nodup := by
  obtain ⟨c1, c2, c3, c4, c5, c6⟩ := check_len hc
  rw [List.Nodup, List.pairwise_flatten] at c6
  have key : ∀ (ls : List (List Id)) (i : Nat), (∀ l ∈ ls, l ∈ fs ++ bs) → ((ls[i]?).getD []).Nodup := fun ls i h => by
    by_cases hi : i < ls.length
    · rw [List.getElem?_eq_getElem hi]; exact c6.1 _ (h _ (List.getElem_mem hi))
    · rw [List.getElem?_eq_none (by omega)]; exact List.nodup_nil
  unfold atL
  split
  · split
    · exact key _ _ fun l hl => List.mem_append_right _ hl
    · exact key _ _ fun l hl => List.mem_append_left _ hl
  · exact List.nodup_nil
/-- A loop of the order is where its name is. -/
theorem listedL_uniq {fs bs : List (List Id)} (hc : checkE fs bs = 0) {r r' : Int} (hr : rackB r = true) (hr' : rackB r' = true) {x y : Hd} (hx : x ∈ listedL fs bs r) (hy : y ∈ listedL fs bs r') (he : y.id = x.id) : y = { x with spot := spotE x.bed x.at_ r' } := by
  obtain ⟨i, hi, hx⟩ := (listedL_mem hr).1 hx
  obtain ⟨j, hj, hy⟩ := (listedL_mem hr').1 hy
  obtain ⟨p, hp, rfl⟩ := stackH_mem.1 hx
  obtain ⟨q, hq, rfl⟩ := stackH_mem.1 hy
  simp only at he
  have hij : j = i := atL_uniq hc hj hi (List.getElem_mem hq) (by rw [he]; exact List.getElem_mem hp)
  subst hij
  have hpq : q = p := by
    have := atL_nodup hc (nB j) (nA j)
    exact (List.getElem_inj this).1 he
  subst hpq
  rfl
theorem listedL_move {fs bs : List (List Id)} {r r' : Int} (hr : rackB r = true) (hr' : rackB r' = true) {x : Hd} (hx : x ∈ listedL fs bs r) : { x with spot := spotE x.bed x.at_ r' } ∈ listedL fs bs r' := by
  obtain ⟨i, hi, hx⟩ := (listedL_mem hr).1 hx
  obtain ⟨p, hp, rfl⟩ := stackH_mem.1 hx
  exact (listedL_mem hr').2 ⟨i, hi, stackH_mem.2 ⟨p, hp, rfl⟩⟩
theorem filter_one {α : Type} {l : List α} {P : α → Bool} {a : α} (hn : l.Nodup) (ha : a ∈ l) (h : ∀ y ∈ l, P y = true ↔ y = a) : l.filter P = [a] := by
  obtain ⟨s, t, rfl⟩ := List.append_of_mem ha
  rw [List.nodup_append] at hn
  obtain ⟨h1, h2, h3⟩ := hn
  rw [List.nodup_cons] at h2
  rw [List.filter_append, List.filter_cons, if_pos ((h a ha).2 rfl)]
  have e1 : s.filter P = [] := by
    rw [List.filter_eq_nil_iff]
    intro y hy hp
    exact h3 y hy a (by simp) ((h y (by simp [hy])).1 hp)
  have e2 : t.filter P = [] := by
    rw [List.filter_eq_nil_iff]
    intro y hy hp
    have := (h y (by simp [hy])).1 hp
    subst this
    exact h2.1 hy
  rw [e1, e2]; rfl
theorem listedL_nodup {fs bs : List (List Id)} (hc : checkE fs bs = 0) (r : Int) : (listedL fs bs r).Nodup := by
  obtain ⟨c1, c2, c3, c4, _⟩ := check_len hc
  exact (listedL_sorted c3 c4 r).imp fun {a b} h e => by subst e; exact ltH_irr a h

def movedH (r' p : Int) (x : Hd) : Bool := decide (x.spot < p) != decide (spotE x.bed x.at_ r' < p)
theorem oneM_eq {fs bs : List (List Id)} (hc : checkE fs bs = 0) {r r' : Int} (hr : rackB r = true) (hr' : rackB r' = true) (p way : Int) {x : Hd} (hx : x ∈ listedL fs bs r) : oneM p way (listedL fs bs r') x = if movedH r' p x = true then [psE way x.id] else [] := by
  unfold oneM
  by_cases hm : movedH r' p x = true
  · rw [if_pos hm, filter_one (a := { x with spot := spotE x.bed x.at_ r' }) (listedL_nodup hc r') (listedL_move hr hr' hx) fun y hy => ?_]
    · rfl
    · unfold cndM
      rw [Bool.and_eq_true, decide_eq_true_eq]
      constructor
      · rintro ⟨h1, _⟩
        exact listedL_uniq hc hr hr' hx hy h1
      · rintro rfl
        exact ⟨rfl, hm⟩
  · rw [if_neg hm]
    have : (listedL fs bs r').filter (cndM p x) = [] := by
      rw [List.filter_eq_nil_iff]
      intro y hy h
      unfold cndM at h
      rw [Bool.and_eq_true, decide_eq_true_eq] at h
      have e := listedL_uniq hc hr hr' hx hy h.1
      subst e
      exact hm h.2
    rw [this]; rfl
theorem flatMap_if {α β : Type} (l : List α) (P : α → Bool) (g : α → β) : (l.flatMap fun x => if P x = true then [g x] else []) = (l.filter P).map g := by
  induction l with
  | nil => rfl
  | cons a l ih =>
    rw [List.flatMap_cons, ih]
    by_cases h : P a = true
    · rw [if_pos h, List.filter_cons, if_pos h]; rfl
    · rw [if_neg h, List.filter_cons, if_neg h]; rfl
theorem flatMap_congr' {α β : Type} {l : List α} {f g : α → List β} (h : ∀ x ∈ l, f x = g x) : l.flatMap f = l.flatMap g := by
  induction l with
  | nil => rfl
  | cons a l ih => rw [List.flatMap_cons, List.flatMap_cons, h a (by simp), ih fun x hx => h x (by simp [hx])]

/-- What a carrier meets, by the order of the loops. -/
def ordD (way : Int) (l : List Hd) : List Hd := if way = 0 then l.reverse else l
def wantM (p way : Int) (before behind : List Hd) : List Ps := (ordD way before).flatMap (oneM p way behind)
def metH (bs : List (List Id)) (r d p : Int) : List Hd := (bs.mapIdx fun (i : Nat) st => if metAt r d p i then stackH 1 ((i : Int) + 1) (spotE 1 ((i : Int) + 1) r) (8 * (40 + i)) st else []).flatten
theorem metH_mem {bs : List (List Id)} {r d p : Int} {x : Hd} : x ∈ metH bs r d p ↔ ∃ i, ∃ h : i < bs.length, metAt r d p i ∧ x ∈ stackH 1 ((i : Int) + 1) (spotE 1 ((i : Int) + 1) r) (8 * (40 + i)) bs[i] := by
  unfold metH
  constructor
  · intro h
    obtain ⟨s, hs, hx⟩ := List.mem_flatten.1 h
    obtain ⟨i, hi, rfl⟩ := List.mem_iff_getElem.1 hs
    simp only [List.length_mapIdx] at hi
    simp only [List.getElem_mapIdx] at hx
    split at hx
    · rename_i hm; exact ⟨i, hi, hm, hx⟩
    · cases hx
  · rintro ⟨i, hi, hm, hx⟩
    refine List.mem_flatten.2 ⟨_, List.mem_iff_getElem.2 ⟨i, by simpa using hi, rfl⟩, ?_⟩
    simp only [List.getElem_mapIdx]
    rw [if_pos hm]; exact hx
theorem spotB {i : Nat} (hi : i < 40) {r : Int} (hr : rackB r = true) : spotE 1 ((i : Int) + 1) r = 4 * ((i : Int) + 1 + r) := by
  unfold spotE
  rw [if_pos ⟨by unfold needleE; rw [if_pos (by omega)], hr⟩, if_neg (by omega)]
theorem metH_sorted {bs : List (List Id)} (hb : bs.length ≤ 40) {r : Int} (hr : rackB r = true) (d p : Int) : (metH bs r d p).Pairwise ltH := by
  unfold metH
  rw [List.pairwise_flatten]
  constructor
  · intro s hs
    obtain ⟨i, hi, rfl⟩ := List.mem_iff_getElem.1 hs
    simp only [List.getElem_mapIdx]
    split
    · exact stackH_lt _ _ _ _ _
    · exact List.Pairwise.nil
  · rw [List.pairwise_iff_getElem]
    intro i j h1 h2 h3 x hx y hy
    simp only [List.length_mapIdx] at h1 h2
    simp only [List.getElem_mapIdx] at hx hy
    split at hx
    · split at hy
      · have a1 := stackH_spot hx
        have a2 := stackH_spot hy
        rw [spotB (by omega) hr] at a1 a2
        unfold ltH
        omega
      · cases hy
    · cases hx
theorem metH_map (bs : List (List Id)) (r d p way : Int) : (metH bs r d p).map (fun x => psE way x.id) = (bs.mapIdx fun (i : Nat) st => if metAt r d p i then st.map (psE way) else []).flatten := by
  unfold metH
  rw [List.map_flatten]
  congr 1
  apply List.ext_getElem
  · simp
  · intro i h1 h2
    simp only [List.getElem_mapIdx, List.getElem_map]
    split
    · apply List.ext_getElem
      · simp [stackH]
      · intro j h3 h4
        simp [stackH]
    · rfl
theorem movedH_met {r d p : Int} (hd : d = 0 ∨ d = 1) (hr : rackB r = true) (hr' : rackB (r + stepD d) = true) (hp : ¬ p.tmod 2 = 0) {q : Nat} (hq : q < 40) : (decide (spotE 1 ((q : Int) + 1) r < p) != decide (spotE 1 ((q : Int) + 1) (r + stepD d) < p)) = true ↔ metAt r d p q := by
  have hodd : ¬ (2 : Int) ∣ p := fun h => hp (Int.tmod_eq_zero_of_dvd h)
  unfold metAt
  rw [spotB hq hr, spotB hq hr']
  rcases hd with rfl | rfl
  · rw [show stepD 0 = -1 from rfl]
    by_cases h1 : 4 * ((q : Int) + 1 + r) < p <;> by_cases h2 : 4 * ((q : Int) + 1 + (r + -1)) < p <;> simp only [h1, h2, decide_true, decide_false, bne_self_eq_false, Bool.false_eq_true, Bool.true_bne, Bool.false_bne, Bool.not_false, true_iff, false_iff] <;> omega
  · rw [show stepD 1 = 1 from rfl]
    by_cases h1 : 4 * ((q : Int) + 1 + r) < p <;> by_cases h2 : 4 * ((q : Int) + 1 + (r + 1)) < p <;> simp only [h1, h2, decide_true, decide_false, bne_self_eq_false, Bool.false_eq_true, Bool.true_bne, Bool.false_bne, Bool.not_false, true_iff, false_iff] <;> omega
theorem filter_met {fs bs : List (List Id)} (hc : checkE fs bs = 0) {r d p : Int} (hd : d = 0 ∨ d = 1) (hr : rackB r = true) (hr' : rackB (r + stepD d) = true) (hp : ¬ p.tmod 2 = 0) : (listedL fs bs r).filter (movedH (r + stepD d) p) = metH bs r d p := by
  obtain ⟨c1, c2, c3, c4, _⟩ := check_len hc
  refine sorted_uniq ltH_irr ltH_tr ((listedL_sorted c3 c4 r).filter _) (metH_sorted c2 hr d p) fun x => ?_
  rw [List.mem_filter, listedL_mem hr, metH_mem]
  constructor
  · rintro ⟨⟨i, hi, hx⟩, hm⟩
    rw [atL_get fs bs i hi] at hx
    by_cases h : i < 40
    · exfalso
      obtain ⟨j, hj, rfl⟩ := stackH_mem.1 hx
      unfold movedH at hm
      simp only at hm
      have s1 := spotE_needle hi hr
      have s2 := spotE_needle hi hr'
      rw [if_pos h] at s1 s2
      rw [s1, s2] at hm
      simp at hm
    · rw [if_neg h] at hx
      obtain ⟨q, rfl⟩ : ∃ q, i = 40 + q := ⟨i - 40, by omega⟩
      rw [show (40 + q) % 40 = q from by omega, show nB (40 + q) = 1 from by unfold nB; omega, show nA (40 + q) = (q : Int) + 1 from by unfold nA; omega] at hx
      have hlt : q < bs.length := by
        obtain ⟨j, hj, _⟩ := stackH_mem.1 hx
        exact Nat.lt_of_not_le fun hle => by rw [getD_out hle] at hj; simp at hj
      rw [getD_in hlt] at hx
      refine ⟨q, hlt, ?_, hx⟩
      obtain ⟨j, hj, rfl⟩ := stackH_mem.1 hx
      exact (movedH_met hd hr hr' hp (by omega)).1 hm
  · rintro ⟨q, hq, hm, hx⟩
    refine ⟨⟨40 + q, by omega, ?_⟩, ?_⟩
    · rw [atL_get fs bs (40 + q) (by omega), if_neg (by omega), show (40 + q) % 40 = q from by omega, show nB (40 + q) = 1 from by unfold nB; omega, show nA (40 + q) = (q : Int) + 1 from by unfold nA; omega, getD_in hq]
      exact hx
    · obtain ⟨j, hj, rfl⟩ := stackH_mem.1 hx
      exact (movedH_met hd hr hr' hp (by omega)).2 hm
theorem wantM_eq {fs bs : List (List Id)} (hc : checkE fs bs = 0) {r d p : Int} (hd : d = 0 ∨ d = 1) (hr : rackB r = true) (hr' : rackB (r + stepD d) = true) (hp : ¬ p.tmod 2 = 0) : wantM p (wayD d) (listedL fs bs r) (listedL fs bs (r + stepD d)) = meetL bs r d p := by
  have key : ∀ l : List Hd, (∀ x ∈ l, x ∈ listedL fs bs r) → l.flatMap (oneM p (wayD d) (listedL fs bs (r + stepD d))) = (l.filter (movedH (r + stepD d) p)).map fun x => psE (wayD d) x.id := fun l hl => by
    rw [← flatMap_if]
    exact flatMap_congr' fun x hx => oneM_eq hc hr hr' p _ (hl x hx)
  have eB : ((listedL fs bs r).filter (movedH (r + stepD d) p)).map (fun x => psE (wayD d) x.id) = meetB bs r d p := by
    rw [filter_met hc hd hr hr' hp, metH_map]; rfl
  unfold wantM ordD meetL
  rcases hd with rfl | rfl
  · rw [if_neg (by decide), if_neg (by omega), key _ fun x hx => hx, eB]
  · rw [if_pos (by decide), if_pos rfl, key _ fun x hx => List.mem_reverse.1 hx, List.filter_reverse, List.map_reverse, eB]
end Go.Iso.Gen
end

section
namespace Go.Iso.Gen
open Go.Iso
set_option maxHeartbeats 4000000
set_option maxRecDepth 10000

theorem ordD_length (way : Int) (l : List Hd) : (ordD way l).length = l.length := by unfold ordD; split <;> simp
theorem wantM_len (p way : Int) (before behind : List Hd) (i : Nat) (hi : i ≤ 1000) (hb : behind.length ≤ 1000) : (((ordD way before).take i).flatMap (oneM p way behind)).length ≤ 1000 * i := by
  induction i with
  | zero => simp
  | succ i ih =>
    by_cases h : i < (ordD way before).length
    · rw [List.take_succ_eq_append_getElem h, List.flatMap_append, List.length_append]
      have := ih (by omega)
      have h2 : (oneM p way behind (ordD way before)[i]).length ≤ behind.length := by unfold oneM; rw [List.length_map]; exact List.length_filter_le _ _
      simp only [List.flatMap_cons, List.flatMap_nil, List.append_nil]
      omega
    · rw [List.take_of_length_le (by omega)]
      rw [List.take_of_length_le (by omega)] at ih
      have := ih (by omega)
      omega

theorem meets_out {n0 : Nat} {p way : Int} (hw : way = 0 ∨ way = 1) {b c : SV} {before behind : List Hd} {y10 y11 : IV} {H : Heap} {lo : Nat} {Q : Out → Heap → Prop} {tm : List IV} (hlo : lo ≤ n0) (hn0 : n0 = H.n) (hb : Sl H b before) (hc : Sl H c behind) (hbl : before.length ≤ 1000) (hcl : behind.length ≤ 1000)
    (i : Nat) (v' : SV) (hi0 : i = 0) (hv0 : v' = .nil) (htm : tm.length = 180) (t6 : tm.getD 6 IV.undef = .bool false) (t9 : tm.getD 9 IV.undef = .int .i64 p) (t10 : tm.getD 10 IV.undef = y10) (t11 : tm.getD 11 IV.undef = y11) (t15 : tm.getD 15 IV.undef = .int .u8 way) (t16 : tm.getD 16 IV.undef = b.iv) (t18 : tm.getD 18 IV.undef = c.iv) (t20 : tm.getD 20 IV.undef = v'.iv) (t21 : tm.getD 21 IV.undef = .int .i64 i)
    (hQ : ∀ H' v' tm', Keep n0 H H' → Gr n0 H' 54 v' (wantM p way before behind) → tm'.length = 180 → tm'.getD 6 IV.undef = .bool false → tm'.getD 10 IV.undef = y10 → tm'.getD 11 IV.undef = y11 → tm'.getD 20 IV.undef = v'.iv → Q (.ex (.jmp (.exit 0)) ⟨tm', []⟩) H') :
    W E0 lo (.code (.loop F5l27) none ⟨tm, []⟩) H Q := by
  subst hi0 hv0 hn0
  have hol := ordD_length way before
  refine W_inv (fun k fm H' => ∃ i v', i + k = before.length ∧ Keep H.n H H' ∧ Gr H.n H' 54 v' (((ordD way before).take i).flatMap (oneM p way behind)) ∧ fm.marks = [] ∧ fm.tm.length = 180 ∧ fm.tm.getD 6 IV.undef = .bool false ∧ fm.tm.getD 9 IV.undef = .int .i64 p ∧ fm.tm.getD 10 IV.undef = y10 ∧ fm.tm.getD 11 IV.undef = y11 ∧ fm.tm.getD 15 IV.undef = .int .u8 way ∧ fm.tm.getD 16 IV.undef = b.iv ∧ fm.tm.getD 18 IV.undef = c.iv ∧ fm.tm.getD 20 IV.undef = v'.iv ∧ fm.tm.getD 21 IV.undef = .int .i64 i) ?_ before.length ⟨0, .nil, by omega, Keep.refl _ _, by simpa using (Gr.nil : Gr H.n H 54 .nil ([] : List Ps)), rfl, htm, t6, t9, t10, t11, t15, t16, t18, t20, t21⟩
  clear htm t6 t9 t10 t11 t15 t16 t18 t20 t21
  rintro k ⟨tm, mk⟩ H' ⟨i, v', hik, hk, hG, rfl, htm, t6, t9, t10, t11, t15, t16, t18, t20, t21⟩ L hN hJ
  have hn := hk.1
  have hb' := hb.keep hk
  have hwl := wantM_len p way before behind i (by omega) hcl
  rw [expl180 tm htm, t6, t9, t10, t11, t15, t16, t18, t20, t21]
  by_cases hi : i < before.length
  · have fin : ∀ (kk : Nat) (hkk : kk < before.length), before[kk] = (ordD way before)[i]'(by omega) → ∀ tm5 : List IV, tm5.length = 180 → tm5.getD 6 IV.undef = .bool false → tm5.getD 9 IV.undef = .int .i64 p → tm5.getD 10 IV.undef = y10 → tm5.getD 11 IV.undef = y11 → tm5.getD 15 IV.undef = .int .u8 way → tm5.getD 16 IV.undef = b.iv → tm5.getD 18 IV.undef = c.iv → tm5.getD 20 IV.undef = v'.iv → tm5.getD 21 IV.undef = .int .i64 i → tm5.getD 22 IV.undef = .int .i64 kk → tm5.getD 23 IV.undef = .int .i64 0 → W E0 lo (.code (.loop F5l25) none ⟨tm5, []⟩) H' (blkC 2 (blkC 1 (thenC E0 lo none F5o26 L))) := by
      intro kk hkk hek tm5 htm5 u6 u9 u10 u11 u15 u16 u18 u20 u21 u22 u23
      refine meets_in (n0 := H.n) (i := kk) (before := before) (behind := behind) hlo hn (fun H9 k9 => hb.keep (hk.trans k9)) (fun H9 k9 => hc.keep (hk.trans k9)) hkk hbl hcl (by omega) hG htm5 u6 u9 u10 u11 u15 u16 u18 u20 u21 u22 u23 fun H8 v8 tm8 k8 g8 w w6 w9 w10 w11 w15 w16 w18 w20 w21 => ?_
      rw [expl180 tm8 w, w6, w9, w10, w11, w15, w16, w18, w20, w21]
      simp (disch := omega) only [BAS, ↓BPR, reduceIte, reduceCtorEq, seval, -List.reduceReplicate, fpOf, freeNext, opW, binI, ev1, Heap.write, setAll, unI, eqKs, eqK, fillI, wF5o0, F5p0, wF5o1, F5p1, wF5o2, F5p2, wF5o3, F5p3, wF5o4, F5p4, wF5o5, F5p5, wF5o6, F5p6, wF5o7, F5p7, wF5o8, F5p8, wF5o9, F5p9, wF5o10, F5p10, wF5o11, F5p11, wF5o12, F5p12, wF5o13, F5p13, wF5o14, F5p14, wF5o15, F5p15, wF5o16, F5p16, wF5o17, F5p17, wF5o18, F5p18, wF5o19, F5p19, wF5o20, F5p20, wF5o21, F5p21, wF5o22, F5p22, wF5o23, F5p23, wF5o24, F5p24, wF5o26, F5p26, F5l27, wF5o28, F5p28, wF5o29, F5p29, wF5o30, F5p30, wF5o31, F5p31, wF5o32, F5p32, wF5o33, F5p33, wF5o34, F5p34, wF5o36, F5p36, F5b, F5]
      refine hN (k - 1) _ _ (by omega) ⟨i + 1, v8, by omega, hk.trans k8, ?_, rfl, rfl, rfl, rfl, rfl, rfl, rfl, rfl, rfl, rfl, rfl⟩
      rw [List.take_succ_eq_append_getElem (by omega), List.flatMap_append, ← hek]
      simpa using g8
    rcases hw with rfl | rfl
    · have ek : (before.length : Int) - 1 - (i : Int) = ((before.length - 1 - i : Nat) : Int) := by omega
      simp (disch := omega) only [BAS, ↓BPR, reduceIte, reduceCtorEq, seval, -List.reduceReplicate, fpOf, freeNext, opW, binI, ev1, Heap.write, setAll, unI, eqKs, eqK, fillI, wF5o0, F5p0, wF5o1, F5p1, wF5o2, F5p2, wF5o3, F5p3, wF5o4, F5p4, wF5o5, F5p5, wF5o6, F5p6, wF5o7, F5p7, wF5o8, F5p8, wF5o9, F5p9, wF5o10, F5p10, wF5o11, F5p11, wF5o12, F5p12, wF5o13, F5p13, wF5o14, F5p14, wF5o15, F5p15, wF5o16, F5p16, wF5o17, F5p17, wF5o18, F5p18, wF5o19, F5p19, wF5o20, F5p20, wF5o21, F5p21, wF5o22, F5p22, wF5o23, F5p23, wF5o24, F5p24, wF5o26, F5p26, F5l27, wF5o28, F5p28, wF5o29, F5p29, wF5o30, F5p30, wF5o31, F5p31, wF5o32, F5p32, wF5o33, F5p33, wF5o34, F5p34, wF5o36, F5p36, F5b, F5, ↓hb'.ln, ek]
      refine fin (before.length - 1 - i) (by omega) ?_ _ rfl rfl rfl rfl rfl rfl rfl rfl rfl rfl rfl rfl
      unfold ordD
      simp only [if_true]
      rw [List.getElem_reverse]
    · simp (disch := omega) only [BAS, ↓BPR, reduceIte, reduceCtorEq, seval, -List.reduceReplicate, fpOf, freeNext, opW, binI, ev1, Heap.write, setAll, unI, eqKs, eqK, fillI, wF5o0, F5p0, wF5o1, F5p1, wF5o2, F5p2, wF5o3, F5p3, wF5o4, F5p4, wF5o5, F5p5, wF5o6, F5p6, wF5o7, F5p7, wF5o8, F5p8, wF5o9, F5p9, wF5o10, F5p10, wF5o11, F5p11, wF5o12, F5p12, wF5o13, F5p13, wF5o14, F5p14, wF5o15, F5p15, wF5o16, F5p16, wF5o17, F5p17, wF5o18, F5p18, wF5o19, F5p19, wF5o20, F5p20, wF5o21, F5p21, wF5o22, F5p22, wF5o23, F5p23, wF5o24, F5p24, wF5o26, F5p26, F5l27, wF5o28, F5p28, wF5o29, F5p29, wF5o30, F5p30, wF5o31, F5p31, wF5o32, F5p32, wF5o33, F5p33, wF5o34, F5p34, wF5o36, F5p36, F5b, F5, ↓hb'.ln]
      refine fin i hi ?_ _ rfl rfl rfl rfl rfl rfl rfl rfl rfl rfl rfl rfl
      unfold ordD
      simp only [Int.reduceEq, if_false]
  · rw [List.take_of_length_le (by omega)] at hG
    simp (disch := omega) only [BAS, ↓BPR, reduceIte, reduceCtorEq, seval, -List.reduceReplicate, fpOf, freeNext, opW, binI, ev1, Heap.write, setAll, unI, eqKs, eqK, fillI, wF5o0, F5p0, wF5o1, F5p1, wF5o2, F5p2, wF5o3, F5p3, wF5o4, F5p4, wF5o5, F5p5, wF5o6, F5p6, wF5o7, F5p7, wF5o8, F5p8, wF5o9, F5p9, wF5o10, F5p10, wF5o11, F5p11, wF5o12, F5p12, wF5o13, F5p13, wF5o14, F5p14, wF5o15, F5p15, wF5o16, F5p16, wF5o17, F5p17, wF5o18, F5p18, wF5o19, F5p19, wF5o20, F5p20, wF5o21, F5p21, wF5o22, F5p22, wF5o23, F5p23, wF5o24, F5p24, wF5o26, F5p26, F5l27, wF5o28, F5p28, wF5o29, F5p29, wF5o30, F5p30, wF5o31, F5p31, wF5o32, F5p32, wF5o33, F5p33, wF5o34, F5p34, wF5o36, F5p36, F5b, F5, ↓hb'.ln, hJ]
    exact hQ H' v' _ hk hG rfl rfl rfl rfl rfl
end Go.Iso.Gen
end

section
namespace Go.Iso.Gen
open Go.Iso
set_option maxHeartbeats 4000000
set_option maxRecDepth 10000

theorem ordersMeets_run {x : SV} {xs : List Pt} (r p d : Int) (hd : 0 ≤ d ∧ d ≤ 255) {H : Heap} (ht : Tabs tabs H) (hx : Sl H x xs) (hxb : ∀ p ∈ xs, p.a ≤ 255 ∧ p.m ≤ 255) : W E0 H.n (.call 5 [x.iv, .agg [.int .i64 r, .int .i64 p], .int .u8 d]) H (fun o _ => o = .val (.bool true)) := by
  rw [c5]
  simp (disch := omega) only [BAS, ↓BPR, reduceIte, reduceCtorEq, seval, -List.reduceReplicate, fpOf, freeNext, opW, binI, ev1, Heap.write, setAll, unI, eqKs, eqK, fillI, wF5o0, F5p0, wF5o1, F5p1, F5p2, wF5o3, F5p3, wF5o4, F5p4, wF5o5, F5p5, wF5o6, F5p6, wF5o7, F5p7, wF5o8, F5p8, wF5o9, F5p9, wF5o10, F5p10, wF5o11, F5p11, wF5o12, F5p12, wF5o13, F5p13, wF5o14, F5p14, wF5o15, F5p15, wF5o16, F5p16, wF5o17, F5p17, wF5o18, F5p18, wF5o19, F5p19, wF5o20, F5p20, wF5o21, F5p21, wF5o22, F5p22, wF5o23, F5p23, wF5o24, F5p24, wF5o26, F5p26, wF5o28, F5p28, wF5o29, F5p29, wF5o30, F5p30, wF5o31, F5p31, wF5o32, F5p32, wF5o33, F5p33, wF5o34, F5p34, wF5o36, F5p36, F5b, F5]
  generalize hH_H0 : Heap.new _ _ = H0
  have hnH0 : H0.n = H.n + 1 := by rw [← hH_H0]; rfl
  have gz := congrArg (fun h0 => Heap.get h0 (H.n)) hH_H0.symm
  simp (disch := omega) only [BAS, ↓BPR, reduceIte, reduceCtorEq, seval, -List.reduceReplicate, fpOf, freeNext, opW, binI, ev1, Heap.write, setAll, unI, eqKs, eqK, fillI] at gz
  have kH0 : Keep H.n H H0 := ⟨by omega, fun x hx _ => by
    have gx := congrArg (fun h0 => Heap.get h0 x) hH_H0.symm
    simp (disch := omega) only [BAS, ↓BPR, reduceIte, reduceCtorEq, seval, -List.reduceReplicate, fpOf, freeNext, opW, binI, ev1, Heap.write, setAll, unI, eqKs, eqK, fillI] at gx
    exact gx⟩
  clear hH_H0
  refine Of_sp (hx.keep kH0) hxb (by omega) fun H1 f b k1 s1 => ?_
  have hn1 := k1.1
  replace gz := (k1.2 _ (by omega) (by omega)).trans gz
  have kk1 : Keep H.n H H1 := kH0.trans (k1.lower (by omega))
  have hV := ofT_valid xs
  generalize (ofT xs).1 = t at s1 hV
  have hck := hV.check
  obtain ⟨c1, c2, c3, c4, _⟩ := check_len hck
  have hlf : ∀ l ∈ bedF t, l.length ≤ 1000000 := fun l hl => by have := c3 l hl; omega
  have hlb : ∀ l ∈ bedB t, l.length ≤ 1000000 := fun l hl => by have := c4 l hl; omega
  simp (disch := omega) only [BAS, ↓BPR, reduceIte, reduceCtorEq, seval, -List.reduceReplicate, fpOf, freeNext, opW, binI, ev1, Heap.write, setAll, unI, eqKs, eqK, fillI, wF5o0, F5p0, wF5o1, F5p1, F5p2, wF5o3, F5p3, wF5o4, F5p4, wF5o5, F5p5, wF5o6, F5p6, wF5o7, F5p7, wF5o8, F5p8, wF5o9, F5p9, wF5o10, F5p10, wF5o11, F5p11, wF5o12, F5p12, wF5o13, F5p13, wF5o14, F5p14, wF5o15, F5p15, wF5o16, F5p16, wF5o17, F5p17, wF5o18, F5p18, wF5o19, F5p19, wF5o20, F5p20, wF5o21, F5p21, wF5o22, F5p22, wF5o23, F5p23, wF5o24, F5p24, wF5o26, F5p26, wF5o28, F5p28, wF5o29, F5p29, wF5o30, F5p30, wF5o31, F5p31, wF5o32, F5p32, wF5o33, F5p33, wF5o34, F5p34, wF5o36, F5p36, F5b, F5, bv]
  generalize hH_H2 : Heap.put _ _ _ = H2
  have hnH2 : H2.n = H1.n + 1 := by rw [← hH_H2]; rfl
  have g0 := congrArg (fun h0 => Heap.get h0 (H1.n)) hH_H2.symm
  simp (disch := omega) only [BAS, ↓BPR, reduceIte, reduceCtorEq, seval, -List.reduceReplicate, fpOf, freeNext, opW, binI, ev1, Heap.write, setAll, unI, eqKs, eqK, fillI] at g0
  have kH2 : Keep H1.n H1 H2 := ⟨by omega, fun x hx _ => by
    have gx := congrArg (fun h0 => Heap.get h0 x) hH_H2.symm
    simp (disch := omega) only [BAS, ↓BPR, reduceIte, reduceCtorEq, seval, -List.reduceReplicate, fpOf, freeNext, opW, binI, ev1, Heap.write, setAll, unI, eqKs, eqK, fillI] at gx
    exact gx⟩
  clear hH_H2
  replace gz := (kH2.2 _ (by omega) (by omega)).trans gz
  have kk2 : Keep H.n H H2 := kk1.trans (kH2.lower (by omega))
  have s2 := s1.keep kH2
  have ht2 := ht.keep' kk2
  have rz := read_get gz
  have r0 := read_get g0
  simp (disch := omega) only [BAS, ↓BPR, reduceIte, reduceCtorEq, seval, -List.reduceReplicate, fpOf, freeNext, opW, binI, ev1, Heap.write, setAll, unI, eqKs, eqK, fillI, wF5o0, F5p0, wF5o1, F5p1, wF5o2, F5p2, wF5o3, F5p3, F5p4, wF5o5, F5p5, wF5o6, F5p6, wF5o7, F5p7, wF5o8, F5p8, wF5o9, F5p9, wF5o10, F5p10, wF5o11, F5p11, wF5o12, F5p12, wF5o13, F5p13, wF5o14, F5p14, wF5o15, F5p15, wF5o16, F5p16, wF5o17, F5p17, wF5o18, F5p18, wF5o19, F5p19, wF5o20, F5p20, wF5o21, F5p21, wF5o22, F5p22, wF5o23, F5p23, wF5o24, F5p24, wF5o26, F5p26, wF5o28, F5p28, wF5o29, F5p29, wF5o30, F5p30, wF5o31, F5p31, wF5o32, F5p32, wF5o33, F5p33, wF5o34, F5p34, wF5o36, F5p36, F5b, F5, rz, r0]
  rw [show IV.agg [f.iv, b.iv] = bv f b from rfl]
  -- behind Meets and Step
  by_cases hs : stepE (bedF t) (bedB t) r d = 0
  case neg =>
    have em : meetsE (bedF t) (bedB t) r d p = stepE (bedF t) (bedB t) r d := by unfold meetsE; rw [if_pos hs]
    have e0 : (stepE (bedF t) (bedB t) r d != 0) = true := by simp [hs]
    refine omeets_sp r d p ht2 s2.1.sl2 s2.2.1.sl2 (by omega) (by omega) hlf hlb (by omega) hd (fun H3 k3 _ => ?_) fun H3 v k3 h3 => absurd (em.symm.trans h3) hs
    rw [em]
    have hn3 := k3.1
    replace g0 := (k3.2 _ (by omega) (by omega)).trans g0
    have r3 := read_get g0
    have s3 := s2.keep k3
    simp (disch := omega) only [BAS, ↓BPR, reduceIte, reduceCtorEq, seval, -List.reduceReplicate, fpOf, freeNext, opW, binI, ev1, Heap.write, setAll, unI, eqKs, eqK, fillI, B5, r3]
    rw [show IV.agg [f.iv, b.iv] = bv f b from rfl]
    refine ostep_sp r d (ht2.keep' k3) s3.1.sl2 s3.2.1.sl2 (by omega) (by omega) hlf hlb (by omega) hd (fun H4 k4 _ => ?_) fun H4 v k4 h4 => absurd h4 hs
    simp (disch := omega) only [BAS, ↓BPR, reduceIte, reduceCtorEq, seval, -List.reduceReplicate, fpOf, freeNext, opW, binI, ev1, Heap.write, setAll, unI, eqKs, eqK, fillI, B5, e0]
    refine c11 ((ht2.keep' k3).keep' k4) ?_
    simp (disch := omega) only [BAS, ↓BPR, reduceIte, reduceCtorEq, seval, -List.reduceReplicate, fpOf, freeNext, opW, binI, ev1, Heap.write, setAll, unI, eqKs, eqK, fillI, B5]
  obtain ⟨hr, hd01, hr2⟩ : rackB r = true ∧ (d = 0 ∨ d = 1) ∧ rackB (r + stepD d) = true := by
    unfold stepE at hs
    split at hs
    · contradiction
    · rename_i h1
      split at hs
      · omega
      · rename_i h2
        split at hs
        · rename_i h3
          rw [Decidable.not_not] at h1
          unfold ocheckE at h1
          rw [if_neg (by simp [hck])] at h1
          split at h1
          · rename_i h4
            exact ⟨h4, by omega, h3⟩
          · omega
        · omega
  by_cases hp : p.tmod 2 = 0
  · have em : meetsE (bedF t) (bedB t) r d p = 1 := by unfold meetsE; rw [if_neg (by simp [hs]), if_pos hp]
    refine omeets_sp r d p ht2 s2.1.sl2 s2.2.1.sl2 (by omega) (by omega) hlf hlb (by omega) hd (fun H3 k3 _ => ?_) fun H3 v k3 h3 => absurd (em.symm.trans h3) (by omega)
    rw [em]
    have hn3 := k3.1
    replace g0 := (k3.2 _ (by omega) (by omega)).trans g0
    have r3 := read_get g0
    have s3 := s2.keep k3
    simp (disch := omega) only [BAS, ↓BPR, reduceIte, reduceCtorEq, seval, -List.reduceReplicate, fpOf, freeNext, opW, binI, ev1, Heap.write, setAll, unI, eqKs, eqK, fillI, B5, r3]
    rw [show IV.agg [f.iv, b.iv] = bv f b from rfl]
    refine ostep_sp r d (ht2.keep' k3) s3.1.sl2 s3.2.1.sl2 (by omega) (by omega) hlf hlb (by omega) hd (fun H4 k4 h4 => absurd hs h4) fun H4 v k4 _ _ => ?_
    simp (disch := omega) only [BAS, ↓BPR, reduceIte, reduceCtorEq, seval, -List.reduceReplicate, fpOf, freeNext, opW, binI, ev1, Heap.write, setAll, unI, eqKs, eqK, fillI, B5, hp]
    refine c11 ((ht2.keep' k3).keep' k4) ?_
    simp (disch := omega) only [BAS, ↓BPR, reduceIte, reduceCtorEq, seval, -List.reduceReplicate, fpOf, freeNext, opW, binI, ev1, Heap.write, setAll, unI, eqKs, eqK, fillI, B5]
  have hp' : (p.tmod 2 == 0) = false := by simp [hp]
  have em : meetsE (bedF t) (bedB t) r d p = 0 := by unfold meetsE; rw [if_neg (by simp [hs]), if_neg hp]
  refine omeets_sp r d p ht2 s2.1.sl2 s2.2.1.sl2 (by omega) (by omega) hlf hlb (by omega) hd (fun H3 k3 h3 => absurd em h3) fun H3 v3 k3 _ hv3 => ?_
  have hn3 := k3.1
  replace g0 := (k3.2 _ (by omega) (by omega)).trans g0
  have r3 := read_get g0
  have s3 := s2.keep k3
  have ht3 := ht2.keep' k3
  simp (disch := omega) only [BAS, ↓BPR, reduceIte, reduceCtorEq, seval, -List.reduceReplicate, fpOf, freeNext, opW, binI, ev1, Heap.write, setAll, unI, eqKs, eqK, fillI, B5, r3]
  rw [show IV.agg [f.iv, b.iv] = bv f b from rfl]
  refine ostep_sp r d ht3 s3.1.sl2 s3.2.1.sl2 (by omega) (by omega) hlf hlb (by omega) hd (fun H4 k4 h4 => absurd hs h4) fun H4 u4 k4 _ _ => ?_
  have hn4 := k4.1
  replace g0 := (k4.2 _ (by omega) (by omega)).trans g0
  have r4 := read_get g0
  have s4 := s3.keep k4
  have ht4 := ht3.keep' k4
  have hr' := rackB_iff.1 hr
  have ec : ∀ r, rackB r = true → ocheckE (bedF t) (bedB t) r = 0 := fun r h => by unfold ocheckE; rw [if_neg (by simp [hck]), if_pos h]
  have hheld := heldL_length (bedF t) (bedB t)
  have hlens1 := lens_le4 c1 c3
  have hlens2 := lens_le4 c2 c4
  have next : ∀ (tm9 : List IV), tm9.length = 180 → tm9.getD 6 IV.undef = .bool false → tm9.getD 7 IV.undef = .ptr H1.n 0 → tm9.getD 8 IV.undef = .int .i64 r → tm9.getD 9 IV.undef = .int .i64 p → tm9.getD 10 IV.undef = v3.iv → tm9.getD 11 IV.undef = .int .i64 0 → tm9.getD 14 IV.undef = .int .i64 (r + stepD d) → tm9.getD 15 IV.undef = .int .u8 (wayD d) → W E0 H.n (.code (.seq F5o12 (.seq F5o13 (.seq F5o14 (.seq (.seq F5o15 (.block 0 (.loop F5l27))) (.seq (.seq F5o28 (.cond (.tmp 163) (.seq F5o29 .ret) .skip)) (.seq (.seq F5o30 (.block 4 (.loop F5l35))) (.seq F5o36 .ret))))))) none ⟨tm9, []⟩) H4 (retC H.n F5.results fun o _ => o = .val (.bool true)) := by
    intro tm9 htm9 u6 u7 u8 u9 u10 u11 u14 u15
    rw [expl180 tm9 htm9, u6, u7, u8, u9, u10, u11, u14, u15]
    simp (disch := omega) only [BAS, ↓BPR, reduceIte, reduceCtorEq, seval, -List.reduceReplicate, fpOf, freeNext, opW, binI, ev1, Heap.write, setAll, unI, eqKs, eqK, fillI, B5, r4]
    rw [show IV.agg [f.iv, b.iv] = bv f b from rfl]
    refine olist_sp r s4.1.sl2 s4.2.1.sl2 (by omega) (by omega) hlf hlb (by omega) (fun H5 k5 h5 => absurd (ec r hr) h5) fun H5 v5 l5 k5 _ hv5 hp5 hs5 => ?_
    have hl5 := order_eq hck hr hp5 hs5
    subst hl5
    have hn5 := k5.1
    replace g0 := (k5.2 _ (by omega) (by omega)).trans g0
    have r5 := read_get g0
    have s5 := s4.keep k5
    simp (disch := omega) only [BAS, ↓BPR, reduceIte, reduceCtorEq, seval, -List.reduceReplicate, fpOf, freeNext, opW, binI, ev1, Heap.write, setAll, unI, eqKs, eqK, fillI, B5, r5]
    rw [show IV.agg [f.iv, b.iv] = bv f b from rfl]
    refine olist_sp (r + stepD d) s5.1.sl2 s5.2.1.sl2 (by omega) (by omega) hlf hlb (by omega) (fun H6 k6 h6 => absurd (ec _ hr2) h6) fun H6 v6 l6 k6 _ hv6 hp6 hs6 => ?_
    have hl6 := order_eq hck hr2 hp6 hs6
    subst hl6
    have hn6 := k6.1
    have hv5' := hv5.sl.keep k6
    simp (disch := omega) only [BAS, ↓BPR, reduceIte, reduceCtorEq, seval, -List.reduceReplicate, fpOf, freeNext, opW, binI, ev1, Heap.write, setAll, unI, eqKs, eqK, fillI, B5]
    refine meets_out (way := wayD d) (by rcases hd01 with rfl | rfl; exact .inr rfl; exact .inl rfl) (by omega) rfl hv5' hv6.sl (by rw [hp5.length_eq, hheld]; omega) (by rw [hp6.length_eq, hheld]; omega) 0 .nil rfl rfl rfl rfl rfl rfl rfl rfl rfl rfl rfl rfl fun H7 v7 tm7 k7 g7 w w6 w10 w11 w20 => ?_
    rw [wantM_eq hck hd01 hr hr2 hp] at g7
    have hv7 := ((((hv3.sl.keep k4).keep k5).keep k6)).keep k7
    have hg7 := g7.sl
    have ht7 := (((ht4.keep' k5).keep' k6)).keep' k7
    rw [expl180 tm7 w, w6, w10, w11, w20]
    simp (disch := omega) only [BAS, ↓BPR, reduceIte, reduceCtorEq, seval, -List.reduceReplicate, fpOf, freeNext, opW, binI, ev1, Heap.write, setAll, unI, eqKs, eqK, fillI, B5, ↓hv7.ln, ↓hg7.ln, ↓hv7.cap hv3.tight]
    refine W_inv (fun k fr H' => ∃ i, i + k = (meetL (bedB t) r d p).length ∧ H' = H7 ∧ fr.marks = [] ∧ fr.tm.length = 180 ∧ fr.tm.getD 10 IV.undef = v3.iv ∧ fr.tm.getD 20 IV.undef = v7.iv ∧ fr.tm.getD 24 IV.undef = .int .i64 i) ?_ _ ⟨0, Nat.zero_add _, rfl, rfl, rfl, rfl, rfl, rfl⟩
    rintro k ⟨tm, mk⟩ H' ⟨i, hik, he, rfl, htm, t10, t20, t24⟩ L hN hJ
    subst he
    rw [expl180 tm htm, t10, t20, t24]
    have hml := meetL_len c2 c4 r d p
    by_cases hi : i < (meetL (bedB t) r d p).length
    · have q1 := hv7.read z_Ps i hi
      have q2 := hg7.read z_Ps i hi
      simp (disch := omega) only [BAS, ↓BPR, reduceIte, reduceCtorEq, seval, -List.reduceReplicate, fpOf, freeNext, opW, binI, ev1, Heap.write, setAll, unI, eqKs, eqK, fillI, B5, F5l25, F5l27, F5l35, ↓hv7.ln, ↓hv7.idx, ↓hg7.idx, q1, q2, cs_Ps]
      exact hN (k - 1) _ _ (by omega) ⟨i + 1, by omega, rfl, rfl, rfl, rfl, rfl, rfl⟩
    · simp (disch := omega) only [BAS, ↓BPR, reduceIte, reduceCtorEq, seval, -List.reduceReplicate, fpOf, freeNext, opW, binI, ev1, Heap.write, setAll, unI, eqKs, eqK, fillI, B5, F5l25, F5l27, F5l35, ↓hv7.ln, hJ]
      refine c11 ht7 ?_
      simp (disch := omega) only [BAS, ↓BPR, reduceIte, reduceCtorEq, seval, -List.reduceReplicate, fpOf, freeNext, opW, binI, ev1, Heap.write, setAll, unI, eqKs, eqK, fillI, B5]
  rcases hd01 with rfl | rfl
  · simp (disch := omega) only [BAS, ↓BPR, reduceIte, reduceCtorEq, seval, -List.reduceReplicate, fpOf, freeNext, opW, binI, ev1, Heap.write, setAll, unI, eqKs, eqK, fillI, wF5o0, F5p0, wF5o1, F5p1, wF5o2, F5p2, wF5o3, F5p3, wF5o4, F5p4, wF5o5, F5p5, wF5o6, F5p6, wF5o7, F5p7, wF5o8, F5p8, wF5o9, F5p9, wF5o10, F5p10, wF5o11, F5p11, F5p12, wF5o13, F5p13, wF5o14, F5p14, wF5o15, F5p15, wF5o16, F5p16, wF5o17, F5p17, wF5o18, F5p18, wF5o19, F5p19, wF5o20, F5p20, wF5o21, F5p21, wF5o22, F5p22, wF5o23, F5p23, wF5o24, F5p24, wF5o26, F5p26, wF5o28, F5p28, wF5o29, F5p29, wF5o30, F5p30, wF5o31, F5p31, wF5o32, F5p32, wF5o33, F5p33, wF5o34, F5p34, wF5o36, F5p36, F5b, F5, hp']
    rw [← W_seq]
    exact next _ rfl rfl rfl rfl rfl rfl rfl rfl rfl
  · simp (disch := omega) only [BAS, ↓BPR, reduceIte, reduceCtorEq, seval, -List.reduceReplicate, fpOf, freeNext, opW, binI, ev1, Heap.write, setAll, unI, eqKs, eqK, fillI, wF5o0, F5p0, wF5o1, F5p1, wF5o2, F5p2, wF5o3, F5p3, wF5o4, F5p4, wF5o5, F5p5, wF5o6, F5p6, wF5o7, F5p7, wF5o8, F5p8, wF5o9, F5p9, wF5o10, F5p10, wF5o11, F5p11, F5p12, wF5o13, F5p13, wF5o14, F5p14, wF5o15, F5p15, wF5o16, F5p16, wF5o17, F5p17, wF5o18, F5p18, wF5o19, F5p19, wF5o20, F5p20, wF5o21, F5p21, wF5o22, F5p22, wF5o23, F5p23, wF5o24, F5p24, wF5o26, F5p26, wF5o28, F5p28, wF5o29, F5p29, wF5o30, F5p30, wF5o31, F5p31, wF5o32, F5p32, wF5o33, F5p33, wF5o34, F5p34, wF5o36, F5p36, F5b, F5, hp']
    rw [← W_seq]
    exact next _ rfl rfl rfl rfl rfl rfl rfl rfl rfl
end Go.Iso.Gen
end
