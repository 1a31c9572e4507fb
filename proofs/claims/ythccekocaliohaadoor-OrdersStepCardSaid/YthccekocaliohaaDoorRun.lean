/-
  a run of OrdersStep.
-/
import Derived.Test.YthccekocaliohaaDoorOrd
set_option linter.unusedSimpArgs false
set_option linter.unusedVariables false

section
namespace Go.Iso.Gen
open Go.Iso
set_option maxHeartbeats 2000000
set_option maxRecDepth 10000

end Go.Iso.Gen
end

section
namespace Go.Iso.Gen
open Go.Iso
set_option maxHeartbeats 2000000
set_option maxRecDepth 10000

def flipP (p : Ps) : Ps := ⟨p.id, p.front, if p.dir = 1 then 0 else 1⟩
def invL (l : List Ps) : List Ps := (l.map flipP).reverse
end Go.Iso.Gen
end

section
namespace Go.Iso.Gen
open Go.Iso
set_option maxHeartbeats 2000000
set_option maxRecDepth 10000

/-- A crossing on the way back. -/
def crF (c : Cr) : Cr := ⟨c.b, c.a, -c.s⟩
theorem stepL_len {fs bs : List (List Id)} (h1 : bs.length ≤ 40) (h : ∀ x ∈ fs, x.length ≤ 4) (h' : ∀ x ∈ bs, x.length ≤ 4) (r d : Int) : (stepL fs bs r d).length ≤ 640 := by
  have := stepR_len h h' r d bs.length (Nat.le_refl _)
  rw [stepR_all] at this
  unfold stepL
  split
  · rw [List.length_reverse]; omega
  · omega
theorem tm8 (a : Nat) : (a : Int).tmod 8 = ((a % 8 : Nat) : Int) := tmodN a 8
end Go.Iso.Gen
end

section
namespace Go.Iso.Gen
open Go.Iso
set_option maxHeartbeats 4000000
set_option maxRecDepth 10000

end Go.Iso.Gen
end

section
namespace Go.Iso.Gen
open Go.Iso
set_option maxHeartbeats 4000000
set_option maxRecDepth 10000

/-- Whether a loop behind the step is one before it that has changed sides. -/
def cndM (p : Int) (x y : Hd) : Bool := decide (y.id = x.id) && (decide (x.spot < p) != decide (y.spot < p))
theorem id_beq (a b : Id) : ((a.y == b.y) && (a.n == b.n)) = decide (a = b) := by
  by_cases h : a = b
  · subst h; simp
  · rw [decide_eq_false h]; exact id_ne h
def oneM (p way : Int) (behind : List Hd) (x : Hd) : List Ps := (behind.filter (cndM p x)).map fun _ => psE way x.id
end Go.Iso.Gen
end

section
namespace Go.Iso.Gen
open Go.Iso
set_option maxHeartbeats 4000000
set_option maxRecDepth 10000

/-- All stacks in one list. -/
def allT (fs bs : List (List Id)) : List (List Id) := fs ++ List.replicate (40 - fs.length) [] ++ bs
theorem allT_flatten (fs bs : List (List Id)) : (allT fs bs).flatten = (fs ++ bs).flatten := by
  unfold allT
  simp
theorem allT_get {fs bs : List (List Id)} (h : fs.length ≤ 40) (i : Nat) (hi : i < 80) : (allT fs bs).getD i [] = atL fs bs (nB i) (nA i) := by
  rw [atL_get fs bs i hi]
  unfold allT
  rw [List.getD_eq_getElem?_getD, List.getD_eq_getElem?_getD]
  by_cases h1 : i < 40
  · rw [if_pos h1, show i % 40 = i from by omega]
    rw [List.getElem?_append_left (by simp; omega)]
    by_cases h2 : i < fs.length
    · rw [List.getElem?_append_left h2]
    · rw [List.getElem?_append_right (by omega), List.getElem?_eq_none (l := fs) (by omega), List.getElem?_replicate, if_pos (by omega)]; rfl
  · rw [if_neg h1]
    rw [List.getElem?_append_right (by simp; omega)]
    congr 2
    simp; omega
theorem atL_uniq {fs bs : List (List Id)} (hc : checkE fs bs = 0) {i j : Nat} (hi : i < 80) (hj : j < 80) {a : Id} (h1 : a ∈ atL fs bs (nB i) (nA i)) (h2 : a ∈ atL fs bs (nB j) (nA j)) : i = j := by
  obtain ⟨c1, c2, c3, c4, c5, c6⟩ := check_len hc
  rw [← allT_get c1 i hi] at h1
  rw [← allT_get c1 j hj] at h2
  exact nd_uniq (t := allT fs bs) (by rw [allT_flatten]; exact c6) h1 h2
theorem atL_nodup {fs bs : List (List Id)} (hc : checkE fs bs = 0) (b a : Int) : (atL fs bs b a).Nodup := by
  obtain ⟨c1, c2, c3, c4, c5, c6⟩ := check_len hc
  rw [List.Nodup, List.pairwise_flatten] at c6
  have key : ∀ (ls : List (List Id)) (i : Nat), (∀ l ∈ ls, l ∈ fs ++ bs) → ((ls[i]?).getD []).Nodup := fun ls i h => by
    by_cases hi : i < ls.length
    · rw [List.getElem?_eq_getElem hi]; exact c6.1 _ (h _ (List.getElem_mem hi))
    · rw [List.getElem?_eq_none (by omega)]; exact List.nodup_nil
  unfold atL
  split
  · split
    · exact key _ _ fun l hl => List.mem_append_right _ hl
    · exact key _ _ fun l hl => List.mem_append_left _ hl
  · exact List.nodup_nil
/-- A loop of the order is where its name is. -/
theorem listedL_uniq {fs bs : List (List Id)} (hc : checkE fs bs = 0) {r r' : Int} (hr : rackB r = true) (hr' : rackB r' = true) {x y : Hd} (hx : x ∈ listedL fs bs r) (hy : y ∈ listedL fs bs r') (he : y.id = x.id) : y = { x with spot := spotE x.bed x.at_ r' } := by
  obtain ⟨i, hi, hx⟩ := (listedL_mem hr).1 hx
  obtain ⟨j, hj, hy⟩ := (listedL_mem hr').1 hy
  obtain ⟨p, hp, rfl⟩ := stackH_mem.1 hx
  obtain ⟨q, hq, rfl⟩ := stackH_mem.1 hy
  simp only at he
  have hij : j = i := atL_uniq hc hj hi (List.getElem_mem hq) (by rw [he]; exact List.getElem_mem hp)
  subst hij
  have hpq : q = p := by
    have := atL_nodup hc (nB j) (nA j)
    exact (List.getElem_inj this).1 he
  subst hpq
  rfl
theorem listedL_nodup {fs bs : List (List Id)} (hc : checkE fs bs = 0) (r : Int) : (listedL fs bs r).Nodup := by
  obtain ⟨c1, c2, c3, c4, _⟩ := check_len hc
  exact (listedL_sorted c3 c4 r).imp fun {a b} h e => by subst e; exact ltH_irr a h

def movedH (r' p : Int) (x : Hd) : Bool := decide (x.spot < p) != decide (spotE x.bed x.at_ r' < p)
/-- What a carrier meets, by the order of the loops. -/
def ordD (way : Int) (l : List Hd) : List Hd := if way = 0 then l.reverse else l
def wantM (p way : Int) (before behind : List Hd) : List Ps := (ordD way before).flatMap (oneM p way behind)
def metH (bs : List (List Id)) (r d p : Int) : List Hd := (bs.mapIdx fun (i : Nat) st => if metAt r d p i then stackH 1 ((i : Int) + 1) (spotE 1 ((i : Int) + 1) r) (8 * (40 + i)) st else []).flatten
end Go.Iso.Gen
end

section
namespace Go.Iso.Gen
open Go.Iso
set_option maxHeartbeats 4000000
set_option maxRecDepth 10000

end Go.Iso.Gen
end

section
namespace Go.Iso.Gen
open Go.Iso
set_option maxHeartbeats 4000000
set_option maxRecDepth 10000

end Go.Iso.Gen
end

section
namespace Go.Iso.Gen
open Go.Iso
set_option maxHeartbeats 4000000
set_option maxRecDepth 10000

/-- Two neighbours of different beds cross; the front one goes in front. -/
def Adj (c : Cr) (l l' : List Hd) : Prop := ∃ P x y S, l = P ++ x :: y :: S ∧ l' = P ++ y :: x :: S ∧ x.id = c.a ∧ y.id = c.b ∧ x.bed ≠ y.bed ∧ c.s = (if x.bed = 0 then 1 else -1)
def Chain : List Cr → List Hd → List Hd → Prop
  | [], l, l' => l = l'
  | c :: cs, l, l' => ∃ m, Adj c l m ∧ Chain cs m l'
theorem Chain.append {a b : List Cr} {l m n : List Hd} (h : Chain a l m) (k : Chain b m n) : Chain (a ++ b) l n := by
  induction a generalizing l with
  | nil => have h : l = m := h; subst h; exact k
  | cons c a ih => obtain ⟨x, h1, h2⟩ := h; exact ⟨x, h1, ih h2⟩
theorem left_one (b : Hd) (hb : b.bed = 1) : ∀ (G : List Hd), (∀ f ∈ G, f.bed = 0) → ∀ P S, Chain (G.map fun f => crE 0 b.id f.id) (P ++ (G.reverse ++ b :: S)) (P ++ b :: (G.reverse ++ S))
  | [], _, P, S => by simp [Chain]
  | f :: G, hG, P, S => by
    have hf := hG f (by simp)
    refine ⟨P ++ (G.reverse ++ b :: (f :: S)), ⟨P ++ G.reverse, f, b, S, by simp, by simp, rfl, rfl, by rw [hf, hb]; decide, ?_⟩, ?_⟩
    · show (1 : Int) = _
      rw [hf, if_pos rfl]
    · have := left_one b hb G (fun x hx => hG x (by simp [hx])) P (f :: S)
      simpa using this
theorem left_all (F : List Hd) (hF : ∀ f ∈ F, f.bed = 0) : ∀ (B : List Hd), (∀ b ∈ B, b.bed = 1) → ∀ P S, Chain (B.flatMap fun b => F.reverse.map fun f => crE 0 b.id f.id) (P ++ (F ++ B) ++ S) (P ++ (B ++ F) ++ S)
  | [], _, P, S => by simp [Chain]
  | b :: B, hB, P, S => by
    have h1 := left_one b (hB b (by simp)) F.reverse (fun f hf => hF f (List.mem_reverse.1 hf)) P (B ++ S)
    have h2 := left_all F hF B (fun x hx => hB x (by simp [hx])) (P ++ [b]) S
    rw [List.flatMap_cons]
    refine Chain.append (m := P ++ b :: (F ++ (B ++ S))) ?_ ?_
    · simpa using h1
    · simpa using h2
theorem right_one (b : Hd) (hb : b.bed = 1) : ∀ (F : List Hd), (∀ f ∈ F, f.bed = 0) → ∀ P S, Chain (F.map fun f => crE 1 b.id f.id) (P ++ b :: (F ++ S)) (P ++ (F ++ b :: S))
  | [], _, P, S => by simp [Chain]
  | f :: F, hF, P, S => by
    have hf := hF f (by simp)
    refine ⟨P ++ f :: b :: (F ++ S), ⟨P, b, f, F ++ S, by simp, rfl, rfl, rfl, by rw [hf, hb]; decide, ?_⟩, ?_⟩
    · show (-1 : Int) = _
      rw [hb, if_neg (by decide)]
    · have := right_one b hb F (fun x hx => hF x (by simp [hx])) (P ++ [f]) S
      simpa using this
theorem right_all (F : List Hd) (hF : ∀ f ∈ F, f.bed = 0) : ∀ (G : List Hd), (∀ b ∈ G, b.bed = 1) → ∀ P S, Chain (G.flatMap fun b => F.map fun f => crE 1 b.id f.id) (P ++ (G.reverse ++ F) ++ S) (P ++ (F ++ G.reverse) ++ S)
  | [], _, P, S => by simp [Chain]
  | b :: G, hG, P, S => by
    have h1 := right_one b (hG b (by simp)) F hF (P ++ G.reverse) S
    have h2 := right_all F hF G (fun x hx => hG x (by simp [hx])) P (b :: S)
    rw [List.flatMap_cons]
    refine Chain.append (m := P ++ G.reverse ++ (F ++ b :: S)) ?_ ?_
    · simpa using h1
    · simpa using h2

/-- The loops at a spot of the back bed, and at one of the front bed. -/
def rowB (fs bs : List (List Id)) (r q : Int) : List Hd := stackH 1 (q - r) (4 * q) (8 * (39 + (q - r))).toNat (atL fs bs 1 (q - r))
def rowF (fs bs : List (List Id)) (q : Int) : List Hd := stackH 0 q (4 * q + 2) (8 * (q - 1)).toNat (atL fs bs 0 q)
def ordL (fs bs : List (List Id)) (r : Int) : List Hd := (List.range 48).flatMap fun (u : Nat) => rowB fs bs r ((u : Int) - 3) ++ rowF fs bs ((u : Int) - 3)
theorem rowB_nil (fs bs : List (List Id)) {r q : Int} (h : q - r < 1 ∨ q - r > 40) : rowB fs bs r q = [] := by
  unfold rowB
  rw [atL_none fs bs (by unfold needleE; rw [if_neg (by omega)]; omega)]; rfl
theorem rowF_nil (fs bs : List (List Id)) {q : Int} (h : q < 1 ∨ q > 40) : rowF fs bs q = [] := by
  unfold rowF
  rw [atL_none fs bs (by unfold needleE; rw [if_neg (by omega)]; omega)]; rfl
theorem rowB_bed {fs bs : List (List Id)} {r q : Int} {x : Hd} (h : x ∈ rowB fs bs r q) : x.bed = 1 := by
  obtain ⟨j, hj, rfl⟩ := stackH_mem.1 h; rfl
theorem rowF_bed {fs bs : List (List Id)} {q : Int} {x : Hd} (h : x ∈ rowF fs bs q) : x.bed = 0 := by
  obtain ⟨j, hj, rfl⟩ := stackH_mem.1 h; rfl
theorem stackH_ids (bed at_ spot : Int) (k0 : Nat) (st : List Id) : (stackH bed at_ spot k0 st).map (·.id) = st := by
  apply List.ext_getElem
  · simp [stackH]
  · intro i h1 h2
    simp [stackH]
theorem rowB_ids (fs bs : List (List Id)) (r q : Int) : (rowB fs bs r q).map (·.id) = atL fs bs 1 (q - r) := stackH_ids _ _ _ _ _
theorem rowF_ids (fs bs : List (List Id)) (q : Int) : (rowF fs bs q).map (·.id) = atL fs bs 0 q := stackH_ids _ _ _ _ _
theorem ordL_sorted (fs bs : List (List Id)) (r : Int) : (ordL fs bs r).Pairwise ltH := by
  refine pairwise_range _ 48 (fun u => ?_) fun u w huw x hx y hy => ?_
  · rw [List.pairwise_append]
    refine ⟨stackH_lt _ _ _ _ _, stackH_lt _ _ _ _ _, fun x hx y hy => ?_⟩
    have a1 := stackH_spot hx
    have a2 := stackH_spot hy
    unfold ltH
    omega
  · have key : ∀ (u : Nat) (x : Hd), x ∈ rowB fs bs r ((u : Int) - 3) ++ rowF fs bs ((u : Int) - 3) → 4 * ((u : Int) - 3) ≤ x.spot ∧ x.spot ≤ 4 * ((u : Int) - 3) + 2 := by
      intro u x hx
      rcases List.mem_append.1 hx with hx | hx
      · have := stackH_spot hx; omega
      · have := stackH_spot hx; omega
    have a1 := key u x hx
    have a2 := key w y hy
    unfold ltH
    omega
theorem ordL_mem {fs bs : List (List Id)} {r : Int} (hr : rackB r = true) {x : Hd} : x ∈ ordL fs bs r ↔ ∃ i, i < 80 ∧ x ∈ stackH (nB i) (nA i) (spotE (nB i) (nA i) r) (8 * i) (atL fs bs (nB i) (nA i)) := by
  have hr' := rackB_iff.1 hr
  unfold ordL
  constructor
  · intro h
    obtain ⟨u, hu, h⟩ := List.mem_flatMap.1 h
    rcases List.mem_append.1 h with h | h
    · have hv : 1 ≤ (u : Int) - 3 - r ∧ (u : Int) - 3 - r ≤ 40 := Classical.byContradiction fun hn => by
        rw [rowB_nil fs bs (by omega)] at h; cases h
      refine ⟨(39 + ((u : Int) - 3 - r)).toNat, by omega, ?_⟩
      have e1 : nB (39 + ((u : Int) - 3 - r)).toNat = 1 := by unfold nB; omega
      have e2 : nA (39 + ((u : Int) - 3 - r)).toNat = (u : Int) - 3 - r := by unfold nA; omega
      rw [spotE_needle (by omega) hr, if_neg (by omega), e1, e2]
      unfold rowB at h
      rw [show 4 * ((((39 + ((u : Int) - 3 - r)).toNat : Nat) : Int) - 39 + r) = 4 * ((u : Int) - 3) from by omega, show 8 * (39 + ((u : Int) - 3 - r)).toNat = (8 * (39 + ((u : Int) - 3 - r))).toNat from by omega]
      exact h
    · have hv : 1 ≤ (u : Int) - 3 ∧ (u : Int) - 3 ≤ 40 := Classical.byContradiction fun hn => by
        rw [rowF_nil fs bs (by omega)] at h; cases h
      refine ⟨((u : Int) - 4).toNat, by omega, ?_⟩
      have e1 : nB ((u : Int) - 4).toNat = 0 := by unfold nB; omega
      have e2 : nA ((u : Int) - 4).toNat = (u : Int) - 3 := by unfold nA; omega
      rw [spotE_needle (by omega) hr, if_pos (by omega), e1, e2]
      unfold rowF at h
      rw [show 4 * ((((u : Int) - 4).toNat : Nat) : Int) + 6 = 4 * ((u : Int) - 3) + 2 from by omega, show 8 * ((u : Int) - 4).toNat = (8 * ((u : Int) - 3 - 1)).toNat from by omega]
      exact h
  · rintro ⟨i, hi, h⟩
    rw [spotE_needle hi hr] at h
    by_cases hc : i < 40
    · rw [if_pos hc, show nB i = 0 from by unfold nB; omega, show nA i = (i : Int) + 1 from by unfold nA; omega] at h
      refine List.mem_flatMap.2 ⟨i + 4, List.mem_range.2 (by omega), List.mem_append_right _ ?_⟩
      unfold rowF
      rw [show ((i + 4 : Nat) : Int) - 3 = (i : Int) + 1 from by omega, show 4 * ((i : Int) + 1) + 2 = 4 * (i : Int) + 6 from by omega, show (8 * ((i : Int) + 1 - 1)).toNat = 8 * i from by omega]
      exact h
    · rw [if_neg hc, show nB i = 1 from by unfold nB; omega, show nA i = (i : Int) - 39 from by unfold nA; omega] at h
      refine List.mem_flatMap.2 ⟨((i : Int) - 39 + r + 3).toNat, List.mem_range.2 (by omega), List.mem_append_left _ ?_⟩
      unfold rowB
      rw [show ((((i : Int) - 39 + r + 3).toNat : Nat) : Int) - 3 = (i : Int) - 39 + r from by omega, show (i : Int) - 39 + r - r = (i : Int) - 39 from by omega, show (8 * (39 + ((i : Int) - 39))).toNat = 8 * i from by omega]
      exact h
theorem ordL_eq {fs bs : List (List Id)} (hc : checkE fs bs = 0) {r : Int} (hr : rackB r = true) : listedL fs bs r = ordL fs bs r := by
  obtain ⟨c1, c2, c3, c4, _⟩ := check_len hc
  refine sorted_uniq ltH_irr ltH_tr (listedL_sorted c3 c4 r) (ordL_sorted fs bs r) fun x => ?_
  rw [listedL_mem hr, ordL_mem hr]
/-- Blocks are taken together otherwise. -/
theorem zig {α : Type} (X Y : Nat → List α) (n : Nat) : (List.range (n + 1)).flatMap (fun u => X u ++ Y u) = X 0 ++ (List.range n).flatMap (fun u => Y u ++ X (u + 1)) ++ Y n := by
  induction n with
  | zero => simp
  | succ n ih => rw [flatMap_range, ih, flatMap_range]; simp
theorem shift_range {α : Type} (h : Nat → List α) (s n : Nat) : ∀ N, s + n ≤ N → (List.range N).flatMap (fun u => if s ≤ u ∧ u < s + n then h (u - s) else []) = (List.range n).flatMap h := by
  have key : ∀ N, (List.range N).flatMap (fun u => if s ≤ u ∧ u < s + n then h (u - s) else []) = (List.range (min n (N - s))).flatMap h := by
    intro N
    induction N with
    | zero => simp
    | succ N ih =>
      rw [flatMap_range, ih]
      by_cases hc : s ≤ N ∧ N < s + n
      · rw [if_pos hc, show min n (N + 1 - s) = min n (N - s) + 1 from by omega, flatMap_range, show min n (N - s) = N - s from by omega]
      · rw [if_neg hc, List.append_nil]
        congr 2
        omega
  intro N hN
  rw [key, show min n (N - s) = n from by omega]
theorem flatten_mapIdx {α β : Type} (l : List α) (f : Nat → α → List β) (d : α) : (l.mapIdx f).flatten = (List.range l.length).flatMap fun i => f i (l.getD i d) := by
  rw [List.flatMap_def]
  congr 1
  apply List.ext_getElem
  · simp
  · intro i h1 h2
    simp only [List.length_mapIdx] at h1
    simp only [List.getElem_mapIdx, List.getElem_map, List.getElem_range]
    rw [List.getD_eq_getElem?_getD, List.getElem?_eq_getElem h1, Option.getD_some]
theorem rowC_nil (d : Int) (fr : List Id) : rowC d fr [] = [] := rfl
/-- The crossings, place by place. -/
theorem stepB_range {fs bs : List (List Id)} (hb : bs.length ≤ 40) {r d : Int} (hr : rackB r = true) (hd : d = 0 ∨ d = 1) (hr0 : d = 0 → -3 ≤ r) : stepB fs bs r d = (List.range 48).flatMap fun (u : Nat) => rowC d (atL fs bs 0 ((u : Int) - 3)).reverse (atL fs bs 1 ((u : Int) - 3 + (if d = 0 then 1 else 0) - r)) := by
  have hr' := rackB_iff.1 hr
  obtain ⟨e, he, he'⟩ : ∃ e : Int, (if d = 0 then (1 : Int) else 0) = e ∧ (d = 0 ∧ e = 1 ∨ d = 1 ∧ e = 0) := ⟨_, rfl, by rcases hd with rfl | rfl; exact .inl ⟨rfl, rfl⟩; exact .inr ⟨rfl, rfl⟩⟩
  unfold stepB
  rw [he, flatten_mapIdx _ _ []]
  rw [← shift_range _ (4 + r - e).toNat bs.length 48 (by omega)]
  congr 1
  funext u
  by_cases hu : (4 + r - e).toNat ≤ u ∧ u < (4 + r - e).toNat + bs.length
  · rw [if_pos hu]
    have e1 : ((u - (4 + r - e).toNat : Nat) : Int) + 1 + r - e = (u : Int) - 3 := by omega
    have e2 : atL fs bs 1 ((u : Int) - 3 + e - r) = bs.getD (u - (4 + r - e).toNat) [] := by
      unfold atL
      rw [if_pos (by unfold needleE; rw [if_pos (by omega)]), if_pos rfl, List.getD_eq_getElem?_getD]
      congr 2
      omega
    rw [e1, e2]
  · rw [if_neg hu]
    have e2 : atL fs bs 1 ((u : Int) - 3 + e - r) = [] := by
      unfold atL
      split
      · rename_i hv
        have := needle_ok hv
        rw [if_pos rfl, List.getElem?_eq_none (by omega)]; rfl
      · rfl
    rw [e2, rowC_nil]
end Go.Iso.Gen
end

section
namespace Go.Iso.Gen
open Go.Iso
set_option maxHeartbeats 4000000
set_option maxRecDepth 10000

theorem chain_right {fs bs : List (List Id)} (r : Int) (cr : Nat → List Cr) (B F : Nat → List Hd) (hB : ∀ u, ∀ x ∈ B u, x.bed = 1) (hF : ∀ u, ∀ x ∈ F u, x.bed = 0) (hcr : ∀ u, cr u = (B u).flatMap fun b => (F u).reverse.map fun f => crE 1 b.id f.id) :
    ∀ m S, Chain (((List.range m).flatMap cr).reverse) ((List.range m).flatMap (fun u => B u ++ F u) ++ S) ((List.range m).flatMap (fun u => F u ++ B u) ++ S) := by
  intro m
  induction m with
  | zero => intro S; simp [Chain]
  | succ m ih =>
    intro S
    rw [flatMap_range, flatMap_range, flatMap_range, List.reverse_append]
    have h1 := right_all (F m) (hF m) (B m).reverse (fun b hb => hB m b (List.mem_reverse.1 hb)) ((List.range m).flatMap fun u => B u ++ F u) S
    rw [List.reverse_reverse] at h1
    have e1 : (cr m).reverse = (B m).reverse.flatMap fun b => (F m).map fun f => crE 1 b.id f.id := by
      rw [hcr]
      generalize F m = G
      induction B m with
      | nil => rfl
      | cons b l ih => rw [List.flatMap_cons, List.reverse_append, ih, List.reverse_cons, List.flatMap_append]; simp
    rw [e1]
    refine Chain.append h1 ?_
    have := ih (F m ++ B m ++ S)
    simpa using this
theorem chain_left (cr : Nat → List Cr) (B F : Nat → List Hd) (hB : ∀ u, ∀ x ∈ B u, x.bed = 1) (hF : ∀ u, ∀ x ∈ F u, x.bed = 0) (hcr : ∀ u, cr u = (B u).flatMap fun b => (F u).reverse.map fun f => crE 0 b.id f.id) :
    ∀ m S, Chain ((List.range m).flatMap cr) ((List.range m).flatMap (fun u => F u ++ B u) ++ S) ((List.range m).flatMap (fun u => B u ++ F u) ++ S) := by
  intro m
  induction m with
  | zero => intro S; simp [Chain]
  | succ m ih =>
    intro S
    rw [flatMap_range, flatMap_range, flatMap_range]
    have h1 := left_all (F m) (hF m) (B m) (hB m) ((List.range m).flatMap fun u => B u ++ F u) S
    rw [hcr m]
    have := ih (F m ++ B m ++ S)
    refine Chain.append (m := (List.range m).flatMap (fun u => B u ++ F u) ++ (F m ++ B m ++ S)) ?_ ?_
    · simpa using this
    · simpa using h1
theorem rowC_rows (d : Int) (B F : List Hd) : rowC d (F.map (·.id)).reverse (B.map (·.id)) = B.flatMap fun b => F.reverse.map fun f => crE d b.id f.id := by
  unfold rowC
  rw [List.flatMap_map]
  congr 1
  funext b
  rw [← List.map_reverse, List.map_map]; rfl
theorem range_ids {f g : Nat → List Hd} (n : Nat) (h : ∀ u, u < n → (f u).map (·.id) = (g u).map (·.id)) : ((List.range n).flatMap f).map (·.id) = ((List.range n).flatMap g).map (·.id) := by
  induction n with
  | zero => rfl
  | succ n ih => rw [flatMap_range, flatMap_range, List.map_append, List.map_append, ih fun u hu => h u (by omega), h n (by omega)]

/-- THE STAGE'S THEOREM: the crossings lead from the order before to that behind. -/
theorem chain_step {fs bs : List (List Id)} (hc : checkE fs bs = 0) {r d : Int} (hr : rackB r = true) (hd : d = 0 ∨ d = 1) (hr2 : rackB (r + stepD d) = true) : ∃ l', Chain (stepL fs bs r d) (listedL fs bs r) l' ∧ l'.map (·.id) = (listedL fs bs (r + stepD d)).map (·.id) := by
  obtain ⟨c1, c2, c3, c4, _⟩ := check_len hc
  have hr' := rackB_iff.1 hr
  have hr2' := rackB_iff.1 hr2
  rw [ordL_eq hc hr, ordL_eq hc hr2]
  rcases hd with rfl | rfl
  · rw [show stepD 0 = -1 from rfl] at hr2' ⊢
    have e1 : stepL fs bs r 0 = stepB fs bs r 0 := by unfold stepL; rw [if_neg (by omega)]
    rw [e1, stepB_range c2 hr (.inl rfl) (fun _ => by omega)]
    have eo : ordL fs bs r = (List.range 47).flatMap (fun (u : Nat) => rowF fs bs ((u : Int) - 3) ++ rowB fs bs r (((u + 1 : Nat) : Int) - 3)) := by
      unfold ordL
      rw [zig (fun (u : Nat) => rowB fs bs r ((u : Int) - 3)) (fun (u : Nat) => rowF fs bs ((u : Int) - 3)) 47, rowB_nil fs bs (by omega), rowF_nil fs bs (by omega)]
      simp
    have ec : (List.range 48).flatMap (fun (u : Nat) => rowC 0 (atL fs bs 0 ((u : Int) - 3)).reverse (atL fs bs 1 ((u : Int) - 3 + (if (0 : Int) = 0 then 1 else 0) - r))) = (List.range 47).flatMap (fun (u : Nat) => rowC 0 (atL fs bs 0 ((u : Int) - 3)).reverse (atL fs bs 1 ((u : Int) - 3 + 1 - r))) := by
      simp only [if_true]
      rw [flatMap_range]
      have : atL fs bs 0 (((47 : Nat) : Int) - 3) = [] := atL_none fs bs (by unfold needleE; rw [if_neg (by omega)]; omega)
      rw [this]
      have e : ∀ l : List Id, rowC 0 ([] : List Id).reverse l = [] := fun l => by unfold rowC; simp
      rw [e, List.append_nil]
    rw [ec, eo]
    have h := chain_left (fun (u : Nat) => rowC 0 (atL fs bs 0 ((u : Int) - 3)).reverse (atL fs bs 1 ((u : Int) - 3 + 1 - r))) (fun (u : Nat) => rowB fs bs r (((u + 1 : Nat) : Int) - 3)) (fun (u : Nat) => rowF fs bs ((u : Int) - 3)) (fun u x hx => rowB_bed hx) (fun u x hx => rowF_bed hx) (fun u => by
      rw [← rowC_rows, rowF_ids, rowB_ids]
      congr 2
      omega) 47 []
    rw [List.append_nil, List.append_nil] at h
    refine ⟨_, h, ?_⟩
    have eo2 : ordL fs bs (r + -1) = (List.range 47).flatMap (fun (u : Nat) => rowB fs bs (r + -1) ((u : Int) - 3) ++ rowF fs bs ((u : Int) - 3)) := by
      unfold ordL
      rw [flatMap_range, rowB_nil fs bs (by omega), rowF_nil fs bs (by omega)]
      simp
    rw [eo2]
    refine range_ids 47 fun u hu => ?_
    rw [List.map_append, List.map_append, rowB_ids, rowB_ids, show ((u + 1 : Nat) : Int) - 3 - r = (u : Int) - 3 - (r + -1) from by omega]
  · rw [show stepD 1 = 1 from rfl] at hr2' ⊢
    have e1 : stepL fs bs r 1 = (stepB fs bs r 1).reverse := by unfold stepL; rw [if_pos rfl]
    rw [e1, stepB_range c2 hr (.inr rfl) (fun h => by omega)]
    have ec : (List.range 48).flatMap (fun (u : Nat) => rowC 1 (atL fs bs 0 ((u : Int) - 3)).reverse (atL fs bs 1 ((u : Int) - 3 + (if (1 : Int) = 0 then 1 else 0) - r))) = (List.range 48).flatMap (fun (u : Nat) => rowC 1 (atL fs bs 0 ((u : Int) - 3)).reverse (atL fs bs 1 ((u : Int) - 3 - r))) := by
      congr 1
      funext u
      simp only [Int.reduceEq, if_false]
      rw [show (u : Int) - 3 + 0 - r = (u : Int) - 3 - r from by omega]
    rw [ec]
    have h := chain_right (fs := fs) (bs := bs) r (fun (u : Nat) => rowC 1 (atL fs bs 0 ((u : Int) - 3)).reverse (atL fs bs 1 ((u : Int) - 3 - r))) (fun (u : Nat) => rowB fs bs r ((u : Int) - 3)) (fun (u : Nat) => rowF fs bs ((u : Int) - 3)) (fun u x hx => rowB_bed hx) (fun u x hx => rowF_bed hx) (fun u => by
      rw [← rowC_rows, rowF_ids, rowB_ids]) 48 []
    rw [List.append_nil, List.append_nil] at h
    refine ⟨_, h, ?_⟩
    have eo2 : ordL fs bs (r + 1) = (List.range 47).flatMap (fun (u : Nat) => rowF fs bs ((u : Int) - 3) ++ rowB fs bs (r + 1) (((u + 1 : Nat) : Int) - 3)) := by
      unfold ordL
      rw [zig (fun (u : Nat) => rowB fs bs (r + 1) ((u : Int) - 3)) (fun (u : Nat) => rowF fs bs ((u : Int) - 3)) 47, rowB_nil fs bs (by omega), rowF_nil fs bs (by omega)]
      simp
    rw [eo2, flatMap_range, rowB_nil fs bs (by omega), rowF_nil fs bs (by omega), List.append_nil, List.append_nil]
    refine range_ids 47 fun u hu => ?_
    rw [List.map_append, List.map_append, rowB_ids, rowB_ids, show ((u + 1 : Nat) : Int) - 3 - (r + 1) = (u : Int) - 3 - r from by omega]
end Go.Iso.Gen
end

section
namespace Go.Iso.Gen
open Go.Iso
set_option maxHeartbeats 4000000
set_option maxRecDepth 10000

theorem swap_mid (P : List Hd) (x y : Hd) (S : List Hd) : swapL (P ++ x :: y :: S) P.length (P.length + 1) = P ++ y :: x :: S := by
  have h1 : nth (P ++ x :: y :: S) (P.length + 1) = y := by unfold nth; simp
  have h2 : nth (P ++ x :: y :: S) P.length = x := by unfold nth; simp
  unfold swapL
  rw [h1, h2]
  simp
theorem mid_a {P S : List Hd} {x y : Hd} {l : List Hd} (h : l = P ++ x :: y :: S) : ∃ (h1 : P.length < l.length) (h2 : P.length + 1 < l.length), l[P.length] = x ∧ l[P.length + 1] = y := by
  subst h
  exact ⟨by simp, by simp, by simp, by simp⟩

theorem expl201 (tm : List IV) (h : tm.length = 201) : tm = [tm.getD 0 IV.undef, tm.getD 1 IV.undef, tm.getD 2 IV.undef, tm.getD 3 IV.undef, tm.getD 4 IV.undef, tm.getD 5 IV.undef, tm.getD 6 IV.undef, tm.getD 7 IV.undef, tm.getD 8 IV.undef, tm.getD 9 IV.undef, tm.getD 10 IV.undef, tm.getD 11 IV.undef, tm.getD 12 IV.undef, tm.getD 13 IV.undef, tm.getD 14 IV.undef, tm.getD 15 IV.undef, tm.getD 16 IV.undef, tm.getD 17 IV.undef, tm.getD 18 IV.undef, tm.getD 19 IV.undef, tm.getD 20 IV.undef, tm.getD 21 IV.undef, tm.getD 22 IV.undef, tm.getD 23 IV.undef, tm.getD 24 IV.undef, tm.getD 25 IV.undef, tm.getD 26 IV.undef, tm.getD 27 IV.undef, tm.getD 28 IV.undef, tm.getD 29 IV.undef, tm.getD 30 IV.undef, tm.getD 31 IV.undef, tm.getD 32 IV.undef, tm.getD 33 IV.undef, tm.getD 34 IV.undef, tm.getD 35 IV.undef, tm.getD 36 IV.undef, tm.getD 37 IV.undef, tm.getD 38 IV.undef, tm.getD 39 IV.undef, tm.getD 40 IV.undef, tm.getD 41 IV.undef, tm.getD 42 IV.undef, tm.getD 43 IV.undef, tm.getD 44 IV.undef, tm.getD 45 IV.undef, tm.getD 46 IV.undef, tm.getD 47 IV.undef, tm.getD 48 IV.undef, tm.getD 49 IV.undef, tm.getD 50 IV.undef, tm.getD 51 IV.undef, tm.getD 52 IV.undef, tm.getD 53 IV.undef, tm.getD 54 IV.undef, tm.getD 55 IV.undef, tm.getD 56 IV.undef, tm.getD 57 IV.undef, tm.getD 58 IV.undef, tm.getD 59 IV.undef, tm.getD 60 IV.undef, tm.getD 61 IV.undef, tm.getD 62 IV.undef, tm.getD 63 IV.undef, tm.getD 64 IV.undef, tm.getD 65 IV.undef, tm.getD 66 IV.undef, tm.getD 67 IV.undef, tm.getD 68 IV.undef, tm.getD 69 IV.undef, tm.getD 70 IV.undef, tm.getD 71 IV.undef, tm.getD 72 IV.undef, tm.getD 73 IV.undef, tm.getD 74 IV.undef, tm.getD 75 IV.undef, tm.getD 76 IV.undef, tm.getD 77 IV.undef, tm.getD 78 IV.undef, tm.getD 79 IV.undef, tm.getD 80 IV.undef, tm.getD 81 IV.undef, tm.getD 82 IV.undef, tm.getD 83 IV.undef, tm.getD 84 IV.undef, tm.getD 85 IV.undef, tm.getD 86 IV.undef, tm.getD 87 IV.undef, tm.getD 88 IV.undef, tm.getD 89 IV.undef, tm.getD 90 IV.undef, tm.getD 91 IV.undef, tm.getD 92 IV.undef, tm.getD 93 IV.undef, tm.getD 94 IV.undef, tm.getD 95 IV.undef, tm.getD 96 IV.undef, tm.getD 97 IV.undef, tm.getD 98 IV.undef, tm.getD 99 IV.undef, tm.getD 100 IV.undef, tm.getD 101 IV.undef, tm.getD 102 IV.undef, tm.getD 103 IV.undef, tm.getD 104 IV.undef, tm.getD 105 IV.undef, tm.getD 106 IV.undef, tm.getD 107 IV.undef, tm.getD 108 IV.undef, tm.getD 109 IV.undef, tm.getD 110 IV.undef, tm.getD 111 IV.undef, tm.getD 112 IV.undef, tm.getD 113 IV.undef, tm.getD 114 IV.undef, tm.getD 115 IV.undef, tm.getD 116 IV.undef, tm.getD 117 IV.undef, tm.getD 118 IV.undef, tm.getD 119 IV.undef, tm.getD 120 IV.undef, tm.getD 121 IV.undef, tm.getD 122 IV.undef, tm.getD 123 IV.undef, tm.getD 124 IV.undef, tm.getD 125 IV.undef, tm.getD 126 IV.undef, tm.getD 127 IV.undef, tm.getD 128 IV.undef, tm.getD 129 IV.undef, tm.getD 130 IV.undef, tm.getD 131 IV.undef, tm.getD 132 IV.undef, tm.getD 133 IV.undef, tm.getD 134 IV.undef, tm.getD 135 IV.undef, tm.getD 136 IV.undef, tm.getD 137 IV.undef, tm.getD 138 IV.undef, tm.getD 139 IV.undef, tm.getD 140 IV.undef, tm.getD 141 IV.undef, tm.getD 142 IV.undef, tm.getD 143 IV.undef, tm.getD 144 IV.undef, tm.getD 145 IV.undef, tm.getD 146 IV.undef, tm.getD 147 IV.undef, tm.getD 148 IV.undef, tm.getD 149 IV.undef, tm.getD 150 IV.undef, tm.getD 151 IV.undef, tm.getD 152 IV.undef, tm.getD 153 IV.undef, tm.getD 154 IV.undef, tm.getD 155 IV.undef, tm.getD 156 IV.undef, tm.getD 157 IV.undef, tm.getD 158 IV.undef, tm.getD 159 IV.undef, tm.getD 160 IV.undef, tm.getD 161 IV.undef, tm.getD 162 IV.undef, tm.getD 163 IV.undef, tm.getD 164 IV.undef, tm.getD 165 IV.undef, tm.getD 166 IV.undef, tm.getD 167 IV.undef, tm.getD 168 IV.undef, tm.getD 169 IV.undef, tm.getD 170 IV.undef, tm.getD 171 IV.undef, tm.getD 172 IV.undef, tm.getD 173 IV.undef, tm.getD 174 IV.undef, tm.getD 175 IV.undef, tm.getD 176 IV.undef, tm.getD 177 IV.undef, tm.getD 178 IV.undef, tm.getD 179 IV.undef, tm.getD 180 IV.undef, tm.getD 181 IV.undef, tm.getD 182 IV.undef, tm.getD 183 IV.undef, tm.getD 184 IV.undef, tm.getD 185 IV.undef, tm.getD 186 IV.undef, tm.getD 187 IV.undef, tm.getD 188 IV.undef, tm.getD 189 IV.undef, tm.getD 190 IV.undef, tm.getD 191 IV.undef, tm.getD 192 IV.undef, tm.getD 193 IV.undef, tm.getD 194 IV.undef, tm.getD 195 IV.undef, tm.getD 196 IV.undef, tm.getD 197 IV.undef, tm.getD 198 IV.undef, tm.getD 199 IV.undef, tm.getD 200 IV.undef] := (expl tm 201 h).trans rfl
theorem find_at {d : Int} {v8 v12 v14 : SV} {l : List Cr} {cur P S : List Hd} {x y : Hd} {i : Nat} {H : Heap} {lo : Nat} {Q : Out → Heap → Prop} {tm : List IV} (h8 : Sl H v8 l) (h12 : Sl H v12 cur) (hcl : cur.length ≤ 1000) (hi : i < l.length) (hcur : cur = P ++ x :: y :: S) (hnd : (cur.map (·.id)).Nodup) (ha : x.id = l[i].a) (hb : y.id = l[i].b)
    (htm : tm.length = 201) (t2 : tm.getD 2 IV.undef = .int .u8 d) (t6 : tm.getD 6 IV.undef = .bool false) (t8 : tm.getD 8 IV.undef = v8.iv) (t12 : tm.getD 12 IV.undef = v12.iv) (t14 : tm.getD 14 IV.undef = v14.iv) (t16 : tm.getD 16 IV.undef = .int .i64 i) (t17 : tm.getD 17 IV.undef = .int .i64 (-1)) (t18 : tm.getD 18 IV.undef = .int .i64 0)
    (hQ : ∀ tm', tm'.length = 201 → tm'.getD 2 IV.undef = .int .u8 d → tm'.getD 6 IV.undef = .bool false → tm'.getD 8 IV.undef = v8.iv → tm'.getD 12 IV.undef = v12.iv → tm'.getD 14 IV.undef = v14.iv → tm'.getD 16 IV.undef = .int .i64 i → tm'.getD 17 IV.undef = .int .i64 P.length → Q (.ex (.jmp (.exit 3)) ⟨tm', []⟩) H) :
    W E0 lo (.code (.loop F4l27) none ⟨tm, []⟩) H Q := by
  obtain ⟨p1, p2, p3, p4⟩ := mid_a hcur
  refine W_inv (fun k fr H' => ∃ j, j + k = cur.length - 1 ∧ H' = H ∧ fr.marks = [] ∧ fr.tm.length = 201 ∧ fr.tm.getD 2 IV.undef = .int .u8 d ∧ fr.tm.getD 6 IV.undef = .bool false ∧ fr.tm.getD 8 IV.undef = v8.iv ∧ fr.tm.getD 12 IV.undef = v12.iv ∧ fr.tm.getD 14 IV.undef = v14.iv ∧ fr.tm.getD 16 IV.undef = .int .i64 i ∧ fr.tm.getD 17 IV.undef = .int .i64 (if P.length < j then (P.length : Int) else -1) ∧ fr.tm.getD 18 IV.undef = .int .i64 j) ?_ (cur.length - 1) ⟨0, by omega, rfl, rfl, htm, t2, t6, t8, t12, t14, t16, by rw [t17, if_neg (by omega)], t18⟩
  clear htm t2 t6 t8 t12 t14 t16 t17 t18
  rintro k ⟨tm, mk⟩ H' ⟨j, hjk, he, rfl, htm, t2, t6, t8, t12, t14, t16, t17, t18⟩ L hN hJ
  subst he
  rw [expl201 tm htm, t2, t6, t8, t12, t14, t16, t17, t18]
  by_cases hj : j + 1 < cur.length
  · have r1 := h12.read z_Hd j (by omega)
    have r2 := h12.read z_Hd (j + 1) hj
    have r3 := h8.read z_Cr i hi
    have q1 := read_sub (a := 0) (m := 2) r1 (by omega)
    have q2 := read_sub (a := 0) (m := 2) r2 (by omega)
    have qa := read_sub (a := 0) (m := 2) r3 (by omega)
    have qb := read_sub (a := 2) (m := 2) r3 (by omega)
    simp only [cs_Hd, cs_Cr, List.drop_zero, List.drop_succ_cons, List.take_succ_cons, List.take_zero, Nat.add_zero, Nat.add_assoc] at q1 q2 qa qb
    have e1 : ((j : Int) + 1).toNat = j + 1 := by omega
    have ea := id_beq cur[j].id l[i].a
    have eb := id_beq cur[j + 1].id l[i].b
    by_cases hjp : j = P.length
    · subst hjp
      rw [p3, ha] at ea q1
      rw [p4, hb] at eb q2
      rw [decide_eq_true rfl] at ea eb
      simp (disch := omega) only [BAS, ↓BPR, reduceIte, reduceCtorEq, seval, -List.reduceReplicate, fpOf, freeNext, opW, binI, ev1, Heap.write, setAll, unI, eqKs, eqK, fillI, B4, F4l27, F4l37, F4l45, ↓h12.ln, ↓h12.idx, ↓h8.idx, e1, q1, q2, qa, qb, ea, eb]
      refine hN (k - 1) _ _ (by omega) ⟨P.length + 1, by omega, rfl, rfl, rfl, rfl, rfl, rfl, rfl, rfl, rfl, ?_, rfl⟩
      rw [if_pos (by omega)]; rfl
    · have hne : cur[j].id ≠ l[i].a := by
        rw [← ha, ← p3]
        intro e
        have h1 : (cur.map (·.id))[j]'(by simp; omega) = (cur.map (·.id))[P.length]'(by simp; omega) := by simpa using e
        exact hjp ((List.getElem_inj hnd).1 h1)
      rw [decide_eq_false hne] at ea
      simp (disch := omega) only [BAS, ↓BPR, reduceIte, reduceCtorEq, seval, -List.reduceReplicate, fpOf, freeNext, opW, binI, ev1, Heap.write, setAll, unI, eqKs, eqK, fillI, B4, F4l27, F4l37, F4l45, ↓h12.ln, ↓h12.idx, ↓h8.idx, e1, q1, q2, qa, qb, ea]
      refine hN (k - 1) _ _ (by omega) ⟨j + 1, by omega, rfl, rfl, rfl, rfl, rfl, rfl, rfl, rfl, rfl, ?_, rfl⟩
      show IV.int .i64 _ = _
      congr 1
      by_cases hlt : P.length < j
      · rw [if_pos hlt, if_pos (by omega)]
      · rw [if_neg hlt, if_neg (by omega)]
  · have hlt : P.length < j := by omega
    rw [if_pos hlt]
    simp (disch := omega) only [BAS, ↓BPR, reduceIte, reduceCtorEq, seval, -List.reduceReplicate, fpOf, freeNext, opW, binI, ev1, Heap.write, setAll, unI, eqKs, eqK, fillI, B4, F4l27, F4l37, F4l45, ↓h12.ln, hJ]
    exact hQ _ rfl rfl rfl rfl rfl rfl rfl rfl
end Go.Iso.Gen
end

section
namespace Go.Iso.Gen
open Go.Iso
set_option maxHeartbeats 4000000
set_option maxRecDepth 10000

theorem stepL_sd {fs bs : List (List Id)} {r d : Int} {c : Cr} (h : c ∈ stepL fs bs r d) : c.s = if d = 0 then 1 else -1 := by
  have key : ∀ c ∈ stepB fs bs r d, c.s = if d = 0 then 1 else -1 := by
    intro c hc
    unfold stepB at hc
    obtain ⟨l, hl, hc⟩ := List.mem_flatten.1 hc
    obtain ⟨i, hi, rfl⟩ := List.mem_iff_getElem.1 hl
    simp only [List.getElem_mapIdx] at hc
    unfold rowC at hc
    obtain ⟨id, _, hc⟩ := List.mem_flatMap.1 hc
    obtain ⟨o, _, rfl⟩ := List.mem_map.1 hc
    unfold crE
    split <;> rfl
  unfold stepL at h
  split at h
  · exact key c (List.mem_reverse.1 h)
  · exact key c h
theorem Adj.perm {c : Cr} {l m : List Hd} (h : Adj c l m) : m.Perm l := by
  obtain ⟨P, x, y, S, rfl, rfl, _⟩ := h
  exact List.Perm.append_left _ (List.Perm.swap _ _ _)

theorem step_sim {n0 wb : Nat} {d : Int} (hd : d = 0 ∨ d = 1) {v8 v12 v14 : SV} {l : List Cr} {cur0 fin : List Hd} {H : Heap} {lo : Nat} {Q : Out → Heap → Prop} {tm : List IV} (hlo : lo ≤ n0) (hwb : v12 = .nil ∨ v12.blk = wb) (h8 : ∀ H', KeepX wb H H' → Sl H' v8 l) (h12 : OwnS n0 H 40 v12 cur0) (hcl : cur0.length ≤ 1000) (hll : l.length ≤ 1000) (hch : Chain l cur0 fin) (hnd : (cur0.map (·.id)).Nodup) (hs : ∀ c ∈ l, c.s = if d = 0 then 1 else -1)
    (i : Nat) (hi0 : i = 0) (htm : tm.length = 201) (t2 : tm.getD 2 IV.undef = .int .u8 d) (t6 : tm.getD 6 IV.undef = .bool false) (t8 : tm.getD 8 IV.undef = v8.iv) (t12 : tm.getD 12 IV.undef = v12.iv) (t14 : tm.getD 14 IV.undef = v14.iv) (t16 : tm.getD 16 IV.undef = .int .i64 i)
    (hQ : ∀ H' tm', KeepX wb H H' → OwnS n0 H' 40 v12 fin → tm'.length = 201 → tm'.getD 6 IV.undef = .bool false → tm'.getD 12 IV.undef = v12.iv → tm'.getD 14 IV.undef = v14.iv → Q (.ex (.jmp (.exit 1)) ⟨tm', []⟩) H') :
    W E0 lo (.code (.loop F4l37) none ⟨tm, []⟩) H Q := by
  subst hi0
  refine W_inv (fun k fr H' => ∃ (i : Nat) (cur : List Hd), i + k = l.length ∧ KeepX wb H H' ∧ OwnS n0 H' 40 v12 cur ∧ cur.Perm cur0 ∧ Chain (l.drop i) cur fin ∧ fr.marks = [] ∧ fr.tm.length = 201 ∧ fr.tm.getD 2 IV.undef = .int .u8 d ∧ fr.tm.getD 6 IV.undef = .bool false ∧ fr.tm.getD 8 IV.undef = v8.iv ∧ fr.tm.getD 12 IV.undef = v12.iv ∧ fr.tm.getD 14 IV.undef = v14.iv ∧ fr.tm.getD 16 IV.undef = .int .i64 i) ?_ l.length ⟨0, cur0, by omega, KeepX.refl _ _, h12, .refl _, hch, rfl, htm, t2, t6, t8, t12, t14, t16⟩
  clear htm t2 t6 t8 t12 t14 t16 hch h12
  rintro k ⟨tm, mk⟩ H' ⟨i, cur, hik, hk, h12, hperm, hch, rfl, htm, t2, t6, t8, t12, t14, t16⟩ L hN hJ
  have h8' := h8 H' hk
  rw [expl201 tm htm, t2, t6, t8, t12, t14, t16]
  by_cases hi : i < l.length
  · rw [List.drop_eq_getElem_cons hi] at hch
    obtain ⟨nxt, hadj, hch'⟩ := hch
    have hpn := hadj.perm
    obtain ⟨P, x, y, S, hcur, hnxt, ha, hb, hbed, hsg⟩ := hadj
    obtain ⟨p1, p2, p3, p4⟩ := mid_a hcur
    have hcl' : cur.length ≤ 1000 := by rw [hperm.length_eq]; exact hcl
    have hnd' : (cur.map (·.id)).Nodup := (hperm.map _).nodup_iff.2 hnd
    have hsi := hs _ (List.getElem_mem hi)
    obtain ⟨blk, cap, ex, hv12, hblk, hO⟩ : ∃ b cap ex, v12 = .sl b 0 cur.length cap ex ∧ n0 ≤ b ∧ Own H' b 40 cap cur := by
      rcases h12 with ⟨_, h⟩ | h
      · rw [h] at p1; simp at p1
      · exact h
    have h12s := hO.sl ex
    rw [← hv12] at h12s
    simp (disch := omega) only [BAS, ↓BPR, reduceIte, reduceCtorEq, seval, -List.reduceReplicate, fpOf, freeNext, opW, binI, ev1, Heap.write, setAll, unI, eqKs, eqK, fillI, wF4o0, F4p0, wF4o1, F4p1, wF4o2, F4p2, wF4o3, F4p3, wF4o4, F4p4, wF4o5, F4p5, wF4o6, F4p6, wF4o7, F4p7, wF4o8, F4p8, wF4o9, F4p9, wF4o10, F4p10, wF4o11, F4p11, wF4o12, F4p12, wF4o13, F4p13, wF4o14, F4p14, wF4o15, F4p15, wF4o16, F4p16, wF4o17, F4p17, wF4o18, F4p18, wF4o19, F4p19, wF4o20, F4p20, wF4o21, F4p21, wF4o22, F4p22, wF4o23, F4p23, wF4o24, F4p24, wF4o25, F4p25, wF4o26, F4p26, wF4o28, F4p28, wF4o29, F4p29, wF4o30, F4p30, wF4o31, F4p31, wF4o32, F4p32, wF4o33, F4p33, wF4o34, F4p34, wF4o35, F4p35, wF4o36, F4p36, F4l37, wF4o38, F4p38, wF4o39, F4p39, wF4o40, F4p40, wF4o41, F4p41, wF4o42, F4p42, wF4o43, F4p43, wF4o44, F4p44, wF4o46, F4p46, F4b, F4, ↓h8'.ln]
    refine find_at h8' h12s hcl' hi hcur hnd' ha hb rfl rfl rfl rfl rfl rfl rfl rfl rfl fun tm5 htm5 u2 u6 u8 u12 u14 u16 u17 => ?_
    rw [expl201 tm5 htm5, u2, u6, u8, u12, u14, u16, u17]
    have r1 := h12s.read z_Hd P.length p1
    have r2 := h12s.read z_Hd (P.length + 1) p2
    have r3 := h8'.read z_Cr i hi
    rw [p3] at r1
    rw [p4] at r2
    have q1 := read_sub (a := 2) (m := 1) r1 (by omega)
    have q2 := read_sub (a := 2) (m := 1) r2 (by omega)
    have qs := read_sub (a := 4) (m := 1) r3 (by omega)
    have e1 : ((P.length : Int) + 1).toNat = P.length + 1 := by omega
    simp only [cs_Hd, cs_Cr, List.drop_zero, List.drop_succ_cons, List.take_succ_cons, List.take_zero, Nat.add_zero, Nat.add_assoc] at q1 q2 qs
    obtain ⟨o1, o2, w1, w2, s2⟩ := own_swap hO z_Hd (i := P.length) (j := P.length + 1) p1 p2 lo (by omega)
    have n1 : nth cur P.length = x := by rw [nth_in p1, p3]
    have n2 : nth cur (P.length + 1) = y := by rw [nth_in p2, p4]
    have sw : swapL cur P.length (P.length + 1) = nxt := by rw [hcur, hnxt]; exact swap_mid P x y S
    rw [sw] at s2
    rw [n2] at w1
    rw [n1] at w2
    have hidx := idxV hO ex 5
    have R1 := hO.nthRead z_Hd (i := P.length) p1
    have R2 := hO.nthRead z_Hd (i := P.length + 1) p2
    rw [n1] at R1
    rw [n2] at R2
    have hln := h12s.ln
    have hbe : (x.bed == y.bed) = false := by simp [hbed]
    have hnl : cur.length = nxt.length := hpn.length_eq.symm
    have hvb : wb = blk := by
      rcases hwb with h | h
      · rw [h] at hv12; cases hv12
      · rw [← h, hv12]; rfl
    have fin' : ∀ tm6 : List IV, tm6.length = 201 → tm6.getD 2 IV.undef = .int .u8 d → tm6.getD 6 IV.undef = .bool false → tm6.getD 8 IV.undef = v8.iv → tm6.getD 12 IV.undef = v12.iv → tm6.getD 14 IV.undef = v14.iv → tm6.getD 16 IV.undef = .int .i64 ((i + 1 : Nat) : Int) → L (.ex .normal ⟨tm6, []⟩) ((H'.put blk o1).put blk o2) := by
      intro tm6 htm6 z2 z6 z8 z12 z14 z16
      refine hN (k - 1) _ _ (by omega) ⟨i + 1, nxt, by omega, by rw [hvb] at hk ⊢; exact (hk.trans (KeepX.put _)).trans (KeepX.put _), .inr ⟨blk, cap, ex, by rw [hv12, hnl], hblk, s2⟩, hpn.trans hperm, hch', rfl, htm6, z2, z6, z8, z12, z14, z16⟩
    rw [hv12] at q1 q2 h12s
    simp only [SV.blk_sl, SV.off_sl, Nat.zero_add] at q1 q2
    rw [hv12]
    have h12i := h12s.idx
    rcases hd with rfl | rfl
    · rw [if_pos rfl] at hsi
      rw [hsi] at hsg qs
      have hx0 : x.bed = 0 := Classical.byContradiction fun h => by rw [if_neg h] at hsg; omega
      rw [hx0] at q1 hbe
      simp (disch := omega) only [BAS, ↓BPR, reduceIte, reduceCtorEq, seval, -List.reduceReplicate, fpOf, freeNext, opW, binI, ev1, Heap.write, setAll, unI, eqKs, eqK, fillI, wF4o0, F4p0, wF4o1, F4p1, wF4o2, F4p2, wF4o3, F4p3, wF4o4, F4p4, wF4o5, F4p5, wF4o6, F4p6, wF4o7, F4p7, wF4o8, F4p8, wF4o9, F4p9, wF4o10, F4p10, wF4o11, F4p11, wF4o12, F4p12, wF4o13, F4p13, wF4o14, F4p14, wF4o15, F4p15, wF4o16, F4p16, wF4o17, F4p17, wF4o18, F4p18, wF4o19, F4p19, wF4o20, F4p20, wF4o21, F4p21, wF4o22, F4p22, wF4o23, F4p23, wF4o24, F4p24, wF4o25, F4p25, wF4o26, F4p26, wF4o28, F4p28, wF4o29, F4p29, wF4o30, F4p30, wF4o31, F4p31, wF4o32, F4p32, wF4o33, F4p33, wF4o34, F4p34, wF4o35, F4p35, wF4o36, F4p36, F4l37, wF4o38, F4p38, wF4o39, F4p39, wF4o40, F4p40, wF4o41, F4p41, wF4o42, F4p42, wF4o43, F4p43, wF4o44, F4p44, wF4o46, F4p46, F4b, F4, ↓hidx, ↓h8'.idx, e1, q1, q2, qs, hbe, R1, R2, ↓w1, ↓w2]
      exact fin' _ rfl rfl rfl rfl (by rw [hv12]; rfl) rfl rfl
    · rw [if_neg (by omega)] at hsi
      rw [hsi] at hsg qs
      have hx0 : (x.bed == 0) = false := by
        by_cases h : x.bed = 0
        · rw [if_pos h] at hsg; omega
        · simp [h]
      simp (disch := omega) only [BAS, ↓BPR, reduceIte, reduceCtorEq, seval, -List.reduceReplicate, fpOf, freeNext, opW, binI, ev1, Heap.write, setAll, unI, eqKs, eqK, fillI, wF4o0, F4p0, wF4o1, F4p1, wF4o2, F4p2, wF4o3, F4p3, wF4o4, F4p4, wF4o5, F4p5, wF4o6, F4p6, wF4o7, F4p7, wF4o8, F4p8, wF4o9, F4p9, wF4o10, F4p10, wF4o11, F4p11, wF4o12, F4p12, wF4o13, F4p13, wF4o14, F4p14, wF4o15, F4p15, wF4o16, F4p16, wF4o17, F4p17, wF4o18, F4p18, wF4o19, F4p19, wF4o20, F4p20, wF4o21, F4p21, wF4o22, F4p22, wF4o23, F4p23, wF4o24, F4p24, wF4o25, F4p25, wF4o26, F4p26, wF4o28, F4p28, wF4o29, F4p29, wF4o30, F4p30, wF4o31, F4p31, wF4o32, F4p32, wF4o33, F4p33, wF4o34, F4p34, wF4o35, F4p35, wF4o36, F4p36, F4l37, wF4o38, F4p38, wF4o39, F4p39, wF4o40, F4p40, wF4o41, F4p41, wF4o42, F4p42, wF4o43, F4p43, wF4o44, F4p44, wF4o46, F4p46, F4b, F4, ↓hidx, ↓h8'.idx, e1, q1, q2, qs, hbe, hx0, R1, R2, ↓w1, ↓w2]
      exact fin' _ rfl rfl rfl rfl (by rw [hv12]; rfl) rfl rfl
  · rw [List.drop_eq_nil_of_le (by omega)] at hch
    have hch : cur = fin := hch
    subst hch
    simp (disch := omega) only [BAS, ↓BPR, reduceIte, reduceCtorEq, seval, -List.reduceReplicate, fpOf, freeNext, opW, binI, ev1, Heap.write, setAll, unI, eqKs, eqK, fillI, wF4o0, F4p0, wF4o1, F4p1, wF4o2, F4p2, wF4o3, F4p3, wF4o4, F4p4, wF4o5, F4p5, wF4o6, F4p6, wF4o7, F4p7, wF4o8, F4p8, wF4o9, F4p9, wF4o10, F4p10, wF4o11, F4p11, wF4o12, F4p12, wF4o13, F4p13, wF4o14, F4p14, wF4o15, F4p15, wF4o16, F4p16, wF4o17, F4p17, wF4o18, F4p18, wF4o19, F4p19, wF4o20, F4p20, wF4o21, F4p21, wF4o22, F4p22, wF4o23, F4p23, wF4o24, F4p24, wF4o25, F4p25, wF4o26, F4p26, wF4o28, F4p28, wF4o29, F4p29, wF4o30, F4p30, wF4o31, F4p31, wF4o32, F4p32, wF4o33, F4p33, wF4o34, F4p34, wF4o35, F4p35, wF4o36, F4p36, F4l37, wF4o38, F4p38, wF4o39, F4p39, wF4o40, F4p40, wF4o41, F4p41, wF4o42, F4p42, wF4o43, F4p43, wF4o44, F4p44, wF4o46, F4p46, F4b, F4, ↓h8'.ln, hJ]
    exact hQ H' _ hk h12 rfl rfl rfl rfl
end Go.Iso.Gen
end

section
namespace Go.Iso.Gen
open Go.Iso
set_option maxHeartbeats 4000000
set_option maxRecDepth 10000

theorem ordersStep_run {x : SV} {xs : List Pt} (r d : Int) (hd : 0 ≤ d ∧ d ≤ 255) {H : Heap} (ht : Tabs tabs H) (hx : Sl H x xs) (hxb : ∀ p ∈ xs, p.a ≤ 255 ∧ p.m ≤ 255) : W E0 H.n (.call 4 [x.iv, .int .i64 r, .int .u8 d]) H (fun o _ => o = .val (.bool true)) := by
  rw [c4]
  simp (disch := omega) only [BAS, ↓BPR, reduceIte, reduceCtorEq, seval, -List.reduceReplicate, fpOf, freeNext, opW, binI, ev1, Heap.write, setAll, unI, eqKs, eqK, fillI, wF4o0, F4p0, wF4o1, F4p1, F4p2, wF4o3, F4p3, wF4o4, F4p4, wF4o5, F4p5, wF4o6, F4p6, wF4o7, F4p7, wF4o8, F4p8, wF4o9, F4p9, wF4o10, F4p10, wF4o11, F4p11, wF4o12, F4p12, wF4o13, F4p13, wF4o14, F4p14, wF4o15, F4p15, wF4o16, F4p16, wF4o17, F4p17, wF4o18, F4p18, wF4o19, F4p19, wF4o20, F4p20, wF4o21, F4p21, wF4o22, F4p22, wF4o23, F4p23, wF4o24, F4p24, wF4o25, F4p25, wF4o26, F4p26, wF4o28, F4p28, wF4o29, F4p29, wF4o30, F4p30, wF4o31, F4p31, wF4o32, F4p32, wF4o33, F4p33, wF4o34, F4p34, wF4o35, F4p35, wF4o36, F4p36, wF4o38, F4p38, wF4o39, F4p39, wF4o40, F4p40, wF4o41, F4p41, wF4o42, F4p42, wF4o43, F4p43, wF4o44, F4p44, wF4o46, F4p46, F4b, F4]
  refine Of_sp hx hxb (Nat.le_refl _) fun H1 f b k1 s1 => ?_
  have hn1 := k1.1
  have hV := ofT_valid xs
  generalize (ofT xs).1 = t at s1 hV
  have hck := hV.check
  obtain ⟨c1, c2, c3, c4, c5, c6⟩ := check_len hck
  have hlf : ∀ l ∈ bedF t, l.length ≤ 1000000 := fun l hl => by have := c3 l hl; omega
  have hlb : ∀ l ∈ bedB t, l.length ≤ 1000000 := fun l hl => by have := c4 l hl; omega
  simp (disch := omega) only [BAS, ↓BPR, reduceIte, reduceCtorEq, seval, -List.reduceReplicate, fpOf, freeNext, opW, binI, ev1, Heap.write, setAll, unI, eqKs, eqK, fillI, wF4o0, F4p0, wF4o1, F4p1, wF4o2, F4p2, wF4o3, F4p3, F4p4, wF4o5, F4p5, wF4o6, F4p6, wF4o7, F4p7, wF4o8, F4p8, wF4o9, F4p9, wF4o10, F4p10, wF4o11, F4p11, wF4o12, F4p12, wF4o13, F4p13, wF4o14, F4p14, wF4o15, F4p15, wF4o16, F4p16, wF4o17, F4p17, wF4o18, F4p18, wF4o19, F4p19, wF4o20, F4p20, wF4o21, F4p21, wF4o22, F4p22, wF4o23, F4p23, wF4o24, F4p24, wF4o25, F4p25, wF4o26, F4p26, wF4o28, F4p28, wF4o29, F4p29, wF4o30, F4p30, wF4o31, F4p31, wF4o32, F4p32, wF4o33, F4p33, wF4o34, F4p34, wF4o35, F4p35, wF4o36, F4p36, wF4o38, F4p38, wF4o39, F4p39, wF4o40, F4p40, wF4o41, F4p41, wF4o42, F4p42, wF4o43, F4p43, wF4o44, F4p44, wF4o46, F4p46, F4b, F4, bv]
  generalize hH_H2 : Heap.put _ _ _ = H2
  have hnH2 : H2.n = H1.n + 1 := by rw [← hH_H2]; rfl
  have g0 := congrArg (fun h0 => Heap.get h0 (H1.n)) hH_H2.symm
  simp (disch := omega) only [BAS, ↓BPR, reduceIte, reduceCtorEq, seval, -List.reduceReplicate, fpOf, freeNext, opW, binI, ev1, Heap.write, setAll, unI, eqKs, eqK, fillI] at g0
  have kH2 : Keep H1.n H1 H2 := ⟨by omega, fun x hx _ => by
    have gx := congrArg (fun h0 => Heap.get h0 x) hH_H2.symm
    simp (disch := omega) only [BAS, ↓BPR, reduceIte, reduceCtorEq, seval, -List.reduceReplicate, fpOf, freeNext, opW, binI, ev1, Heap.write, setAll, unI, eqKs, eqK, fillI] at gx
    exact gx⟩
  clear hH_H2
  rw [show IV.agg [f.iv, b.iv] = bv f b from rfl]
  have s2 := s1.keep kH2
  have ht2 := (ht.keep' k1).keep' kH2
  have ec : ∀ r, rackB r = true → ocheckE (bedF t) (bedB t) r = 0 := fun r h => by unfold ocheckE; rw [if_neg (by simp [hck]), if_pos h]
  by_cases hr : rackB r = true
  case neg =>
    have es : stepE (bedF t) (bedB t) r d = 11 := by
      have : ocheckE (bedF t) (bedB t) r = 11 := by unfold ocheckE; rw [if_neg (by simp [hck]), if_neg hr]
      unfold stepE; rw [if_pos (by omega), this]
    refine ostep_sp r d ht2 s2.1.sl2 s2.2.1.sl2 (by omega) (by omega) hlf hlb (by omega) hd (fun H3 k3 _ => ?_) fun H3 v k3 h3 => absurd (es.symm.trans h3) (by omega)
    rw [es]
    have hr' : r < -4 ∨ r > 4 := by rw [rackB_iff] at hr; omega
    rcases hr' with hr' | hr'
    · simp (disch := omega) only [BAS, ↓BPR, reduceIte, reduceCtorEq, seval, -List.reduceReplicate, fpOf, freeNext, opW, binI, ev1, Heap.write, setAll, unI, eqKs, eqK, fillI, B4]
      refine c11 (ht2.keep' k3) ?_
      simp (disch := omega) only [BAS, ↓BPR, reduceIte, reduceCtorEq, seval, -List.reduceReplicate, fpOf, freeNext, opW, binI, ev1, Heap.write, setAll, unI, eqKs, eqK, fillI, B4]
    · simp (disch := omega) only [BAS, ↓BPR, reduceIte, reduceCtorEq, seval, -List.reduceReplicate, fpOf, freeNext, opW, binI, ev1, Heap.write, setAll, unI, eqKs, eqK, fillI, B4]
      refine c11 (ht2.keep' k3) ?_
      simp (disch := omega) only [BAS, ↓BPR, reduceIte, reduceCtorEq, seval, -List.reduceReplicate, fpOf, freeNext, opW, binI, ev1, Heap.write, setAll, unI, eqKs, eqK, fillI, B4]
  have hr' := rackB_iff.1 hr
  by_cases hd2 : d > 1
  · have es : stepE (bedF t) (bedB t) r d = 1 := by unfold stepE; rw [if_neg (by simp [ec r hr]), if_pos (by omega)]
    refine ostep_sp r d ht2 s2.1.sl2 s2.2.1.sl2 (by omega) (by omega) hlf hlb (by omega) hd (fun H3 k3 _ => ?_) fun H3 v k3 h3 => absurd (es.symm.trans h3) (by omega)
    rw [es]
    simp (disch := omega) only [BAS, ↓BPR, reduceIte, reduceCtorEq, seval, -List.reduceReplicate, fpOf, freeNext, opW, binI, ev1, Heap.write, setAll, unI, eqKs, eqK, fillI, B4]
    refine c11 (ht2.keep' k3) ?_
    simp (disch := omega) only [BAS, ↓BPR, reduceIte, reduceCtorEq, seval, -List.reduceReplicate, fpOf, freeNext, opW, binI, ev1, Heap.write, setAll, unI, eqKs, eqK, fillI, B4]
  have hd01 : d = 0 ∨ d = 1 := by omega
  by_cases hr2 : rackB (r + stepD d) = true
  case neg =>
    have es : stepE (bedF t) (bedB t) r d = 11 := by unfold stepE; rw [if_neg (by simp [ec r hr]), if_neg (by omega), if_neg hr2]
    refine ostep_sp r d ht2 s2.1.sl2 s2.2.1.sl2 (by omega) (by omega) hlf hlb (by omega) hd (fun H3 k3 _ => ?_) fun H3 v k3 h3 => absurd (es.symm.trans h3) (by omega)
    rw [es]
    rcases hd01 with rfl | rfl
    · have : r = -4 := by rw [show stepD 0 = -1 from rfl, rackB_iff] at hr2; omega
      subst this
      simp (disch := omega) only [BAS, ↓BPR, reduceIte, reduceCtorEq, seval, -List.reduceReplicate, fpOf, freeNext, opW, binI, ev1, Heap.write, setAll, unI, eqKs, eqK, fillI, B4]
      refine c11 (ht2.keep' k3) ?_
      simp (disch := omega) only [BAS, ↓BPR, reduceIte, reduceCtorEq, seval, -List.reduceReplicate, fpOf, freeNext, opW, binI, ev1, Heap.write, setAll, unI, eqKs, eqK, fillI, B4]
    · have : r = 4 := by rw [show stepD 1 = 1 from rfl, rackB_iff] at hr2; omega
      subst this
      simp (disch := omega) only [BAS, ↓BPR, reduceIte, reduceCtorEq, seval, -List.reduceReplicate, fpOf, freeNext, opW, binI, ev1, Heap.write, setAll, unI, eqKs, eqK, fillI, B4]
      refine c11 (ht2.keep' k3) ?_
      simp (disch := omega) only [BAS, ↓BPR, reduceIte, reduceCtorEq, seval, -List.reduceReplicate, fpOf, freeNext, opW, binI, ev1, Heap.write, setAll, unI, eqKs, eqK, fillI, B4]
  have es : stepE (bedF t) (bedB t) r d = 0 := by unfold stepE; rw [if_neg (by simp [ec r hr]), if_neg (by omega), if_pos hr2]
  refine ostep_sp r d ht2 s2.1.sl2 s2.2.1.sl2 (by omega) (by omega) hlf hlb (by omega) hd (fun H3 k3 h3 => absurd es h3) fun H3 v8 k3 _ hv3 => ?_
  have hn3 := k3.1
  replace g0 := (k3.2 _ (by omega) (by omega)).trans g0
  have r3 := read_get g0
  have s3 := s2.keep k3
  have ht3 := ht2.keep' k3
  obtain ⟨fin, hch, hids⟩ := chain_step hck hr hd01 hr2
  have hheld := heldL_length (bedF t) (bedB t)
  have hlens1 := lens_le4 c1 c3
  have hlens2 := lens_le4 c2 c4
  have hsl := stepL_len c2 c3 c4 r d
  have next : ∀ (tm9 : List IV), tm9.length = 201 → tm9.getD 1 IV.undef = .int .i64 r → tm9.getD 2 IV.undef = .int .u8 d → tm9.getD 6 IV.undef = .bool false → tm9.getD 7 IV.undef = .ptr H1.n 0 → tm9.getD 8 IV.undef = v8.iv → tm9.getD 11 IV.undef = .int .i64 (r + stepD d) → W E0 H.n (.code (.seq F4o17 (.seq F4o18 (.seq (.seq F4o19 (.block 1 (.loop F4l37))) (.seq (.seq F4o38 (.cond (.tmp 182) (.seq F4o39 .ret) .skip)) (.seq (.seq F4o40 (.block 5 (.loop F4l45))) (.seq F4o46 .ret)))))) none ⟨tm9, []⟩) H3 (retC H.n F4.results fun o _ => o = .val (.bool true)) := by
    intro tm9 htm9 u1 u2 u6 u7 u8 u11
    rw [expl201 tm9 htm9, u1, u2, u6, u7, u8, u11]
    simp (disch := omega) only [BAS, ↓BPR, reduceIte, reduceCtorEq, seval, -List.reduceReplicate, fpOf, freeNext, opW, binI, ev1, Heap.write, setAll, unI, eqKs, eqK, fillI, B4, r3]
    rw [show IV.agg [f.iv, b.iv] = bv f b from rfl]
    refine olist_sp r s3.1.sl2 s3.2.1.sl2 (by omega) (by omega) hlf hlb (by omega) (fun H5 k5 h5 => absurd (ec r hr) h5) fun H5 v12 l5 k5 _ hv5 hp5 hs5 => ?_
    have hl5 := order_eq hck hr hp5 hs5
    subst hl5
    have hn5 := k5.1
    replace g0 := (k5.2 _ (by omega) (by omega)).trans g0
    have r5 := read_get g0
    have s5 := s3.keep k5
    simp (disch := omega) only [BAS, ↓BPR, reduceIte, reduceCtorEq, seval, -List.reduceReplicate, fpOf, freeNext, opW, binI, ev1, Heap.write, setAll, unI, eqKs, eqK, fillI, B4, r5]
    rw [show IV.agg [f.iv, b.iv] = bv f b from rfl]
    refine olist_sp (r + stepD d) s5.1.sl2 s5.2.1.sl2 (by omega) (by omega) hlf hlb (by omega) (fun H6 k6 h6 => absurd (ec _ hr2) h6) fun H6 v14 l6 k6 _ hv6 hp6 hs6 => ?_
    have hl6 := order_eq hck hr2 hp6 hs6
    subst hl6
    have hn6 := k6.1
    have own12 := hv5.own.keep k6
    obtain ⟨wb, hwb, hwl, hwu⟩ : ∃ wb, (v12 = .nil ∨ v12.blk = wb) ∧ H3.n ≤ wb ∧ (wb < H5.n ∨ H6.n ≤ wb) := by
      rcases hv5 with ⟨h, _⟩ | ⟨b', rfl, h1, h2⟩
      · exact ⟨H6.n, .inl h, by omega, .inr (Nat.le_refl _)⟩
      · exact ⟨b', .inr rfl, h1, .inl h2.2.1⟩
    have h8 : ∀ H', KeepX wb H6 H' → Sl H' v8 (stepL (bedF t) (bedB t) r d) := fun H' k => by
      have h0 := (hv3.sl.keep k5).keep k6
      refine h0.same k.1 fun hne => ?_
      have hb3 := hv3.sl.blk_lt hne
      exact k.2 _ (by omega) (by omega)
    have h14 : ∀ H', KeepX wb H6 H' → Sl H' v14 (listedL (bedF t) (bedB t) (r + stepD d)) := fun H' k => by
      refine hv6.sl.same k.1 fun hne => ?_
      have hb6 := hv6.sl.blk_lt hne
      refine k.2 _ (by omega) ?_
      rcases hv6 with ⟨_, h⟩ | ⟨b6, rfl, h3, _⟩
      · exact absurd h hne
      · have hb6 : b6 < H6.n := hb6
        show b6 ≠ wb
        omega
    have ht6 : ∀ H', KeepX wb H6 H' → Tabs tabs H' := fun H' k => by
      have h0 := (ht3.keep' k5).keep' k6
      have h1 : 1 ≤ H.n := ht.1
      have h2 : 1 ≤ H6.n := h0.1
      refine h0.keep k.1 fun i hi => ?_
      have hi0 : i = 0 := by simp [tabs] at hi; exact hi
      subst hi0
      exact k.2 0 (by omega) (by omega)
    have hcl : (listedL (bedF t) (bedB t) r).length ≤ 1000 := by rw [hp5.length_eq, hheld]; omega
    have hnd : ((listedL (bedF t) (bedB t) r).map (·.id)).Nodup := by
      rw [List.Nodup, List.pairwise_map]
      refine (listedL_nodup hck r).imp_of_mem fun {x y} hx hy hne e => hne ?_
      have := listedL_uniq hck hr hr hx hy e.symm
      rw [this]
      obtain ⟨i, hi, hx'⟩ := (listedL_mem hr).1 hx
      obtain ⟨j, hj, rfl⟩ := stackH_mem.1 hx'
      rfl
    simp (disch := omega) only [BAS, ↓BPR, reduceIte, reduceCtorEq, seval, -List.reduceReplicate, fpOf, freeNext, opW, binI, ev1, Heap.write, setAll, unI, eqKs, eqK, fillI, B4]
    refine step_sim (n0 := H3.n) (wb := wb) hd01 (by omega) hwb h8 own12 hcl (by omega) hch hnd (fun c hc => stepL_sd hc) 0 rfl rfl rfl rfl rfl rfl rfl rfl fun H7 tm7 k7 own7 htm7 w6 w12 w14 => ?_
    have h14' := h14 H7 k7
    have h12' := own7.sl
    have hll : fin.length = (listedL (bedF t) (bedB t) (r + stepD d)).length := by have := congrArg List.length hids; simpa using this
    have hl14 : (listedL (bedF t) (bedB t) (r + stepD d)).length ≤ 1000 := by rw [hp6.length_eq, hheld]; omega
    rw [expl201 tm7 htm7, w6, w12, w14]
    simp (disch := omega) only [BAS, ↓BPR, reduceIte, reduceCtorEq, seval, -List.reduceReplicate, fpOf, freeNext, opW, binI, ev1, Heap.write, setAll, unI, eqKs, eqK, fillI, B4, ↓h12'.ln, ↓h14'.ln, hll]
    refine W_inv (fun k fr H' => ∃ i, i + k = fin.length ∧ H' = H7 ∧ fr.marks = [] ∧ fr.tm.length = 201 ∧ fr.tm.getD 12 IV.undef = v12.iv ∧ fr.tm.getD 14 IV.undef = v14.iv ∧ fr.tm.getD 20 IV.undef = .int .i64 i) ?_ _ ⟨0, Nat.zero_add _, rfl, rfl, rfl, rfl, rfl, rfl⟩
    rintro k ⟨tm, mk⟩ H' ⟨i, hik, he, rfl, htm, t12, t14, t20⟩ L hN hJ
    subst he
    rw [expl201 tm htm, t12, t14, t20]
    by_cases hi : i < fin.length
    · have q1 := h12'.read z_Hd i hi
      have q2 := h14'.read z_Hd i (by omega)
      have p1 := read_sub (a := 0) (m := 2) q1 (by omega)
      have p2 := read_sub (a := 0) (m := 2) q2 (by omega)
      simp only [cs_Hd, List.drop_zero, List.drop_succ_cons, List.take_succ_cons, List.take_zero, Nat.add_zero, Nat.add_assoc] at p1 p2
      have hid : fin[i].id = ((listedL (bedF t) (bedB t) (r + stepD d))[i]'(by omega)).id := by
        have h1 : (fin.map (·.id))[i]'(by simpa using hi) = ((listedL (bedF t) (bedB t) (r + stepD d)).map (·.id))[i]'(by simp; omega) := by simp only [hids]
        simpa using h1
      rw [hid] at p1
      simp (disch := omega) only [BAS, ↓BPR, reduceIte, reduceCtorEq, seval, -List.reduceReplicate, fpOf, freeNext, opW, binI, ev1, Heap.write, setAll, unI, eqKs, eqK, fillI, B4, F4l27, F4l37, F4l45, ↓h12'.ln, ↓h12'.idx, ↓h14'.idx, p1, p2]
      exact hN (k - 1) _ _ (by omega) ⟨i + 1, by omega, rfl, rfl, rfl, rfl, rfl, rfl⟩
    · simp (disch := omega) only [BAS, ↓BPR, reduceIte, reduceCtorEq, seval, -List.reduceReplicate, fpOf, freeNext, opW, binI, ev1, Heap.write, setAll, unI, eqKs, eqK, fillI, B4, F4l27, F4l37, F4l45, ↓h12'.ln, hJ]
      refine c11 (ht6 _ k7) ?_
      simp (disch := omega) only [BAS, ↓BPR, reduceIte, reduceCtorEq, seval, -List.reduceReplicate, fpOf, freeNext, opW, binI, ev1, Heap.write, setAll, unI, eqKs, eqK, fillI, B4]
  rcases hd01 with rfl | rfl
  · rw [show stepD 0 = -1 from rfl, rackB_iff] at hr2
    have e1 : r - 1 = r + stepD 0 := by rw [show stepD 0 = -1 from rfl]; omega
    have b1 : (r == -4) = false := by simp; omega
    simp (disch := omega) only [BAS, ↓BPR, reduceIte, reduceCtorEq, seval, -List.reduceReplicate, fpOf, freeNext, opW, binI, ev1, Heap.write, setAll, unI, eqKs, eqK, fillI, wF4o0, F4p0, wF4o1, F4p1, wF4o2, F4p2, wF4o3, F4p3, wF4o4, F4p4, wF4o5, F4p5, wF4o6, F4p6, wF4o7, F4p7, wF4o8, F4p8, wF4o9, F4p9, wF4o10, F4p10, wF4o11, F4p11, wF4o12, F4p12, wF4o13, F4p13, wF4o14, F4p14, wF4o15, F4p15, wF4o16, F4p16, F4p17, wF4o18, F4p18, wF4o19, F4p19, wF4o20, F4p20, wF4o21, F4p21, wF4o22, F4p22, wF4o23, F4p23, wF4o24, F4p24, wF4o25, F4p25, wF4o26, F4p26, wF4o28, F4p28, wF4o29, F4p29, wF4o30, F4p30, wF4o31, F4p31, wF4o32, F4p32, wF4o33, F4p33, wF4o34, F4p34, wF4o35, F4p35, wF4o36, F4p36, wF4o38, F4p38, wF4o39, F4p39, wF4o40, F4p40, wF4o41, F4p41, wF4o42, F4p42, wF4o43, F4p43, wF4o44, F4p44, wF4o46, F4p46, F4b, F4, b1, e1]
    rw [← W_seq]
    exact next _ rfl rfl rfl rfl rfl rfl rfl
  · rw [show stepD 1 = 1 from rfl, rackB_iff] at hr2
    have b1 : (r == 4) = false := by simp; omega
    simp (disch := omega) only [BAS, ↓BPR, reduceIte, reduceCtorEq, seval, -List.reduceReplicate, fpOf, freeNext, opW, binI, ev1, Heap.write, setAll, unI, eqKs, eqK, fillI, wF4o0, F4p0, wF4o1, F4p1, wF4o2, F4p2, wF4o3, F4p3, wF4o4, F4p4, wF4o5, F4p5, wF4o6, F4p6, wF4o7, F4p7, wF4o8, F4p8, wF4o9, F4p9, wF4o10, F4p10, wF4o11, F4p11, wF4o12, F4p12, wF4o13, F4p13, wF4o14, F4p14, wF4o15, F4p15, wF4o16, F4p16, F4p17, wF4o18, F4p18, wF4o19, F4p19, wF4o20, F4p20, wF4o21, F4p21, wF4o22, F4p22, wF4o23, F4p23, wF4o24, F4p24, wF4o25, F4p25, wF4o26, F4p26, wF4o28, F4p28, wF4o29, F4p29, wF4o30, F4p30, wF4o31, F4p31, wF4o32, F4p32, wF4o33, F4p33, wF4o34, F4p34, wF4o35, F4p35, wF4o36, F4p36, wF4o38, F4p38, wF4o39, F4p39, wF4o40, F4p40, wF4o41, F4p41, wF4o42, F4p42, wF4o43, F4p43, wF4o44, F4p44, wF4o46, F4p46, F4b, F4, b1]
    rw [← W_seq]
    exact next _ rfl rfl rfl rfl rfl rfl rfl
end Go.Iso.Gen
end
