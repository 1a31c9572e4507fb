/-
  arguments as data; from a run to a row; a strict form of the evaluator.
-/
import Derived.Test.YtpmcjiplhekgpaaGreatDoorIsoP4
import Derived.ChangeStays
import Derived.OpenShut
import Derived.ChangeOld
import Derived.Handed
import Derived.JoinedOf
import Derived.ChangeShapes
import Derived.SizedLaws
import Derived.ChangeCalls
import Derived.ChangeArms
import Derived.IntWalk
set_option linter.unusedSimpArgs false
set_option linter.unusedVariables false

/-
  Iso, part J1: arguments that are read as data lie in read-only blocks of an isolated heap.
-/
namespace Go.Iso
open Classical

inductive Ty where
  | bool
  | int (k : IntKind)
  | str
  | slice (e : Ty)
  | struct (fs : List Ty)
  | arr (n : Nat) (e : Ty)
  deriving Inhabited

/-- Plain data. -/
inductive PD where
  | bool (b : Bool)
  | int (n : Int)
  | str (s : List UInt8)
  | nil
  | slice (l : List PD)
  | agg (l : List PD)
  deriving Inhabited

mutual
def pdOf {T : Type} : DataW T → PD
  | .lit (.bool b) => .bool b
  | .lit (.int _ n) => .int n
  | .lit (.string s) => .str s
  | .lit _ => .nil
  | .nil => .nil
  | .ptr _ => .nil
  | .slice elems _ => .slice (pdsOf elems)
  | .agg parts => .agg (pdsOf parts)
  | .iface _ _ => .nil
  | .map _ => .nil
  | .held _ => .nil
def pdsOf {T : Type} : List (DataW T) → List PD
  | [] => []
  | d :: r => pdOf d :: pdsOf r
end

theorem pdsOf_map {T : Type} : ∀ (l : List (DataW T)), pdsOf l = l.map pdOf
  | [] => by simp [pdsOf]
  | d :: r => by simp [pdsOf, pdsOf_map r]

mutual
inductive Rd (H : Heap) : Ty → List IV → PD → Prop
  | bool (b : Bool) : Rd H .bool [.bool b] (.bool b)
  | int (k : IntKind) (n : Int) (h : k.min ≤ n ∧ n ≤ k.max) : Rd H (.int k) [.int k n] (.int n)
  | str (s : List UInt8) (h : s.length ≤ maxLen) : Rd H .str [.str s] (.str s)
  | nil (e : Ty) : Rd H (.slice e) [.nilSlice] .nil
  | slice (e : Ty) (b cap : Nat) (l : List PD) (css : List (List IV)) (h1 : l.length ≤ cap) (h2 : cap ≤ maxLen) (hb : 0 < l.length → H.get b = some (.cells true 0 0 css.flatten)) (he : Rds H (List.replicate l.length e) css l) :
      Rd H (.slice e) [.slice b 0 l.length cap true] (.slice l)
  | struct (ts : List Ty) (css : List (List IV)) (l : List PD) (he : Rds H ts css l) : Rd H (.struct ts) css.flatten (.agg l)
  | arr (n : Nat) (e : Ty) (css : List (List IV)) (l : List PD) (he : Rds H (List.replicate n e) css l) : Rd H (.arr n e) css.flatten (.agg l)
inductive Rds (H : Heap) : List Ty → List (List IV) → List PD → Prop
  | nil : Rds H [] [] []
  | cons {t : Ty} {c : List IV} {d : PD} {ts : List Ty} {cs : List (List IV)} {ds : List PD} (h : Rd H t c d) (hs : Rds H ts cs ds) : Rds H (t :: ts) (c :: cs) (d :: ds)
end

def Grow (H H' : Heap) : Prop := H.n ≤ H'.n ∧ ∀ b o, b < H.n → H.get b = some o → H'.get b = some o

theorem Grow.refl (H : Heap) : Grow H H := ⟨Nat.le_refl _, fun _ _ _ h => h⟩
theorem Grow.trans {a b c : Heap} (h : Grow a b) (k : Grow b c) : Grow a c := ⟨Nat.le_trans h.1 k.1, fun x o hx e => k.2 x o (Nat.lt_of_lt_of_le hx h.1) (h.2 x o hx e)⟩

/-- Every block lies below the heap's end, and none is the call's own. -/
def Ro (H : Heap) : Prop := ∀ b o, H.get b = some o → b < H.n ∧ o.owned = false

mutual
theorem Rd.mono {H H' : Heap} (hr : Ro H) (hg : Grow H H') : ∀ {t : Ty} {c : List IV} {d : PD}, Rd H t c d → Rd H' t c d
  | _, _, _, .bool b => .bool b
  | _, _, _, .int k n h => .int k n h
  | _, _, _, .str s h => .str s h
  | _, _, _, .nil e => .nil e
  | _, _, _, .slice e b cap l css h1 h2 hb he => .slice e b cap l css h1 h2 (fun h => hg.2 b _ (hr b _ (hb h)).1 (hb h)) (he.mono hr hg)
  | _, _, _, .struct ts css l he => .struct ts css l (he.mono hr hg)
  | _, _, _, .arr n e css l he => .arr n e css l (he.mono hr hg)
theorem Rds.mono {H H' : Heap} (hr : Ro H) (hg : Grow H H') : ∀ {t : List Ty} {c : List (List IV)} {d : List PD}, Rds H t c d → Rds H' t c d
  | _, _, _, .nil => .nil
  | _, _, _, .cons h hs => .cons (h.mono hr hg) (hs.mono hr hg)
end

section
variable {P : Program} {g0 : Nat} {μ : Mu} {w : World} {H : Heap}

def Loads (P : Program) (g0 : Nat) (w : World) (τ : Ty) (cs : List Value) (pd : PD) : Prop :=
  ∀ (μ : Mu) (H : Heap), Rel P g0 μ H.get H.n w → Ro H → ∃ (μ' : Mu) (H' : Heap) (ivs : List IV), Rel P g0 μ' H'.get H'.n w ∧ Ro H' ∧ μ.le μ' ∧ Grow H H' ∧ VRs μ' ivs cs ∧ Rd H' τ ivs pd

theorem loads_list : ∀ (ps : List (Ty × List Value × PD)), (∀ p, p ∈ ps → Loads P g0 w p.1 p.2.1 p.2.2) → ∀ (μ : Mu) (H : Heap), Rel P g0 μ H.get H.n w → Ro H →
    ∃ (μ' : Mu) (H' : Heap) (css : List (List IV)), Rel P g0 μ' H'.get H'.n w ∧ Ro H' ∧ μ.le μ' ∧ Grow H H' ∧ VRs μ' css.flatten (ps.map (·.2.1)).flatten ∧ Rds H' (ps.map (·.1)) css (ps.map (·.2.2))
  | [], _, μ, H, hr, ho => ⟨μ, H, [], hr, ho, μ.le_refl, .refl H, rfl, .nil⟩
  | p :: ps, h, μ, H, hr, ho => by
    obtain ⟨μ1, H1, c, a1, a2, a3, a4, a5, a6⟩ := h p (by simp) μ H hr ho
    obtain ⟨μ2, H2, css, b1, b2, b3, b4, b5, b6⟩ := loads_list ps (fun q hq => h q (by simp [hq])) μ1 H1 a1 a2
    exact ⟨μ2, H2, c :: css, b1, b2, Mu.le_trans a3 b3, a4.trans b4, by simp only [List.flatten_cons, List.map_cons]; exact (VRs.mono b3 _ _ a5).append b5, .cons (a6.mono a2 b4) b6⟩

/-- A block that is only read. -/
theorem Rel.allocRo (h : Rel P g0 μ H.get H.n w) (ho : Ro H) {c p : Nat} {cs' : Array Value} {e : TypeId} {fz : Nat × Nat} {cs : List IV} (hw : w.heap[c]? = some (.cells cs' e fz)) (hl : p + cs.length ≤ cs'.size) (hv : VRs μ cs ((cs'.toList.drop p).take cs.length)) :
    Rel P g0 (μ.upd H.n (.at c p 0 0)) (H.new (.cells true 0 0 cs)).get (H.new (.cells true 0 0 cs)).n w ∧ Ro (H.new (.cells true 0 0 cs)) := by
  have hle := μ.le_upd (.at c p 0 0) h.fresh
  have hro : Ro (H.new (.cells true 0 0 cs)) := by
    intro b o hb
    rw [Heap.get_new] at hb
    rw [Heap.n_new]
    split at hb
    · injection hb with hb; subst hb; exact ⟨by omega, rfl⟩
    · have := ho b o hb; exact ⟨by omega, this.2⟩
  refine ⟨⟨fun b hb => ?_, fun b b' c p ez z p' ez' z' hb hb' hob => ?_, fun b c' p' ez z hb => ?_, fun i hi => ?_, fun b hb => ?_⟩, hro⟩
  · rw [Heap.n_new]
    by_cases e : b = H.n
    · omega
    · rw [Mu.upd_ne _ _ e] at hb; have := h.lt b hb; omega
  · obtain ⟨o, h1, h2⟩ := hob
    rw [(hro b o h1).2] at h2; cases h2
  · by_cases e : b = H.n
    · subst e
      rw [Mu.upd_self] at hb
      injection hb with q1 q2 q3 q4
      subst q1 q2 q3 q4
      exact ⟨.cells true 0 0 cs, by rw [Heap.get_new, if_pos rfl], rfl, cs', _, fz, hw, hl, VRs.mono hle _ _ hv⟩
    · rw [Mu.upd_ne _ _ e] at hb
      obtain ⟨o, k1, k2⟩ := h.obj b c' p' ez z hb
      exact ⟨o, by rw [Heap.get_new, if_neg (Ne.symm e)]; exact k1, k2.mono hle⟩
  · have hn := h.glob i hi
    have : i < H.n := h.lt i (by rw [hn]; exact fun x => by cases x)
    rw [Mu.upd_ne _ _ (by omega)]; exact hn
  · by_cases e : b = H.n
    · subst e; rw [Mu.upd_self] at hb; cases hb
    · rw [Mu.upd_ne _ _ e] at hb
      rw [Heap.get_new, if_neg (Ne.symm e)]; exact h.ded b hb

theorem Rel.allocDead (h : Rel P g0 μ H.get H.n w) (ho : Ro H) : Rel P g0 (μ.upd H.n .dead) (H.new .dead).get (H.new .dead).n w ∧ Ro (H.new .dead) := by
  have hle := μ.le_upd .dead h.fresh
  have hro : Ro (H.new .dead) := by
    intro b o hb
    rw [Heap.get_new] at hb
    rw [Heap.n_new]
    split at hb
    · injection hb with hb; subst hb; exact ⟨by omega, rfl⟩
    · have := ho b o hb; exact ⟨by omega, this.2⟩
  refine ⟨⟨fun b hb => ?_, fun b b' c p ez z p' ez' z' hb hb' hob => ?_, fun b c' p' ez z hb => ?_, fun i hi => ?_, fun b hb => ?_⟩, hro⟩
  · rw [Heap.n_new]
    by_cases e : b = H.n
    · omega
    · rw [Mu.upd_ne _ _ e] at hb; have := h.lt b hb; omega
  · obtain ⟨o, h1, h2⟩ := hob
    rw [(hro b o h1).2] at h2; cases h2
  · by_cases e : b = H.n
    · subst e
      rw [Mu.upd_self] at hb
      cases hb
    · rw [Mu.upd_ne _ _ e] at hb
      obtain ⟨o, k1, k2⟩ := h.obj b c' p' ez z hb
      exact ⟨o, by rw [Heap.get_new, if_neg (Ne.symm e)]; exact k1, k2.mono hle⟩
  · have hn := h.glob i hi
    have : i < H.n := h.lt i (by rw [hn]; exact fun x => by cases x)
    rw [Mu.upd_ne _ _ (by omega)]; exact hn
  · by_cases e : b = H.n
    · subst e; rw [Heap.get_new, if_pos rfl]
    · rw [Mu.upd_ne _ _ e] at hb
      rw [Heap.get_new, if_neg (Ne.symm e)]; exact h.ded b hb

theorem Grow.new (ho : Ro H) (o : IObj) : Grow H (H.new o) := ⟨by rw [Heap.n_new]; omega, fun b x hb e => by rw [Heap.get_new, if_neg (by omega)]; exact e⟩

/-! Types. -/

def tyFs (P : Program) (ty : TypeId → Option Ty) : List Field → Nat → Option (List Ty)
  | [], _ => some []
  | f :: fs, off =>
    match ty f.type with
    | some τ => if f.offset = off then (tyFs P ty fs (off + P.cellsOf f.type)).map (τ :: ·) else none
    | none => none

def tyOf (P : Program) : Nat → TypeId → Option Ty
  | 0, _ => none
  | n + 1, t =>
    match P.underlying t with
    | some .bool => some .bool
    | some (.int k) => some (.int k)
    | some .string => some .str
    | some (.slice e) => if 0 < P.cellsOf e then (tyOf P n e).map .slice else none
    | some (.struct fs) => if P.cellsOf t = (fs.toList.map fun f => P.cellsOf f.type).sum then (tyFs P (tyOf P n) fs.toList 0).map .struct else none
    | some (.array k e) => if P.cellsOf t = k * P.cellsOf e then (tyOf P n e).map (.arr k) else none
    | _ => none

theorem cells?_spec {a : Addr} {n : Nat} {cs : List Value} (h : w.cells? 0 a n = some cs) (hn : 0 < n) : ∃ (cs' : Array Value) (e : TypeId) (fz : Nat × Nat), w.heap[a.block]? = some (.cells cs' e fz) ∧ (a.spot = none) ∧ a.off + n ≤ cs'.size ∧ cs = (cs'.toList.drop a.off).take n := by
  unfold World.cells? at h
  simp only [Nat.zero_le, if_true] at h
  have hl := mapM_some_length h
  simp only [List.length_range] at hl
  have hg : ∀ i, i < n → w.cell? (a.add i) = cs[i]? := fun i hi => mapM_some_get h i i (by simp [hi])
  have h0 := hg 0 hn
  have ha : a.add 0 = a := by simp [Addr.add]
  rw [ha] at h0
  have hc0 : ∃ v, w.cell? a = some v := ⟨cs[0]'(by omega), by rw [h0]; exact List.getElem?_eq_getElem (by omega)⟩
  obtain ⟨v0, hv0⟩ := hc0
  unfold World.cell? at hv0
  split at hv0
  · rename_i cs' e fz hh
    split at hv0
    · cases hv0
    · rename_i hsp
      have hsp' : a.spot = none := by cases hs : a.spot with | none => rfl | some x => rw [hs] at hsp; simp at hsp
      have hall : ∀ i, i < n → cs'[a.off + i]? = cs[i]? := by
        intro i hi
        rw [← hg i hi]
        unfold World.cell? Addr.add
        by_cases e0 : i = 0
        · subst e0; simp [hh, hsp']
        · simp [hh, e0]
      have hsz : a.off + n ≤ cs'.size := by
        have := hall (n - 1) (by omega)
        have hx : cs[n - 1]? = some (cs[n - 1]'(by omega)) := List.getElem?_eq_getElem (by omega)
        rw [hx] at this
        have := (Array.getElem?_eq_some_iff.1 this).1
        omega
      refine ⟨cs', e, fz, hh, hsp', hsz, ?_⟩
      apply List.ext_getElem?
      intro i
      by_cases hi : i < n
      · rw [List.getElem?_take_of_lt hi, List.getElem?_drop, ← hall i hi, Array.getElem?_toList]
      · rw [List.getElem?_eq_none (by omega), List.getElem?_eq_none (by simp; omega)]
  · cases hv0

theorem flatten_chunks {α : Type} (l : List α) (sz : Nat) : ∀ (k : Nat), ((List.range k).map fun i => (l.drop (i * sz)).take sz).flatten = l.take (k * sz)
  | 0 => by simp
  | k + 1 => by
    rw [List.range_succ, List.map_append, List.flatten_append, flatten_chunks l sz k]
    simp only [List.map_cons, List.map_nil, List.flatten_cons, List.flatten_nil, List.append_nil]
    rw [Nat.succ_mul, List.take_add]

theorem flatten_fields {α : Type} (P : Program) (ty : TypeId → Option Ty) (l : List α) : ∀ (fs : List Field) (off : Nat) (ts : List Ty), tyFs P ty fs off = some ts →
    (fs.map fun f => (l.drop f.offset).take (P.cellsOf f.type)).flatten = (l.drop off).take (fs.map fun f => P.cellsOf f.type).sum
  | [], off, ts, _ => by simp
  | f :: fs, off, ts, h => by
    unfold tyFs at h
    split at h
    · split at h
      · rename_i hoff
        cases h2 : tyFs P ty fs (off + P.cellsOf f.type) with
        | none => rw [h2] at h; cases h
        | some ts' =>
          have := flatten_fields P ty l fs _ _ h2
          simp only [List.map_cons, List.flatten_cons, List.sum_cons]
          rw [this, hoff, List.take_add, List.drop_drop]
      · cases h
    · cases h

theorem tyFs_get (P : Program) (ty : TypeId → Option Ty) : ∀ (fs : List Field) (off : Nat) (ts : List Ty), tyFs P ty fs off = some ts → ts.length = fs.length ∧ ∀ (i : Nat) (f : Field), fs[i]? = some f → ∃ τ, ts[i]? = some τ ∧ ty f.type = some τ
  | [], off, ts, h => by injection h with h; subst h; simp
  | f :: fs, off, ts, h => by
    unfold tyFs at h
    split at h
    · rename_i τ hτ
      split at h
      · cases h2 : tyFs P ty fs (off + P.cellsOf f.type) with
        | none => rw [h2] at h; cases h
        | some ts' =>
          rw [h2] at h
          injection h with h
          subst h
          obtain ⟨a, b⟩ := tyFs_get P ty fs _ _ h2
          refine ⟨by simp [a], fun i g hg => ?_⟩
          cases i with
          | zero => simp at hg; subst hg; exact ⟨τ, by simp, hτ⟩
          | succ i => simpa using b i g (by simpa using hg)
      · cases h
    · cases h

theorem zip3 {T : Type} : ∀ (ts : List Ty) (cvs : List (List Value)) (xs : List (DataW T)), ts.length = xs.length → cvs.length = xs.length →
    ((ts.zip (cvs.zip (xs.map pdOf))).map (·.1) = ts ∧ (ts.zip (cvs.zip (xs.map pdOf))).map (·.2.1) = cvs ∧ (ts.zip (cvs.zip (xs.map pdOf))).map (·.2.2) = xs.map pdOf) := by
  intro ts
  induction ts with
  | nil => intro cvs xs h1 h2; cases xs <;> cases cvs <;> simp at h1 h2 ⊢
  | cons t ts ih =>
    intro cvs xs h1 h2
    cases xs with
    | nil => simp at h1
    | cons x xs =>
      cases cvs with
      | nil => simp at h2
      | cons c cvs =>
        obtain ⟨a, b, c'⟩ := ih cvs xs (by simpa using h1) (by simpa using h2)
        simp [a, b, c']

theorem load_pieces {T : Type} {ts : List Ty} {cvs : List (List Value)} {xs : List (DataW T)} (h1 : ts.length = xs.length) (h2 : cvs.length = xs.length)
    (h : ∀ (i : Nat) (τ : Ty) (c : List Value) (x : DataW T), ts[i]? = some τ → cvs[i]? = some c → xs[i]? = some x → Loads P g0 w τ c (pdOf x)) (hr : Rel P g0 μ H.get H.n w) (ho : Ro H) :
    ∃ (μ' : Mu) (H' : Heap) (css : List (List IV)), Rel P g0 μ' H'.get H'.n w ∧ Ro H' ∧ μ.le μ' ∧ Grow H H' ∧ VRs μ' css.flatten cvs.flatten ∧ Rds H' ts css (xs.map pdOf) := by
  obtain ⟨e1, e2, e3⟩ := zip3 ts cvs xs h1 h2
  have := loads_list (P := P) (g0 := g0) (w := w) (ts.zip (cvs.zip (xs.map pdOf))) (fun p hp => by
    obtain ⟨i, hi, he⟩ := List.getElem_of_mem hp
    have hx : (ts.zip (cvs.zip (xs.map pdOf)))[i]? = some p := by rw [List.getElem?_eq_getElem hi, he]
    simp only [List.length_zip, List.length_map] at hi
    have q1 : ts[i]? = some p.1 := by rw [← e1, List.getElem?_map, hx]; rfl
    have q2 : cvs[i]? = some p.2.1 := by rw [← e2, List.getElem?_map, hx]; rfl
    have q3 : (xs.map pdOf)[i]? = some p.2.2 := by rw [← e3, List.getElem?_map, hx]; rfl
    rw [List.getElem?_map] at q3
    cases hxi : xs[i]? with
    | none => rw [hxi] at q3; cases q3
    | some x =>
      rw [hxi] at q3
      injection q3 with q3
      rw [← q3]
      exact h i _ _ x q1 q2 hxi) μ H hr ho
  rw [e1, e2, e3] at this
  exact this

theorem loads_of_trod {T : Type} {enc : TypeId × Value → T} : ∀ (n : Nat) (t : TypeId) (τ : Ty) (fuel : Nat) (cs : List Value) (x : DataW T × List MemPlace), tyOf P n t = some τ →
    DataW.trod enc P w 0 (fun _ => true) true fuel t cs = some x → Loads P g0 w τ cs (pdOf x.1) := by
  intro n
  induction n with
  | zero => intro t τ fuel cs x h; cases h
  | succ n ih =>
    intro t τ fuel cs x hτ hx
    unfold tyOf at hτ
    split at hτ
    · rename_i hu
      injection hτ with hτ
      subst hτ
      obtain ⟨b, rfl, rfl⟩ := DataW.trod_bool hu hx
      intro μ H hr ho
      exact ⟨μ, H, [.bool b], hr, ho, μ.le_refl, .refl H, ⟨_, _, rfl, rfl, rfl⟩, .bool b⟩
    · rename_i k hu
      injection hτ with hτ
      subst hτ
      obtain ⟨m, rfl, rfl, hwf⟩ := DataW.trod_int hu hx
      intro μ H hr ho
      refine ⟨μ, H, [.int k m], hr, ho, μ.le_refl, .refl H, ⟨_, _, rfl, rfl, rfl⟩, .int k m ?_⟩
      simpa [Lit.wf] using hwf
    · rename_i hu
      injection hτ with hτ
      subst hτ
      obtain ⟨s, rfl, rfl, hs⟩ := DataW.trod_string hu hx
      intro μ H hr ho
      exact ⟨μ, H, [.str s.data.toList], hr, ho, μ.le_refl, .refl H, ⟨_, _, rfl, rfl, rfl⟩, .str _ hs⟩
    · rename_i e hu
      split at hτ
      · rename_i hsz
        cases he : tyOf P n e with
        | none => rw [he] at hτ; cases hτ
        | some τe =>
          rw [he] at hτ
          injection hτ with hτ
          subst hτ
          rcases DataW.trod_slice hu hx with ⟨rfl, rfl⟩ | ⟨a, len, cap, elems, rest, m, rfl, rfl, rfl, _, hlc, hcm, hel, hget, hrest, _⟩
          · intro μ H hr ho
            exact ⟨μ, H, [.nilSlice], hr, ho, μ.le_refl, .refl H, ⟨_, _, rfl, rfl, rfl⟩, .nil τe⟩
          · intro μ H hr ho
            subst hel
            obtain ⟨hrl, hrg⟩ := hrest rfl
            have hcap63 : cap < 2 ^ 63 := by have : maxLen < 2 ^ 63 := by decide
                                             omega
            have hpd : pdOf (DataW.slice (elems.map (·.1)) (rest.map (·.1))) = .slice ((elems.map (·.1)).map pdOf) := by simp [pdOf, pdsOf_map]
            have hlen : ((elems.map (·.1)).map pdOf).length = elems.length := by simp
            by_cases hc0 : cap = 0
            · obtain ⟨h1, h2⟩ := hr.allocDead ho
              have hel0 : elems = [] := List.length_eq_zero_iff.1 (by omega)
              subst hel0
              refine ⟨_, _, [.slice H.n 0 0 cap true], h1, h2, Mu.le_upd μ _ hr.fresh, .new ho _, ⟨_, _, rfl, ⟨a, cap, rfl, ⟨Nat.zero_le _, Nat.le_refl _, hcap63, fun _ => rfl⟩, ?_⟩, rfl⟩, ?_⟩
              · unfold SlR; rw [Mu.upd_self]; trivial
              · exact .slice τe H.n cap [] [] (Nat.zero_le _) hcm (fun h => absurd h (by simp)) .nil
            · -- the address is a cell's
              have haddr : ∃ (cs' : Array Value) (e' : TypeId) (fz : Nat × Nat), w.heap[a.block]? = some (.cells cs' e' fz) ∧ a.spot = none ∧ a.off ≤ cs'.size ∧
                  ∀ i (hi : i < elems.length), a.off + (i + 1) * P.cellsOf e ≤ cs'.size ∧ DataW.trod enc P w 0 (fun _ => true) true m e (((cs'.toList.drop a.off).drop (i * P.cellsOf e)).take (P.cellsOf e)) = some elems[i] := by
                have base : ∃ c0, w.cells? 0 (a.add 0) (P.cellsOf e) = some c0 := by
                  by_cases h0 : 0 < elems.length
                  · have := hget 0 h0
                    rw [List.getElem?_eq_getElem h0] at this
                    simp only [Nat.zero_mul] at this
                    cases hq : w.cells? 0 (a.add 0) (P.cellsOf e) with
                    | none => rw [hq] at this; cases this
                    | some c => exact ⟨c, rfl⟩
                  · have h00 : elems.length = 0 := by omega
                    have := hrg 0 (by omega)
                    rw [List.getElem?_eq_getElem (by omega)] at this
                    rw [h00] at this
                    simp only [Nat.add_zero, Nat.zero_mul] at this
                    cases hq : w.cells? 0 (a.add 0) (P.cellsOf e) with
                    | none => rw [hq] at this; cases this
                    | some c => exact ⟨c, rfl⟩
                obtain ⟨c0, hc⟩ := base
                have ha : a.add 0 = a := by simp [Addr.add]
                rw [ha] at hc
                obtain ⟨cs', e', fz, g1, g2, g3, g4⟩ := cells?_spec hc hsz
                refine ⟨cs', e', fz, g1, g2, by omega, fun i hi => ?_⟩
                have := hget i hi
                rw [List.getElem?_eq_getElem hi] at this
                cases hq : w.cells? 0 (a.add (i * P.cellsOf e)) (P.cellsOf e) with
                | none => rw [hq] at this; cases this
                | some c =>
                  rw [hq] at this
                  simp only [Option.bind_some] at this
                  obtain ⟨cs2, e2, fz2, k1, k2, k3, k4⟩ := cells?_spec hq hsz
                  have hbk : (a.add (i * P.cellsOf e)).block = a.block := by unfold Addr.add; split <;> rfl
                  have hof : (a.add (i * P.cellsOf e)).off = a.off + i * P.cellsOf e := by unfold Addr.add; split <;> simp_all
                  rw [hbk, g1] at k1
                  injection k1 with k1
                  injection k1 with k1 _ _
                  subst k1
                  rw [hof] at k3 k4
                  rw [k4] at this
                  refine ⟨by rw [Nat.succ_mul]; omega, ?_⟩
                  rw [List.drop_drop]
                  exact this
              obtain ⟨cs', e', fz, hheap, hspot, hoff, hels⟩ := haddr
              obtain ⟨μ1, H1, css, b1, b2, b3, b4, b5, b6⟩ := load_pieces (P := P) (g0 := g0) (w := w) (μ := μ) (H := H) (ts := List.replicate elems.length τe)
                (cvs := (List.range elems.length).map fun i => ((cs'.toList.drop a.off).drop (i * P.cellsOf e)).take (P.cellsOf e)) (xs := elems.map (·.1)) (by simp) (by simp) (fun i τ c x h1 h2 h3 => by
                  rw [List.getElem?_replicate] at h1
                  rw [List.getElem?_map] at h2 h3
                  split at h1
                  · rename_i hi
                    injection h1 with h1
                    subst h1
                    rw [List.getElem?_range hi] at h2
                    injection h2 with h2
                    rw [List.getElem?_eq_getElem hi] at h3
                    injection h3 with h3
                    subst h2 h3
                    exact ih e τe m _ elems[i] he (hels i hi).2
                  · cases h1) hr ho
              rw [flatten_chunks] at b5
              have hflen : css.flatten.length = elems.length * P.cellsOf e := by
                rw [b5.length, List.length_take, List.length_drop]
                have hq : cs'.toList.length = cs'.size := Array.length_toList
                by_cases h0 : elems.length = 0
                · simp [h0]
                · have := (hels (elems.length - 1) (by omega)).1
                  rw [show elems.length - 1 + 1 = elems.length from by omega] at this
                  omega
              have hfit : a.off + css.flatten.length ≤ cs'.size := by
                rw [hflen]
                by_cases h0 : elems.length = 0
                · rw [h0]; simpa using hoff
                · have := (hels (elems.length - 1) (by omega)).1
                  rw [show elems.length - 1 + 1 = elems.length from by omega] at this
                  omega
              obtain ⟨c1, c2⟩ := b1.allocRo b2 (cs := css.flatten) hheap hfit (by rw [hflen]; exact b5)
              refine ⟨_, _, [.slice H1.n 0 elems.length cap true], c1, c2, Mu.le_trans b3 (Mu.le_upd μ1 _ b1.fresh), b4.trans (.new b2 _), ⟨_, _, rfl, ⟨a, cap, rfl, ⟨hlc, Nat.le_refl _, hcap63, fun _ => rfl⟩, ?_⟩, rfl⟩, ?_⟩
              · unfold SlR
                rw [Mu.upd_self]
                refine ⟨.inr ?_, fun h => by cases h⟩
                cases a; simp at hspot; simp [hspot]
              · rw [hpd]
                have := Rd.slice (H := H1.new (.cells true 0 0 css.flatten)) τe H1.n cap ((elems.map (·.1)).map pdOf) css (by rw [hlen]; exact hlc) hcm (fun _ => by rw [Heap.get_new, if_pos rfl]) (by rw [hlen]; exact b6.mono b2 (.new b2 _))
                rw [hlen] at this
                exact this
      · cases hτ
    · rename_i fs hu
      split at hτ
      · rename_i hsum
        cases hf : tyFs P (tyOf P n) fs.toList 0 with
        | none => rw [hf] at hτ; cases hτ
        | some ts =>
          rw [hf] at hτ
          injection hτ with hτ
          subst hτ
          obtain ⟨xs, m, rfl, rfl, hcl, hxl, hget⟩ := DataW.trod_struct hu hx
          obtain ⟨tl, tget⟩ := tyFs_get P _ _ _ _ hf
          intro μ H hr ho
          obtain ⟨μ1, H1, css, b1, b2, b3, b4, b5, b6⟩ := load_pieces (P := P) (g0 := g0) (w := w) (μ := μ) (H := H) (ts := ts)
            (cvs := fs.toList.map fun f => (cs.drop f.offset).take (P.cellsOf f.type)) (xs := xs.map (·.1)) (by simp [tl, hxl]) (by simp [hxl]) (fun i τ c x h1 h2 h3 => by
              rw [List.getElem?_map] at h2 h3
              cases hfi : fs.toList[i]? with
              | none => rw [hfi] at h2; cases h2
              | some f =>
                rw [hfi] at h2
                injection h2 with h2
                obtain ⟨τ', q1, q2⟩ := tget i f hfi
                rw [h1] at q1
                injection q1 with q1
                subst q1
                cases hxi : xs[i]? with
                | none => rw [hxi] at h3; cases h3
                | some y =>
                  rw [hxi] at h3
                  injection h3 with h3
                  subst h2 h3
                  exact ih f.type τ m _ y q2 (by rw [hget i f (by rw [← Array.getElem?_toList]; exact hfi)]; exact hxi)) hr ho
          rw [flatten_fields P _ cs _ _ _ hf, List.drop_zero, ← hsum, ← hcl, List.take_length] at b5
          refine ⟨μ1, H1, css.flatten, b1, b2, b3, b4, b5, ?_⟩
          have hpd : pdOf (DataW.agg (xs.map (·.1))) = .agg ((xs.map (·.1)).map pdOf) := by simp [pdOf, pdsOf_map]
          rw [hpd]
          exact .struct ts css _ b6
      · cases hτ
    · rename_i k e hu
      split at hτ
      · rename_i hsum
        cases he : tyOf P n e with
        | none => rw [he] at hτ; cases hτ
        | some τe =>
          rw [he] at hτ
          injection hτ with hτ
          subst hτ
          obtain ⟨xs, m, rfl, rfl, hcl, hxl, hget⟩ := DataW.trod_array hu hx
          intro μ H hr ho
          obtain ⟨μ1, H1, css, b1, b2, b3, b4, b5, b6⟩ := load_pieces (P := P) (g0 := g0) (w := w) (μ := μ) (H := H) (ts := List.replicate k τe)
            (cvs := (List.range k).map fun i => (cs.drop (i * P.cellsOf e)).take (P.cellsOf e)) (xs := xs.map (·.1)) (by simp [hxl]) (by simp [hxl]) (fun i τ c x h1 h2 h3 => by
              rw [List.getElem?_replicate] at h1
              rw [List.getElem?_map] at h2 h3
              split at h1
              · rename_i hi
                injection h1 with h1
                subst h1
                rw [List.getElem?_range hi] at h2
                injection h2 with h2
                cases hxi : xs[i]? with
                | none => rw [hxi] at h3; cases h3
                | some y =>
                  rw [hxi] at h3
                  injection h3 with h3
                  subst h2 h3
                  exact ih e τe m _ y he (by rw [hget i hi]; exact hxi)
              · cases h1) hr ho
          rw [flatten_chunks, ← hsum, ← hcl, List.take_length] at b5
          refine ⟨μ1, H1, css.flatten, b1, b2, b3, b4, b5, ?_⟩
          have hpd : pdOf (DataW.agg (xs.map (·.1))) = .agg ((xs.map (·.1)).map pdOf) := by simp [pdOf, pdsOf_map]
          rw [hpd]
          exact .arr k τe css _ b6
      · cases hτ
    · cases hτ

end
end Go.Iso

/-
  Iso, part J2: from a run of the evaluator to a row.
-/
namespace Go.Iso
open Classical

def packV : Ty → List IV → IV
  | .struct _, l => .agg l
  | .arr _ _, l => .agg l
  | _, l => l.headD IV.undef

def packs : List Ty → List (List IV) → List IV
  | τ :: τs, c :: cs => packV τ c :: packs τs cs
  | _, _ => []

section
variable {P : Program} {g0 : Nat} {μ : Mu} {w : World} {H : Heap} {T : Type} {enc : TypeId × Value → T}

/-- A value that fits its type: one cell, or an aggregate. -/
theorem okWide_scalar {r : Reach} {base : Nat} {t : TypeId} {v : Value} (h : Value.okWide P w r base t v) (hs : ∀ fs, P.underlying t ≠ some (.struct fs)) (ha : ∀ n e, P.underlying t ≠ some (.array n e)) : ∀ cs, v ≠ .agg cs := by
  intro cs e
  subst e
  unfold Value.okWide at h
  split at h
  · rename_i fs hu; exact hs _ hu
  · rename_i n e hu; exact ha _ _ hu
  · unfold Cell.okWide at h
    split at h <;> first | (rename_i heq; cases heq; done) | skip
    all_goals (first | (rename_i heq _; cases heq; done) | (rename_i _ heq; cases heq; done) | skip)
    unfold Cell.ok at h
    split at h <;> first | exact h | (rename_i heq; cases heq; done) | (rename_i heq _; cases heq; done) | (rename_i _ heq; cases heq; done)

theorem pack_sound {n : Nat} {t : TypeId} {τ : Ty} (hτ : tyOf P n t = some τ) {r : Reach} {base : Nat} {v : Value} (hv : Value.okWide P w r base t v) {c : List IV} (hc : VRs μ c v.cells.toList) : VR μ (packV τ c) v := by
  cases n with
  | zero => cases hτ
  | succ n =>
    unfold tyOf at hτ
    have scal : (∀ cs, v ≠ .agg cs) → VR μ (c.headD IV.undef) v := by
      intro hne
      have : v.cells = #[v] := by cases v <;> first | rfl | exact absurd rfl (hne _)
      rw [this] at hc
      match c, hc with
      | x :: xs, ⟨y, ys, e, hy, hys⟩ =>
        simp at e
        obtain ⟨rfl, rfl⟩ := e
        exact hy
    split at hτ
    · rename_i hu; injection hτ with hτ; subst hτ
      exact scal (okWide_scalar hv (fun _ e => by rw [hu] at e; cases e) (fun _ _ e => by rw [hu] at e; cases e))
    · rename_i hu; injection hτ with hτ; subst hτ
      exact scal (okWide_scalar hv (fun _ e => by rw [hu] at e; cases e) (fun _ _ e => by rw [hu] at e; cases e))
    · rename_i hu; injection hτ with hτ; subst hτ
      exact scal (okWide_scalar hv (fun _ e => by rw [hu] at e; cases e) (fun _ _ e => by rw [hu] at e; cases e))
    · rename_i e hu
      split at hτ
      · cases he : tyOf P n e with
        | none => rw [he] at hτ; cases hτ
        | some τe =>
          rw [he] at hτ; injection hτ with hτ; subst hτ
          exact scal (okWide_scalar hv (fun _ e => by rw [hu] at e; cases e) (fun _ _ e => by rw [hu] at e; cases e))
      · cases hτ
    · rename_i fs hu
      split at hτ
      · cases he : tyFs P (tyOf P n) fs.toList 0 with
        | none => rw [he] at hτ; cases hτ
        | some ts =>
          rw [he] at hτ; injection hτ with hτ; subst hτ
          unfold Value.okWide at hv
          rw [hu] at hv
          obtain ⟨cs, rfl, _⟩ := hv
          exact ⟨cs, rfl, hc⟩
      · cases hτ
    · rename_i k e hu
      split at hτ
      · cases he : tyOf P n e with
        | none => rw [he] at hτ; cases hτ
        | some τe =>
          rw [he] at hτ; injection hτ with hτ; subst hτ
          unfold Value.okWide at hv
          rw [hu] at hv
          obtain ⟨cs, rfl, _⟩ := hv
          exact ⟨cs, rfl, hc⟩
      · cases hτ
    · cases hτ

theorem load_args {n base : Nat} {r : Reach} : ∀ (ts : List TypeId) (vs : List Value) (ds : List (DataW T)) (ps : List MemPlace) (τs : List Ty), ts.mapM (tyOf P n) = some τs →
    DataW.TrodAll enc P w 0 (fun _ => true) true ts vs ds ps → (∀ (j : Nat) t v, ts[j]? = some t → vs[j]? = some v → Value.okWide P w r base t v) → ∀ (μ : Mu) (H : Heap), Rel P g0 μ H.get H.n w → Ro H →
    ∃ (μ' : Mu) (H' : Heap) (css : List (List IV)), Rel P g0 μ' H'.get H'.n w ∧ Ro H' ∧ μ.le μ' ∧ Grow H H' ∧ VRs μ' (packs τs css) vs ∧ Rds H' τs css (ds.map pdOf)
  | [], [], [], ps, τs, hτ, _, _, μ, H, hr, ho => by
    simp at hτ
    subst hτ
    exact ⟨μ, H, [], hr, ho, μ.le_refl, .refl H, rfl, .nil⟩
  | t :: ts, v :: vs, d :: ds, ps, τs, hτ, ht, hv, μ, H, hr, ho => by
    obtain ⟨p, q, ⟨fuel, h1⟩, h2, _⟩ := ht
    simp only [List.mapM_cons] at hτ
    cases hτ1 : tyOf P n t with
    | none => rw [hτ1] at hτ; cases hτ
    | some τ =>
      rw [hτ1] at hτ
      cases hτ2 : ts.mapM (tyOf P n) with
      | none => rw [hτ2] at hτ; cases hτ
      | some τs' =>
        rw [hτ2] at hτ
        injection hτ with hτ
        subst hτ
        obtain ⟨μ1, H1, c, a1, a2, a3, a4, a5, a6⟩ := loads_of_trod n t τ fuel _ _ hτ1 h1 μ H hr ho
        obtain ⟨μ2, H2, css, b1, b2, b3, b4, b5, b6⟩ := load_args ts vs ds q τs' hτ2 h2 (fun j t v h1 h2 => hv (j + 1) t v (by simpa using h1) (by simpa using h2)) μ1 H1 a1 a2
        have hp := pack_sound hτ1 (hv 0 t v rfl rfl) a5
        exact ⟨μ2, H2, c :: css, b1, b2, Mu.le_trans a3 b3, a4.trans b4, ⟨v, vs, rfl, VR.mono b3 _ _ hp, b5⟩, .cons (a6.mono a2 b4) b6⟩
  | [], _ :: _, _, _, _, _, h, _, _, _, _, _ => h.elim
  | [], [], _ :: _, _, _, _, h, _, _, _, _, _ => h.elim
  | _ :: _, [], _, _, _, _, h, _, _, _, _, _ => h.elim
  | _ :: _, _ :: _, [], _, _, _, h, _, _, _, _, _ => h.elim

theorem trodAll_stays {w' : World} {Q : TypeId → Prop} {sp' : Nat → Bool} (K : Kids P Q) (hsz : ∀ {t e : TypeId}, Q t → P.underlying t = some (.slice e) → 0 < P.cellsOf e) :
    ∀ (ts : List TypeId) (vs : List Value) (ds : List (DataW T)) (ps : List MemPlace), (∀ t, t ∈ ts → Q t) → DataW.TrodAll enc P w 0 (fun _ => true) true ts vs ds ps → (∀ p ∈ ps, w.sameAt w' p) → (∀ p ∈ ps, sp' p.block = true) → DataW.TrodAll enc P w' 0 sp' true ts vs ds ps
  | [], [], [], ps, _, h, _, _ => h
  | t :: ts, v :: vs, d :: ds, ps, hq, ⟨p, q, ⟨fuel, h1⟩, h2, e⟩, hs, hsp => by
    refine ⟨p, q, ⟨fuel, ?_⟩, trodAll_stays K hsz ts vs ds q (fun t ht => hq t (by simp [ht])) h2 (fun x hx => hs x (by rw [e]; simp [hx])) (fun x hx => hsp x (by rw [e]; simp [hx])), e⟩
    exact DataW.trod_stays K hsz (fun h => by cases h) (hq t (by simp)) h1 (fun x hx => hs x (by rw [e]; simp [hx])) (fun x hx => hsp x (by rw [e]; simp [hx]))
  | [], _ :: _, _, _, _, h, _, _ => h.elim
  | [], [], _ :: _, _, _, h, _, _ => h.elim
  | _ :: _, [], _, _, _, h, _, _ => h.elim
  | _ :: _, _ :: _, [], _, _, h, _, _ => h.elim

def emptyHeap : Heap := ⟨0, .leaf⟩
theorem empty_get (b : Nat) : emptyHeap.get b = none := Tr.get_leaf b
theorem empty_ro : Ro emptyHeap := fun b o h => by rw [empty_get] at h; cases h
theorem empty_rel : Rel P 0 (fun _ => .no) emptyHeap.get emptyHeap.n w :=
  ⟨fun b h => absurd rfl h, fun b b' c p ez z p' ez' z' h => (by cases h), fun b c p ez z h => (by cases h), fun i hi => (by omega), fun b h => (by cases h)⟩

/-- What the types of a program must be. -/
def typesOk (P : Program) (fn : Func) : Bool :=
  laidOutB P && mapsRowed P && ((List.range P.types.size).all fun t => match P.underlying t with | some (.slice e) => decide (0 < P.cellsOf e) | _ => true) && fn.params.toList.all fun t => decide (t < P.types.size)

end
end Go.Iso

/-
  Iso, part J3: a closed call by a summary; tables of functions.
-/
namespace Go.Iso

def Tr.All {α : Type} (p : Nat → α → Prop) : Tr α → (Nat → Nat) → Prop
  | .leaf, _ => True
  | .node v l r, i => (∀ x, v = some x → p (i 0) x) ∧ l.All p (fun j => i (2 * j + 1)) ∧ r.All p (fun j => i (2 * j + 2))

theorem Tr.all_get {α : Type} {p : Nat → α → Prop} : ∀ (t : Tr α) (i : Nat → Nat) (k : Nat) (x : α), t.All p i → t.get k = some x → p (i k) x
  | .leaf, i, k, x, _, h => by rw [Tr.get_leaf] at h; cases h
  | .node v l r, i, k, x, ⟨h1, h2, h3⟩, h => by
    cases k with
    | zero => exact h1 x h
    | succ j =>
      unfold Tr.get at h
      simp only at h
      split at h
      · rename_i hj
        have := Tr.all_get l _ (j / 2) x h2 h
        rwa [show 2 * (j / 2) + 1 = j + 1 from by omega] at this
      · rename_i hj
        have := Tr.all_get r _ (j / 2) x h3 h
        rwa [show 2 * (j / 2) + 2 = j + 1 from by omega] at this

/-- A call without arguments that gives true gives it in whatever memory, and leaves all as it was. -/
def trueSum : List IV → Nat → Heap → Option (IV × Heap) := fun args _ H =>
  match args with
  | [] => some (.bool true, H)
  | _ => none

end Go.Iso

/-
  Iso, part J4: package-level variables that hold tables of integers: they lie in the first blocks.
-/
namespace Go.Iso
open Classical

/-- Cells that are integers of 64 bits. -/
def intCells (zs : List Int) : List IV := zs.map fun z => .int .i64 z
def eqInts : List IV → List Int → Bool
  | [], [] => true
  | .int .i64 a :: l, b :: m => a == b && eqInts l m
  | _, _ => false
theorem eqInts_eq : ∀ {l : List IV} {m : List Int}, eqInts l m = true → l = intCells m
  | [], [], _ => rfl
  | .int .i64 a :: l, b :: m, h => by
    simp only [eqInts, Bool.and_eq_true, beq_iff_eq] at h
    rw [h.1, eqInts_eq h.2]; rfl
  | [], _ :: _, h => by simp [eqInts] at h
  | x :: l, [], h => by unfold eqInts at h; split at h <;> simp_all
  | .bool _ :: _, _ :: _, h => by simp [eqInts] at h
  | .str _ :: _, _ :: _, h => by simp [eqInts] at h
  | .ptr _ _ :: _, _ :: _, h => by simp [eqInts] at h
  | .nilPtr :: _, _ :: _, h => by simp [eqInts] at h
  | .slice _ _ _ _ _ :: _, _ :: _, h => by simp [eqInts] at h
  | .nilSlice :: _, _ :: _, h => by simp [eqInts] at h
  | .map _ :: _, _ :: _, h => by simp [eqInts] at h
  | .nilMap :: _, _ :: _, h => by simp [eqInts] at h
  | .fn _ _ _ :: _, _ :: _, h => by simp [eqInts] at h
  | .yield _ :: _, _ :: _, h => by simp [eqInts] at h
  | .nilFunc :: _, _ :: _, h => by simp [eqInts] at h
  | .iface _ _ :: _, _ :: _, h => by simp [eqInts] at h
  | .nilIface :: _, _ :: _, h => by simp [eqInts] at h
  | .agg _ :: _, _ :: _, h => by simp [eqInts] at h
  | .tuple _ :: _, _ :: _, h => by simp [eqInts] at h
  | .int .i8 _ :: _, _ :: _, h => by simp [eqInts] at h
  | .int .i16 _ :: _, _ :: _, h => by simp [eqInts] at h
  | .int .i32 _ :: _, _ :: _, h => by simp [eqInts] at h
  | .int .u8 _ :: _, _ :: _, h => by simp [eqInts] at h
  | .int .u16 _ :: _, _ :: _, h => by simp [eqInts] at h
  | .int .u32 _ :: _, _ :: _, h => by simp [eqInts] at h
  | .int .u64 _ :: _, _ :: _, h => by simp [eqInts] at h
theorem eqInts_self : ∀ (m : List Int), eqInts (intCells m) m = true
  | [] => rfl
  | a :: m => by
    show (a == a && eqInts (intCells m) m) = true
    rw [eqInts_self m]; simp
theorem ints_any {μ μ' : Mu} : ∀ {zs : List Int} {vs : List Value}, VRs μ (intCells zs) vs → VRs μ' (intCells zs) vs
  | [], _, h => h
  | _ :: zs, _, ⟨y, ys, e, h1, h2⟩ => ⟨y, ys, e, h1, ints_any h2⟩

/-- The block of a table. -/
def tabOb (zs : List Int) : IObj := .cells true 0 0 (intCells zs)
/-- The tables lie in the blocks of the variables. -/
def Tabs (ts : List (List Int)) (H : Heap) : Prop := ts.length ≤ H.n ∧ ∀ (i : Nat) (h : i < ts.length), H.get i = some (tabOb ts[i])
theorem Tabs.keep {ts : List (List Int)} {H H' : Heap} (h : Tabs ts H) (hn : H.n ≤ H'.n) (hg : ∀ i, i < ts.length → H'.get i = H.get i) : Tabs ts H' := ⟨Nat.le_trans h.1 hn, fun i hi => by rw [hg i hi]; exact h.2 i hi⟩

def isTab : List Int → Option IObj → Bool
  | zs, some (.cells true 0 0 l) => eqInts l zs
  | _, _ => false
theorem isTab_eq {zs : List Int} {o : Option IObj} (h : isTab zs o = true) : o = some (tabOb zs) := by
  unfold isTab at h
  split at h
  · rw [eqInts_eq h]; rfl
  · cases h
def tabsOk : List (List Int) → Nat → Heap → Bool
  | [], _, _ => true
  | t :: ts, i, H => isTab t (H.get i) && tabsOk ts (i + 1) H
theorem tabsOk_get : ∀ {ts : List (List Int)} {i : Nat} {H : Heap}, tabsOk ts i H = true → ∀ (j : Nat) (h : j < ts.length), H.get (i + j) = some (tabOb ts[j])
  | [], _, _, _, j, h => by simp at h
  | t :: ts, i, H, h, j, hj => by
    simp only [tabsOk, Bool.and_eq_true] at h
    cases j with
    | zero => exact isTab_eq h.1
    | succ j =>
      have := tabsOk_get h.2 j (by simpa using hj)
      rw [show i + (j + 1) = i + 1 + j from by omega]
      simpa using this
theorem tabsOk_of : ∀ {ts : List (List Int)} {i : Nat} {H : Heap}, (∀ (j : Nat) (h : j < ts.length), H.get (i + j) = some (tabOb ts[j])) → tabsOk ts i H = true
  | [], _, _, _ => rfl
  | t :: ts, i, H, h => by
    simp only [tabsOk, Bool.and_eq_true]
    refine ⟨?_, tabsOk_of fun j hj => ?_⟩
    · have := h 0 (by simp)
      rw [Nat.add_zero] at this
      rw [this]
      exact eqInts_self t
    · have := h (j + 1) (by simpa using hj)
      rw [show i + 1 + j = i + (j + 1) from by omega]
      simpa using this
theorem Tabs.ok {ts : List (List Int)} {H : Heap} (h : Tabs ts H) : tabsOk ts 0 H = true := tabsOk_of fun j hj => by rw [Nat.zero_add]; exact h.2 j hj

/-- A call without arguments that gives true, where the tables lie as they are listed. -/
def tabSum (ts : List (List Int)) : List IV → Nat → Heap → Option (IV × Heap) := fun args _ H =>
  match args with
  | [] => if tabsOk ts 0 H then some (.bool true, H) else none
  | _ => none

def tabHeap : List (List Int) → Heap → Heap
  | [], H => H
  | t :: ts, H => tabHeap ts (H.new (tabOb t))

section
variable {P : Program} {g0 : Nat} {w : World}

/-- The world's blocks of the variables hold the tables. -/
def TabW (ts : List (List Int)) (w : World) : Prop := ∀ (i : Nat) (h : i < ts.length), ∃ (cs : Array Value) (e : TypeId) (fz : Nat × Nat), w.heap[i]? = some (.cells cs e fz) ∧ (intCells ts[i]).length ≤ cs.size ∧ VRs (fun _ => .no) (intCells ts[i]) (cs.toList.take (intCells ts[i]).length)

theorem tab_load : ∀ (ts : List (List Int)) (H : Heap) (μ : Mu), Rel P 0 μ H.get H.n w → Ro H → (∀ b, b < H.n → μ b = .at b 0 0 0) →
    (∀ (i : Nat) (h : i < ts.length), ∃ (cs : Array Value) (e : TypeId) (fz : Nat × Nat), w.heap[H.n + i]? = some (.cells cs e fz) ∧ (intCells ts[i]).length ≤ cs.size ∧ VRs (fun _ => .no) (intCells ts[i]) (cs.toList.take (intCells ts[i]).length)) →
    ∃ μ', Rel P 0 μ' (tabHeap ts H).get (tabHeap ts H).n w ∧ Ro (tabHeap ts H) ∧ Grow H (tabHeap ts H) ∧ (∀ b, b < (tabHeap ts H).n → μ' b = .at b 0 0 0) ∧ (tabHeap ts H).n = H.n + ts.length ∧ ∀ (i : Nat) (h : i < ts.length), (tabHeap ts H).get (H.n + i) = some (tabOb ts[i])
  | [], H, μ, hr, ho, hm, _ => ⟨μ, hr, ho, .refl H, hm, rfl, fun i h => by simp at h⟩
  | t :: ts, H, μ, hr, ho, hm, hw => by
    obtain ⟨cs, e, fz, h1, h2, h3⟩ := hw 0 (by simp)
    simp only [List.getElem_cons_zero, Nat.add_zero] at h1 h2 h3
    have hle : ∀ (c : Nat), c = c := fun _ => rfl
    obtain ⟨a1, a2⟩ := Rel.allocRo (c := H.n) (p := 0) (cs := intCells t) hr ho h1 (by omega) (by rw [List.drop_zero]; exact ints_any h3)
    have hn : (H.new (tabOb t)).n = H.n + 1 := Heap.n_new _ _
    obtain ⟨μ', b1, b2, b3, b4, b5, b6⟩ := tab_load ts (H.new (tabOb t)) _ a1 a2 (fun b hb => by
      rw [hn] at hb
      by_cases hb' : b = H.n
      · subst hb'; rw [Mu.upd_self]
      · rw [Mu.upd_ne _ _ hb']; exact hm b (by omega)) (fun i hi => by
      have := hw (i + 1) (by simpa using hi)
      rw [hn, show H.n + 1 + i = H.n + (i + 1) from by omega]
      simpa using this)
    refine ⟨μ', b1, b2, Grow.trans ⟨by rw [hn]; omega, fun b o hb hg => by rw [Heap.get_new, if_neg (by omega)]; exact hg⟩ b3, b4, by rw [show (tabHeap (t :: ts) H).n = (tabHeap ts (H.new (tabOb t))).n from rfl, b5, hn]; simp; omega, fun i hi => ?_⟩
    cases i with
    | zero => exact b3.2 H.n _ (by rw [hn]; omega) (by rw [Heap.get_new, if_pos rfl]; rfl)
    | succ i =>
      have := b6 i (by simpa using hi)
      rw [hn, show H.n + 1 + i = H.n + (i + 1) from by omega] at this
      exact this

theorem tab_start {ts : List (List Int)} (h : TabW ts w) : ∃ μ, Rel P ts.length μ (tabHeap ts emptyHeap).get (tabHeap ts emptyHeap).n w ∧ Ro (tabHeap ts emptyHeap) ∧ Tabs ts (tabHeap ts emptyHeap) ∧ (tabHeap ts emptyHeap).n = ts.length := by
  obtain ⟨μ, a1, a2, a3, a4, a5, a6⟩ := tab_load (P := P) ts emptyHeap _ empty_rel empty_ro (fun b hb => by have : emptyHeap.n = 0 := rfl; omega) (fun i hi => by
    have := h i hi
    rw [show emptyHeap.n = 0 from rfl, Nat.zero_add]
    exact this)
  have e0 : emptyHeap.n = 0 := rfl
  rw [e0, Nat.zero_add] at a5
  refine ⟨μ, ⟨a1.lt, a1.inj, a1.obj, fun i hi => a4 i (by omega), a1.ded⟩, a2, ⟨by omega, fun i hi => ?_⟩, a5⟩
  have := a6 i hi
  rwa [e0, Nat.zero_add] at this

/-- Where a heap of the evaluator holds the tables, the world does. -/
theorem Rel.tabW {ts : List (List Int)} {μ : Mu} {H : Heap} (hr : Rel P ts.length μ H.get H.n w) (ht : ∀ (i : Nat) (h : i < ts.length), H.get i = some (tabOb ts[i])) : TabW ts w := by
  intro i hi
  obtain ⟨o, h1, h2⟩ := hr.obj i i 0 0 0 (hr.glob i hi)
  rw [ht i hi] at h1
  injection h1 with h1
  subst h1
  obtain ⟨_, cs, e, fz, h3, h4, h5⟩ := h2
  refine ⟨cs, e, fz, h3, by omega, ?_⟩
  rw [List.drop_zero] at h5
  exact ints_any h5

theorem closed_tab {E : Env} {ts : List (List Int)} (hE : EnvOk P E) (hg : E.g0 = ts.length) {f : FuncId} {n : Nat} {H0 : Heap} (h : run E n (.call f []) ts.length (tabHeap ts emptyHeap) = some (.val (.bool true), H0)) :
    ∀ args lo H v H', tabSum ts args lo H = some (v, H') → CallSim P ts.length f args lo H v H' := by
  intro args lo H v H' hs
  cases args with
  | cons a l => cases hs
  | nil =>
    simp only [tabSum] at hs
    split at hs
    case isFalse => cases hs
    rename_i hok
    have hget := tabsOk_get hok
    injection hs with hs; injection hs with h1 h2; subst h1 h2
    have hsim := run_sound hE h
    rw [hg] at hsim
    intro μ w args' hr ha
    obtain ⟨μ0, hrel0, hro0, _, hn0⟩ := tab_start (P := P) (hr.tabW fun i hi => by have := hget i hi; rwa [Nat.zero_add] at this)
    refine (hsim μ0 w args' hrel0 ha).mono fun e w' ⟨v', μ', he, hrel, hpost, hv⟩ => ⟨v', μ, he, ?_, ?_, hv⟩
    · have hframe : ∀ c, c < w.heap.size → w'.heap[c]? = w.heap[c]? := fun c hc => hpost.frame c hc (fun b p ez z h1 h2 h3 => by omega)
      exact ⟨hr.lt, hr.inj, fun b c p ez z hb => by rw [hframe c (hr.clt hb)]; exact hr.obj b c p ez z hb, hr.glob, hr.ded⟩
    · have hframe : ∀ c, c < w.heap.size → w'.heap[c]? = w.heap[c]? := fun c hc => hpost.frame c hc (fun b p ez z h1 h2 h3 => by omega)
      exact ⟨μ.le_refl, Nat.le_refl _, fun _ _ h => h, fun _ _ _ => ⟨rfl, rfl⟩, fun _ _ h => h, fun b c p ez z hb e => absurd (hr.lt b (by rw [e]; exact fun x => by cases x)) (by omega), fun b h1 h2 => by omega, hpost.size, fun c hc _ => hframe c hc, hpost.os, hpost.tape, hpost.output⟩

end

section
variable {P : Program} {T : Type} {enc : TypeId × Value → T}

theorem law_calls_tab {E : Env} {ts : List (List Int)} (hE : EnvOk P E) (hg : E.g0 = ts.length) {f : FuncId} {fn : Func} {n : Nat} {τs : List Ty} (hτ : fn.params.toList.mapM (tyOf P n) = some τs) {tb : TypeId} (hres : fn.resultTypes = #[tb]) (hb : P.underlying tb = some .bool)
    (hty : typesOk P fn = true) {s : ChangeSpec} (hvs : s.vars = []) (hfn : ∀ (T : Type) (ds : List (DataW T)), ds.length = τs.length → s.fn T ds = { results := [.lit (.bool true)], args := ds })
    (C : List PD → Prop)
    (hrun : ∀ (H : Heap) (css : List (List IV)) (ds : List PD), Ro H → Tabs ts H → Rds H τs css ds → C ds → ∃ n H', run E n (.call f (packs τs css)) H.n H = some (.val (.bool true), H'))
    {apart fresh handsOn : Bool} (W : World) (base : Nat) (args : Array Value) (ds gs : List (DataW T)) (before : List MemPlace)
    (hval : ∀ (j : Nat) t v, fn.params[j]? = some t → args[j]? = some v → Value.okWide P W .any base t v)
    (hW : DataW.Whole enc P fn.params.toList s.vars apart W args.toList ds gs before) (hT : TabW ts W) (hC : C (ds.map pdOf)) :
    Calls P f args W fun e W' => ∃ v, e = .returned v ∧ s.post enc P fn apart fresh handsOn false W args v W' := by
  have hW0 := hW
  obtain ⟨p, q, hA, hV, hpq, hfz, hnd⟩ := hW
  rw [hvs] at hV
  have hgs : gs = [] ∧ q = [] := by
    cases gs with
    | nil => exact ⟨rfl, hV⟩
    | cons g gs => exact hV.elim
  obtain ⟨rfl, rfl⟩ := hgs
  simp only [List.append_nil] at hpq
  subst hpq
  obtain ⟨μ0, hrel0, hro0, htab0, hn0⟩ := tab_start (P := P) hT
  obtain ⟨μ, H, css, a1, a2, _, hgrow, a5, a6⟩ := load_args (g0 := ts.length) (n := n) (base := base) (r := .any) _ _ _ _ _ hτ hA (fun j t v h1 h2 => hval j t v (by simpa using h1) (by simpa using h2)) μ0 (tabHeap ts emptyHeap) hrel0 hro0
  obtain ⟨m, H', hr⟩ := hrun H css _ a2 ⟨by have := hgrow.1; omega, fun i hi => hgrow.2 i _ (by omega) (htab0.2 i hi)⟩ a6 hC
  have hsim := run_sound hE hr
  rw [hg] at hsim
  refine (hsim μ W args a1 (by simpa using a5)).mono fun e W' ⟨v', μ', he, hrel, hpost, hv⟩ => ⟨v', he, ?_⟩
  have hv : v' = .bool true := hv
  subst hv
  simp only [typesOk, Bool.and_eq_true, List.all_eq_true, decide_eq_true_eq] at hty
  obtain ⟨⟨⟨hl, hm⟩, hz⟩, hps⟩ := hty
  have hframe : ∀ c, c < W.heap.size → W'.heap[c]? = W.heap[c]? := fun c hc => hpost.frame c hc (fun b p ez z h1 h2 => by omega)
  have hlen := (trodAll_length hA).2
  have hτl : τs.length = fn.params.toList.length := (mapM_get hτ).1
  have hf0 : s.fn T (ds ++ []) = { results := [.lit (.bool true)], args := ds } := by rw [List.append_nil]; exact hfn T ds (by rw [hlen, hτl])
  have hlt := DataW.TrodAll.lt hA
  have hz' : ∀ {t e : TypeId}, t < P.types.size → P.underlying t = some (.slice e) → 0 < P.cellsOf e := by
    intro t e ht hu
    have := hz t (List.mem_range.2 ht)
    rw [hu] at this
    simpa using this
  refine ⟨ds, [], before, [], before, [], hW0, ?_, ?_, ?_, ?_, fun h => by cases h⟩
  · rw [hf0, hres]
    refine ⟨[], [], ⟨1, ?_⟩, rfl, rfl⟩
    simp [DataW.trod, Value.cells, hb]
  · rw [hf0]
    refine trodAll_stays (kids_rows hl hm) hz' _ _ _ _ hps hA (fun x hx => ?_) (fun x hx => by simpa using hlt x hx)
    have := hlt x hx
    cases x with
    | cell b off => simp only [World.sameAt, World.cell?]; rw [hframe b this]
    | map b => exact hframe b this
  · rw [hvs, hf0]; rfl
  · refine World.keptBut_mono (fun p hp => hp.elim) (World.keptBut_none_iff.2 ⟨hpost.os, hpost.output, fun i hi => hframe i hi⟩)
end
end Go.Iso

/-
  Iso, part K2: operations, for the kernel.
-/
namespace Go.Iso

def wrapK (k : IntKind) (n : Int) : Int :=
  match k with
  | .i64 => match n with
    | .ofNat m => match Nat.blt m 9223372036854775808 with | true => n | false => IntKind.wrap k n
    | .negSucc m => match Nat.blt m 9223372036854775808 with | true => n | false => IntKind.wrap k n
  | _ => IntKind.wrap k n

theorem wrapK_eq (k : IntKind) (n : Int) : wrapK k n = k.wrap n := by
  cases k <;> try rfl
  unfold wrapK
  cases n with
  | ofNat m =>
    simp only
    split
    · rename_i h
      have h : m < 9223372036854775808 := by
        have := Nat.le_of_ble_eq_true h
        omega
      exact (IntWalk.i64_in (Int.ofNat m) (by simp only [Int.ofNat_eq_natCast]; omega)).symm
    · rfl
  | negSucc m =>
    simp only
    split
    · rename_i h
      have h : m < 9223372036854775808 := by
        have := Nat.le_of_ble_eq_true h
        omega
      exact (IntWalk.i64_in (Int.negSucc m) (by simp only [Int.negSucc_eq]; omega)).symm
    · rfl

theorem blt_eq (m n : Nat) : Nat.blt m n = decide (m < n) := by
  rw [Bool.eq_iff_iff, decide_eq_true_eq]
  exact ⟨fun h => Nat.le_of_ble_eq_true h, fun h => Nat.ble_eq_true_of_le h⟩

def ltK (a b : Int) : Bool :=
  match a with
  | .ofNat m => match b with | .ofNat n => Nat.blt m n | .negSucc _ => false
  | .negSucc m => match b with | .ofNat _ => true | .negSucc n => Nat.blt n m

theorem ltK_eq (a b : Int) : ltK a b = decide (a < b) := by
  unfold ltK
  cases a <;> cases b <;> simp only [blt_eq, Int.ofNat_eq_natCast, Int.negSucc_eq] <;> first | (rw [decide_eq_decide]; omega) | (rw [eq_comm, decide_eq_true_eq]; omega) | (rw [eq_comm, decide_eq_false_iff_not]; omega)

def leK (a b : Int) : Bool := !(ltK b a)
theorem leK_eq (a b : Int) : leK a b = decide (a ≤ b) := by
  unfold leK; rw [ltK_eq]
  by_cases h : b < a
  · have : ¬ a ≤ b := by omega
    simp [h, this]
  · have : a ≤ b := by omega
    simp [h, this]

def eqIK (a b : Int) : Bool :=
  match a with
  | .ofNat m => match b with | .ofNat n => Nat.beq m n | .negSucc _ => false
  | .negSucc m => match b with | .ofNat _ => false | .negSucc n => Nat.beq m n
theorem eqIK_eq (a b : Int) : eqIK a b = (a == b) := by
  rw [Bool.eq_iff_iff]
  unfold eqIK
  cases a <;> cases b <;> simp <;> omega

def ikK : IntKind → IntKind → Bool
  | .i64, .i64 => true
  | .u8, .u8 => true
  | a, b => decide (a = b)
theorem ikK_eq (a b : IntKind) : ikK a b = decide (a = b) := by cases a <;> cases b <;> rfl

def cmpK (op : BinOp) (k : IntKind) (a : Int) (b : Int) : Option IV :=
  match op with
  | .add => some (.int k (wrapK k (a + b)))
  | .sub => some (.int k (wrapK k (a - b)))
  | .eql => some (.bool (eqIK a b))
  | .neq => some (.bool !(eqIK a b))
  | .lss => some (.bool (ltK a b))
  | .leq => some (.bool (leK a b))
  | .gtr => some (.bool (ltK b a))
  | .geq => some (.bool (leK b a))
  | _ => binI op (.int k a) (.int k b)

def bin2K (op : BinOp) (k : IntKind) (a : Int) (k' : IntKind) (b : Int) : Option IV :=
  match ikK k k' with
  | true => cmpK op k a b
  | false => binI op (.int k a) (.int k' b)

def binK (op : BinOp) (x y : IV) : Option IV :=
  match x with
  | .int k a => match y with
    | .int k' b => bin2K op k a k' b
    | _ => binI op x y
  | _ => binI op x y

theorem binK_eq (op : BinOp) (x y : IV) : binK op x y = binI op x y := by
  unfold binK
  cases x <;> try rfl
  cases y <;> try rfl
  rename_i k a k' b
  simp only [bin2K]
  split
  · rename_i h
    rw [ikK_eq] at h
    have h : k = k' := by simpa using h
    subst h
    cases op <;> simp [cmpK, binI, wrapK_eq, ltK_eq, leK_eq, eqIK_eq, bne] 
  · rfl

def e_move  (xs : List IV) (lo : Nat) (H : Heap) : Option (IV × Heap) :=
  match xs with
    | [x] => some (x, H)
    | _ => none

def e_pick  (xs : List IV) (lo : Nat) (H : Heap) : Option (IV × Heap) :=
  match xs with
    | [.bool c, a, b] => some (if c then a else b, H)
    | _ => none

def e_alloc (e : Nat) (ez : Nat) (zs : List IV) (xs : List IV) (lo : Nat) (H : Heap) : Option (IV × Heap) :=
  match xs with
    | [] => some (.ptr H.n 0, H.new (.cells false e ez zs))
    | _ => none

def e_box (e : Nat) (ez : Nat) (xs : List IV) (lo : Nat) (H : Heap) : Option (IV × Heap) :=
  match xs with
    | [x] => some (.ptr H.n 0, H.new (.cells false e ez x.cells))
    | _ => none

def e_build (zs : List IV) (offs : List (Nat × Nat)) (xs : List IV) (lo : Nat) (H : Heap) : Option (IV × Heap) :=
  match xs with
    | xs => (fillI offs xs zs).map fun cs => (.agg cs, H)

def e_buildSl (e : Nat) (ez : Nat) (n : Nat) (zs : List IV) (offs : List (Nat × Nat)) (xs : List IV) (lo : Nat) (H : Heap) : Option (IV × Heap) :=
  match xs with
    | xs => (fillI offs xs zs).map fun cs => (.slice H.n 0 n n true, H.new (.cells false e ez cs))

def e_load (n : Option Nat) (xs : List IV) (lo : Nat) (H : Heap) : Option (IV × Heap) :=
  match xs with
    | [.ptr b o] => (H.read b o (n.getD 1)).bind fun cs => (mkAgg n cs).map fun v => (v, H)
    | _ => none

def e_store (n : Nat) (xs : List IV) (lo : Nat) (H : Heap) : Option (IV × Heap) :=
  match xs with
    | [.ptr b o, x] => if x.cells.length = n then (H.write lo b o x.cells).map fun H' => (IV.undef, H') else none
    | _ => none

def e_nilCheck  (xs : List IV) (lo : Nat) (H : Heap) : Option (IV × Heap) :=
  match xs with
    | [x] => match x with | .nilPtr | .nilIface | .nilFunc | .yield _ => none | x => some (x, H)
    | _ => none

def e_bin (op : BinOp) (xs : List IV) (lo : Nat) (H : Heap) : Option (IV × Heap) :=
  match xs with
    | [x, y] => (binK op x y).map (·, H)
    | _ => none

def e_eqBool (neg : Bool) (xs : List IV) (lo : Nat) (H : Heap) : Option (IV × Heap) :=
  match xs with
    | [.bool a, .bool b] => some (.bool (neg != (a == b)), H)
    | _ => none

def e_eqFlat (neg : Bool) (ds : List Pk) (xs : List IV) (lo : Nat) (H : Heap) : Option (IV × Heap) :=
  match xs with
    | [.agg x, .agg y] => (eqKs ds x y).map fun r => (.bool (neg != r), H)
    | _ => none

def e_eqNil (neg : Bool) (nk : Nk) (xs : List IV) (lo : Nat) (H : Heap) : Option (IV × Heap) :=
  match xs with
    | [x, y] =>
      match nilI nk x, nilI nk y with
      | some true, some r => some (.bool (neg != r), H)
      | some r, some true => some (.bool (neg != r), H)
      | _, _ => none
    | _ => none

def e_un (op : UnOp) (xs : List IV) (lo : Nat) (H : Heap) : Option (IV × Heap) :=
  match xs with
    | [x] => (unI op x).map (·, H)
    | _ => none

def e_conv (k : IntKind) (xs : List IV) (lo : Nat) (H : Heap) : Option (IV × Heap) :=
  match xs with
    | [.int _ n] => some (.int k (k.wrap n), H)
    | _ => none

def e_iface (t : TypeId) (xs : List IV) (lo : Nat) (H : Heap) : Option (IV × Heap) :=
  match xs with
    | [x] => some (.iface t x, H)
    | _ => none

def e_mkfn (f : FuncId) (k : Nat) (xs : List IV) (lo : Nat) (H : Heap) : Option (IV × Heap) :=
  match xs with
    | xs => some (.fn f (xs.take k) (xs.drop k), H)

def e_rangeM (xs : List IV) (lo : Nat) (H : Heap) : Option (IV × Heap) :=
  match xs with
    | [.nilMap] => some (.ptr H.n 0, H.new (.iter none 0 [] 0))
    | [.map b] => (mapAt H b).map fun p => (.ptr H.n 0, H.new (.iter (some b) p.2 [] p.2))
    | _ => none

def e_entryM (xs : List IV) (lo : Nat) (H : Heap) : Option (IV × Heap) :=
  match xs with
    | [.ptr r 0] => (entryI H r).map (·, H)
    | _ => none

def e_nextM (xs : List IV) (lo : Nat) (H : Heap) : Option (IV × Heap) :=
  match xs with
    | [.ptr r 0] => if lo ≤ r then (stepM H r).map fun p => (p.1, match p.2 with | none => H | some o => H.put r o) else none
    | _ => none

def e_mkmap  (xs : List IV) (lo : Nat) (H : Heap) : Option (IV × Heap) :=
  match xs with
    | [] => some (.map H.n, H.new (.map [] 0))
    | [.int _ _] => some (.map H.n, H.new (.map [] 0))
    | _ => none

def e_mksl (e : Nat) (ez : Nat) (bytes : Nat) (zs : List IV) (xs : List IV) (lo : Nat) (H : Heap) : Option (IV × Heap) :=
  match xs with
    | [.int _ l, .int _ c] =>
      if 0 ≤ l ∧ l ≤ c ∧ c * (bytes + 1) ≤ 2 ^ 40 then
        some (.slice H.n 0 l.toNat c.toNat true, H.new (.cells false e ez (rep c.toNat zs)))
      else none
    | _ => none

def e_slc (size : Nat) (lo : Bool) (hi : Bool) (mx : Bool) (xs : List IV) (lo0 : Nat) (H : Heap) : Option (IV × Heap) :=
  match xs with
    | s :: l =>
      match s with
      | .nilSlice => (boundsI 0 0 lo hi mx l).bind fun (a, b, _) => if a = 0 ∧ b = 0 then some (.nilSlice, H) else none
      | .slice b o len lb ex =>
        if ex || ezAt H b size then
          (boundsI len lb lo hi mx l).map fun (a, h, m) =>
            match m with
            | some m => (.slice b (o + a * size) (h - a) (m - a) true, H)
            | none => (.slice b (o + a * size) (h - a) (lb - a) ex, H)
        else none
      | _ => none
    | _ => none

def e_slcStr (lo : Bool) (hi : Bool) (xs : List IV) (lo0 : Nat) (H : Heap) : Option (IV × Heap) :=
  match xs with
    | .str s :: l =>
      (boundsI s.length s.length lo hi false l).map fun (a, h, _) => (.str ((s.drop a).take (h - a)), H)
    | _ => none

def e_slcArr (_ : Nat) (n : Nat) (size : Nat) (lo : Bool) (hi : Bool) (mx : Bool) (xs : List IV) (lo0 : Nat) (H : Heap) : Option (IV × Heap) :=
  match xs with
    | .ptr b o :: l =>
      (boundsI n n lo hi mx l).bind fun (a, h, m) => if 0 < n ∧ n ≤ 2 ^ 40 then
        some (.slice b (o + a * size) (h - a) (m.getD n - a) true, H) else none
    | _ => none

def e_fieldAddr (off : Nat) (xs : List IV) (lo : Nat) (H : Heap) : Option (IV × Heap) :=
  match xs with
    | [.ptr b o] => some (.ptr b (o + off), H)
    | _ => none

def e_field (off : Nat) (n : Option Nat) (xs : List IV) (lo : Nat) (H : Heap) : Option (IV × Heap) :=
  match xs with
    | [.agg cs] => if off + n.getD 1 ≤ cs.length then (mkAgg n ((cs.drop off).take (n.getD 1))).map fun v => (v, H) else none
    | _ => none

def e_idxSl (size : Nat) (xs : List IV) (lo : Nat) (H : Heap) : Option (IV × Heap) :=
  match xs with
    | [.slice b o len _ _, .int _ i] => if 0 ≤ i ∧ i < (len : Int) then some (.ptr b (o + i.toNat * size), H) else none
    | _ => none

def e_idxArrAddr (len : Nat) (size : Nat) (xs : List IV) (lo : Nat) (H : Heap) : Option (IV × Heap) :=
  match xs with
    | [.ptr b o, .int _ i] => if 0 ≤ i ∧ i < (len : Int) then some (.ptr b (o + i.toNat * size), H) else none
    | _ => none

def e_idxArr (len : Nat) (size : Nat) (n : Option Nat) (xs : List IV) (lo : Nat) (H : Heap) : Option (IV × Heap) :=
  match xs with
    | [.agg cs, .int _ i] =>
      if 0 ≤ i ∧ i < (len : Int) ∧ i.toNat * size + n.getD 1 ≤ cs.length then (mkAgg n ((cs.drop (i.toNat * size)).take (n.getD 1))).map fun v => (v, H) else none
    | _ => none

def e_idxStr  (xs : List IV) (lo : Nat) (H : Heap) : Option (IV × Heap) :=
  match xs with
    | [.str s, .int _ i] => if 0 ≤ i then (s[i.toNat]?).map fun c => (.int .u8 c.toNat, H) else none
    | _ => none

def e_lookup (_ : TypeId) (ky : Bool × List Pk) (zero : IV) (ok : Bool) (xs : List IV) (lo : Nat) (H : Heap) : Option (IV × Heap) :=
  match xs with
    | [m, k] =>
      match (match m with | .nilMap => some [] | .map b => (mapAt H b).map (·.1) | _ => none) with
      | none => none
      | some es =>
        if keyOk ky k then
          match findI ky k es 0 with
          | none => none
          | some r =>
            let (v, there) : IV × Bool := match r with | some (_, v) => (v, true) | none => (zero, false)
            some (if ok then .tuple [v, .bool there] else v, H)
        else none
    | _ => none

def e_mapUpd (ky : Bool × List Pk) (xs : List IV) (lo : Nat) (H : Heap) : Option (IV × Heap) :=
  match xs with
    | [.map b, k, v] =>
      match mapAt H b with
      | none => none
      | some (es, clock) =>
        if lo ≤ b ∧ keyOk ky k then
          match findI ky k es 0 with
          | none => none
          | some (some (i, _)) => some (IV.undef, H.put b (.map (setVal k v es i) clock))
          | some none => some (IV.undef, H.put b (.map (es ++ [(k, v, clock)]) (clock + 1)))
        else none
    | _ => none

def e_mapEntry (_ : TypeId) (ky : Bool × List Pk) (zero : IV) (xs : List IV) (lo : Nat) (H : Heap) : Option (IV × Heap) :=
  match xs with
    | [.map b, k] =>
      match mapAt H b with
      | none => none
      | some (es, clock) =>
        if lo ≤ b ∧ keyOk ky k then
          match findI ky k es 0 with
          | none => none
          | some (some (i, v)) => (es[i]?).map fun e => (.tuple [v, .int .i64 e.2.2], H.put b (.map (setVal k v es i) clock))
          | some none => some (.tuple [zero, .int .i64 clock], H.put b (.map (es ++ [(k, zero, clock)]) (clock + 1)))
        else none
    | _ => none

def e_entryStore  (xs : List IV) (lo : Nat) (H : Heap) : Option (IV × Heap) :=
  match xs with
    | [.map b, .int _ s, v] =>
      match mapAt H b with
      | none => none
      | some (es, clock) => if lo ≤ b then (setBorn v s es).map fun es' => (IV.undef, H.put b (.map es' clock)) else none
    | _ => none

def e_delete (ky : Bool × List Pk) (xs : List IV) (lo : Nat) (H : Heap) : Option (IV × Heap) :=
  match xs with
    | [.map b, k] =>
      match mapAt H b with
      | none => none
      | some (es, clock) =>
        if lo ≤ b ∧ keyOk ky k then
          match findI ky k es 0 with
          | none => none
          | some (some (i, _)) => some (IV.undef, H.put b (.map (eraseAt es i) clock))
          | some none => some (IV.undef, H)
        else none
    | _ => none

def e_lenSl  (xs : List IV) (lo : Nat) (H : Heap) : Option (IV × Heap) :=
  match xs with
    | [x] => match x with | .nilSlice => some (.int .i64 0, H) | .slice _ _ n _ _ => some (.int .i64 n, H) | _ => none
    | _ => none

def e_lenStr  (xs : List IV) (lo : Nat) (H : Heap) : Option (IV × Heap) :=
  match xs with
    | [.str s] => some (.int .i64 s.length, H)
    | _ => none

def e_lenArr (n : Nat) (xs : List IV) (lo : Nat) (H : Heap) : Option (IV × Heap) :=
  match xs with
    | [_] => some (.int .i64 n, H)
    | _ => none

def e_lenMap  (xs : List IV) (lo : Nat) (H : Heap) : Option (IV × Heap) :=
  match xs with
    | [m] => match m with | .nilMap => some (.int .i64 0, H) | .map b => (mapAt H b).map fun (es, _) => (.int .i64 es.length, H) | _ => none
    | _ => none

def e_cap  (xs : List IV) (lo : Nat) (H : Heap) : Option (IV × Heap) :=
  match xs with
    | [x] => match x with | .nilSlice => some (.int .i64 0, H) | .slice _ _ _ c true => some (.int .i64 c, H) | _ => none
    | _ => none

def e_append (e : Nat) (size : Nat) (bytes : Nat) (xs : List IV) (lo : Nat) (H : Heap) : Option (IV × Heap) :=
  match xs with
    | [s, x] => (lenI x).bind fun n => (srcI H size n x).bind fun xs => appendI e size bytes s xs n lo H
    | _ => none

def e_copy (size : Nat) (xs : List IV) (lo : Nat) (H : Heap) : Option (IV × Heap) :=
  match xs with
    | [d, s] =>
      match dstLen d, lenI s with
      | some n, some m =>
        let k := Min.min m n
        if k = 0 then some (.int .i64 0, H)
        else (srcI H size k s).bind fun xs =>
          match d with
          | .slice b o _ _ _ => (H.write lo b o xs).map fun H' => (.int .i64 k, H')
          | _ => none
      | _, _ => none
    | _ => none

def e_min  (xs : List IV) (lo : Nat) (H : Heap) : Option (IV × Heap) :=
  match xs with
    | [.int k a, .int k' b] => if k = k' then some (.int k (if b < a then b else a), H) else none
    | _ => none

def e_max  (xs : List IV) (lo : Nat) (H : Heap) : Option (IV × Heap) :=
  match xs with
    | [.int k a, .int k' b] => if k = k' then some (.int k (if b > a then b else a), H) else none
    | _ => none

def e_clear (zs : List IV) (xs : List IV) (lo : Nat) (H : Heap) : Option (IV × Heap) :=
  match xs with
    | [x] =>
      match x with
      | .nilSlice => some (.tuple [], H)
      | .slice b o n _ _ => if n = 0 then some (.tuple [], H) else (H.write lo b o (rep n zs)).map fun H' => (.tuple [], H')
      | _ => none
    | _ => none

def e_appendZ (e : Nat) (size : Nat) (bytes : Nat) (zs : List IV) (xs : List IV) (lo : Nat) (H : Heap) : Option (IV × Heap) :=
  match xs with
    | [s, .int _ n] =>
      if 0 ≤ n ∧ n * (bytes + 1) ≤ 2 ^ 40 then appendI e size bytes s (rep n.toNat zs) n.toNat lo H else none
    | _ => none

def e_strOf  (xs : List IV) (lo : Nat) (H : Heap) : Option (IV × Heap) :=
  match xs with
    | [x] =>
      match x with
      | .nilSlice => some (.str [], H)
      | .slice b o n _ _ => if n = 0 then some (.str [], H) else (H.read b o n).bind fun cs => (bytesI cs).map fun s => (.str s, H)
      | _ => none
    | _ => none

def e_extract (i : Nat) (xs : List IV) (lo : Nat) (H : Heap) : Option (IV × Heap) :=
  match xs with
    | [.tuple l] => (l[i]?).map (·, H)
    | _ => none

def e_call  (xs : List IV) (lo : Nat) (H : Heap) : Option (IV × Heap) :=
  none



def ev1K (kd : Kd) (xs : List IV) (lo : Nat) (H : Heap) : Option (IV × Heap) :=
  match kd with
  | .move  => e_move  xs lo H
  | .pick  => e_pick  xs lo H
  | .alloc a0 a1 a2 => e_alloc a0 a1 a2 xs lo H
  | .box a0 a1 => e_box a0 a1 xs lo H
  | .build a0 a1 => e_build a0 a1 xs lo H
  | .buildSl a0 a1 a2 a3 a4 => e_buildSl a0 a1 a2 a3 a4 xs lo H
  | .load a0 => e_load a0 xs lo H
  | .store a0 => e_store a0 xs lo H
  | .nilCheck  => e_nilCheck  xs lo H
  | .bin a0 => e_bin a0 xs lo H
  | .eqBool a0 => e_eqBool a0 xs lo H
  | .eqFlat a0 a1 => e_eqFlat a0 a1 xs lo H
  | .eqNil a0 a1 => e_eqNil a0 a1 xs lo H
  | .un a0 => e_un a0 xs lo H
  | .conv a0 => e_conv a0 xs lo H
  | .iface a0 => e_iface a0 xs lo H
  | .mkfn a0 a1 => e_mkfn a0 a1 xs lo H
  | .mkmap  => e_mkmap  xs lo H
  | .mksl a0 a1 a2 a3 => e_mksl a0 a1 a2 a3 xs lo H
  | .slc a0 a1 a2 a3 => e_slc a0 a1 a2 a3 xs lo H
  | .slcStr a0 a1 => e_slcStr a0 a1 xs lo H
  | .slcArr a0 a1 a2 a3 a4 a5 => e_slcArr a0 a1 a2 a3 a4 a5 xs lo H
  | .fieldAddr a0 => e_fieldAddr a0 xs lo H
  | .field a0 a1 => e_field a0 a1 xs lo H
  | .idxSl a0 => e_idxSl a0 xs lo H
  | .idxArrAddr a0 a1 => e_idxArrAddr a0 a1 xs lo H
  | .idxArr a0 a1 a2 => e_idxArr a0 a1 a2 xs lo H
  | .idxStr  => e_idxStr  xs lo H
  | .lookup a0 a1 a2 a3 => e_lookup a0 a1 a2 a3 xs lo H
  | .mapUpd a0 => e_mapUpd a0 xs lo H
  | .mapEntry a0 a1 a2 => e_mapEntry a0 a1 a2 xs lo H
  | .entryStore  => e_entryStore  xs lo H
  | .delete a0 => e_delete a0 xs lo H
  | .lenSl  => e_lenSl  xs lo H
  | .lenStr  => e_lenStr  xs lo H
  | .lenArr a0 => e_lenArr a0 xs lo H
  | .lenMap  => e_lenMap  xs lo H
  | .cap  => e_cap  xs lo H
  | .append a0 a1 a2 => e_append a0 a1 a2 xs lo H
  | .copy a0 => e_copy a0 xs lo H
  | .min  => e_min  xs lo H
  | .max  => e_max  xs lo H
  | .clear a0 => e_clear a0 xs lo H
  | .appendZ a0 a1 a2 a3 => e_appendZ a0 a1 a2 a3 xs lo H
  | .strOf  => e_strOf  xs lo H
  | .rangeM => e_rangeM xs lo H
  | .nextM => e_nextM xs lo H
  | .entryM => e_entryM xs lo H
  | .extract a0 => e_extract a0 xs lo H
  | .call  => e_call  xs lo H

theorem ev1K_eq (kd : Kd) (xs : List IV) (lo : Nat) (H : Heap) : ev1K kd xs lo H = ev1 kd xs lo H := by
  cases kd <;> first | rfl | (simp only [ev1K, e_bin, ev1, binK_eq]; rfl)
end Go.Iso

/-
  Iso, part K1: the evaluator cut into small pieces, for the kernel.
-/
namespace Go.Iso

abbrev Rec := Task → Nat → Heap → Option (Out × Heap)

def Kd.isCall : Kd → Bool
  | .call => true
  | _ => false

def onNormal (k : Fr → Heap → Option (Out × Heap)) (r : Option (Out × Heap)) : Option (Out × Heap) :=
  match r with
  | none => none
  | some p => match p.1 with
    | .val _ => r
    | .ex e fr => match e with
      | .normal => k fr p.2
      | .jmp _ => r

def onVal (k : IV → Heap → Option (Out × Heap)) (r : Option (Out × Heap)) : Option (Out × Heap) :=
  match r with
  | none => none
  | some p => match p.1 with
    | .val v => k v p.2
    | .ex _ _ => none

def onOp (k : IV → Heap → Option (Out × Heap)) (r : Option (IV × Heap)) : Option (Out × Heap) :=
  match r with
  | none => none
  | some p => k p.1 p.2

def blockK (id : Nat) (r : Option (Out × Heap)) : Option (Out × Heap) :=
  match r with
  | none => none
  | some p => match p.1 with
    | .val _ => r
    | .ex e fr => match e with
      | .normal => r
      | .jmp j => match j with
        | .ret => r
        | .exit id' => some (.ex (if id' = id then .normal else .jmp (.exit id')) fr, p.2)

def condK (rec : Rec) (a b : IC) (rd : Option Nat) (fr : Fr) (lo : Nat) (H : Heap) (c : Option IV) : Option (Out × Heap) :=
  match c with
  | none => none
  | some v => match v with
    | .bool x => match x with
      | true => rec (.code a rd fr) lo H
      | false => rec (.code b rd fr) lo H
    | _ => none

def rfnEnd (l : Nat) (lo : Nat) (marks : List Nat) (fr : Fr) (_ : IV) (H2 : Heap) : Option (Out × Heap) :=
  match H2.get l with
  | some (.loop st pend tm ps asg body df) =>
    if st = .busy ∨ l < lo then none
    else
      match pend with
      | none => some (.ex .normal { fr with marks := marks ++ fr.marks }, H2.put l (.loop .exhausted pend tm ps asg body df))
      | some j => some (.ex (.jmp j) { fr with marks := marks ++ fr.marks }, H2.put l (.loop .exhausted pend tm ps asg body df))
  | _ => none

def rfnK (rec : Rec) (ps : List Nat) (asg body : IC) (fr : Fr) (lo : Nat) (g : Option IV) (en : Option (Nat × List Nat × Heap)) : Option (Out × Heap) :=
  match g with
  | none => none
  | some g => match en with
    | none => none
    | some e => onVal (rfnEnd e.2.2.n lo e.2.1 fr) (rec (.apply g [.yield e.2.2.n]) lo (e.2.2.new (.loop .ready none fr.tm ps asg body e.1)))

def codeK (g0 : Nat) (rec : Rec) (c : IC) (rd : Option Nat) (fr : Fr) (lo : Nat) (H : Heap) : Option (Out × Heap) :=
  match c with
  | .skip => some (.ex .normal fr, H)
  | .exit id => some (.ex (.jmp (.exit id)) fr, H)
  | .ret => some (.ex (.jmp .ret) fr, H)
  | .ops l => rec (.segs l rd fr) lo H
  | .seq a b => onNormal (fun fr' H' => rec (.code b rd fr') lo H') (rec (.code a rd fr) lo H)
  | .cond c a b => condK rec a b rd fr lo H (c.eval g0 fr.tm)
  | .block id c => blockK id (rec (.code c rd fr) lo H)
  | .loop c => onNormal (fun fr' H' => rec (.code (.loop c) rd fr') lo H') (rec (.code c rd fr) lo H)
  | .scope c => rec (.code c rd fr) lo H
  | .rfn f ps asg body => rfnK rec ps asg body fr lo (f.eval g0 fr.tm) (enterI rd H)

def segsEnd (rec : Rec) (l : List (Sg × List IOp)) (rd : Option Nat) (lo : Nat) (r : Option (Out × Heap)) : Option (Out × Heap) :=
  match r with
  | none => none
  | some p => match p.1 with
    | .val _ => none
    | .ex e fr => match e with
      | .normal => rec (.segs l rd fr) lo p.2
      | .jmp _ => none

def segsK (rec : Rec) (l : List (Sg × List IOp)) (rd : Option Nat) (fr : Fr) (lo : Nat) (H : Heap) : Option (Out × Heap) :=
  match l with
  | [] => some (.ex .normal fr, H)
  | x :: l => segsEnd rec l rd lo (rec (.ops (match x.1 with | .seq => none | .free => some []) x.2 rd fr) lo H)

def callK (rec : Rec) (xs : List IV) (lw : Nat) (H : Heap) : Option (Out × Heap) :=
  match xs with
  | [] => none
  | f :: xs => rec (.apply f xs) lw H

def opDo (rec : Rec) (o : IOp) (l : List IOp) (rd : Option Nat) (fr : Fr) (lo : Nat) (H : Heap) (free' : Option Free) (xs : List IV) (lw : Nat) : Bool → Option (Out × Heap)
  | true => onVal (fun v H' => rec (.ops free' l rd (fr.put o.dst v)) lo H') (callK rec xs lw H)
  | false => onOp (fun v H' => rec (.ops free' l rd (fr.put o.dst v)) lo H') (ev1K o.kd xs lw H)

def opArgs (rec : Rec) (free : Option Free) (o : IOp) (l : List IOp) (rd : Option Nat) (fr : Fr) (lo : Nat) (H : Heap) (xs : Option (List IV)) : Option (Out × Heap) :=
  match xs with
  | none => none
  | some xs => match nextOf free o xs with
    | none => none
    | some free' => opDo rec o l rd fr lo H free' xs (lowOf free o lo H) o.kd.isCall

def opsK (g0 : Nat) (rec : Rec) (free : Option Free) (l : List IOp) (rd : Option Nat) (fr : Fr) (lo : Nat) (H : Heap) : Option (Out × Heap) :=
  match l with
  | [] => some (.ex .normal fr, H)
  | o :: l => match wantedI fr.tm o.guard with
    | true => opArgs rec free o l rd fr lo H (evalAll g0 fr.tm o.args)
    | false => rec (.ops free l rd (fr.put o.dst IV.undef)) lo H

def yieldEnd (l : Nat) (r : Option (Out × Heap)) : Option (Out × Heap) :=
  match r with
  | none => none
  | some p => match p.1 with
    | .val _ => none
    | .ex e _ => endI l e p.2

def yieldBody (rec : Rec) (l : Nat) (body : IC) (lo : Nat) (r : Option (Out × Heap)) : Option (Out × Heap) :=
  match r with
  | none => none
  | some p => match p.1 with
    | .val _ => none
    | .ex e fr => match e with
      | .jmp _ => none
      | .normal => match beginI l p.2 with
        | none => none
        | some H2 => yieldEnd l (rec (.code body (some l) fr) lo H2)

def yieldK (rec : Rec) (l : Nat) (args : List IV) (lo : Nat) (H : Heap) : Option (Out × Heap) :=
  match H.get l with
  | some (.loop _ _ tm ps asg body _) =>
    if args.length = ps.length ∧ lo ≤ l then yieldBody rec l body lo (rec (.code asg (some l) ⟨setAll tm ps args, []⟩) lo H) else none
  | _ => none

def applyK (rec : Rec) (f : IV) (args : List IV) (lo : Nat) (H : Heap) : Option (Out × Heap) :=
  match f with
  | .fn f first cap => rec (.call f (first ++ args ++ cap)) lo H
  | .yield l => yieldK rec l args lo H
  | _ => none

def leaveK (fn : IFn) (lo : Nat) (fr : Fr) (H' : Heap) : Option (Out × Heap) :=
  match unmark lo fr.marks H' with
  | none => none
  | some H'' => (resultsOf H'' fr.tm fn.results).map fun vs => (.val (tupled vs), H'')

def retK (fn : IFn) (lo : Nat) (r : Option (Out × Heap)) : Option (Out × Heap) :=
  match r with
  | none => none
  | some p => match p.1 with
    | .val _ => none
    | .ex e fr => match e with
      | .normal => leaveK fn lo fr p.2
      | .jmp j => match j with
        | .ret => leaveK fn lo fr p.2
        | .exit _ => none

def fnK (rec : Rec) (args : List IV) (lo : Nat) (H : Heap) (fn : Option IFn) : Option (Out × Heap) :=
  match fn with
  | none => none
  | some fn => retK fn lo (rec (.code fn.body none ⟨args ++ undefs (fn.ntmps - args.length), []⟩) lo H)

def callfK (E : Env) (rec : Rec) (f : FuncId) (args : List IV) (lo : Nat) (H : Heap) : Option (Out × Heap) :=
  match E.sums f with
  | some s => (s args lo H).map fun (v, H') => (.val v, H')
  | none => fnK rec args lo H (E.fns f)

def stepK (E : Env) (rec : Rec) : Rec := fun t lo H =>
  match t with
  | .code c rd fr => codeK E.g0 rec c rd fr lo H
  | .segs l rd fr => segsK rec l rd fr lo H
  | .ops free l rd fr => opsK E.g0 rec free l rd fr lo H
  | .apply f args => applyK rec f args lo H
  | .call f args => callfK E rec f args lo H

def runK (E : Env) (n : Nat) : Rec := Nat.rec (fun _ _ _ => none) (fun _ ih => stepK E ih) n

theorem runK_succ (E : Env) (n : Nat) : runK E (n + 1) = stepK E (runK E n) := rfl

theorem runK_eq (E : Env) : ∀ (n : Nat) (t : Task) (lo : Nat) (H : Heap), runK E n t lo H = run E n t lo H := by
  intro n
  induction n with
  | zero => intro t lo H; rfl
  | succ n ih =>
    intro t lo H
    have e : runK E n = run E n := by funext t lo H; exact ih t lo H
    rw [runK_succ, e]
    cases t with
    | code c rd fr =>
      cases c with
      | skip => rfl
      | exit id => rfl
      | ret => rfl
      | ops l => rfl
      | scope c => rfl
      | seq a b =>
        simp only [stepK, codeK, run, onNormal]
        cases run E n (.code a rd fr) lo H with
        | none => rfl
        | some p =>
          obtain ⟨o, H1⟩ := p
          cases o with
          | val v => rfl
          | ex e fr => cases e <;> rfl
      | cond c a b =>
        simp only [stepK, codeK, run, condK]
        cases c.eval E.g0 fr.tm with
        | none => rfl
        | some v => cases v <;> first | rfl | (rename_i b; cases b <;> rfl)
      | block id c =>
        simp only [stepK, codeK, run, blockK]
        cases run E n (.code c rd fr) lo H with
        | none => rfl
        | some p =>
          obtain ⟨o, H1⟩ := p
          cases o with
          | val v => rfl
          | ex e fr => cases e with
            | normal => rfl
            | jmp j => cases j <;> rfl
      | loop c =>
        simp only [stepK, codeK, run, onNormal]
        cases run E n (.code c rd fr) lo H with
        | none => rfl
        | some p =>
          obtain ⟨o, H1⟩ := p
          cases o with
          | val v => rfl
          | ex e fr => cases e <;> rfl
      | rfn f ps asg body =>
        simp only [stepK, codeK, run, rfnK]
        cases f.eval E.g0 fr.tm with
        | none => rfl
        | some g =>
          cases enterI rd H with
          | none => rfl
          | some e =>
            obtain ⟨df, marks, H1⟩ := e
            simp only [onVal]
            cases run E n (.apply g [.yield H1.n]) lo (H1.new (.loop .ready none fr.tm ps asg body df)) with
            | none => rfl
            | some p =>
              obtain ⟨o, H2⟩ := p
              cases o with
              | ex e fr => rfl
              | val v =>
                simp only [rfnEnd]
                cases H2.get H1.n with
                | none => rfl
                | some ob => cases ob with
                  | loop st pend tm ps asg body df => cases pend <;> rfl
                  | _ => rfl
    | segs l rd fr =>
      cases l with
      | nil => rfl
      | cons x l =>
        obtain ⟨k, os⟩ := x
        simp only [stepK, segsK, run, segsEnd]
        cases run E n (.ops (match k with | .seq => none | .free => some []) os rd fr) lo H with
        | none => rfl
        | some p =>
          obtain ⟨o, H1⟩ := p
          cases o with
          | val v => rfl
          | ex e fr => cases e <;> rfl
    | ops free l rd fr =>
      cases l with
      | nil => rfl
      | cons o l =>
        simp only [stepK, opsK, run]
        cases wantedI fr.tm o.guard with
        | false => rfl
        | true =>
          simp only [if_true, opArgs]
          cases evalAll E.g0 fr.tm o.args with
          | none => rfl
          | some xs =>
            simp only
            cases nextOf free o xs with
            | none => rfl
            | some free' =>
              simp only
              obtain ⟨dst, kd, args, guard, amb, idx, mask⟩ := o
              cases kd with
              | call =>
                simp only [Kd.isCall, opDo, callK]
                cases xs with
                | nil => rfl
                | cons f xs =>
                  simp only [onVal]
                  cases run E n (.apply f xs) (lowOf free _ lo H) H with
                  | none => rfl
                  | some p =>
                    obtain ⟨o, H1⟩ := p
                    cases o <;> rfl
              | _ =>
                simp only [Kd.isCall, opDo, onOp, ev1K_eq]
                split <;> simp_all
    | apply f args =>
      cases f with
      | fn f first cap => rfl
      | yield l =>
        simp only [stepK, applyK, run, yieldK]
        cases H.get l with
        | none => rfl
        | some ob => cases ob with
          | loop st pend tm ps asg body df =>
            simp only
            split
            · simp only [yieldBody]
              cases run E n (.code asg (some l) ⟨setAll tm ps args, []⟩) lo H with
              | none => rfl
              | some p =>
                obtain ⟨o, H1⟩ := p
                cases o with
                | val v => rfl
                | ex e fr => cases e with
                  | jmp j => rfl
                  | normal =>
                    simp only
                    cases beginI l H1 with
                    | none => rfl
                    | some H2 =>
                      simp only [yieldEnd]
                      cases run E n (.code body (some l) fr) lo H2 with
                      | none => rfl
                      | some p =>
                        obtain ⟨o, H3⟩ := p
                        cases o <;> rfl
            · rfl
          | _ => rfl
      | _ => rfl
    | call f args =>
      simp only [stepK, callfK, run]
      cases E.sums f with
      | some s => rfl
      | none =>
        simp only [fnK]
        cases E.fns f with
        | none => rfl
        | some fn =>
          simp only [retK]
          cases run E n (.code fn.body none ⟨args ++ undefs (fn.ntmps - args.length), []⟩) lo H with
          | none => rfl
          | some p =>
            obtain ⟨o, H1⟩ := p
            cases o with
            | val v => rfl
            | ex e fr => cases e with
              | normal => rfl
              | jmp j => cases j <;> rfl

end Go.Iso

/-
  Iso, part K3: operations as changes of the heap.
-/
namespace Go.Iso

/-- What an operation does to the heap. -/
inductive D where
  | same
  | put (b : Nat) (o : IObj)
  | new (o : IObj)
  | kill (b : Nat) (o : IObj)

def D.app (H : Heap) : D → Heap
  | .same => H
  | .put b o => H.put b o
  | .new o => H.new o
  | .kill b o => (H.put b .dead).new o

def writeD (H : Heap) (lo b o : Nat) (vs : List IV) : Option D :=
  match H.get b with
  | some (.cells false e ez cs) => if lo ≤ b ∧ o + vs.length ≤ cs.length ∧ vs.all IV.one then some (.put b (.cells false e ez (splice cs o vs))) else none
  | _ => none

theorem writeD_eq (H : Heap) (lo b o : Nat) (vs : List IV) : (writeD H lo b o vs).map (D.app H) = H.write lo b o vs := by
  unfold writeD Heap.write
  cases H.get b with
  | none => rfl
  | some ob =>
    cases ob with
    | cells ro e ez cs =>
      cases ro with
      | true => rfl
      | false =>
        simp only
        split <;> rfl
    | _ => rfl

def dapp (H : Heap) (p : IV × D) : IV × Heap := (p.1, p.2.app H)

theorem writeD_map (H : Heap) (lo b o : Nat) (vs : List IV) (v : IV) : ((writeD H lo b o vs).map fun d => (v, d)).map (dapp H) = (H.write lo b o vs).map fun H' => (v, H') := by
  rw [← writeD_eq]
  cases writeD H lo b o vs <;> rfl

def appendD (e size bytes : Nat) (s : IV) (xs : List IV) (n lo : Nat) (H : Heap) : Option (IV × D) :=
  if xs.all IV.one = false then none else
    match s with
    | .nilSlice =>
      if n = 0 then some (.nilSlice, .same)
      else if n * (bytes + 1) ≤ 2 ^ 40 then some (.slice H.n 0 n n false, .new (.cells false e size xs))
      else none
    | .slice b o len lb ex =>
      if n = 0 then some (.slice b o len lb ex, .same)
      else if len + n ≤ lb then (writeD H lo b (o + len * size) xs).map fun H' => (.slice b o (len + n) lb ex, H')
      else if (len + n) * (bytes + 1) ≤ 2 ^ 40 then
        if ex then (srcI H size len s).map fun old => (.slice H.n 0 (len + n) (len + n) false, .new (.cells false e size (old ++ xs)))
        else
          match H.get b with
          | some (.cells false e' ez cs) =>
            if e' = e ∧ ez = size ∧ 0 < size ∧ o = 0 ∧ lo ≤ b ∧ len * size ≤ cs.length then
              some (.slice H.n 0 (len + n) (len + n) false, .kill b (.cells false e size (cs.take (len * size) ++ xs)))
            else none
          | _ => none
      else none
    | _ => none

theorem appendD_eq (e size bytes : Nat) (s : IV) (xs : List IV) (n lo : Nat) (H : Heap) : (appendD e size bytes s xs n lo H).map (dapp H) = appendI e size bytes s xs n lo H := by
  unfold appendD appendI
  split
  · rfl
  · cases s with
    | nilSlice => simp only; repeat' split
                  all_goals rfl
    | slice b o len lb ex =>
      simp only
      split
      · rfl
      · split
        · exact writeD_map _ _ _ _ _ _
        · split
          · split
            · cases srcI H size len (.slice b o len lb ex) <;> rfl
            · cases H.get b with
              | none => rfl
              | some ob =>
                cases ob with
                | cells ro e' ez cs =>
                  cases ro with
                  | true => rfl
                  | false => simp only; split <;> rfl
                | _ => rfl
          · rfl
    | _ => rfl

def d_alloc (e : Nat) (ez : Nat) (zs : List IV) (xs : List IV) (lo : Nat) (H : Heap) : Option (IV × D) :=
  match xs with
    | [] => some (.ptr H.n 0, D.new (.cells false e ez zs))
    | _ => none

def d_box (e : Nat) (ez : Nat) (xs : List IV) (lo : Nat) (H : Heap) : Option (IV × D) :=
  match xs with
    | [x] => some (.ptr H.n 0, D.new (.cells false e ez x.cells))
    | _ => none

def d_buildSl (e : Nat) (ez : Nat) (n : Nat) (zs : List IV) (offs : List (Nat × Nat)) (xs : List IV) (lo : Nat) (H : Heap) : Option (IV × D) :=
  match xs with
    | xs => (fillI offs xs zs).map fun cs => (.slice H.n 0 n n true, D.new (.cells false e ez cs))

def d_store (n : Nat) (xs : List IV) (lo : Nat) (H : Heap) : Option (IV × D) :=
  match xs with
    | [.ptr b o, x] => if x.cells.length = n then (writeD H lo b o x.cells).map fun H' => (IV.undef, H') else none
    | _ => none

def d_rangeM (xs : List IV) (lo : Nat) (H : Heap) : Option (IV × D) :=
  match xs with
    | [.nilMap] => some (.ptr H.n 0, D.new (.iter none 0 [] 0))
    | [.map b] => (mapAt H b).map fun p => (.ptr H.n 0, D.new (.iter (some b) p.2 [] p.2))
    | _ => none

def d_nextM (xs : List IV) (lo : Nat) (H : Heap) : Option (IV × D) :=
  match xs with
    | [.ptr r 0] => if lo ≤ r then (stepM H r).map fun p => (p.1, match p.2 with | none => D.same | some o => D.put r o) else none
    | _ => none

def d_mkmap  (xs : List IV) (lo : Nat) (H : Heap) : Option (IV × D) :=
  match xs with
    | [] => some (.map H.n, D.new (.map [] 0))
    | [.int _ _] => some (.map H.n, D.new (.map [] 0))
    | _ => none

def d_mksl (e : Nat) (ez : Nat) (bytes : Nat) (zs : List IV) (xs : List IV) (lo : Nat) (H : Heap) : Option (IV × D) :=
  match xs with
    | [.int _ l, .int _ c] =>
      if 0 ≤ l ∧ l ≤ c ∧ c * (bytes + 1) ≤ 2 ^ 40 then
        some (.slice H.n 0 l.toNat c.toNat true, D.new (.cells false e ez (rep c.toNat zs)))
      else none
    | _ => none

def d_mapUpd (ky : Bool × List Pk) (xs : List IV) (lo : Nat) (H : Heap) : Option (IV × D) :=
  match xs with
    | [.map b, k, v] =>
      match mapAt H b with
      | none => none
      | some (es, clock) =>
        if lo ≤ b ∧ keyOk ky k then
          match findI ky k es 0 with
          | none => none
          | some (some (i, _)) => some (IV.undef, D.put b (.map (setVal k v es i) clock))
          | some none => some (IV.undef, D.put b (.map (es ++ [(k, v, clock)]) (clock + 1)))
        else none
    | _ => none

def d_mapEntry (_ : TypeId) (ky : Bool × List Pk) (zero : IV) (xs : List IV) (lo : Nat) (H : Heap) : Option (IV × D) :=
  match xs with
    | [.map b, k] =>
      match mapAt H b with
      | none => none
      | some (es, clock) =>
        if lo ≤ b ∧ keyOk ky k then
          match findI ky k es 0 with
          | none => none
          | some (some (i, v)) => (es[i]?).map fun e => (.tuple [v, .int .i64 e.2.2], D.put b (.map (setVal k v es i) clock))
          | some none => some (.tuple [zero, .int .i64 clock], D.put b (.map (es ++ [(k, zero, clock)]) (clock + 1)))
        else none
    | _ => none

def d_entryStore  (xs : List IV) (lo : Nat) (H : Heap) : Option (IV × D) :=
  match xs with
    | [.map b, .int _ s, v] =>
      match mapAt H b with
      | none => none
      | some (es, clock) => if lo ≤ b then (setBorn v s es).map fun es' => (IV.undef, D.put b (.map es' clock)) else none
    | _ => none

def d_delete (ky : Bool × List Pk) (xs : List IV) (lo : Nat) (H : Heap) : Option (IV × D) :=
  match xs with
    | [.map b, k] =>
      match mapAt H b with
      | none => none
      | some (es, clock) =>
        if lo ≤ b ∧ keyOk ky k then
          match findI ky k es 0 with
          | none => none
          | some (some (i, _)) => some (IV.undef, D.put b (.map (eraseAt es i) clock))
          | some none => some (IV.undef, D.same)
        else none
    | _ => none

def d_append (e : Nat) (size : Nat) (bytes : Nat) (xs : List IV) (lo : Nat) (H : Heap) : Option (IV × D) :=
  match xs with
    | [s, x] => (lenI x).bind fun n => (srcI H size n x).bind fun xs => appendD e size bytes s xs n lo H
    | _ => none

def d_copy (size : Nat) (xs : List IV) (lo : Nat) (H : Heap) : Option (IV × D) :=
  match xs with
    | [d, s] =>
      match dstLen d, lenI s with
      | some n, some m =>
        let k := Min.min m n
        if k = 0 then some (.int .i64 0, D.same)
        else (srcI H size k s).bind fun xs =>
          match d with
          | .slice b o _ _ _ => (writeD H lo b o xs).map fun H' => (.int .i64 k, H')
          | _ => none
      | _, _ => none
    | _ => none

def d_clear (zs : List IV) (xs : List IV) (lo : Nat) (H : Heap) : Option (IV × D) :=
  match xs with
    | [x] =>
      match x with
      | .nilSlice => some (.tuple [], D.same)
      | .slice b o n _ _ => if n = 0 then some (.tuple [], D.same) else (writeD H lo b o (rep n zs)).map fun H' => (.tuple [], H')
      | _ => none
    | _ => none

def d_appendZ (e : Nat) (size : Nat) (bytes : Nat) (zs : List IV) (xs : List IV) (lo : Nat) (H : Heap) : Option (IV × D) :=
  match xs with
    | [s, .int _ n] =>
      if 0 ≤ n ∧ n * (bytes + 1) ≤ 2 ^ 40 then appendD e size bytes s (rep n.toNat zs) n.toNat lo H else none
    | _ => none



def keepD (r : Option (IV × Heap)) : Option (IV × D) :=
  match r with
  | none => none
  | some p => some (p.1, .same)

theorem keepD_eq {r : Option (IV × Heap)} {H : Heap} (h : ∀ v H', r = some (v, H') → H' = H) : (keepD r).map (dapp H) = r := by
  cases r with
  | none => rfl
  | some p => obtain ⟨v, H'⟩ := p; have := h v H' rfl; subst this; rfl

def ev1D (kd : Kd) (xs : List IV) (lo : Nat) (H : Heap) : Option (IV × D) :=
  match kd with
  | .move  => keepD (e_move  xs lo H)
  | .pick  => keepD (e_pick  xs lo H)
  | .alloc a0 a1 a2 => d_alloc a0 a1 a2 xs lo H
  | .box a0 a1 => d_box a0 a1 xs lo H
  | .build a0 a1 => keepD (e_build a0 a1 xs lo H)
  | .buildSl a0 a1 a2 a3 a4 => d_buildSl a0 a1 a2 a3 a4 xs lo H
  | .load a0 => keepD (e_load a0 xs lo H)
  | .store a0 => d_store a0 xs lo H
  | .nilCheck  => keepD (e_nilCheck  xs lo H)
  | .bin a0 => keepD (e_bin a0 xs lo H)
  | .eqBool a0 => keepD (e_eqBool a0 xs lo H)
  | .eqFlat a0 a1 => keepD (e_eqFlat a0 a1 xs lo H)
  | .eqNil a0 a1 => keepD (e_eqNil a0 a1 xs lo H)
  | .un a0 => keepD (e_un a0 xs lo H)
  | .conv a0 => keepD (e_conv a0 xs lo H)
  | .iface a0 => keepD (e_iface a0 xs lo H)
  | .mkfn a0 a1 => keepD (e_mkfn a0 a1 xs lo H)
  | .mkmap  => d_mkmap  xs lo H
  | .mksl a0 a1 a2 a3 => d_mksl a0 a1 a2 a3 xs lo H
  | .slc a0 a1 a2 a3 => keepD (e_slc a0 a1 a2 a3 xs lo H)
  | .slcStr a0 a1 => keepD (e_slcStr a0 a1 xs lo H)
  | .slcArr a0 a1 a2 a3 a4 a5 => keepD (e_slcArr a0 a1 a2 a3 a4 a5 xs lo H)
  | .fieldAddr a0 => keepD (e_fieldAddr a0 xs lo H)
  | .field a0 a1 => keepD (e_field a0 a1 xs lo H)
  | .idxSl a0 => keepD (e_idxSl a0 xs lo H)
  | .idxArrAddr a0 a1 => keepD (e_idxArrAddr a0 a1 xs lo H)
  | .idxArr a0 a1 a2 => keepD (e_idxArr a0 a1 a2 xs lo H)
  | .idxStr  => keepD (e_idxStr  xs lo H)
  | .lookup a0 a1 a2 a3 => keepD (e_lookup a0 a1 a2 a3 xs lo H)
  | .mapUpd a0 => d_mapUpd a0 xs lo H
  | .mapEntry a0 a1 a2 => d_mapEntry a0 a1 a2 xs lo H
  | .entryStore  => d_entryStore  xs lo H
  | .delete a0 => d_delete a0 xs lo H
  | .lenSl  => keepD (e_lenSl  xs lo H)
  | .lenStr  => keepD (e_lenStr  xs lo H)
  | .lenArr a0 => keepD (e_lenArr a0 xs lo H)
  | .lenMap  => keepD (e_lenMap  xs lo H)
  | .cap  => keepD (e_cap  xs lo H)
  | .append a0 a1 a2 => d_append a0 a1 a2 xs lo H
  | .copy a0 => d_copy a0 xs lo H
  | .min  => keepD (e_min  xs lo H)
  | .max  => keepD (e_max  xs lo H)
  | .clear a0 => d_clear a0 xs lo H
  | .appendZ a0 a1 a2 a3 => d_appendZ a0 a1 a2 a3 xs lo H
  | .strOf  => keepD (e_strOf  xs lo H)
  | .rangeM => d_rangeM xs lo H
  | .nextM => d_nextM xs lo H
  | .entryM => keepD (e_entryM xs lo H)
  | .extract a0 => keepD (e_extract a0 xs lo H)
  | .call  => keepD (e_call  xs lo H)

theorem d_alloc_eq (a0 : Nat) (a1 : Nat) (a2 : List IV) (xs : List IV) (lo : Nat) (H : Heap) : (d_alloc a0 a1 a2 xs lo H).map (dapp H) = e_alloc a0 a1 a2 xs lo H := by
  unfold d_alloc e_alloc
  cases xs <;> rfl

theorem d_box_eq (a0 : Nat) (a1 : Nat) (xs : List IV) (lo : Nat) (H : Heap) : (d_box a0 a1 xs lo H).map (dapp H) = e_box a0 a1 xs lo H := by
  unfold d_box e_box
  rcases xs with _ | ⟨x, _ | ⟨q, r⟩⟩ <;> rfl

theorem d_buildSl_eq (a0 : Nat) (a1 : Nat) (a2 : Nat) (a3 : List IV) (a4 : List (Nat × Nat)) (xs : List IV) (lo : Nat) (H : Heap) : (d_buildSl a0 a1 a2 a3 a4 xs lo H).map (dapp H) = e_buildSl a0 a1 a2 a3 a4 xs lo H := by
  unfold d_buildSl e_buildSl
  simp only
  cases fillI a4 xs a3 <;> rfl

theorem d_store_eq (a0 : Nat) (xs : List IV) (lo : Nat) (H : Heap) : (d_store a0 xs lo H).map (dapp H) = e_store a0 xs lo H := by
  unfold d_store e_store
  rcases xs with _ | ⟨p, _ | ⟨x, _ | ⟨q, r⟩⟩⟩
  · rfl
  · cases p <;> rfl
  · cases p <;> first | rfl | skip
    simp only
    split
    · exact writeD_map _ _ _ _ _ _
    · rfl
  · cases p <;> rfl

theorem d_rangeM_eq (xs : List IV) (lo : Nat) (H : Heap) : (d_rangeM xs lo H).map (dapp H) = e_rangeM xs lo H := by
  unfold d_rangeM e_rangeM
  rcases xs with _ | ⟨x, _ | ⟨q, r⟩⟩
  · rfl
  · cases x <;> first | rfl | skip
    simp only
    cases mapAt H _ <;> rfl
  · cases x <;> rfl

theorem d_nextM_eq (xs : List IV) (lo : Nat) (H : Heap) : (d_nextM xs lo H).map (dapp H) = e_nextM xs lo H := by
  unfold d_nextM e_nextM
  rcases xs with _ | ⟨x, _ | ⟨q, r⟩⟩
  · rfl
  · cases x <;> first | rfl | skip
    rename_i b o
    cases o with
    | succ o => rfl
    | zero =>
      simp only
      split
      · cases stepM H _ with
        | none => rfl
        | some p => obtain ⟨v, o⟩ := p; cases o <;> rfl
      · rfl
  · cases x <;> first | rfl | skip
    rename_i b o
    cases o <;> rfl

theorem d_mkmap_eq  (xs : List IV) (lo : Nat) (H : Heap) : (d_mkmap  xs lo H).map (dapp H) = e_mkmap  xs lo H := by
  unfold d_mkmap e_mkmap
  rcases xs with _ | ⟨x, _ | ⟨q, r⟩⟩
  · rfl
  · cases x <;> rfl
  · cases x <;> rfl

theorem d_mksl_eq (a0 : Nat) (a1 : Nat) (a2 : Nat) (a3 : List IV) (xs : List IV) (lo : Nat) (H : Heap) : (d_mksl a0 a1 a2 a3 xs lo H).map (dapp H) = e_mksl a0 a1 a2 a3 xs lo H := by
  unfold d_mksl e_mksl
  rcases xs with _ | ⟨x, _ | ⟨y, _ | ⟨q, r⟩⟩⟩
  · rfl
  · cases x <;> rfl
  · cases x <;> first | rfl | skip
    cases y <;> first | rfl | skip
    simp only
    split <;> rfl
  · cases x <;> first | rfl | (cases y <;> rfl)

theorem d_mapUpd_eq (a0 : Bool × List Pk) (xs : List IV) (lo : Nat) (H : Heap) : (d_mapUpd a0 xs lo H).map (dapp H) = e_mapUpd a0 xs lo H := by
  unfold d_mapUpd e_mapUpd
  rcases xs with _ | ⟨m, _ | ⟨k, _ | ⟨v, _ | ⟨q, r⟩⟩⟩⟩
  · rfl
  · cases m <;> rfl
  · cases m <;> rfl
  · cases m <;> first | rfl | skip
    simp only
    cases mapAt H _ with
    | none => rfl
    | some p =>
      obtain ⟨es, clock⟩ := p
      simp only
      split
      · cases findI a0 k es 0 with
        | none => rfl
        | some r => cases r with
          | none => rfl
          | some x => obtain ⟨i, v⟩ := x; rfl
      · rfl
  · cases m <;> rfl

theorem d_mapEntry_eq (a0 : TypeId) (a1 : Bool × List Pk) (a2 : IV) (xs : List IV) (lo : Nat) (H : Heap) : (d_mapEntry a0 a1 a2 xs lo H).map (dapp H) = e_mapEntry a0 a1 a2 xs lo H := by
  unfold d_mapEntry e_mapEntry
  rcases xs with _ | ⟨m, _ | ⟨k, _ | ⟨q, r⟩⟩⟩
  · rfl
  · cases m <;> rfl
  · cases m <;> first | rfl | skip
    simp only
    cases mapAt H _ with
    | none => rfl
    | some p =>
      obtain ⟨es, clock⟩ := p
      simp only
      split
      · cases findI a1 k es 0 with
        | none => rfl
        | some r => cases r with
          | none => rfl
          | some x => obtain ⟨i, v⟩ := x; simp only; cases es[i]? <;> rfl
      · rfl
  · cases m <;> rfl

theorem d_entryStore_eq  (xs : List IV) (lo : Nat) (H : Heap) : (d_entryStore  xs lo H).map (dapp H) = e_entryStore  xs lo H := by
  unfold d_entryStore e_entryStore
  rcases xs with _ | ⟨m, _ | ⟨k, _ | ⟨v, _ | ⟨q, r⟩⟩⟩⟩
  · rfl
  · cases m <;> rfl
  · cases m <;> first | rfl | (cases k <;> rfl)
  · cases m <;> first | rfl | skip
    cases k <;> first | rfl | skip
    simp only
    cases mapAt H _ with
    | none => rfl
    | some p =>
      obtain ⟨es, clock⟩ := p
      simp only
      split
      · cases setBorn v _ es <;> rfl
      · rfl
  · cases m <;> first | rfl | (cases k <;> rfl)

theorem d_delete_eq (a0 : Bool × List Pk) (xs : List IV) (lo : Nat) (H : Heap) : (d_delete a0 xs lo H).map (dapp H) = e_delete a0 xs lo H := by
  unfold d_delete e_delete
  rcases xs with _ | ⟨m, _ | ⟨k, _ | ⟨q, r⟩⟩⟩
  · rfl
  · cases m <;> rfl
  · cases m <;> first | rfl | skip
    simp only
    cases mapAt H _ with
    | none => rfl
    | some p =>
      obtain ⟨es, clock⟩ := p
      simp only
      split
      · cases findI a0 k es 0 with
        | none => rfl
        | some r => cases r with
          | none => rfl
          | some x => obtain ⟨i, v⟩ := x; rfl
      · rfl
  · cases m <;> rfl

theorem d_append_eq (a0 : Nat) (a1 : Nat) (a2 : Nat) (xs : List IV) (lo : Nat) (H : Heap) : (d_append a0 a1 a2 xs lo H).map (dapp H) = e_append a0 a1 a2 xs lo H := by
  unfold d_append e_append
  rcases xs with _ | ⟨s, _ | ⟨x, _ | ⟨q, r⟩⟩⟩
  · rfl
  · rfl
  · simp only
    cases lenI x with
    | none => rfl
    | some n =>
      simp only [Option.bind_some]
      cases srcI H a1 n x with
      | none => rfl
      | some l => exact appendD_eq _ _ _ _ _ _ _ _
  · rfl

theorem d_copy_eq (a0 : Nat) (xs : List IV) (lo : Nat) (H : Heap) : (d_copy a0 xs lo H).map (dapp H) = e_copy a0 xs lo H := by
  unfold d_copy e_copy
  rcases xs with _ | ⟨d, _ | ⟨s, _ | ⟨q, r⟩⟩⟩
  · rfl
  · rfl
  · simp only
    cases dstLen d with
    | none => rfl
    | some n =>
      cases lenI s with
      | none => rfl
      | some m =>
        simp only
        split
        · rfl
        · cases srcI H a0 (Min.min m n) s with
          | none => rfl
          | some l =>
            simp only [Option.bind_some]
            cases d <;> first | rfl | exact writeD_map _ _ _ _ _ _
  · rfl

theorem d_clear_eq (a0 : List IV) (xs : List IV) (lo : Nat) (H : Heap) : (d_clear a0 xs lo H).map (dapp H) = e_clear a0 xs lo H := by
  unfold d_clear e_clear
  rcases xs with _ | ⟨x, _ | ⟨q, r⟩⟩
  · rfl
  · simp only
    cases x <;> first | rfl | skip
    simp only
    split
    · rfl
    · exact writeD_map _ _ _ _ _ _
  · rfl

theorem d_appendZ_eq (a0 : Nat) (a1 : Nat) (a2 : Nat) (a3 : List IV) (xs : List IV) (lo : Nat) (H : Heap) : (d_appendZ a0 a1 a2 a3 xs lo H).map (dapp H) = e_appendZ a0 a1 a2 a3 xs lo H := by
  unfold d_appendZ e_appendZ
  rcases xs with _ | ⟨x, _ | ⟨y, _ | ⟨q, r⟩⟩⟩
  · rfl
  · rfl
  · cases y <;> first | rfl | skip
    simp only
    split
    · exact appendD_eq _ _ _ _ _ _ _ _
    · rfl
  · cases y <;> rfl

theorem k_move  {xs : List IV} {lo : Nat} {H : Heap} {v : IV} {H' : Heap} (h : e_move  xs lo H = some (v, H')) : H' = H := by
  unfold e_move at h
  repeat' (first | rfl | (cases h; done) | (injection h with h; injection h with _ h; exact h.symm) | (simp only [Option.map_eq_some_iff, Option.bind_eq_some_iff] at h; obtain ⟨_, _, h⟩ := h) | split at h | (obtain ⟨_, h⟩ := h) | (simp only [Prod.mk.injEq] at h; exact h.2.symm))

theorem k_pick  {xs : List IV} {lo : Nat} {H : Heap} {v : IV} {H' : Heap} (h : e_pick  xs lo H = some (v, H')) : H' = H := by
  unfold e_pick at h
  repeat' (first | rfl | (cases h; done) | (injection h with h; injection h with _ h; exact h.symm) | (simp only [Option.map_eq_some_iff, Option.bind_eq_some_iff] at h; obtain ⟨_, _, h⟩ := h) | split at h | (obtain ⟨_, h⟩ := h) | (simp only [Prod.mk.injEq] at h; exact h.2.symm))

theorem k_build {a0 : List IV} {a1 : List (Nat × Nat)} {xs : List IV} {lo : Nat} {H : Heap} {v : IV} {H' : Heap} (h : e_build a0 a1 xs lo H = some (v, H')) : H' = H := by
  unfold e_build at h
  repeat' (first | rfl | (cases h; done) | (injection h with h; injection h with _ h; exact h.symm) | (simp only [Option.map_eq_some_iff, Option.bind_eq_some_iff] at h; obtain ⟨_, _, h⟩ := h) | split at h | (obtain ⟨_, h⟩ := h) | (simp only [Prod.mk.injEq] at h; exact h.2.symm))

theorem k_load {a0 : Option Nat} {xs : List IV} {lo : Nat} {H : Heap} {v : IV} {H' : Heap} (h : e_load a0 xs lo H = some (v, H')) : H' = H := by
  unfold e_load at h
  repeat' (first | rfl | (cases h; done) | (injection h with h; injection h with _ h; exact h.symm) | (simp only [Option.map_eq_some_iff, Option.bind_eq_some_iff] at h; obtain ⟨_, _, h⟩ := h) | split at h | (obtain ⟨_, h⟩ := h) | (simp only [Prod.mk.injEq] at h; exact h.2.symm))

theorem k_nilCheck  {xs : List IV} {lo : Nat} {H : Heap} {v : IV} {H' : Heap} (h : e_nilCheck  xs lo H = some (v, H')) : H' = H := by
  unfold e_nilCheck at h
  repeat' (first | rfl | (cases h; done) | (injection h with h; injection h with _ h; exact h.symm) | (simp only [Option.map_eq_some_iff, Option.bind_eq_some_iff] at h; obtain ⟨_, _, h⟩ := h) | split at h | (obtain ⟨_, h⟩ := h) | (simp only [Prod.mk.injEq] at h; exact h.2.symm))

theorem k_bin {a0 : BinOp} {xs : List IV} {lo : Nat} {H : Heap} {v : IV} {H' : Heap} (h : e_bin a0 xs lo H = some (v, H')) : H' = H := by
  unfold e_bin at h
  repeat' (first | rfl | (cases h; done) | (injection h with h; injection h with _ h; exact h.symm) | (simp only [Option.map_eq_some_iff, Option.bind_eq_some_iff] at h; obtain ⟨_, _, h⟩ := h) | split at h | (obtain ⟨_, h⟩ := h) | (simp only [Prod.mk.injEq] at h; exact h.2.symm))

theorem k_eqBool {a0 : Bool} {xs : List IV} {lo : Nat} {H : Heap} {v : IV} {H' : Heap} (h : e_eqBool a0 xs lo H = some (v, H')) : H' = H := by
  unfold e_eqBool at h
  repeat' (first | rfl | (cases h; done) | (injection h with h; injection h with _ h; exact h.symm) | (simp only [Option.map_eq_some_iff, Option.bind_eq_some_iff] at h; obtain ⟨_, _, h⟩ := h) | split at h | (obtain ⟨_, h⟩ := h) | (simp only [Prod.mk.injEq] at h; exact h.2.symm))

theorem k_eqFlat {a0 : Bool} {a1 : List Pk} {xs : List IV} {lo : Nat} {H : Heap} {v : IV} {H' : Heap} (h : e_eqFlat a0 a1 xs lo H = some (v, H')) : H' = H := by
  unfold e_eqFlat at h
  repeat' (first | rfl | (cases h; done) | (injection h with h; injection h with _ h; exact h.symm) | (simp only [Option.map_eq_some_iff, Option.bind_eq_some_iff] at h; obtain ⟨_, _, h⟩ := h) | split at h | (obtain ⟨_, h⟩ := h) | (simp only [Prod.mk.injEq] at h; exact h.2.symm))

theorem k_eqNil {a0 : Bool} {a1 : Nk} {xs : List IV} {lo : Nat} {H : Heap} {v : IV} {H' : Heap} (h : e_eqNil a0 a1 xs lo H = some (v, H')) : H' = H := by
  unfold e_eqNil at h
  repeat' (first | rfl | (cases h; done) | (injection h with h; injection h with _ h; exact h.symm) | (simp only [Option.map_eq_some_iff, Option.bind_eq_some_iff] at h; obtain ⟨_, _, h⟩ := h) | split at h | (obtain ⟨_, h⟩ := h) | (simp only [Prod.mk.injEq] at h; exact h.2.symm))

theorem k_un {a0 : UnOp} {xs : List IV} {lo : Nat} {H : Heap} {v : IV} {H' : Heap} (h : e_un a0 xs lo H = some (v, H')) : H' = H := by
  unfold e_un at h
  repeat' (first | rfl | (cases h; done) | (injection h with h; injection h with _ h; exact h.symm) | (simp only [Option.map_eq_some_iff, Option.bind_eq_some_iff] at h; obtain ⟨_, _, h⟩ := h) | split at h | (obtain ⟨_, h⟩ := h) | (simp only [Prod.mk.injEq] at h; exact h.2.symm))

theorem k_conv {a0 : IntKind} {xs : List IV} {lo : Nat} {H : Heap} {v : IV} {H' : Heap} (h : e_conv a0 xs lo H = some (v, H')) : H' = H := by
  unfold e_conv at h
  repeat' (first | rfl | (cases h; done) | (injection h with h; injection h with _ h; exact h.symm) | (simp only [Option.map_eq_some_iff, Option.bind_eq_some_iff] at h; obtain ⟨_, _, h⟩ := h) | split at h | (obtain ⟨_, h⟩ := h) | (simp only [Prod.mk.injEq] at h; exact h.2.symm))

theorem k_iface {a0 : TypeId} {xs : List IV} {lo : Nat} {H : Heap} {v : IV} {H' : Heap} (h : e_iface a0 xs lo H = some (v, H')) : H' = H := by
  unfold e_iface at h
  repeat' (first | rfl | (cases h; done) | (injection h with h; injection h with _ h; exact h.symm) | (simp only [Option.map_eq_some_iff, Option.bind_eq_some_iff] at h; obtain ⟨_, _, h⟩ := h) | split at h | (obtain ⟨_, h⟩ := h) | (simp only [Prod.mk.injEq] at h; exact h.2.symm))

theorem k_mkfn {a0 : FuncId} {a1 : Nat} {xs : List IV} {lo : Nat} {H : Heap} {v : IV} {H' : Heap} (h : e_mkfn a0 a1 xs lo H = some (v, H')) : H' = H := by
  unfold e_mkfn at h
  repeat' (first | rfl | (cases h; done) | (injection h with h; injection h with _ h; exact h.symm) | (simp only [Option.map_eq_some_iff, Option.bind_eq_some_iff] at h; obtain ⟨_, _, h⟩ := h) | split at h | (obtain ⟨_, h⟩ := h) | (simp only [Prod.mk.injEq] at h; exact h.2.symm))

theorem k_slc {a0 : Nat} {a1 : Bool} {a2 : Bool} {a3 : Bool} {xs : List IV} {lo : Nat} {H : Heap} {v : IV} {H' : Heap} (h : e_slc a0 a1 a2 a3 xs lo H = some (v, H')) : H' = H := by
  unfold e_slc at h
  repeat' (first | rfl | (cases h; done) | (injection h with h; injection h with _ h; exact h.symm) | (simp only [Option.map_eq_some_iff, Option.bind_eq_some_iff] at h; obtain ⟨_, _, h⟩ := h) | split at h | (obtain ⟨_, h⟩ := h) | (simp only [Prod.mk.injEq] at h; exact h.2.symm))

theorem k_slcStr {a0 : Bool} {a1 : Bool} {xs : List IV} {lo : Nat} {H : Heap} {v : IV} {H' : Heap} (h : e_slcStr a0 a1 xs lo H = some (v, H')) : H' = H := by
  unfold e_slcStr at h
  repeat' (first | rfl | (cases h; done) | (injection h with h; injection h with _ h; exact h.symm) | (simp only [Option.map_eq_some_iff, Option.bind_eq_some_iff] at h; obtain ⟨_, _, h⟩ := h) | split at h | (obtain ⟨_, h⟩ := h) | (simp only [Prod.mk.injEq] at h; exact h.2.symm))

theorem k_slcArr {a0 : Nat} {a1 : Nat} {a2 : Nat} {a3 : Bool} {a4 : Bool} {a5 : Bool} {xs : List IV} {lo : Nat} {H : Heap} {v : IV} {H' : Heap} (h : e_slcArr a0 a1 a2 a3 a4 a5 xs lo H = some (v, H')) : H' = H := by
  unfold e_slcArr at h
  repeat' (first | rfl | (cases h; done) | (injection h with h; injection h with _ h; exact h.symm) | (simp only [Option.map_eq_some_iff, Option.bind_eq_some_iff] at h; obtain ⟨_, _, h⟩ := h) | split at h | (obtain ⟨_, h⟩ := h) | (simp only [Prod.mk.injEq] at h; exact h.2.symm))

theorem k_fieldAddr {a0 : Nat} {xs : List IV} {lo : Nat} {H : Heap} {v : IV} {H' : Heap} (h : e_fieldAddr a0 xs lo H = some (v, H')) : H' = H := by
  unfold e_fieldAddr at h
  repeat' (first | rfl | (cases h; done) | (injection h with h; injection h with _ h; exact h.symm) | (simp only [Option.map_eq_some_iff, Option.bind_eq_some_iff] at h; obtain ⟨_, _, h⟩ := h) | split at h | (obtain ⟨_, h⟩ := h) | (simp only [Prod.mk.injEq] at h; exact h.2.symm))

theorem k_field {a0 : Nat} {a1 : Option Nat} {xs : List IV} {lo : Nat} {H : Heap} {v : IV} {H' : Heap} (h : e_field a0 a1 xs lo H = some (v, H')) : H' = H := by
  unfold e_field at h
  repeat' (first | rfl | (cases h; done) | (injection h with h; injection h with _ h; exact h.symm) | (simp only [Option.map_eq_some_iff, Option.bind_eq_some_iff] at h; obtain ⟨_, _, h⟩ := h) | split at h | (obtain ⟨_, h⟩ := h) | (simp only [Prod.mk.injEq] at h; exact h.2.symm))

theorem k_idxSl {a0 : Nat} {xs : List IV} {lo : Nat} {H : Heap} {v : IV} {H' : Heap} (h : e_idxSl a0 xs lo H = some (v, H')) : H' = H := by
  unfold e_idxSl at h
  repeat' (first | rfl | (cases h; done) | (injection h with h; injection h with _ h; exact h.symm) | (simp only [Option.map_eq_some_iff, Option.bind_eq_some_iff] at h; obtain ⟨_, _, h⟩ := h) | split at h | (obtain ⟨_, h⟩ := h) | (simp only [Prod.mk.injEq] at h; exact h.2.symm))

theorem k_idxArrAddr {a0 : Nat} {a1 : Nat} {xs : List IV} {lo : Nat} {H : Heap} {v : IV} {H' : Heap} (h : e_idxArrAddr a0 a1 xs lo H = some (v, H')) : H' = H := by
  unfold e_idxArrAddr at h
  repeat' (first | rfl | (cases h; done) | (injection h with h; injection h with _ h; exact h.symm) | (simp only [Option.map_eq_some_iff, Option.bind_eq_some_iff] at h; obtain ⟨_, _, h⟩ := h) | split at h | (obtain ⟨_, h⟩ := h) | (simp only [Prod.mk.injEq] at h; exact h.2.symm))

theorem k_idxArr {a0 : Nat} {a1 : Nat} {a2 : Option Nat} {xs : List IV} {lo : Nat} {H : Heap} {v : IV} {H' : Heap} (h : e_idxArr a0 a1 a2 xs lo H = some (v, H')) : H' = H := by
  unfold e_idxArr at h
  repeat' (first | rfl | (cases h; done) | (injection h with h; injection h with _ h; exact h.symm) | (simp only [Option.map_eq_some_iff, Option.bind_eq_some_iff] at h; obtain ⟨_, _, h⟩ := h) | split at h | (obtain ⟨_, h⟩ := h) | (simp only [Prod.mk.injEq] at h; exact h.2.symm))

theorem k_idxStr  {xs : List IV} {lo : Nat} {H : Heap} {v : IV} {H' : Heap} (h : e_idxStr  xs lo H = some (v, H')) : H' = H := by
  unfold e_idxStr at h
  repeat' (first | rfl | (cases h; done) | (injection h with h; injection h with _ h; exact h.symm) | (simp only [Option.map_eq_some_iff, Option.bind_eq_some_iff] at h; obtain ⟨_, _, h⟩ := h) | split at h | (obtain ⟨_, h⟩ := h) | (simp only [Prod.mk.injEq] at h; exact h.2.symm))

theorem k_lookup {a0 : TypeId} {a1 : Bool × List Pk} {a2 : IV} {a3 : Bool} {xs : List IV} {lo : Nat} {H : Heap} {v : IV} {H' : Heap} (h : e_lookup a0 a1 a2 a3 xs lo H = some (v, H')) : H' = H := by
  unfold e_lookup at h
  repeat' (first | rfl | (cases h; done) | (injection h with h; injection h with _ h; exact h.symm) | (simp only [Option.map_eq_some_iff, Option.bind_eq_some_iff] at h; obtain ⟨_, _, h⟩ := h) | split at h | (obtain ⟨_, h⟩ := h) | (simp only [Prod.mk.injEq] at h; exact h.2.symm))

theorem k_lenSl  {xs : List IV} {lo : Nat} {H : Heap} {v : IV} {H' : Heap} (h : e_lenSl  xs lo H = some (v, H')) : H' = H := by
  unfold e_lenSl at h
  repeat' (first | rfl | (cases h; done) | (injection h with h; injection h with _ h; exact h.symm) | (simp only [Option.map_eq_some_iff, Option.bind_eq_some_iff] at h; obtain ⟨_, _, h⟩ := h) | split at h | (obtain ⟨_, h⟩ := h) | (simp only [Prod.mk.injEq] at h; exact h.2.symm))

theorem k_lenStr  {xs : List IV} {lo : Nat} {H : Heap} {v : IV} {H' : Heap} (h : e_lenStr  xs lo H = some (v, H')) : H' = H := by
  unfold e_lenStr at h
  repeat' (first | rfl | (cases h; done) | (injection h with h; injection h with _ h; exact h.symm) | (simp only [Option.map_eq_some_iff, Option.bind_eq_some_iff] at h; obtain ⟨_, _, h⟩ := h) | split at h | (obtain ⟨_, h⟩ := h) | (simp only [Prod.mk.injEq] at h; exact h.2.symm))

theorem k_lenArr {a0 : Nat} {xs : List IV} {lo : Nat} {H : Heap} {v : IV} {H' : Heap} (h : e_lenArr a0 xs lo H = some (v, H')) : H' = H := by
  unfold e_lenArr at h
  repeat' (first | rfl | (cases h; done) | (injection h with h; injection h with _ h; exact h.symm) | (simp only [Option.map_eq_some_iff, Option.bind_eq_some_iff] at h; obtain ⟨_, _, h⟩ := h) | split at h | (obtain ⟨_, h⟩ := h) | (simp only [Prod.mk.injEq] at h; exact h.2.symm))

theorem k_entryM {xs : List IV} {lo : Nat} {H : Heap} {v : IV} {H' : Heap} (h : e_entryM xs lo H = some (v, H')) : H' = H := by
  unfold e_entryM at h
  split at h
  · cases he : entryI H _ with
    | none => rw [he] at h; cases h
    | some x => rw [he] at h; injection h with h; injection h with h1 h2; exact h2.symm
  · cases h

theorem k_lenMap  {xs : List IV} {lo : Nat} {H : Heap} {v : IV} {H' : Heap} (h : e_lenMap  xs lo H = some (v, H')) : H' = H := by
  unfold e_lenMap at h
  repeat' (first | rfl | (cases h; done) | (injection h with h; injection h with _ h; exact h.symm) | (simp only [Option.map_eq_some_iff, Option.bind_eq_some_iff] at h; obtain ⟨_, _, h⟩ := h) | split at h | (obtain ⟨_, h⟩ := h) | (simp only [Prod.mk.injEq] at h; exact h.2.symm))

theorem k_cap  {xs : List IV} {lo : Nat} {H : Heap} {v : IV} {H' : Heap} (h : e_cap  xs lo H = some (v, H')) : H' = H := by
  unfold e_cap at h
  repeat' (first | rfl | (cases h; done) | (injection h with h; injection h with _ h; exact h.symm) | (simp only [Option.map_eq_some_iff, Option.bind_eq_some_iff] at h; obtain ⟨_, _, h⟩ := h) | split at h | (obtain ⟨_, h⟩ := h) | (simp only [Prod.mk.injEq] at h; exact h.2.symm))

theorem k_min  {xs : List IV} {lo : Nat} {H : Heap} {v : IV} {H' : Heap} (h : e_min  xs lo H = some (v, H')) : H' = H := by
  unfold e_min at h
  repeat' (first | rfl | (cases h; done) | (injection h with h; injection h with _ h; exact h.symm) | (simp only [Option.map_eq_some_iff, Option.bind_eq_some_iff] at h; obtain ⟨_, _, h⟩ := h) | split at h | (obtain ⟨_, h⟩ := h) | (simp only [Prod.mk.injEq] at h; exact h.2.symm))

theorem k_max  {xs : List IV} {lo : Nat} {H : Heap} {v : IV} {H' : Heap} (h : e_max  xs lo H = some (v, H')) : H' = H := by
  unfold e_max at h
  repeat' (first | rfl | (cases h; done) | (injection h with h; injection h with _ h; exact h.symm) | (simp only [Option.map_eq_some_iff, Option.bind_eq_some_iff] at h; obtain ⟨_, _, h⟩ := h) | split at h | (obtain ⟨_, h⟩ := h) | (simp only [Prod.mk.injEq] at h; exact h.2.symm))

theorem k_strOf  {xs : List IV} {lo : Nat} {H : Heap} {v : IV} {H' : Heap} (h : e_strOf  xs lo H = some (v, H')) : H' = H := by
  unfold e_strOf at h
  repeat' (first | rfl | (cases h; done) | (injection h with h; injection h with _ h; exact h.symm) | (simp only [Option.map_eq_some_iff, Option.bind_eq_some_iff] at h; obtain ⟨_, _, h⟩ := h) | split at h | (obtain ⟨_, h⟩ := h) | (simp only [Prod.mk.injEq] at h; exact h.2.symm))

theorem k_extract {a0 : Nat} {xs : List IV} {lo : Nat} {H : Heap} {v : IV} {H' : Heap} (h : e_extract a0 xs lo H = some (v, H')) : H' = H := by
  unfold e_extract at h
  repeat' (first | rfl | (cases h; done) | (injection h with h; injection h with _ h; exact h.symm) | (simp only [Option.map_eq_some_iff, Option.bind_eq_some_iff] at h; obtain ⟨_, _, h⟩ := h) | split at h | (obtain ⟨_, h⟩ := h) | (simp only [Prod.mk.injEq] at h; exact h.2.symm))

theorem ev1D_eq (kd : Kd) (xs : List IV) (lo : Nat) (H : Heap) : (ev1D kd xs lo H).map (dapp H) = ev1 kd xs lo H := by
  rw [← ev1K_eq]
  cases kd with
  | move  => exact keepD_eq fun v H' h => k_move h
  | pick  => exact keepD_eq fun v H' h => k_pick h
  | alloc a0 a1 a2 => exact d_alloc_eq a0 a1 a2 xs lo H
  | box a0 a1 => exact d_box_eq a0 a1 xs lo H
  | build a0 a1 => exact keepD_eq fun v H' h => k_build h
  | buildSl a0 a1 a2 a3 a4 => exact d_buildSl_eq a0 a1 a2 a3 a4 xs lo H
  | load a0 => exact keepD_eq fun v H' h => k_load h
  | store a0 => exact d_store_eq a0 xs lo H
  | nilCheck  => exact keepD_eq fun v H' h => k_nilCheck h
  | bin a0 => exact keepD_eq fun v H' h => k_bin h
  | eqBool a0 => exact keepD_eq fun v H' h => k_eqBool h
  | eqFlat a0 a1 => exact keepD_eq fun v H' h => k_eqFlat h
  | eqNil a0 a1 => exact keepD_eq fun v H' h => k_eqNil h
  | un a0 => exact keepD_eq fun v H' h => k_un h
  | conv a0 => exact keepD_eq fun v H' h => k_conv h
  | iface a0 => exact keepD_eq fun v H' h => k_iface h
  | mkfn a0 a1 => exact keepD_eq (r := e_mkfn a0 a1 xs lo H) fun v H' h => k_mkfn (lo := lo) h
  | mkmap  => exact d_mkmap_eq  xs lo H
  | mksl a0 a1 a2 a3 => exact d_mksl_eq a0 a1 a2 a3 xs lo H
  | slc a0 a1 a2 a3 => exact keepD_eq fun v H' h => k_slc h
  | slcStr a0 a1 => exact keepD_eq fun v H' h => k_slcStr h
  | slcArr a0 a1 a2 a3 a4 a5 => exact keepD_eq fun v H' h => k_slcArr h
  | fieldAddr a0 => exact keepD_eq fun v H' h => k_fieldAddr h
  | field a0 a1 => exact keepD_eq fun v H' h => k_field h
  | idxSl a0 => exact keepD_eq fun v H' h => k_idxSl h
  | idxArrAddr a0 a1 => exact keepD_eq fun v H' h => k_idxArrAddr h
  | idxArr a0 a1 a2 => exact keepD_eq fun v H' h => k_idxArr h
  | idxStr  => exact keepD_eq fun v H' h => k_idxStr h
  | lookup a0 a1 a2 a3 => exact keepD_eq fun v H' h => k_lookup h
  | mapUpd a0 => exact d_mapUpd_eq a0 xs lo H
  | mapEntry a0 a1 a2 => exact d_mapEntry_eq a0 a1 a2 xs lo H
  | entryStore  => exact d_entryStore_eq  xs lo H
  | delete a0 => exact d_delete_eq a0 xs lo H
  | lenSl  => exact keepD_eq fun v H' h => k_lenSl h
  | lenStr  => exact keepD_eq fun v H' h => k_lenStr h
  | lenArr a0 => exact keepD_eq fun v H' h => k_lenArr h
  | lenMap  => exact keepD_eq fun v H' h => k_lenMap h
  | cap  => exact keepD_eq fun v H' h => k_cap h
  | append a0 a1 a2 => exact d_append_eq a0 a1 a2 xs lo H
  | copy a0 => exact d_copy_eq a0 xs lo H
  | min  => exact keepD_eq fun v H' h => k_min h
  | max  => exact keepD_eq fun v H' h => k_max h
  | clear a0 => exact d_clear_eq a0 xs lo H
  | appendZ a0 a1 a2 a3 => exact d_appendZ_eq a0 a1 a2 a3 xs lo H
  | strOf  => exact keepD_eq fun v H' h => k_strOf h
  | rangeM => exact d_rangeM_eq xs lo H
  | nextM => exact d_nextM_eq xs lo H
  | entryM => exact keepD_eq fun v H' h => k_entryM h
  | extract a0 => exact keepD_eq fun v H' h => k_extract h
  | call => rfl
end Go.Iso

/-
  Iso, part K4: a strict evaluator, for the kernel: every value, frame and heap is written out as soon as it is made.
-/
noncomputable section
namespace Go.Iso

/-! Forcing. -/

def fNat (n : Nat) (k : Nat → Bool) : Bool := Nat.casesOn n (k 0) fun m => k (Nat.succ m)
theorem fNat_eq (n : Nat) (k : Nat → Bool) : fNat n k = k n := by cases n <;> rfl

def fInt (n : Int) (k : Int → Bool) : Bool :=
  match n with
  | .ofNat m => fNat m fun m => k (.ofNat m)
  | .negSucc m => fNat m fun m => k (.negSucc m)
theorem fInt_eq (n : Int) (k : Int → Bool) : fInt n k = k n := by cases n <;> simp only [fInt, fNat_eq]

def fL {α : Type} (l : List α) : (List α → Bool) → Bool :=
  List.rec (fun k => k []) (fun x _ ih k => ih fun r => k (x :: r)) l
theorem fL_eq {α : Type} (l : List α) : ∀ k : List α → Bool, fL l k = k l := by
  induction l with
  | nil => intro k; rfl
  | cons x l ih => intro k; exact ih _

def fBool (b : Bool) (k : Bool → Bool) : Bool := match b with | true => k true | false => k false
theorem fBool_eq (b : Bool) (k : Bool → Bool) : fBool b k = k b := by cases b <;> rfl

def fV (v : IV) (k : IV → Bool) : Bool :=
  match v with
  | .bool b => fBool b fun b => k (.bool b)
  | .int kd n => fInt n fun n => k (.int kd n)
  | .str s => fL s fun s => k (.str s)
  | .ptr b o => fNat b fun b => fNat o fun o => k (.ptr b o)
  | .nilPtr => k .nilPtr
  | .slice b o n c ex => fNat b fun b => fNat o fun o => fNat n fun n => fNat c fun c => fBool ex fun ex => k (.slice b o n c ex)
  | .nilSlice => k .nilSlice
  | .map b => fNat b fun b => k (.map b)
  | .nilMap => k .nilMap
  | .fn f a c => fL a fun a => fL c fun c => k (.fn f a c)
  | .yield b => fNat b fun b => k (.yield b)
  | .nilFunc => k .nilFunc
  | .iface t x => k (.iface t x)
  | .nilIface => k .nilIface
  | .agg l => fL l fun l => k (.agg l)
  | .tuple l => fL l fun l => k (.tuple l)
theorem fV_eq (v : IV) (k : IV → Bool) : fV v k = k v := by cases v <;> simp only [fV, fNat_eq, fInt_eq, fL_eq, fBool_eq]

def fO (o : IObj) (k : IObj → Bool) : Bool :=
  match o with
  | .cells ro e ez cs => fBool ro fun ro => fL cs fun cs => k (.cells ro e ez cs)
  | .map es c => fL es fun es => fNat c fun c => k (.map es c)
  | o => k o
theorem fO_eq (o : IObj) (k : IObj → Bool) : fO o k = k o := by cases o <;> simp only [fO, fNat_eq, fL_eq, fBool_eq]

/-! Lists, trees. -/

def getS (tm : List IV) : Nat → (IV → Bool) → Bool :=
  List.rec (fun _ k => k IV.undef) (fun x _ ih i k => Nat.casesOn i (k x) fun j => ih j k) tm
theorem getS_eq (tm : List IV) : ∀ (i : Nat) (k : IV → Bool), getS tm i k = k (tm.getD i IV.undef) := by
  induction tm with
  | nil => intro i k; rfl
  | cons x l ih =>
    intro i k
    cases i with
    | zero => rfl
    | succ i => exact (ih i k).trans (by simp)

def setS (tm : List IV) : Nat → IV → (List IV → Bool) → Bool :=
  List.rec (fun _ _ k => k []) (fun x xs ih i v k => Nat.casesOn i (k (v :: xs)) fun j => ih j v fun r => k (x :: r)) tm
theorem setS_eq (tm : List IV) : ∀ (i : Nat) (v : IV) (k : List IV → Bool), setS tm i v k = k (tm.set i v) := by
  induction tm with
  | nil => intro i v k; rfl
  | cons x l ih =>
    intro i v k
    cases i with
    | zero => rfl
    | succ i => exact ih i v _

def tsL {α : Type} (ih : Tr α → Nat → α → (Tr α → Bool) → Bool) (j : Nat) (x : α) (k : Tr α → Bool) : Bool :=
  fNat (j / 2) fun h => match Nat.beq (j % 2) 0 with
    | true => ih .leaf h x fun r => k (.node none r .leaf)
    | false => ih .leaf h x fun r => k (.node none .leaf r)
def tsN {α : Type} (ih : Tr α → Nat → α → (Tr α → Bool) → Bool) (v : Option α) (l r : Tr α) (j : Nat) (x : α) (k : Tr α → Bool) : Bool :=
  fNat (j / 2) fun h => match Nat.beq (j % 2) 0 with
    | true => ih l h x fun l' => k (.node v l' r)
    | false => ih r h x fun r' => k (.node v l r')

def tsetS {α : Type} (f : Nat) : Tr α → Nat → α → (Tr α → Bool) → Bool :=
  Nat.rec (fun t _ _ k => k t) (fun _ ih t i x k =>
    Tr.casesOn t (Nat.casesOn i (k (.node (some x) .leaf .leaf)) fun j => tsL ih j x k)
      (fun v l r => Nat.casesOn i (k (.node (some x) l r)) fun j => tsN ih v l r j x k)) f

theorem tsetS_eq {α : Type} : ∀ (f : Nat) (t : Tr α) (i : Nat) (x : α) (k : Tr α → Bool), tsetS f t i x k = k (Tr.setF f t i x) := by
  intro f
  induction f with
  | zero => intro t i x k; rfl
  | succ f ih =>
    intro t i x k
    cases t with
    | leaf =>
      cases i with
      | zero => rfl
      | succ j =>
        have e : tsetS (f + 1) Tr.leaf (j + 1) x k = tsL (tsetS f) j x k := rfl
        rw [e]
        unfold tsL
        rw [fNat_eq]
        by_cases h : j % 2 = 0
        · have hb : Nat.beq (j % 2) 0 = true := by rw [h]; rfl
          simp only [hb, Tr.setF, h, if_true]
          exact ih _ _ _ _
        · have hb : Nat.beq (j % 2) 0 = false := by
            have : j % 2 = 1 := by omega
            rw [this]; rfl
          simp only [hb, Tr.setF, h, if_false]
          exact ih _ _ _ _
    | node v l r =>
      cases i with
      | zero => rfl
      | succ j =>
        have e : tsetS (f + 1) (Tr.node v l r) (j + 1) x k = tsN (tsetS f) v l r j x k := rfl
        rw [e]
        unfold tsN
        rw [fNat_eq]
        by_cases h : j % 2 = 0
        · have hb : Nat.beq (j % 2) 0 = true := by rw [h]; rfl
          simp only [hb, Tr.setF, h, if_true]
          exact ih _ _ _ _
        · have hb : Nat.beq (j % 2) 0 = false := by
            have : j % 2 = 1 := by omega
            rw [this]; rfl
          simp only [hb, Tr.setF, h, if_false]
          exact ih _ _ _ _

def putS (H : Heap) (b : Nat) (o : IObj) (k : Heap → Bool) : Bool :=
  match H with
  | ⟨n, t⟩ => fO o fun o => tsetS (b + 1) t b o fun t => k ⟨n, t⟩
theorem putS_eq (H : Heap) (b : Nat) (o : IObj) (k : Heap → Bool) : putS H b o k = k (H.put b o) := by
  cases H; simp only [putS, fO_eq, tsetS_eq]; rfl

def newS (H : Heap) (o : IObj) (k : Heap → Bool) : Bool :=
  match H with
  | ⟨n, t⟩ => fO o fun o => tsetS (n + 1) t n o fun t => k ⟨Nat.succ n, t⟩
theorem newS_eq (H : Heap) (o : IObj) (k : Heap → Bool) : newS H o k = k (H.new o) := by
  cases H; simp only [newS, fO_eq, tsetS_eq]; rfl

def dS (H : Heap) (d : D) (k : Heap → Bool) : Bool :=
  match d with
  | .same => k H
  | .put b o => putS H b o k
  | .new o => newS H o k
  | .kill b o => putS H b .dead fun H => newS H o k
theorem dS_eq (H : Heap) (d : D) (k : Heap → Bool) : dS H d k = k (d.app H) := by
  cases d <;> simp only [dS, putS_eq, newS_eq] <;> rfl

/-! Frames, operands. -/

def aS (g0 : Nat) (tm : List IV) (a : IA) (k : IV → Bool) : Bool :=
  match a with
  | .tmp t => getS tm t k
  | .val v => k v
  | .glob g => match Nat.blt g g0 with | true => k (.ptr g 0) | false => false

def opt {α : Type} (r : Option α) (k : α → Bool) : Bool := match r with | none => false | some x => k x

theorem aS_eq (g0 : Nat) (tm : List IV) (a : IA) (k : IV → Bool) : aS g0 tm a k = opt (a.eval g0 tm) k := by
  cases a with
  | tmp t => exact getS_eq _ _ _
  | val v => rfl
  | glob g =>
    simp only [aS, IA.eval, blt_eq]
    by_cases h : g < g0 <;> simp [h, opt]

def asS (g0 : Nat) (tm : List IV) (l : List IA) : (List IV → Bool) → Bool :=
  List.rec (fun k => k []) (fun a _ ih k => aS g0 tm a fun v => ih fun vs => k (v :: vs)) l
theorem asS_eq (g0 : Nat) (tm : List IV) (l : List IA) : ∀ k : List IV → Bool, asS g0 tm l k = opt (evalAll g0 tm l) k := by
  induction l with
  | nil => intro k; rfl
  | cons a l ih =>
    intro k
    show aS g0 tm a _ = _
    rw [aS_eq]
    simp only [evalAll]
    cases a.eval g0 tm with
    | none => rfl
    | some v =>
      simp only [opt]
      refine (ih _).trans ?_
      cases evalAll g0 tm l <;> rfl

def frS (fr : Fr) (dst : Option Nat) (v : IV) (k : Fr → Bool) : Bool :=
  match fr with
  | ⟨tm, marks⟩ => match dst with
    | none => k ⟨tm, marks⟩
    | some d => setS tm d v fun tm => k ⟨tm, marks⟩
theorem frS_eq (fr : Fr) (dst : Option Nat) (v : IV) (k : Fr → Bool) : frS fr dst v k = k (fr.put dst v) := by
  cases dst <;> simp only [frS, setS_eq] <;> rfl

def wantS (tm : List IV) (g : Option (Nat × Bool)) (k : Bool → Bool) : Bool :=
  match g with
  | none => k true
  | some (t, want) => getS tm t fun v => match v with
    | .bool b => match b, want with
      | true, true => k true
      | false, false => k true
      | _, _ => k false
    | _ => k false
theorem wantS_eq (tm : List IV) (g : Option (Nat × Bool)) (k : Bool → Bool) : wantS tm g k = k (wantedI tm g) := by
  cases g with
  | none => rfl
  | some p =>
    obtain ⟨t, want⟩ := p
    simp only [wantS, getS_eq, wantedI]
    cases tm.getD t IV.undef <;> first | rfl | skip
    rename_i b
    cases b <;> cases want <;> rfl

/-! Results. -/

def resS (H : Heap) (tm : List IV) (r : Nat × Option (Option Nat)) (k : IV → Bool) : Bool :=
  match r with
  | (t, none) => getS tm t k
  | (t, some n) => getS tm t fun v => match v with
    | .ptr b o => opt ((H.read b o (n.getD 1)).bind (mkAgg n)) fun v => fV v k
    | _ => false
theorem resS_eq (H : Heap) (tm : List IV) (r : Nat × Option (Option Nat)) (k : IV → Bool) : resS H tm r k = opt (resultOf H tm r) k := by
  obtain ⟨t, n⟩ := r
  cases n with
  | none => exact getS_eq _ _ _
  | some n =>
    simp only [resS, getS_eq, resultOf]
    cases tm.getD t IV.undef <;> first | rfl | skip
    rename_i b o
    simp only
    cases (H.read b o (n.getD 1)).bind (mkAgg n) <;> simp [opt, fV_eq]

def ressS (H : Heap) (tm : List IV) (l : List (Nat × Option (Option Nat))) : (List IV → Bool) → Bool :=
  List.rec (fun k => k []) (fun r _ ih k => resS H tm r fun v => ih fun vs => k (v :: vs)) l
theorem ressS_eq (H : Heap) (tm : List IV) (l : List (Nat × Option (Option Nat))) : ∀ k : List IV → Bool, ressS H tm l k = opt (resultsOf H tm l) k := by
  induction l with
  | nil => intro k; rfl
  | cons a l ih =>
    intro k
    show resS H tm a _ = _
    rw [resS_eq]
    simp only [resultsOf]
    cases resultOf H tm a with
    | none => rfl
    | some v =>
      simp only [opt]
      refine (ih _).trans ?_
      cases resultsOf H tm l <;> rfl

/-! The evaluator. -/

abbrev RecS := Task → Nat → Heap → (Out → Heap → Bool) → Bool

def NormS (k : Out → Heap → Bool) (n : Fr → Heap → Bool) : Out → Heap → Bool := fun o H =>
  match o with
  | .val _ => k o H
  | .ex e fr => match e with
    | .normal => n fr H
    | .jmp _ => k o H

def BlkS (id : Nat) (k : Out → Heap → Bool) : Out → Heap → Bool := fun o H =>
  match o with
  | .val _ => k o H
  | .ex e fr => match e with
    | .normal => k o H
    | .jmp j => match j with
      | .ret => k o H
      | .exit id' => match Nat.beq id' id with
        | true => k (.ex .normal fr) H
        | false => k o H

def ValS (k : IV → Heap → Bool) : Out → Heap → Bool := fun o H =>
  match o with
  | .val v => k v H
  | .ex _ _ => false

def ExS (k : Ex → Fr → Heap → Bool) : Out → Heap → Bool := fun o H =>
  match o with
  | .val _ => false
  | .ex e fr => k e fr H

def onlyNorm (k : Fr → Heap → Bool) : Ex → Fr → Heap → Bool := fun e fr H =>
  match e with
  | .normal => k fr H
  | .jmp _ => false

def condS (rec : RecS) (a b : IC) (rd : Option Nat) (fr : Fr) (lo : Nat) (H : Heap) (k : Out → Heap → Bool) (v : IV) : Bool :=
  match v with
  | .bool x => match x with
    | true => rec (.code a rd fr) lo H k
    | false => rec (.code b rd fr) lo H k
  | _ => false

def rfnS (l : Nat) (lo : Nat) (marks : List Nat) (fr : Fr) (k : Out → Heap → Bool) (_ : IV) (H2 : Heap) : Bool :=
  match H2.get l with
  | some (.loop st pend tm ps asg body df) =>
    if st = .busy ∨ l < lo then false
    else putS H2 l (.loop .exhausted pend tm ps asg body df) fun H3 =>
      match pend with
      | none => k (.ex .normal { fr with marks := marks ++ fr.marks }) H3
      | some j => k (.ex (.jmp j) { fr with marks := marks ++ fr.marks }) H3
  | _ => false

def rfn0S (rec : RecS) (ps : List Nat) (asg body : IC) (fr : Fr) (lo : Nat) (k : Out → Heap → Bool) (rd : Option Nat) (H : Heap) (g : IV) : Bool :=
  opt (enterI rd H) fun e => match e with
    | (df, marks, H1) => match H1 with
      | ⟨n, t⟩ => newS ⟨n, t⟩ (.loop .ready none fr.tm ps asg body df) fun H2 => rec (.apply g [.yield n]) lo H2 (ValS (rfnS n lo marks fr k))

def codeS (g0 : Nat) (rec : RecS) (c : IC) (rd : Option Nat) (fr : Fr) (lo : Nat) (H : Heap) (k : Out → Heap → Bool) : Bool :=
  match c with
  | .skip => k (.ex .normal fr) H
  | .exit id => k (.ex (.jmp (.exit id)) fr) H
  | .ret => k (.ex (.jmp .ret) fr) H
  | .ops l => rec (.segs l rd fr) lo H k
  | .seq a b => rec (.code a rd fr) lo H (NormS k fun fr' H' => rec (.code b rd fr') lo H' k)
  | .cond c a b => aS g0 fr.tm c (condS rec a b rd fr lo H k)
  | .block id c => rec (.code c rd fr) lo H (BlkS id k)
  | .loop c => rec (.code c rd fr) lo H (NormS k fun fr' H' => rec (.code (.loop c) rd fr') lo H' k)
  | .scope c => rec (.code c rd fr) lo H k
  | .rfn f ps asg body => aS g0 fr.tm f (rfn0S rec ps asg body fr lo k rd H)

def freeOf (s : Sg) : Option Free := match s with | .seq => none | .free => some []

def segsS (rec : RecS) (l : List (Sg × List IOp)) (rd : Option Nat) (fr : Fr) (lo : Nat) (H : Heap) (k : Out → Heap → Bool) : Bool :=
  match l with
  | [] => k (.ex .normal fr) H
  | x :: l => match x with
    | (s, os) => rec (.ops (freeOf s) os rd fr) lo H (ExS (onlyNorm fun fr' H' => rec (.segs l rd fr') lo H' k))

def callS (rec : RecS) (xs : List IV) (lw : Nat) (H : Heap) (k : IV → Heap → Bool) : Bool :=
  match xs with
  | [] => false
  | f :: xs => rec (.apply f xs) lw H (ValS k)

def opS (rec : RecS) (kd : Kd) (xs : List IV) (lw : Nat) (H : Heap) (k : IV → Heap → Bool) : Bool :=
  match kd.isCall with
  | true => callS rec xs lw H k
  | false => match ev1D kd xs lw H with
    | none => false
    | some (v, d) => fV v fun v => dS H d fun H => k v H

def lowS (free : Option Free) (amb : Bool) (lo : Nat) (H : Heap) : Nat :=
  match free with
  | none => lo
  | some _ => match amb with | true => lo | false => H.n

def opsS (g0 : Nat) (rec : RecS) (free : Option Free) (l : List IOp) (rd : Option Nat) (fr : Fr) (lo : Nat) (H : Heap) (k : Out → Heap → Bool) : Bool :=
  match l with
  | [] => k (.ex .normal fr) H
  | o :: l => match o with
    | ⟨dst, kd, args, guard, amb, idx, mask⟩ => wantS fr.tm guard fun w => match w with
      | true => asS g0 fr.tm args fun xs => match nextOf free ⟨dst, kd, args, guard, amb, idx, mask⟩ xs with
        | none => false
        | some free' => opS rec kd xs (lowS free amb lo H) H fun v H' => frS fr dst v fun fr' => rec (.ops free' l rd fr') lo H' k
      | false => frS fr dst IV.undef fun fr' => rec (.ops free l rd fr') lo H k

def yieldS (rec : RecS) (l : Nat) (args : List IV) (lo : Nat) (H : Heap) (k : Out → Heap → Bool) : Bool :=
  match H.get l with
  | some (.loop _ _ tm ps asg body _) =>
    if args.length = ps.length ∧ lo ≤ l then
      fL (setAll tm ps args) fun tm => rec (.code asg (some l) ⟨tm, []⟩) lo H (ExS (onlyNorm fun fr H1 => opt (beginI l H1) fun H2 => rec (.code body (some l) fr) lo H2 (ExS fun e _ H3 => opt (endI l e H3) fun p => k p.1 p.2)))
    else false
  | _ => false

def applyS (rec : RecS) (f : IV) (args : List IV) (lo : Nat) (H : Heap) (k : Out → Heap → Bool) : Bool :=
  match f with
  | .fn f first cap => fL (first ++ args ++ cap) fun xs => rec (.call f xs) lo H k
  | .yield l => yieldS rec l args lo H k
  | _ => false

def leaveS (res : List (Nat × Option (Option Nat))) (lo : Nat) (fr : Fr) (H' : Heap) (k : Out → Heap → Bool) : Bool :=
  match fr with
  | ⟨tm, marks⟩ => match marks with
    | [] => ressS H' tm res fun vs => fV (tupled vs) fun v => k (.val v) H'
    | marks => opt (unmark lo marks H') fun H'' => ressS H'' tm res fun vs => fV (tupled vs) fun v => k (.val v) H''

def retS (res : List (Nat × Option (Option Nat))) (lo : Nat) (k : Out → Heap → Bool) : Ex → Fr → Heap → Bool := fun e fr H =>
  match e with
  | .normal => leaveS res lo fr H k
  | .jmp j => match j with
    | .ret => leaveS res lo fr H k
    | .exit _ => false

def fnS (rec : RecS) (args : List IV) (lo : Nat) (H : Heap) (k : Out → Heap → Bool) (fn : IFn) : Bool :=
  match fn with
  | ⟨ntmps, res, body⟩ => fL (args ++ undefs (ntmps - args.length)) fun tm => rec (.code body none ⟨tm, []⟩) lo H (ExS (retS res lo k))

def callfS (E : Env) (rec : RecS) (f : FuncId) (args : List IV) (lo : Nat) (H : Heap) (k : Out → Heap → Bool) : Bool :=
  match E.sums f with
  | some s => opt (s args lo H) fun p => k (.val p.1) p.2
  | none => opt (E.fns f) (fnS rec args lo H k)

def stepS (E : Env) (rec : RecS) : RecS := fun t lo H k =>
  match t with
  | .code c rd fr => codeS E.g0 rec c rd fr lo H k
  | .segs l rd fr => segsS rec l rd fr lo H k
  | .ops free l rd fr => opsS E.g0 rec free l rd fr lo H k
  | .apply f args => applyS rec f args lo H k
  | .call f args => callfS E rec f args lo H k

def runS (E : Env) (n : Nat) : RecS := Nat.rec (fun _ _ _ _ => false) (fun _ ih => stepS E ih) n

theorem runS_succ (E : Env) (n : Nat) : runS E (n + 1) = stepS E (runS E n) := rfl

def app2 (k : Out → Heap → Bool) : Out × Heap → Bool := fun p => k p.1 p.2

theorem lowS_eq (free : Option Free) (o : IOp) (lo : Nat) (H : Heap) : lowS free o.amb lo H = lowOf free o lo H := by
  unfold lowS lowOf
  cases free with
  | none => rfl
  | some f => cases o.amb <;> rfl

theorem runS_eq (E : Env) : ∀ (n : Nat) (t : Task) (lo : Nat) (H : Heap) (k : Out → Heap → Bool), runS E n t lo H k = opt (run E n t lo H) (app2 k) := by
  intro n
  induction n with
  | zero => intro t lo H k; rfl
  | succ n ih =>
    intro t lo H k
    rw [runS_succ]
    cases t with
    | code c rd fr =>
      cases c with
      | skip => rfl
      | exit id => rfl
      | ret => rfl
      | ops l => exact ih _ _ _ _
      | scope c => exact ih _ _ _ _
      | seq a b =>
        simp only [stepS, codeS, run, ih]
        cases run E n (.code a rd fr) lo H with
        | none => rfl
        | some p =>
          obtain ⟨o, H1⟩ := p
          cases o with
          | val v => rfl
          | ex e fr => cases e <;> rfl
      | cond c a b =>
        simp only [stepS, codeS, run, aS_eq]
        cases c.eval E.g0 fr.tm with
        | none => rfl
        | some v => cases v <;> first | rfl | (rename_i b; cases b <;> exact ih _ _ _ _)
      | block id c =>
        simp only [stepS, codeS, run, ih]
        cases run E n (.code c rd fr) lo H with
        | none => rfl
        | some p =>
          obtain ⟨o, H1⟩ := p
          cases o with
          | val v => rfl
          | ex e fr => cases e with
            | normal => rfl
            | jmp j => cases j with
              | ret => rfl
              | exit id' =>
                simp only [opt, app2, BlkS]
                by_cases h : id' = id
                · subst h; simp
                · have : Nat.beq id' id = false := by
                    cases hb : Nat.beq id' id with
                    | false => rfl
                    | true => exact absurd (Nat.eq_of_beq_eq_true hb) h
                  simp [this, h]
      | loop c =>
        simp only [stepS, codeS, run, ih]
        cases run E n (.code c rd fr) lo H with
        | none => rfl
        | some p =>
          obtain ⟨o, H1⟩ := p
          cases o with
          | val v => rfl
          | ex e fr => cases e <;> rfl
      | rfn f ps asg body =>
        simp only [stepS, codeS, run, aS_eq]
        cases f.eval E.g0 fr.tm with
        | none => rfl
        | some g =>
          simp only [opt, rfn0S]
          cases enterI rd H with
          | none => rfl
          | some e =>
            obtain ⟨df, marks, H1⟩ := e
            simp only [opt, newS_eq, ih]
            cases run E n (.apply g [.yield H1.n]) lo (H1.new (.loop .ready none fr.tm ps asg body df)) with
            | none => rfl
            | some p =>
              obtain ⟨o, H2⟩ := p
              cases o with
              | ex e fr => rfl
              | val v =>
                simp only [opt, app2, ValS, rfnS]
                cases H2.get H1.n with
                | none => rfl
                | some ob => cases ob with
                  | loop st pend tm ps asg body df =>
                    simp only [putS_eq]
                    split
                    · rfl
                    · cases pend <;> rfl
                  | _ => rfl
    | segs l rd fr =>
      cases l with
      | nil => rfl
      | cons x l =>
        obtain ⟨s, os⟩ := x
        simp only [stepS, segsS, run, ih, freeOf]
        cases run E n (.ops (match s with | .seq => none | .free => some []) os rd fr) lo H with
        | none => rfl
        | some p =>
          obtain ⟨o, H1⟩ := p
          cases o with
          | val v => rfl
          | ex e fr => cases e <;> rfl
    | ops free l rd fr =>
      cases l with
      | nil => rfl
      | cons o l =>
        obtain ⟨dst, kd, args, guard, amb, idx, mask⟩ := o
        simp only [stepS, opsS, run, wantS_eq, frS_eq, ih, asS_eq]
        cases wantedI fr.tm guard with
        | false => rfl
        | true =>
          simp only [if_true]
          cases evalAll E.g0 fr.tm args with
          | none => rfl
          | some xs =>
            simp only [opt]
            cases nextOf free ⟨dst, kd, args, guard, amb, idx, mask⟩ xs with
            | none => rfl
            | some free' =>
              simp only
              have hl := lowS_eq free ⟨dst, kd, args, guard, amb, idx, mask⟩ lo H
              simp only at hl
              rw [hl]
              generalize lowOf free ⟨dst, kd, args, guard, amb, idx, mask⟩ lo H = lw
              cases kd with
              | call =>
                simp only [opS, Kd.isCall, callS]
                cases xs with
                | nil => rfl
                | cons f xs =>
                  simp only [ih]
                  cases run E n (.apply f xs) lw H with
                  | none => rfl
                  | some p =>
                    obtain ⟨o, H1⟩ := p
                    cases o <;> rfl
              | _ =>
                simp only [opS, Kd.isCall, ← ev1D_eq]
                cases ev1D _ xs lw H with
                | none => rfl
                | some p =>
                  obtain ⟨v, d⟩ := p
                  simp only [fV_eq, dS_eq]
                  rfl
    | apply f args =>
      cases f with
      | fn f first cap =>
        simp only [stepS, applyS, run, fL_eq]
        exact ih _ _ _ _
      | yield l =>
        simp only [stepS, applyS, run, yieldS]
        cases H.get l with
        | none => rfl
        | some ob => cases ob with
          | loop st pend tm ps asg body df =>
            simp only [fL_eq, ih]
            split
            · cases run E n (.code asg (some l) ⟨setAll tm ps args, []⟩) lo H with
              | none => rfl
              | some p =>
                obtain ⟨o, H1⟩ := p
                cases o with
                | val v => rfl
                | ex e fr => cases e with
                  | jmp j => rfl
                  | normal =>
                    simp only [opt, app2, ExS, onlyNorm]
                    cases beginI l H1 with
                    | none => rfl
                    | some H2 =>
                      simp only
                      cases run E n (.code body (some l) fr) lo H2 with
                      | none => rfl
                      | some p =>
                        obtain ⟨o, H3⟩ := p
                        cases o <;> rfl
            · rfl
          | _ => rfl
      | _ => rfl
    | call f args =>
      simp only [stepS, callfS, run]
      cases E.sums f with
      | some s =>
        simp only
        cases s args lo H with
        | none => rfl
        | some p => rfl
      | none =>
        simp only
        cases E.fns f with
        | none => rfl
        | some fn =>
          obtain ⟨nt, res, body⟩ := fn
          simp only [opt, fnS, fL_eq, ih]
          cases run E n (.code body none ⟨args ++ undefs (nt - args.length), []⟩) lo H with
          | none => rfl
          | some p =>
            obtain ⟨o, H1⟩ := p
            cases o with
            | val v => rfl
            | ex e fr =>
              have key : leaveS res lo fr H1 k = opt (match unmark lo fr.marks H1 with | none => none | some H'' => (resultsOf H'' fr.tm res).map fun vs => (Out.val (tupled vs), H'')) (app2 k) := by
                obtain ⟨tm, marks⟩ := fr
                cases marks with
                | nil =>
                  simp only [leaveS, ressS_eq, fV_eq, unmark]
                  cases resultsOf H1 tm res <;> rfl
                | cons m ms =>
                  simp only [leaveS, ressS_eq, fV_eq]
                  cases unmark lo (m :: ms) H1 with
                  | none => rfl
                  | some H2 => simp only [opt]; cases resultsOf H2 tm res <;> rfl
              cases e with
              | normal => exact key
              | jmp j => cases j with
                | ret => exact key
                | exit id => rfl

theorem run_of_runS {E : Env} {n : Nat} {t : Task} {lo : Nat} {H : Heap} {k : Out → Heap → Bool} (h : runS E n t lo H k = true) : ∃ o H', run E n t lo H = some (o, H') ∧ k o H' = true := by
  rw [runS_eq] at h
  cases hr : run E n t lo H with
  | none => rw [hr] at h; cases h
  | some p => rw [hr] at h; exact ⟨p.1, p.2, rfl, h⟩

end Go.Iso
end
