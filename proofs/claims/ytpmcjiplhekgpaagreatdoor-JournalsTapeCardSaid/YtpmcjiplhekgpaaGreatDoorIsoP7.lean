/-
  rules of runs over ranges, slices and lists.
-/
import Derived.Test.YtpmcjiplhekgpaaGreatDoorIsoP6
import Derived.IntWalk
set_option linter.unusedSimpArgs false
set_option linter.unusedVariables false

/-
  Iso, part M1: ranges over functions as equations; a rule for loops; conditional rules.
-/
namespace Go.Iso

section
variable {E : Env} {lo : Nat} {rd : Option Nat} {fr : Fr} {H : Heap} {Q : Out → Heap → Prop}

def pendX : Option Jmp → Ex
  | none => .normal
  | some j => .jmp j
theorem pendX_n : pendX none = .normal := rfl
theorem pendX_s {j : Jmp} : pendX (some j) = .jmp j := rfl
def rfnE (l lo : Nat) (marks : List Nat) (fr : Fr) (Q : Out → Heap → Prop) (H2 : Heap) (ob : Option IObj) : Prop :=
  match ob with
  | some (.loop st pend tm ps asg body df) => st ≠ .busy ∧ lo ≤ l ∧ Q (.ex (pendX pend) { fr with marks := marks ++ fr.marks }) (H2.put l (.loop .exhausted pend tm ps asg body df))
  | _ => False
def rfnC (l lo : Nat) (marks : List Nat) (fr : Fr) (Q : Out → Heap → Prop) : Out → Heap → Prop := fun o H2 =>
  match o with
  | .val _ => rfnE l lo marks fr Q H2 (H2.get l)
  | _ => False
def rfnD (E : Env) (lo : Nat) (ps : List Nat) (asg body : IC) (fr : Fr) (Q : Out → Heap → Prop) (g : IV) (e : Nat × List Nat × Heap) : Prop :=
  W E lo (.apply g [.yield e.2.2.n]) (e.2.2.new (.loop .ready none fr.tm ps asg body e.1)) (rfnC e.2.2.n lo e.2.1 fr Q)
theorem rfnC_v {l : Nat} {marks : List Nat} {v : IV} : rfnC l lo marks fr Q (.val v) H = rfnE l lo marks fr Q H (H.get l) := rfl
theorem rfnE_l {l : Nat} {marks : List Nat} {st : LoopState} {pend : Option Jmp} {tm : List IV} {ps : List Nat} {asg body : IC} {df : Nat} :
    rfnE l lo marks fr Q H (some (.loop st pend tm ps asg body df)) = (st ≠ .busy ∧ lo ≤ l ∧ Q (.ex (pendX pend) { fr with marks := marks ++ fr.marks }) (H.put l (.loop .exhausted pend tm ps asg body df))) := rfl

theorem W_rfnD {f : IA} {ps : List Nat} {asg body : IC} {g : IV} {e : Nat × List Nat × Heap} (hg : f.eval E.g0 fr.tm = some g) (he : enterI rd H = some e) : W E lo (.code (.rfn f ps asg body) rd fr) H Q = rfnD E lo ps asg body fr Q g e := by
  obtain ⟨df, marks, H1⟩ := e
  refine propext ⟨?_, ?_⟩
  · rintro ⟨n, o, H', h, hq⟩
    cases n with
    | zero => cases h
    | succ n =>
      rw [run] at h
      simp only [hg, he] at h
      cases h1 : run E n (.apply g [.yield H1.n]) lo (H1.new (.loop .ready none fr.tm ps asg body df)) with
      | none => rw [h1] at h; cases h
      | some p =>
        rw [h1] at h
        obtain ⟨o1, H2⟩ := p
        refine ⟨n, o1, H2, h1, ?_⟩
        cases o1 with
        | ex e fr => cases h
        | val v =>
          simp only at h
          show rfnE _ _ _ _ _ _ _
          cases h2 : H2.get H1.n with
          | none => rw [h2] at h; cases h
          | some ob =>
            rw [h2] at h
            cases ob with
            | loop st pend tm ps' asg' body' df' =>
              simp only at h
              split at h
              · cases h
              · rename_i hn
                refine ⟨fun e => hn (.inl e), Nat.le_of_not_lt fun e => hn (.inr e), ?_⟩
                cases pend with
                | none => injection h with h; injection h with h3 h4; subst h3 h4; exact hq
                | some j => injection h with h; injection h with h3 h4; subst h3 h4; exact hq
            | _ => cases h
  · intro h
    refine W_rfn hg he (h.mono fun o H2 h => ?_)
    cases o with
    | ex e fr => exact h.elim
    | val v =>
      have h' : rfnE H1.n lo marks fr Q H2 (H2.get H1.n) := h
      cases h2 : H2.get H1.n with
      | none => rw [h2] at h'; exact h'.elim
      | some ob =>
        rw [h2] at h'
        cases ob with
        | loop st pend tm ps' asg' body' df' => exact ⟨v, st, pend, tm, ps', asg', body', df', rfl, rfl, h'.1, h'.2.1, by cases pend <;> exact h'.2.2⟩
        | _ => exact h'.elim

theorem W_rfn0 {f : IA} {ps : List Nat} {asg body : IC} : W E lo (.code (.rfn f ps asg body) none fr) H Q = optC (f.eval E.g0 fr.tm) fun g =>
    W E lo (.apply g [.yield (H.n + 1)]) ((H.new .deferred).new (.loop .ready none fr.tm ps asg body H.n)) (rfnC (H.n + 1) lo [H.n] fr Q) := by
  cases hg : f.eval E.g0 fr.tm with
  | none =>
    refine propext ⟨?_, fun h => h.elim⟩
    rintro ⟨n, o, H', h, hq⟩
    cases n with
    | zero => cases h
    | succ n => rw [run] at h; simp only [hg] at h; cases h
  | some g => exact W_rfnD hg (e := (H.n, [H.n], H.new .deferred)) rfl
/-- The end of a turn. -/
def turnE (l : Nat) (Q : Out → Heap → Prop) (e : Ex) (H : Heap) (ob : Option IObj) : Prop :=
  match ob with
  | some (.loop _ _ tm ps asg body df) =>
    match e with
    | .normal => Q (.val (.bool true)) (H.put l (.loop .ready none tm ps asg body df))
    | .jmp j => Q (.val (.bool false)) (H.put l (.loop .done (some j) tm ps asg body df))
  | _ => False
def turnC (l : Nat) (Q : Out → Heap → Prop) : Out → Heap → Prop := fun o H =>
  match o with
  | .ex e _ => turnE l Q e H (H.get l)
  | _ => False
def readyE (E : Env) (lo l : Nat) (body : IC) (Q : Out → Heap → Prop) (fr : Fr) (H : Heap) (ob : Option IObj) : Prop :=
  match ob with
  | some (.loop .ready pend tm ps asg body' df) => W E lo (.code body (some l) fr) (H.put l (.loop .busy pend tm ps asg body' df)) (turnC l Q)
  | _ => False
def readyC (E : Env) (lo l : Nat) (body : IC) (Q : Out → Heap → Prop) : Out → Heap → Prop := fun o H =>
  match o with
  | .ex .normal fr => readyE E lo l body Q fr H (H.get l)
  | _ => False
def yieldE (E : Env) (lo l : Nat) (args : List IV) (Q : Out → Heap → Prop) (H : Heap) (ob : Option IObj) : Prop :=
  match ob with
  | some (.loop _ _ tm ps asg body _) => args.length = ps.length ∧ lo ≤ l ∧ W E lo (.code asg (some l) ⟨setAll tm ps args, []⟩) H (readyC E lo l body Q)
  | _ => False
theorem turnC_e {l : Nat} {e : Ex} : turnC l Q (.ex e fr) H = turnE l Q e H (H.get l) := rfl
theorem turnE_n {l : Nat} {st : LoopState} {pend : Option Jmp} {tm : List IV} {ps : List Nat} {asg body : IC} {df : Nat} : turnE l Q .normal H (some (.loop st pend tm ps asg body df)) = Q (.val (.bool true)) (H.put l (.loop .ready none tm ps asg body df)) := rfl
theorem turnE_j {l : Nat} {j : Jmp} {st : LoopState} {pend : Option Jmp} {tm : List IV} {ps : List Nat} {asg body : IC} {df : Nat} : turnE l Q (.jmp j) H (some (.loop st pend tm ps asg body df)) = Q (.val (.bool false)) (H.put l (.loop .done (some j) tm ps asg body df)) := rfl
theorem readyC_n {l : Nat} {body : IC} : readyC E lo l body Q (.ex .normal fr) H = readyE E lo l body Q fr H (H.get l) := rfl
theorem readyE_l {l : Nat} {body body' : IC} {pend : Option Jmp} {tm : List IV} {ps : List Nat} {asg : IC} {df : Nat} : readyE E lo l body Q fr H (some (.loop .ready pend tm ps asg body' df)) = W E lo (.code body (some l) fr) (H.put l (.loop .busy pend tm ps asg body' df)) (turnC l Q) := rfl
theorem yieldE_l {l : Nat} {args : List IV} {st : LoopState} {pend : Option Jmp} {tm : List IV} {ps : List Nat} {asg body : IC} {df : Nat} : yieldE E lo l args Q H (some (.loop st pend tm ps asg body df)) = (args.length = ps.length ∧ lo ≤ l ∧ W E lo (.code asg (some l) ⟨setAll tm ps args, []⟩) H (readyC E lo l body Q)) := rfl

theorem W_yield0 {l : Nat} {args : List IV} : W E lo (.apply (.yield l) args) H Q = yieldE E lo l args Q H (H.get l) := by
  refine propext ⟨?_, ?_⟩
  · rintro ⟨n, o, H', h, hq⟩
    cases n with
    | zero => cases h
    | succ n =>
      rw [run] at h
      try simp only at h
      cases hg : H.get l with
      | none => rw [hg] at h; cases h
      | some ob =>
        rw [hg] at h
        cases ob with
        | loop st pend tm ps asg body df =>
          simp only at h
          split at h
          · rename_i hl
            refine ⟨hl.1, hl.2, ?_⟩
            cases h1 : run E n (.code asg (some l) ⟨setAll tm ps args, []⟩) lo H with
            | none => rw [h1] at h; cases h
            | some p =>
              rw [h1] at h
              obtain ⟨o1, H1⟩ := p
              refine ⟨n, o1, H1, h1, ?_⟩
              cases o1 with
              | val v => cases h
              | ex e fr => cases e with
                | jmp j => cases h
                | normal =>
                  simp only at h
                  show readyE _ _ _ _ _ _ _ _
                  simp only [beginI] at h
                  cases hb : H1.get l with
                  | none => rw [hb] at h; cases h
                  | some ob2 =>
                    rw [hb] at h
                    cases ob2 with
                    | loop st2 pend2 tm2 ps2 asg2 body2 df2 =>
                      cases st2 with
                      | ready =>
                        simp only at h
                        cases h2 : run E n (.code body (some l) fr) lo (H1.put l (.loop .busy pend2 tm2 ps2 asg2 body2 df2)) with
                        | none => rw [h2] at h; cases h
                        | some p =>
                          rw [h2] at h
                          obtain ⟨o3, H3⟩ := p
                          refine ⟨n, o3, H3, h2, ?_⟩
                          cases o3 with
                          | val v => cases h
                          | ex e fr3 =>
                            simp only [endI] at h
                            show turnE _ _ _ _ _
                            cases hc : H3.get l with
                            | none => rw [hc] at h; cases h
                            | some ob3 =>
                              rw [hc] at h
                              cases ob3 with
                              | loop st3 pend3 tm3 ps3 asg3 body3 df3 =>
                                cases e with
                                | normal => injection h with h; injection h with h3 h4; subst h3 h4; exact hq
                                | jmp j => injection h with h; injection h with h3 h4; subst h3 h4; exact hq
                              | _ => cases h
                      | _ => cases h
                    | _ => cases h
          · cases h
        | _ => cases h
  · intro h
    cases hg : H.get l with
    | none => rw [hg] at h; exact h.elim
    | some ob =>
      rw [hg] at h
      cases ob with
      | loop st pend tm ps asg body df =>
        obtain ⟨h1, h2, h3⟩ := h
        refine W_yield hg h1 h2 (h3.mono fun o H1 h => ?_)
        cases o with
        | val v => exact h.elim
        | ex e fr => cases e with
          | jmp j => exact h.elim
          | normal =>
            have h' : readyE E lo l body Q fr H1 (H1.get l) := h
            cases hb : H1.get l with
            | none => rw [hb] at h'; exact h'.elim
            | some ob2 =>
              rw [hb] at h'
              cases ob2 with
              | loop st2 pend2 tm2 ps2 asg2 body2 df2 =>
                cases st2 with
                | ready =>
                  refine ⟨fr, _, rfl, by simp only [beginI, hb], W.mono h' fun o H3 h => ?_⟩
                  cases o with
                  | val v => exact h.elim
                  | ex e fr3 =>
                    have h'' : turnE l Q e H3 (H3.get l) := h
                    cases hc : H3.get l with
                    | none => rw [hc] at h''; exact h''.elim
                    | some ob3 =>
                      rw [hc] at h''
                      cases ob3 with
                      | loop st3 pend3 tm3 ps3 asg3 body3 df3 =>
                        cases e with
                        | normal => exact ⟨_, _, (_, _), rfl, by simp only [endI, hc]; rfl, h''⟩
                        | jmp j => exact ⟨_, _, (_, _), rfl, by simp only [endI, hc]; rfl, h''⟩
                      | _ => exact h''.elim
                | _ => exact h'.elim
              | _ => exact h'.elim
      | _ => exact h.elim

/-! A rule for loops. -/
def loopC (I : Nat → Fr → Heap → Prop) (k : Nat) (Q : Out → Heap → Prop) : Out → Heap → Prop := fun o H =>
  match o with
  | .ex .normal fr => ∃ k', k' < k ∧ I k' fr H
  | o => Q o H
theorem W_inv {c : IC} (I : Nat → Fr → Heap → Prop) (h : ∀ k fr H, I k fr H → ∀ L : Out → Heap → Prop, (∀ k' fr H, k' < k → I k' fr H → L (.ex .normal fr) H) → (∀ j fr H, L (.ex (.jmp j) fr) H = Q (.ex (.jmp j) fr) H) → W E lo (.code c rd fr) H L) : ∀ (k : Nat) {fr : Fr} {H : Heap}, I k fr H → W E lo (.code (.loop c) rd fr) H Q := by
  intro k
  induction k using Nat.strongRecOn with
  | ind k ih =>
    intro fr H hi
    rw [W_loop]
    refine (h k fr H hi (loopC I k Q) (fun k' fr H h1 h2 => ⟨k', h1, h2⟩) (fun j fr H => rfl)).mono fun o H' hc => ?_
    cases o with
    | val v => exact hc
    | ex e fr' => cases e with
      | jmp j => exact hc
      | normal =>
        obtain ⟨k', hk, hi'⟩ := hc
        exact ih k' hk hi'
end

/-! Conditional rules: their conditions are for omega. -/
theorem cEqL {a b : Nat} (h : b < a) : (a = b) = False := by simp; omega
theorem cEqR {a b : Nat} (h : a < b) : (a = b) = False := by simp; omega
theorem cLe {a b : Nat} (h : a ≤ b) : (a ≤ b) = True := by simp [h]
theorem cLeF {a b : Nat} (h : b < a) : (a ≤ b) = False := by simp; omega
theorem cLt {a b : Nat} (h : a < b) : (a < b) = True := by simp [h]
theorem cLtF {a b : Nat} (h : b ≤ a) : (a < b) = False := by simp; omega
theorem iLe {a b : Int} (h : a ≤ b) : (a ≤ b) = True := by simp [h]
theorem iLeF {a b : Int} (h : b < a) : (a ≤ b) = False := by simp; omega
theorem iLt {a b : Int} (h : a < b) : (a < b) = True := by simp [h]
theorem iLtF {a b : Int} (h : b ≤ a) : (a < b) = False := by simp; omega
theorem iGe {a b : Int} (h : a ≥ b) : (a ≥ b) = True := by simp; omega
theorem iGeF {a b : Int} (h : a < b) : (a ≥ b) = False := by simp; omega
theorem iGt {a b : Int} (h : a > b) : (a > b) = True := by simp; omega
theorem iGtF {a b : Int} (h : a ≤ b) : (a > b) = False := by simp; omega
theorem iBeq {a b : Int} (h : a = b) : (a == b) = true := by simp [h]
theorem iBeqF {a b : Int} (h : a < b ∨ b < a) : (a == b) = false := by simp; omega
theorem iBne {a b : Int} (h : a < b ∨ b < a) : (a != b) = true := by simp; omega
theorem iBneF {a b : Int} (h : a = b) : (a != b) = false := by simp [h]
theorem wI64 {a : Int} (h : -9223372036854775808 ≤ a ∧ a ≤ 9223372036854775807) : IntKind.i64.wrap a = a := IntWalk.i64_in a (by omega)
theorem wU8 {a : Int} (h : 0 ≤ a ∧ a ≤ 255) : IntKind.u8.wrap a = a := IntWalk.u8_in a h

/-! The cells of values. -/
theorem cellsV_agg {l : List IV} : (IV.agg l).cells = l := rfl
theorem cellsV_int {k : IntKind} {n : Int} : (IV.int k n).cells = [.int k n] := rfl
theorem cellsV_bool {b : Bool} : (IV.bool b).cells = [.bool b] := rfl
theorem cellsV_str {s : List UInt8} : (IV.str s).cells = [.str s] := rfl
theorem cellsV_ptr {b o : Nat} : (IV.ptr b o).cells = [.ptr b o] := rfl
theorem cellsV_nilPtr : IV.nilPtr.cells = [.nilPtr] := rfl
theorem cellsV_slice {b o n c : Nat} {ex : Bool} : (IV.slice b o n c ex).cells = [.slice b o n c ex] := rfl
theorem cellsV_nilSlice : IV.nilSlice.cells = [.nilSlice] := rfl
theorem cellsV_map {b : Nat} : (IV.map b).cells = [.map b] := rfl
theorem cellsV_nilMap : IV.nilMap.cells = [.nilMap] := rfl
theorem cellsV_fn {f : FuncId} {a b : List IV} : (IV.fn f a b).cells = [.fn f a b] := rfl
theorem cellsV_yield {b : Nat} : (IV.yield b).cells = [.yield b] := rfl
theorem cellsV_nilFunc : IV.nilFunc.cells = [.nilFunc] := rfl
theorem cellsV_iface {t : TypeId} {v : IV} : (IV.iface t v).cells = [.iface t v] := rfl
theorem cellsV_nilIface : IV.nilIface.cells = [.nilIface] := rfl

theorem oneV_int {k : IntKind} {n : Int} : (IV.int k n).one = true := rfl
theorem oneV_bool {b : Bool} : (IV.bool b).one = true := rfl
theorem oneV_str {s : List UInt8} : (IV.str s).one = true := rfl
theorem oneV_ptr {b o : Nat} : (IV.ptr b o).one = true := rfl
theorem oneV_nilPtr : IV.nilPtr.one = true := rfl
theorem oneV_slice {b o n c : Nat} {ex : Bool} : (IV.slice b o n c ex).one = true := rfl
theorem oneV_nilSlice : IV.nilSlice.one = true := rfl
theorem oneV_map {b : Nat} : (IV.map b).one = true := rfl
theorem oneV_nilMap : IV.nilMap.one = true := rfl
theorem oneV_fn {f : FuncId} {a b : List IV} : (IV.fn f a b).one = true := rfl
theorem oneV_yield {b : Nat} : (IV.yield b).one = true := rfl
theorem oneV_nilFunc : IV.nilFunc.one = true := rfl
theorem oneV_iface {t : TypeId} {v : IV} : (IV.iface t v).one = true := rfl
theorem oneV_nilIface : IV.nilIface.one = true := rfl

/-! Reading. -/
def readO (ob : IObj) (o n : Nat) : Option (List IV) :=
  match ob with
  | .cells _ _ _ cs => if o + n ≤ cs.length then some ((cs.drop o).take n) else none
  | _ => none
theorem readO_c {ro : Bool} {e ez : Nat} {cs : List IV} {o n : Nat} : readO (.cells ro e ez cs) o n = if o + n ≤ cs.length then some ((cs.drop o).take n) else none := rfl
theorem read_new {H : Heap} {ob : IObj} {b o n : Nat} : (H.new ob).read b o n = if H.n = b then readO ob o n else H.read b o n := by
  unfold Heap.read
  rw [Heap.get_new]
  by_cases h : H.n = b
  · simp only [h, if_true]; cases ob <;> rfl
  · simp [h]
theorem read_put {H : Heap} {ob : IObj} {b' b o n : Nat} : (H.put b' ob).read b o n = if b' = b then readO ob o n else H.read b o n := by
  unfold Heap.read
  rw [Heap.get_put]
  by_cases h : b' = b
  · simp only [h, if_true]; cases ob <;> rfl
  · simp [h]
theorem read_get {H : Heap} {ro : Bool} {e ez : Nat} {cs : List IV} {b : Nat} (h : H.get b = some (.cells ro e ez cs)) (o n : Nat) : H.read b o n = if o + n ≤ cs.length then some ((cs.drop o).take n) else none := by
  unfold Heap.read
  rw [h]
theorem read_eq {H H' : Heap} {b : Nat} (h : H'.get b = H.get b) (o n : Nat) : H'.read b o n = H.read b o n := by
  unfold Heap.read
  rw [h]
theorem Keep.read {lo : Nat} {H H' : Heap} (k : Keep lo H H') (b o n : Nat) (h1 : b < lo) (h2 : b < H.n) : H'.read b o n = H.read b o n := read_eq (k.2 b h1 h2) o n
end Go.Iso

/-
  Iso, part M2: slices of values of any kind.
-/
namespace Go.Iso

/-- A slice's value. -/
inductive SV where
  | nil
  | sl (b o n c : Nat) (ex : Bool)
  deriving Inhabited
def SV.iv : SV → IV
  | .nil => .nilSlice
  | .sl b o n c ex => .slice b o n c ex
def SV.blk : SV → Nat
  | .nil => 0
  | .sl b _ _ _ _ => b
def SV.off : SV → Nat
  | .nil => 0
  | .sl _ o _ _ _ => o
/-- The capacity is known, and is the length. -/
def SV.tight : SV → Prop
  | .nil => True
  | .sl _ _ n c ex => c = n ∧ ex = true
theorem SV.iv_one (v : SV) : v.iv.one = true := by cases v <;> rfl
theorem SV.iv_cells (v : SV) : v.iv.cells = [v.iv] := by cases v <;> rfl
theorem SV.nil_iv : SV.nil.iv = .nilSlice := rfl
theorem SV.sl_iv {b o n c : Nat} {ex : Bool} : (SV.sl b o n c ex).iv = .slice b o n c ex := rfl

/-- How a value lies in cells. -/
class Cell (α : Type) where
  z : Nat
  cs : α → List IV
  len : ∀ a, (cs a).length = z
  one : ∀ a, (cs a).all IV.one = true
  pos : 0 < z

instance : Cell SV where
  z := 1
  cs v := [v.iv]
  len _ := rfl
  one v := by simp [SV.iv_one]
  pos := by omega
theorem cs_SV (v : SV) : Cell.cs v = [v.iv] := rfl
theorem SV.blk_sl {b o n c : Nat} {ex : Bool} : (SV.sl b o n c ex).blk = b := rfl
theorem SV.off_sl {b o n c : Nat} {ex : Bool} : (SV.sl b o n c ex).off = o := rfl

section
variable {α : Type} [Cell α]

def flat (l : List α) : List IV := l.flatMap Cell.cs
theorem flat_nil : flat ([] : List α) = [] := rfl
theorem flat_cons (a : α) (l : List α) : flat (a :: l) = Cell.cs a ++ flat l := rfl
theorem flat_append (a b : List α) : flat (a ++ b) = flat a ++ flat b := by simp [flat]
theorem flat_one (a : α) : flat [a] = Cell.cs a := by simp [flat]
theorem flat_length (l : List α) : (flat l).length = l.length * Cell.z α := by
  induction l with
  | nil => simp [flat]
  | cons p l ih => rw [flat_cons, List.length_append, ih, Cell.len, List.length_cons, Nat.succ_mul]; omega
theorem flat_all (l : List α) : (flat l).all IV.one = true := by
  induction l with
  | nil => rfl
  | cons p l ih => rw [flat_cons, List.all_append, ih, Cell.one]; rfl
theorem flat_drop (l : List α) (k : Nat) : (flat l).drop (k * Cell.z α) = flat (l.drop k) := by
  induction l generalizing k with
  | nil => simp [flat]
  | cons p l ih =>
    cases k with
    | zero => simp
    | succ k => rw [flat_cons, List.drop_succ_cons, Nat.succ_mul, Nat.add_comm, ← Cell.len p, List.drop_length_add_append, Cell.len, ih]
theorem flat_take (l : List α) (k : Nat) : (flat l).take (k * Cell.z α) = flat (l.take k) := by
  induction l generalizing k with
  | nil => simp [flat]
  | cons p l ih =>
    cases k with
    | zero => simp [flat]
    | succ k => rw [flat_cons, List.take_succ_cons, flat_cons, Nat.succ_mul, Nat.add_comm, ← Cell.len p, List.take_length_add_append, Cell.len, ih]
theorem flat_at (l : List α) (i : Nat) (h : i < l.length) : ((flat l).drop (i * Cell.z α)).take (Cell.z α) = Cell.cs l[i] := by
  rw [flat_drop, List.drop_eq_getElem_cons h, flat_cons, ← Cell.len l[i], List.take_left]

theorem read_sub {H : Heap} {b o n a m : Nat} {cs : List IV} (h : H.read b o n = some cs) (ha : a + m ≤ n) : H.read b (o + a) m = some ((cs.drop a).take m) := by
  unfold Heap.read at h ⊢
  cases hg : H.get b with
  | none => rw [hg] at h; cases h
  | some ob =>
    rw [hg] at h
    cases ob with
    | cells ro e ez cs0 =>
      simp only at h ⊢
      split at h
      · injection h with h
        rw [if_pos (by omega), ← h, List.drop_take, List.take_take, List.drop_drop, show min m (n - a) = m from by omega]
      · cases h
    | _ => cases h
/-- A slice holds these values. -/
def Sl (H : Heap) (v : SV) (l : List α) : Prop :=
  match v with
  | .nil => l = []
  | .sl b o n c _ => n = l.length ∧ n ≤ c ∧ (l ≠ [] → b < H.n ∧ H.read b o (l.length * Cell.z α) = some (flat l))

theorem Sl.keep {H H' : Heap} {v : SV} {l : List α} (h : Sl H v l) (k : Keep H.n H H') : Sl H' v l := by
  cases v with
  | nil => exact h
  | sl b o n c ex => exact ⟨h.1, h.2.1, fun hl => ⟨Nat.lt_of_lt_of_le (h.2.2 hl).1 k.1, (k.read b o _ (h.2.2 hl).1 (h.2.2 hl).1).trans (h.2.2 hl).2⟩⟩
/-- Only the block of the slice matters. -/
theorem Sl.same {H H' : Heap} {v : SV} {l : List α} (h : Sl H v l) (hn : H.n ≤ H'.n) (hg : l ≠ [] → H'.get v.blk = H.get v.blk) : Sl H' v l := by
  cases v with
  | nil => exact h
  | sl b o n c ex => exact ⟨h.1, h.2.1, fun hl => ⟨Nat.lt_of_lt_of_le (h.2.2 hl).1 hn, (read_eq (hg hl) o _).trans (h.2.2 hl).2⟩⟩
theorem Sl.blk_lt {H : Heap} {v : SV} {l : List α} (h : Sl H v l) (hl : l ≠ []) : v.blk < H.n := by
  cases v with
  | nil => exact absurd h hl
  | sl b o n c ex => exact (h.2.2 hl).1
theorem Sl.empty {H : Heap} : Sl H .nil ([] : List α) := rfl

theorem Sl.ln {H : Heap} {v : SV} {l : List α} (h : Sl H v l) (lo : Nat) (H' : Heap) : ev1 .lenSl [v.iv] lo H' = some (.int .i64 l.length, H') := by
  cases v with
  | nil => have h : l = [] := h; subst h; rfl
  | sl b o n c ex => rw [← h.1]; rfl
theorem Sl.lenI {H : Heap} {v : SV} {l : List α} (h : Sl H v l) : lenI v.iv = some l.length := by
  cases v with
  | nil => have h : l = [] := h; subst h; rfl
  | sl b o n c ex => rw [← h.1]; rfl
theorem Sl.dstLen {H : Heap} {v : SV} {l : List α} (h : Sl H v l) : dstLen v.iv = some l.length := by
  cases v with
  | nil => have h : l = [] := h; subst h; rfl
  | sl b o n c ex => rw [← h.1]; rfl
theorem Sl.srcI {H : Heap} {v : SV} {l : List α} (h : Sl H v l) {z : Nat} (hz : Cell.z α = z) : srcI H z l.length v.iv = some (flat l) := by
  subst hz
  cases v with
  | nil => have h : l = [] := h; subst h; rfl
  | sl b o n c ex =>
    show (if l.length = 0 then some [] else H.read b o (l.length * Cell.z α)) = _
    by_cases hl : l = []
    · subst hl; rfl
    · rw [if_neg (by intro e; exact hl (List.length_eq_zero_iff.1 e))]; exact (h.2.2 hl).2
theorem Sl.idx {H : Heap} {v : SV} {l : List α} (h : Sl H v l) (z : Nat) (x : Int) (lo : Nat) (H' : Heap) (h0 : 0 ≤ x) (h1 : x < l.length) : ev1 (.idxSl z) [v.iv, .int .i64 x] lo H' = some (.ptr v.blk (v.off + x.toNat * z), H') := by
  cases v with
  | nil => have h : l = [] := h; subst h; simp at h1; omega
  | sl b o n c ex =>
    have hn := h.1
    simp only [ev1, SV.iv, SV.blk, SV.off]
    rw [if_pos ⟨h0, by omega⟩]
theorem Sl.read {H : Heap} {v : SV} {l : List α} (h : Sl H v l) {z : Nat} (hz : Cell.z α = z) (i : Nat) (hi : i < l.length) : H.read v.blk (v.off + i * z) z = some (Cell.cs l[i]) := by
  subst hz
  have hl : l ≠ [] := by intro e; rw [e] at hi; simp at hi
  cases v with
  | nil => exact absurd h hl
  | sl b o n c ex =>
    have := read_sub (a := i * Cell.z α) (m := Cell.z α) (h.2.2 hl).2 (by rw [← Nat.succ_mul]; exact Nat.mul_le_mul_right _ hi)
    rw [flat_at l i hi] at this
    exact this
/-- A part of a slice. -/
theorem Sl.part {H : Heap} {b o n c : Nat} {ex : Bool} {l : List α} (h : Sl H (.sl b o n c ex) l) {z : Nat} (hz : Cell.z α = z) {a m c' : Nat} {ex' : Bool} (hm : a + m ≤ l.length) (hc : m ≤ c') : Sl H (.sl b (o + a * z) m c' ex') ((l.drop a).take m) := by
  subst hz
  have hlen : ((l.drop a).take m).length = m := by rw [List.length_take, List.length_drop]; omega
  refine ⟨hlen.symm, hc, fun hl => ?_⟩
  have hl' : l ≠ [] := by intro e; rw [e] at hl; simp at hl
  refine ⟨(h.2.2 hl').1, ?_⟩
  have := read_sub (a := a * Cell.z α) (m := m * Cell.z α) (h.2.2 hl').2 (by rw [← Nat.add_mul]; exact Nat.mul_le_mul_right _ hm)
  rw [flat_drop, flat_take] at this
  rw [hlen]
  exact this

theorem rep_flat (n : Nat) (a : α) : rep n (Cell.cs a) = flat (List.replicate n a) := by
  induction n with
  | zero => rfl
  | succ n ih => rw [rep, ih, List.replicate_succ, flat_cons]
theorem flat_set (l : List α) (i : Nat) (a : α) (h : i < l.length) : splice (flat l) (i * Cell.z α) (Cell.cs a) = flat (l.set i a) := by
  have hb : i * Cell.z α + Cell.z α ≤ (flat l).length := by rw [flat_length, ← Nat.succ_mul]; exact Nat.mul_le_mul_right _ h
  rw [splice_eq _ _ _ (by rw [Cell.len]; exact hb), flat_take, Cell.len, ← Nat.succ_mul, flat_drop, List.set_eq_take_append_cons_drop, if_pos h]
  rw [flat_append, flat_cons, List.append_assoc]

theorem expl (tm : List IV) (n : Nat) (h : tm.length = n) : tm = (List.range n).map fun i => tm.getD i IV.undef := by
  subst h
  apply List.ext_getElem
  · simp
  · intro i h1 h2
    simp [List.getD_eq_getElem?_getD, h1]

/-- A block of the call's own with room for so many values, the first of which are these. -/
def Own (H : Heap) (b e cap : Nat) (l : List α) : Prop := l.length ≤ cap ∧ b < H.n ∧ ∃ r, H.get b = some (.cells false e (Cell.z α) (flat l ++ r)) ∧ r.length = (cap - l.length) * Cell.z α

theorem Own.sl {H : Heap} {b e cap : Nat} {l : List α} (h : Own H b e cap l) (ex : Bool) : Sl H (.sl b 0 l.length cap ex) l := by
  obtain ⟨h1, h2, r, h3, h4⟩ := h
  refine ⟨rfl, h1, fun _ => ⟨h2, ?_⟩⟩
  rw [read_get h3, Nat.zero_add, if_pos (by rw [List.length_append, flat_length]; omega), List.drop_zero, ← flat_length, List.take_left]
theorem Own.same {H H' : Heap} {b e cap : Nat} {l : List α} (h : Own H b e cap l) (hn : H.n ≤ H'.n) (hg : H'.get b = H.get b) : Own H' b e cap l := by
  obtain ⟨h1, h2, r, h3, h4⟩ := h
  exact ⟨h1, Nat.lt_of_lt_of_le h2 hn, r, hg.trans h3, h4⟩
theorem Own.keep {H H' : Heap} {b e cap : Nat} {l : List α} (h : Own H b e cap l) (k : Keep H.n H H') : Own H' b e cap l := h.same k.1 (k.2 b h.2.1 h.2.1)
theorem Own.full {H : Heap} {b e : Nat} {l : List α} (h : Own H b e l.length l) : H.get b = some (.cells false e (Cell.z α) (flat l)) := by
  obtain ⟨h1, h2, r, h3, h4⟩ := h
  rw [Nat.sub_self, Nat.zero_mul] at h4
  rw [h3, List.length_eq_zero_iff.1 h4, List.append_nil]
theorem Own.mk' {H : Heap} {b e : Nat} {l : List α} (hb : b < H.n) {z : Nat} (hz : Cell.z α = z) {cs : List IV} (hg : H.get b = some (.cells false e z cs)) (hc : cs = flat l) : Own H b e l.length l := by
  subst hz hc
  exact ⟨Nat.le_refl _, hb, [], by rw [hg, List.append_nil], by simp⟩
/-- What make gives. -/
theorem Own.mksl {H : Heap} {e n : Nat} {z : Nat} (hz : Cell.z α = z) (a : α) : Own (H.new (.cells false e z (rep n (Cell.cs a)))) H.n e n (List.replicate n a) := by
  subst hz
  refine ⟨by simp, by rw [Heap.n_new]; omega, [], by rw [Heap.get_new, if_pos rfl, List.append_nil, rep_flat], by simp⟩
/-- A value is put into its place. -/
theorem Own.set {H : Heap} {b e cap : Nat} {l : List α} (h : Own H b e cap l) {z : Nat} (hz : Cell.z α = z) (i : Nat) (hi : i < l.length) (a : α) (lo : Nat) (hlo : lo ≤ b) : ∃ cs, H.write lo b (i * z) (Cell.cs a) = some (H.put b (.cells false e z cs)) ∧ Own (H.put b (.cells false e z cs)) b e cap (l.set i a) := by
  subst hz
  obtain ⟨h1, h2, r, h3, h4⟩ := h
  have hfl := flat_length l
  have hb : i * Cell.z α + Cell.z α ≤ l.length * Cell.z α := by rw [← Nat.succ_mul]; exact Nat.mul_le_mul_right _ hi
  refine ⟨splice (flat l ++ r) (i * Cell.z α) (Cell.cs a), ?_, ?_⟩
  · unfold Heap.write
    rw [h3]
    simp only
    rw [if_pos ⟨hlo, by rw [Cell.len, List.length_append]; omega, Cell.one a⟩]
  · refine ⟨by simp [h1], h2, r, ?_, by simp [h4]⟩
    rw [Heap.get_put, if_pos rfl, ← flat_set l i a hi, splice_eq _ _ _ (by rw [Cell.len, List.length_append]; omega), splice_eq _ _ _ (by rw [Cell.len]; omega), Cell.len]
    rw [List.take_append_of_le_length (by omega), List.drop_append_of_le_length (by omega)]
    simp only [List.append_assoc]
/-- Values are put behind. -/
theorem Own.push {H : Heap} {b e cap : Nat} {l m : List α} (h : Own H b e cap l) {z : Nat} (hz : Cell.z α = z) (hc : l.length + m.length ≤ cap) (lo : Nat) (hlo : lo ≤ b) : ∃ cs, H.write lo b (l.length * z) (flat m) = some (H.put b (.cells false e z cs)) ∧ Own (H.put b (.cells false e z cs)) b e cap (l ++ m) := by
  subst hz
  obtain ⟨h1, h2, r, h3, h4⟩ := h
  have hfl := flat_length l
  have hfm := flat_length m
  have hr : (flat m).length ≤ r.length := by rw [hfm, h4]; exact Nat.mul_le_mul_right _ (by omega)
  refine ⟨splice (flat l ++ r) (l.length * Cell.z α) (flat m), ?_, ?_⟩
  · unfold Heap.write
    rw [h3]
    simp only
    rw [if_pos ⟨hlo, by rw [List.length_append]; omega, flat_all m⟩]
  · refine ⟨by simp; omega, h2, r.drop (flat m).length, ?_, ?_⟩
    · rw [Heap.get_put, if_pos rfl, splice_eq _ _ _ (by rw [List.length_append]; omega), flat_append, ← hfl, List.take_left, List.drop_length_add_append]
    · rw [List.length_drop, h4, hfm, List.length_append, ← Nat.sub_mul]; congr 1; omega
end
end Go.Iso

/-
  Iso, part M3: slices: copies, capacities, appends.
-/
namespace Go.Iso
section
variable {α : Type} [Cell α]

theorem Sl.cap {H : Heap} {v : SV} {l : List α} (h : Sl H v l) (ht : v.tight) (lo : Nat) (H' : Heap) : ev1 .cap [v.iv] lo H' = some (.int .i64 l.length, H') := by
  cases v with
  | nil => have h : l = [] := h; subst h; rfl
  | sl b o n c ex =>
    obtain ⟨rfl, rfl⟩ := ht
    rw [← h.1]; rfl

/-- A value is put into its place in a block that is full. -/
theorem Own.put {H : Heap} {b e : Nat} {l : List α} (h : Own H b e l.length l) {z : Nat} (hz : Cell.z α = z) (i : Nat) (hi : i < l.length) (a : α) : Own (H.put b (.cells false e z (splice (flat l) (i * z) (Cell.cs a)))) b e l.length (l.set i a) := by
  subst hz
  rw [flat_set l i a hi]
  have := Own.mk' (H := H.put b (.cells false e (Cell.z α) (flat (l.set i a)))) (l := l.set i a) (b := b) (e := e) h.2.1 rfl (by rw [Heap.get_put, if_pos rfl]) rfl
  rw [List.length_set] at this
  exact this

/-- append to a slice of the call's own that has room. -/
theorem append_room {H : Heap} {b e cap : Nat} {ex : Bool} {l m : List α} {v : SV} (ho : Own H b e cap l) (hv : Sl H v m) {z : Nat} (hz : Cell.z α = z) (bytes lo : Nat) (hr : l.length + m.length ≤ cap) (hlo : lo ≤ b) :
    ∃ H2, ev1 (.append e z bytes) [.slice b 0 l.length cap ex, v.iv] lo H = some (.slice b 0 (l.length + m.length) cap ex, H2) ∧ H2.n = H.n ∧ (∀ b', b' ≠ b → H2.get b' = H.get b') ∧ Own H2 b e cap (l ++ m) := by
  simp only [ev1, hv.lenI, hv.srcI hz, Option.bind_some, appendI]
  rw [if_neg (by rw [flat_all]; decide)]
  by_cases h0 : m = []
  · subst h0
    exact ⟨H, by simp, rfl, fun _ _ => rfl, by rw [List.append_nil]; exact ho⟩
  · have hpos : 0 < m.length := List.length_pos_iff.2 h0
    obtain ⟨cs, hw, ho'⟩ := ho.push hz hr lo hlo
    refine ⟨_, ?_, Heap.n_put _ _ _, fun b' hb => by rw [Heap.get_put, if_neg (Ne.symm hb)], ho'⟩
    rw [if_neg (by omega), if_pos hr, Nat.zero_add, hw]
    rfl

/-- append to a slice of the call's own without room. -/
theorem append_grow {H : Heap} {b e n : Nat} {l m : List α} {v : SV} (ho : Own H b e n l) (hn : n = l.length) (hv : Sl H v m) {z : Nat} (hz : Cell.z α = z) (bytes lo : Nat) (hm : m ≠ []) (hb : (l.length + m.length) * (bytes + 1) ≤ 2 ^ 40) (hlo : lo ≤ b) :
    ∃ H2, ev1 (.append e z bytes) [.slice b 0 l.length n false, v.iv] lo H = some (.slice H.n 0 (l.length + m.length) (l.length + m.length) false, H2) ∧ H2.n = H.n + 1 ∧ (∀ b', b' ≠ b → b' < H.n → H2.get b' = H.get b') ∧ Own H2 H.n e (l.length + m.length) (l ++ m) := by
  subst hn hz
  have hpos : 0 < m.length := List.length_pos_iff.2 hm
  have hf := ho.full
  simp only [ev1, hv.lenI, hv.srcI rfl, Option.bind_some, appendI]
  rw [if_neg (by rw [flat_all]; decide)]
  rw [if_neg (by omega), if_neg (by omega), if_pos hb, hf]
  simp only [Bool.false_eq_true, if_false]
  have hfl := flat_length l
  rw [if_pos ⟨trivial, trivial, Cell.pos, trivial, hlo, by omega⟩]
  refine ⟨_, rfl, by rw [Heap.n_new, Heap.n_put], fun b' h1 h2 => by rw [Heap.get_new, if_neg (by rw [Heap.n_put]; omega), Heap.get_put, if_neg (Ne.symm h1)], ?_⟩
  rw [← hfl, List.take_length, ← flat_append, ← List.length_append]
  exact Own.mk' (by rw [Heap.n_new, Heap.n_put]; omega) rfl (by rw [Heap.get_new, if_pos (Heap.n_put _ _ _)]) rfl

/-- append to nil. -/
theorem append_nil {H : Heap} {e : Nat} {m : List α} {v : SV} (hv : Sl H v m) {z : Nat} (hz : Cell.z α = z) (bytes lo : Nat) (hm : m ≠ []) (hb : m.length * (bytes + 1) ≤ 2 ^ 40) :
    ∃ H2, ev1 (.append e z bytes) [.nilSlice, v.iv] lo H = some (.slice H.n 0 m.length m.length false, H2) ∧ H2.n = H.n + 1 ∧ Keep H.n H H2 ∧ Own H2 H.n e m.length m := by
  subst hz
  have hpos : 0 < m.length := List.length_pos_iff.2 hm
  simp only [ev1, hv.lenI, hv.srcI rfl, Option.bind_some, appendI]
  rw [if_neg (by rw [flat_all]; decide)]
  rw [if_neg (by omega), if_pos hb]
  exact ⟨_, rfl, Heap.n_new _ _, Keep.new _ _, Own.mk' (by rw [Heap.n_new]; omega) rfl (by rw [Heap.get_new, if_pos rfl]) rfl⟩

/-- append to a slice of known length and capacity, without room (a new block, the old one stays). -/
theorem append_full {H : Heap} {b o n e : Nat} {l m : List α} {v : SV} (hs : Sl H (.sl b o l.length n true) l) (hv : Sl H v m) {z : Nat} (hz : Cell.z α = z) (bytes lo : Nat) (hm : m ≠ []) (hn : n < l.length + m.length) (hb : (l.length + m.length) * (bytes + 1) ≤ 2 ^ 40) :
    ∃ H2, ev1 (.append e z bytes) [.slice b o l.length n true, v.iv] lo H = some (.slice H.n 0 (l.length + m.length) (l.length + m.length) false, H2) ∧ H2.n = H.n + 1 ∧ Keep H.n H H2 ∧ Own H2 H.n e (l.length + m.length) (l ++ m) := by
  subst hz
  have hpos : 0 < m.length := List.length_pos_iff.2 hm
  have hsrc := hs.srcI rfl
  simp only [SV.iv] at hsrc
  simp only [ev1, hv.lenI, hv.srcI rfl, Option.bind_some, appendI]
  rw [if_neg (by rw [flat_all]; decide)]
  rw [if_neg (by omega), if_neg (by omega), if_pos hb, if_pos trivial, hsrc]
  refine ⟨_, rfl, Heap.n_new _ _, Keep.new _ _, ?_⟩
  rw [← flat_append, ← List.length_append]
  exact Own.mk' (by rw [Heap.n_new]; omega) rfl (by rw [Heap.get_new, if_pos rfl]) rfl
end
end Go.Iso

/-
  Iso, part M4: slices of slices; what a call has made.
-/
namespace Go.Iso
section
variable {α : Type} [Cell α]

/-- A slice of slices holds these lists. -/
def Sl2 (H : Heap) (v : SV) (ls : List (List α)) : Prop := ∃ vs : List SV, Sl H v vs ∧ vs.length = ls.length ∧ ∀ (i : Nat) (h : i < ls.length) (h' : i < vs.length), Sl H vs[i] ls[i]

theorem Sl2.keep {H H' : Heap} {v : SV} {ls : List (List α)} (h : Sl2 H v ls) (k : Keep H.n H H') : Sl2 H' v ls := by
  obtain ⟨vs, h1, h2, h3⟩ := h
  exact ⟨vs, h1.keep k, h2, fun i a b => (h3 i a b).keep k⟩
theorem Sl2.ln {H : Heap} {v : SV} {ls : List (List α)} (h : Sl2 H v ls) (lo : Nat) (H' : Heap) : ev1 .lenSl [v.iv] lo H' = some (.int .i64 ls.length, H') := by
  obtain ⟨vs, h1, h2, h3⟩ := h
  rw [h1.ln, h2]
theorem Sl2.idx {H : Heap} {v : SV} {ls : List (List α)} (h : Sl2 H v ls) (z : Nat) (x : Int) (lo : Nat) (H' : Heap) (h0 : 0 ≤ x) (h1 : x < ls.length) : ev1 (.idxSl z) [v.iv, .int .i64 x] lo H' = some (.ptr v.blk (v.off + x.toNat * z), H') := by
  obtain ⟨vs, g1, g2, g3⟩ := h
  exact g1.idx z x lo H' h0 (by omega)
theorem Sl2.cap {H : Heap} {v : SV} {ls : List (List α)} (h : Sl2 H v ls) (ht : v.tight) (lo : Nat) (H' : Heap) : ev1 .cap [v.iv] lo H' = some (.int .i64 ls.length, H') := by
  obtain ⟨vs, h1, h2, h3⟩ := h
  rw [h1.cap ht, h2]
theorem Sl2.nil {H : Heap} : Sl2 H .nil ([] : List (List α)) := ⟨[], rfl, rfl, fun i h => by simp at h⟩

/-- A slice that a call has made, or nil: of the exact capacity, in a block of its own from n0 on. -/
def Fresh (n0 : Nat) (H : Heap) (e : Nat) (v : SV) (l : List α) : Prop := (v = .nil ∧ l = []) ∨ ∃ b, v = .sl b 0 l.length l.length true ∧ n0 ≤ b ∧ Own H b e l.length l
theorem Fresh.sl {n0 : Nat} {H : Heap} {e : Nat} {v : SV} {l : List α} (h : Fresh n0 H e v l) : Sl H v l := by
  rcases h with ⟨rfl, rfl⟩ | ⟨b, rfl, h1, h2⟩
  · exact Sl.empty
  · exact h2.sl true
theorem Fresh.tight {n0 : Nat} {H : Heap} {e : Nat} {v : SV} {l : List α} (h : Fresh n0 H e v l) : v.tight := by
  rcases h with ⟨rfl, rfl⟩ | ⟨b, rfl, h1, h2⟩
  · trivial
  · exact ⟨rfl, rfl⟩
theorem Fresh.keep {n0 : Nat} {H H' : Heap} {e : Nat} {v : SV} {l : List α} (h : Fresh n0 H e v l) (k : Keep H.n H H') : Fresh n0 H' e v l := by
  rcases h with ⟨rfl, rfl⟩ | ⟨b, rfl, h1, h2⟩
  · exact .inl ⟨rfl, rfl⟩
  · exact .inr ⟨b, rfl, h1, h2.keep k⟩
theorem Fresh.lower {n0 n1 : Nat} {H : Heap} {e : Nat} {v : SV} {l : List α} (h : Fresh n0 H e v l) (k : n1 ≤ n0) : Fresh n1 H e v l := by
  rcases h with ⟨rfl, rfl⟩ | ⟨b, rfl, h1, h2⟩
  · exact .inl ⟨rfl, rfl⟩
  · exact .inr ⟨b, rfl, by omega, h2⟩
end

theorem Sl.cellsAt {α : Type} [Cell α] {H : Heap} {v : SV} {l : List α} (h : Sl H v l) (hl : l ≠ []) : ∃ ro e ez cs, H.get v.blk = some (.cells ro e ez cs) := by
  cases v with
  | nil => exact absurd h hl
  | sl b o n c ex =>
    have hr := (h.2.2 hl).2
    unfold Heap.read at hr
    show ∃ ro e ez cs, H.get b = _
    cases hg : H.get b with
    | none => rw [hg] at hr; cases hr
    | some ob =>
      rw [hg] at hr
      cases ob with
      | cells ro e ez cs => exact ⟨_, _, _, _, rfl⟩
      | _ => cases hr
theorem Sl.off {α : Type} [Cell α] {H : Heap} {v : SV} {l : List α} (h : Sl H v l) (hl : l ≠ []) {x : Nat} {ob : IObj} (hx : H.get x = some ob) (hob : ∀ ro e ez cs, ob ≠ .cells ro e ez cs) : v.blk ≠ x := by
  intro e
  obtain ⟨ro, a, b, c, hc⟩ := h.cellsAt hl
  rw [e, hx] at hc
  injection hc with hc
  exact hob _ _ _ _ hc

/-- How many lists are left without the empty ones at the end. -/
def shortN {α : Type} : List (List α) → Nat
  | [] => 0
  | a :: l => if shortN l = 0 ∧ a = [] then 0 else shortN l + 1
end Go.Iso

/-
  Iso, part N1: sorting by exchanges: plain laws of lists.
-/
namespace Go.Iso
section
variable {α : Type}
/-- Exchange of two ranges; exchange of two neighbouring ranges. -/
def swapF (f : Nat → α) (a b n x : Nat) : α := if a ≤ x ∧ x < a + n then f (x + b - a) else if b ≤ x ∧ x < b + n then f (x + a - b) else f x
def rotF (f : Nat → α) (a m b x : Nat) : α := if a ≤ x ∧ x < a + (b - m) then f (x + (m - a)) else if a + (b - m) ≤ x ∧ x < b then f (x - (b - m)) else f x
end

section
variable {α : Type} [Inhabited α]

def nth (l : List α) (x : Nat) : α := l.getD x default
/-- Two elements change places. -/
def swapL (l : List α) (i j : Nat) : List α := (l.set i (nth l j)).set j (nth l i)
/-- The elements from a to b are mixed. -/
structure Mix (a b : Nat) (l l' : List α) : Prop where
  len : l'.length = l.length
  perm : l'.Perm l
  out : ∀ x, (x < a ∨ b ≤ x) → nth l' x = nth l x
  img : ∀ x, a ≤ x → x < b → ∃ y, a ≤ y ∧ y < b ∧ nth l' x = nth l y
theorem Mix.refl (a b : Nat) (l : List α) : Mix a b l l := ⟨rfl, .refl _, fun _ _ => rfl, fun x h1 h2 => ⟨x, h1, h2, rfl⟩⟩
theorem Mix.trans {a b : Nat} {l m n : List α} (h : Mix a b l m) (k : Mix a b m n) : Mix a b l n := by
  refine ⟨k.len.trans h.len, k.perm.trans h.perm, fun x hx => (k.out x hx).trans (h.out x hx), fun x h1 h2 => ?_⟩
  obtain ⟨y, y1, y2, y3⟩ := k.img x h1 h2
  obtain ⟨z, z1, z2, z3⟩ := h.img y y1 y2
  exact ⟨z, z1, z2, y3.trans z3⟩
variable (lt : α → α → Prop)
/-- Sorted from a to b. -/
def Srt (l : List α) (a b : Nat) : Prop := ∀ i j, a ≤ i → i < j → j < b → lt (nth l i) (nth l j)
theorem Srt.part {lt : α → α → Prop} {l : List α} {a b c d : Nat} (h : Srt lt l a b) (hc : a ≤ c) (hd : d ≤ b) : Srt lt l c d := fun i j h1 h2 h3 => h i j (by omega) h2 (by omega)
theorem Srt.out {lt : α → α → Prop} {l l' : List α} {a b c d : Nat} (h : Srt lt l a b) (k : Mix c d l l') (hd : b ≤ c ∨ d ≤ a) : Srt lt l' a b := fun i j h1 h2 h3 => by
  rw [k.out i (by omega), k.out j (by omega)]; exact h i j h1 h2 h3
end

end Go.Iso

/-
  Iso, part N2: quicker rules for free parts.
-/
namespace Go.Iso
theorem pairOk_nr {f : Fp} : pairOk f .none = true := by cases f <;> rfl
theorem freeNext_none {fc : Free} {o : IOp} {xs : List IV} (h : fpOf o xs = some .none) : nextOf (some fc) o xs = some (some ((o.idx, .none) :: fc)) := by
  simp only [nextOf, freeNext, h]
  rw [if_pos]
  · rfl
  · rw [List.all_eq_true]; intro p _; simp [pairOk_nr]
section
variable {fc : Free} {dst : Option Nat} {args : List IA} {g : Option (Nat × Bool)} {amb : Bool} {idx mask : Nat} {xs : List IV}
end
end Go.Iso

/-
  Iso, part N3: slices that grow one by one.
-/
namespace Go.Iso
section
variable {α : Type} [Cell α]

/-- A slice that has grown from nil: in a block of its own from n0 on. -/
def Gr (n0 : Nat) (H : Heap) (e : Nat) (v : SV) (l : List α) : Prop := (v = .nil ∧ l = []) ∨ ∃ b, v = .sl b 0 l.length l.length false ∧ n0 ≤ b ∧ l ≠ [] ∧ Own H b e l.length l
theorem Gr.nil {n0 : Nat} {H : Heap} {e : Nat} : Gr n0 H e .nil ([] : List α) := .inl ⟨rfl, rfl⟩
theorem Gr.sl {n0 : Nat} {H : Heap} {e : Nat} {v : SV} {l : List α} (h : Gr n0 H e v l) : Sl H v l := by
  rcases h with ⟨rfl, rfl⟩ | ⟨b, rfl, _, _, h2⟩
  · exact Sl.empty
  · exact h2.sl false
theorem Gr.blk {n0 : Nat} {H : Heap} {e : Nat} {v : SV} {l : List α} (h : Gr n0 H e v l) (hl : l ≠ []) : H.get v.blk = some (.cells false e (Cell.z α) (flat l)) := by
  rcases h with ⟨_, rfl⟩ | ⟨b, rfl, _, _, h2⟩
  · exact absurd rfl hl
  · exact h2.full
theorem Gr.lower {n0 n1 : Nat} {H : Heap} {e : Nat} {v : SV} {l : List α} (h : Gr n0 H e v l) (hn : n1 ≤ n0) : Gr n1 H e v l := by
  rcases h with h | ⟨b, h1, h2, h3, h4⟩
  · exact .inl h
  · exact .inr ⟨b, h1, by omega, h3, h4⟩
theorem Gr.keep {n0 : Nat} {H H' : Heap} {e : Nat} {v : SV} {l : List α} (h : Gr n0 H e v l) (k : Keep H.n H H') : Gr n0 H' e v l := by
  rcases h with h | ⟨b, h1, h2, h3, h4⟩
  · exact .inl h
  · exact .inr ⟨b, h1, h2, h3, h4.keep k⟩
theorem Gr.put {n0 x : Nat} {H : Heap} {e : Nat} {v : SV} {l : List α} {ob : IObj} (h : Gr n0 H e v l) (hx : x < n0) : Gr n0 (H.put x ob) e v l := by
  rcases h with h | ⟨b, h1, h2, h3, h4⟩
  · exact .inl h
  · exact .inr ⟨b, h1, h2, h3, h4.same (Nat.le_refl _) (by rw [Heap.get_put, if_neg (by omega)])⟩

/-- What stays while slices of a kind grow. -/
def KeepG (n0 e z : Nat) (H H' : Heap) : Prop := H.n ≤ H'.n ∧ ∀ x, x < H.n → (x < n0 ∨ ∀ cs, H.get x ≠ some (.cells false e z cs)) → H'.get x = H.get x
theorem KeepG.refl (n0 e z : Nat) (H : Heap) : KeepG n0 e z H H := ⟨Nat.le_refl _, fun _ _ _ => rfl⟩
theorem KeepG.trans {n0 e z : Nat} {a b c : Heap} (h : KeepG n0 e z a b) (k : KeepG n0 e z b c) : KeepG n0 e z a c := by
  refine ⟨Nat.le_trans h.1 k.1, fun x h1 h2 => ?_⟩
  have e1 := h.2 x h1 h2
  rw [← e1]
  exact k.2 x (Nat.lt_of_lt_of_le h1 h.1) (by rw [e1]; exact h2)
theorem KeepG.of {n0 e z : Nat} {H H' : Heap} (k : Keep H.n H H') : KeepG n0 e z H H' := ⟨k.1, fun x h _ => k.2 x h h⟩
theorem KeepG.low {n0 e z : Nat} {H H' : Heap} (k : KeepG n0 e z H H') (hn : n0 ≤ H.n) : Keep n0 H H' := ⟨k.1, fun x h1 h2 => k.2 x h2 (.inl h1)⟩
theorem KeepG.keep {n0 e z : Nat} {H0 H H' : Heap} (k : KeepG n0 e z H H') (h : Keep H0.n H0 H) (hn : H0.n ≤ n0) : Keep H0.n H0 H' := ⟨Nat.le_trans h.1 k.1, fun x h1 h2 => (k.2 x (Nat.lt_of_lt_of_le h1 h.1) (.inl (by omega))).trans (h.2 x h1 h2)⟩
/-- A block of another kind stays. -/
theorem KeepG.get {n0 e z x : Nat} {H H' : Heap} {ob : IObj} (k : KeepG n0 e z H H') (hx : x < H.n) (hg : H.get x = some ob) (hob : ∀ cs, ob ≠ .cells false e z cs) : H'.get x = some ob := by
  rw [k.2 x hx (.inr fun cs h => hob cs (by rw [hg] at h; exact Option.some.inj h))]; exact hg

/-- A slice that may be written, or nil. -/
def OwnS (n0 : Nat) (H : Heap) (e : Nat) (v : SV) (l : List α) : Prop := (v = .nil ∧ l = []) ∨ ∃ b cap ex, v = .sl b 0 l.length cap ex ∧ n0 ≤ b ∧ Own H b e cap l
theorem OwnS.sl {n0 : Nat} {H : Heap} {e : Nat} {v : SV} {l : List α} (h : OwnS n0 H e v l) : Sl H v l := by
  rcases h with ⟨rfl, rfl⟩ | ⟨b, cap, ex, rfl, _, h⟩
  · exact Sl.empty
  · exact h.sl ex
theorem OwnS.keep {n0 : Nat} {H H' : Heap} {e : Nat} {v : SV} {l : List α} (h : OwnS n0 H e v l) (k : Keep H.n H H') : OwnS n0 H' e v l := by
  rcases h with h | ⟨b, cap, ex, h1, h2, h3⟩
  · exact .inl h
  · exact .inr ⟨b, cap, ex, h1, h2, h3.keep k⟩
theorem Fresh.own {n0 : Nat} {H : Heap} {e : Nat} {v : SV} {l : List α} (h : Fresh n0 H e v l) : OwnS n0 H e v l := by
  rcases h with h | ⟨b, h1, h2, h3⟩
  · exact .inl h
  · exact .inr ⟨b, l.length, true, h1, h2, h3⟩
theorem Gr.own {n0 : Nat} {H : Heap} {e : Nat} {v : SV} {l : List α} (h : Gr n0 H e v l) : OwnS n0 H e v l := by
  rcases h with h | ⟨b, h1, h2, _, h3⟩
  · exact .inl h
  · exact .inr ⟨b, l.length, false, h1, h2, h3⟩

theorem Gr.push {n0 : Nat} {H : Heap} {e : Nat} {v : SV} {l : List α} (h : Gr n0 H e v l) {a : α} {u : SV} (hu : Sl H u [a]) {z : Nat} (hz : Cell.z α = z) (bytes lo : Nat) (hlo : lo ≤ n0) (hn : n0 ≤ H.n) (hb : (l.length + 1) * (bytes + 1) ≤ 2 ^ 40) :
    ∃ H2 w, ev1 (.append e z bytes) [v.iv, u.iv] lo H = some (SV.iv w, H2) ∧ KeepG n0 e z H H2 ∧ Gr n0 H2 e w (l ++ [a]) := by
  rcases h with ⟨rfl, rfl⟩ | ⟨b, rfl, h2, h3, h4⟩
  · obtain ⟨H2, e1, e2, e3, e4⟩ := append_nil (e := e) hu hz bytes lo (by simp) (by simpa using hb)
    exact ⟨H2, .sl H.n 0 1 1 false, e1, KeepG.of e3, .inr ⟨H.n, rfl, hn, by simp, e4⟩⟩
  · obtain ⟨H2, e1, e2, e3, e4⟩ := append_grow (n := l.length) h4 rfl hu hz bytes lo (by simp) (by simpa using hb) (by omega)
    refine ⟨H2, .sl H.n 0 (l.length + 1) (l.length + 1) false, e1, ⟨by omega, fun x h5 h6 => e3 x ?_ h5⟩, .inr ⟨H.n, by simp, hn, by simp, by rw [List.length_append]; exact e4⟩⟩
    rintro rfl
    rcases h6 with h6 | h6
    · omega
    · exact h6 _ (by rw [h4.full, hz])
theorem own_new {H : Heap} {e z : Nat} (hz : Cell.z α = z) (a : α) : Own (H.new (.cells false e z (Cell.cs a))) H.n e 1 [a] := by
  have := Own.mk' (H := H.new (.cells false e z (Cell.cs a))) (b := H.n) (e := e) (l := [a]) (by rw [Heap.n_new]; omega) hz (by rw [Heap.get_new, if_pos rfl]) (flat_one a).symm
  exact this
/-- A new element is put behind. -/
theorem Gr.pushNew {n0 : Nat} {H : Heap} {e : Nat} {v : SV} {l : List α} (h : Gr n0 H e v l) (a : α) {z : Nat} (hz : Cell.z α = z) (bytes lo : Nat) (hlo : lo ≤ n0) (hn : n0 ≤ H.n) (hb : (l.length + 1) * (bytes + 1) ≤ 2 ^ 40) :
    ∃ H2 w, ev1 (.append e z bytes) [v.iv, .slice H.n 0 1 1 true] lo (H.new (.cells false e z (Cell.cs a))) = some (SV.iv w, H2) ∧ KeepG n0 e z H H2 ∧ Gr n0 H2 e w (l ++ [a]) := by
  obtain ⟨H2, w, e1, k1, g1⟩ := (h.keep (.new _ (.cells false e z (Cell.cs a)))).push (a := a) ((own_new hz a).sl true) hz bytes lo hlo (by rw [Heap.n_new]; omega) hb
  exact ⟨H2, w, e1, (KeepG.of (.new _ _)).trans k1, g1⟩
end

end Go.Iso

section
/-
  Iso, part N4: the rules of runs as one theorem.
-/
set_option maxRecDepth 100000
namespace Go.Iso
end Go.Iso
end

/-
  Iso, part N5: quicker rules for free parts with calls and loads; blocks that lie apart.
-/
namespace Go.Iso
theorem ap_lt {b o n b' o' n' : Nat} (h : b < b') : apartR b o n b' o' n' = true := by
  have : b ≠ b' := by omega
  simp [apartR, this]
theorem ap_gt {b o n b' o' n' : Nat} (h : b' < b) : apartR b o n b' o' n' = true := by
  have : b ≠ b' := by omega
  simp [apartR, this]
/-- Nothing but reading so far. -/
def noWr : Fp → Bool
  | .none | .rd _ _ _ => true
  | _ => false
def noWrs : Free → Bool
  | [] => true
  | p :: fc => noWr p.2 && noWrs fc
theorem noWrs_nil : noWrs [] = true := rfl
theorem noWrs_none {i : Nat} {fc : Free} : noWrs ((i, .none) :: fc) = noWrs fc := rfl
theorem noWrs_rd {i b o n : Nat} {fc : Free} : noWrs ((i, .rd b o n) :: fc) = noWrs fc := rfl
theorem noWrs_wr {i b o n : Nat} {fc : Free} : noWrs ((i, .wr b o n) :: fc) = false := rfl
theorem noWrs_all {b o n mask : Nat} : ∀ {fc : Free}, noWrs fc = true → (fc.all fun p => mask.testBit p.1 || pairOk p.2 (.rd b o n)) = true
  | [], _ => rfl
  | (i, f) :: fc, h => by
    simp only [noWrs, Bool.and_eq_true] at h
    rw [List.all_cons, noWrs_all h.2, Bool.and_true]
    cases f with
    | none => simp [pairOk]
    | rd => simp [pairOk]
    | _ => cases h.1
section
variable {fc : Free} {dst : Option Nat} {args : List IA} {g : Option (Nat × Bool)} {amb : Bool} {idx mask : Nat} {xs : List IV}
theorem nextOf_call : nextOf (some fc) ⟨dst, .call, args, g, amb, idx, mask⟩ xs = some (some ((idx, .none) :: fc)) := freeNext_none rfl
theorem nextOf_alloc {e z : Nat} {zs : List IV} : nextOf (some fc) ⟨dst, .alloc e z zs, args, g, amb, idx, mask⟩ xs = some (some ((idx, .none) :: fc)) := freeNext_none rfl
theorem nextOf_build {zs : List IV} {os : List (Nat × Nat)} : nextOf (some fc) ⟨dst, .build zs os, args, g, amb, idx, mask⟩ xs = some (some ((idx, .none) :: fc)) := freeNext_none rfl
theorem nextOf_buildSl {e z n : Nat} {zs : List IV} {os : List (Nat × Nat)} : nextOf (some fc) ⟨dst, .buildSl e z n zs os, args, g, amb, idx, mask⟩ xs = some (some ((idx, .none) :: fc)) := freeNext_none rfl
theorem nextOf_load {n : Option Nat} {b a : Nat} : nextOf (some fc) ⟨dst, .load n, args, g, amb, idx, mask⟩ [.ptr b a] = if noWrs fc = true then some (some ((idx, .rd b a (n.getD 1)) :: fc)) else (freeNext fc ⟨dst, .load n, args, g, amb, idx, mask⟩ [.ptr b a]).map some := by
  split
  · rename_i h
    simp only [nextOf, freeNext, fpOf]
    rw [if_pos (noWrs_all h)]
    rfl
  · rfl
end
theorem FR : type_of% (And.intro @nextOf_call (And.intro @nextOf_alloc (And.intro @nextOf_build (And.intro @nextOf_buildSl @nextOf_load)))) := And.intro @nextOf_call (And.intro @nextOf_alloc (And.intro @nextOf_build (And.intro @nextOf_buildSl @nextOf_load)))
theorem FW : type_of% (And.intro @noWrs_nil (And.intro @noWrs_none (And.intro @noWrs_rd (And.intro @noWrs_wr (And.intro @ap_lt @ap_gt))))) := And.intro @noWrs_nil (And.intro @noWrs_none (And.intro @noWrs_rd (And.intro @noWrs_wr (And.intro @ap_lt @ap_gt))))
end Go.Iso
