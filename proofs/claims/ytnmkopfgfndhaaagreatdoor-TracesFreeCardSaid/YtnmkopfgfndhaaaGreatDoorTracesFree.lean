/-
  TracesFree holds.
-/
import Derived.Test.YtnmkopfgfndhaaaGreatDoorRow
import Derived.Test.YtnmkopfgfndhaaaGreatDoorFn
import Derived.Test.YtnmkopfgfndhaaaGreatDoorCards
import Derived.Test.YtnmkopfgfndhaaaGreatDoorTie
import Derived.SevenTiedAt
set_option linter.unusedSimpArgs false
set_option linter.unusedVariables false

section
namespace Go.Iso.Gen
open Go.Iso Go.Proofs
set_option maxRecDepth 100000
set_option maxHeartbeats 4000000

def footT : Ty := .struct [.int .u8, .int .u8, .int .u8, .int .u8, .slice (.int .u8)]
theorem rd_n8 {H : Heap} {c : List IV} {d : PD} (h : Rd H (.int .u8) c d) : ∃ a : N8, c = Cell.cs a ∧ a.v ≤ 255 := by
  obtain ⟨x, rfl, g⟩ := rd_u8 h
  exact ⟨⟨x⟩, rfl, g⟩
theorem rd_foot {H : Heap} (hro : Ro H) {c : List IV} {d : PD} (h : Rd H footT c d) : ∃ (y k f l : Nat) (v : SV) (w : List N8), c = [.int .u8 y, .int .u8 k, .int .u8 f, .int .u8 l, v.iv] ∧ (y ≤ 255 ∧ k ≤ 255 ∧ f ≤ 255 ∧ l ≤ 255) ∧ Sl H v w ∧ ∀ n ∈ w, n.v ≤ 255 := by
  cases h with
  | struct ts css l he =>
    cases he with
    | cons h1 he =>
    cases he with
    | cons h2 he =>
    cases he with
    | cons h3 he =>
    cases he with
    | cons h4 he =>
    cases he with
    | cons h5 he =>
    cases he
    obtain ⟨y, rfl, g1⟩ := rd_u8 h1
    obtain ⟨k, rfl, g2⟩ := rd_u8 h2
    obtain ⟨f, rfl, g3⟩ := rd_u8 h3
    obtain ⟨l, rfl, g4⟩ := rd_u8 h4
    obtain ⟨v, w, rfl, g5, g6⟩ := rd_sl hro (fun _ _ h => rd_n8 h) h5
    exact ⟨y, k, f, l, v, w, rfl, ⟨g1, g2, g3, g4⟩, g5, g6⟩
theorem fparams : Tryz.f3.params.toList.mapM (tyOf Tryz.prog 8) = some [footT, footT] := by kernel_rfl
theorem ftypes : typesOk Tryz.prog Tryz.f3 = true := by kernel_rfl

theorem free_lifted (os : Os) (started : os.Started) (T : Type) (enc : TypeId × Value → T) :
    ReturnsInHanded {} Tryz.checked os 3 .any (fun w args => (YtnmkopfgfndhaaaGreatDoor.Rows.tracesFreeSpec.pre enc Tryz.prog Tryz.f3 [] false w args ∧ laidMetH Tryz.prog laidL w) ∧ sizedMet enc Tryz.prog Tryz.f3 (OpenSpec.ofChange YtnmkopfgfndhaaaGreatDoor.Rows.tracesFreeSpec) false w args)
      (YtnmkopfgfndhaaaGreatDoor.Rows.tracesFreeSpec.post enc Tryz.prog Tryz.f3 false true false false) := by
  refine returnsInHanded_of_change_and (C := Tryz.checked) (X := fun w _ => laidMetH Tryz.prog laidL w) (fun _ _ _ hh h => h.of_heap hh) own_knob started (by kernel_rfl) Tryz.func3
    (ChangeSpec.witness_shaped (enc := enc) (C := Tryz.checked) (os := os) (X := fun w _ => laidMetH Tryz.prog laidL w) false (World.doorLaid Tryz.prog 400 os) #[.agg #[.int .u8 0, .int .u8 0, .int .u8 0, .int .u8 0, .slice none 0 0], .agg #[.int .u8 0, .int .u8 0, .int .u8 0, .int .u8 0, .slice none 0 0]] 8 rfl (World.shaped_of_RefB (by kernel_rfl) (by kernel_rfl)) (by kernel_rfl) (by kernel_rfl) (by kernel_rfl) (door_met os _)) ?_
  intro W base args ds gs before hval hW _ _ hL _
  refine law_calls_tab (P := Tryz.prog) (tb := 4) (s := YtnmkopfgfndhaaaGreatDoor.Rows.tracesFreeSpec) (ts := tabs) env0 rfl fparams (by kernel_rfl) (by kernel_rfl) ftypes rfl ?_ (fun _ => True) ?_ W base args ds gs before hval hW (tab_laid hL) trivial
  · intro T ds hd
    match ds, hd with
    | [a, b], _ => rfl
  · intro H css ds hro hT hrd _
    cases hrd with
    | cons h1 hrd =>
    cases hrd with
    | cons h2 hrd =>
    cases hrd
    obtain ⟨y, k, f, l, v, w, rfl, b1, s1, q1⟩ := rd_foot hro h1
    obtain ⟨y', k', f', l', v', w', rfl, b2, s2, q2⟩ := rd_foot hro h2
    obtain ⟨n, o, H', h, rfl⟩ := tracesFree_run b1 b2 q1 q2 hT s1 s2
    exact ⟨n, H', h⟩

theorem free_said : YtnmkopfgfndhaaaGreatDoor.Rows.TracesFreeSaid :=
  OpenClaim.holds_of_wide 3 Tryz.f3 rfl rfl rfl rfl rfl rfl rfl ⟨rfl, rfl, rfl, rfl, rfl⟩ rfl rfl rfl rfl rfl (by kernel_rfl) Tryz.func3 (by kernel_rfl)
    (of_decide_eq_true (by kernel_rfl)) (by unfold Func.isWrapper; first | (rw [if_pos (by decide +kernel)]; kernel_rfl) | (rw [if_neg (by decide +kernel)]; exact ⟨rfl, rfl⟩))
    (fun os started H enc _ => free_lifted os started H enc)
end Go.Iso.Gen

namespace Go.Proofs.YtnmkopfgfndhaaaGreatDoor
theorem tracesFree_holds : Rows.TracesFreeCardSaid :=
  Claim7.holds_tied_plain_at .later [] [.data] true (true, "6409f25d3ca38c6df856219acd3e5c54c5c228494742356ae4d01fdec05838e0") false
    Go.Iso.Gen.free_said (fun _ h => by cases h) (by kernel_rfl) (fun _ h => by cases h) tracesFree_row_tie rfl ⟨rfl, rfl⟩ (by kernel_rfl) rfl
    (fun f fn hf hfn => by
      obtain rfl : f = 3 := Option.some.inj ((show Tryz.prog.funcNamed "gansey/ganseylaw34.TracesFree" = some 3 by kernel_rfl).symm.trans hf) |>.symm
      obtain rfl : fn = Tryz.f3 := (Option.some.inj (Tryz.func3.symm.trans hfn)).symm
      exact ⟨by kernel_rfl, fun j t ht => by
        have hall : (Tryz.f3.params.toList.all fun u => !Tryz.prog.wantsStandIn u) = true := by kernel_rfl
        have hm : t ∈ Tryz.f3.params.toList := by simpa using Array.mem_of_getElem? ht
        exact (show Tryz.prog.wantsStandIn t = false by simpa using List.all_eq_true.1 hall t hm)⟩)
    (by kernel_rfl)
end Go.Proofs.YtnmkopfgfndhaaaGreatDoor
end
