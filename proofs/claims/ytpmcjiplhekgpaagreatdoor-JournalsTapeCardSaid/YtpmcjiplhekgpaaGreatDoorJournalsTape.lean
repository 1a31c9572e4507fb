/-
  JournalsTape holds.
-/
import Derived.Test.YtpmcjiplhekgpaaGreatDoorRow
import Derived.Test.YtpmcjiplhekgpaaGreatDoorFnB
import Derived.Test.YtpmcjiplhekgpaaGreatDoorCards
import Derived.Test.YtpmcjiplhekgpaaGreatDoorTie
import Derived.SevenTiedAt
set_option linter.unusedSimpArgs false
set_option linter.unusedVariables false

section
namespace Go.Iso.Gen
open Go.Iso Go.Proofs
set_option maxRecDepth 100000
set_option maxHeartbeats 4000000

theorem rd_n8 {H : Heap} {c : List IV} {d : PD} (h : Rd H (.int .u8) c d) : ∃ a : N8, c = Cell.cs a ∧ a.v ≤ 255 := by
  obtain ⟨x, rfl, g⟩ := rd_u8 h
  exact ⟨⟨x⟩, rfl, g⟩
theorem rd_n16 {H : Heap} {c : List IV} {d : PD} (h : Rd H (.int .u16) c d) : ∃ a : N16, c = Cell.cs a ∧ a.v ≤ 65535 := by
  obtain ⟨x, rfl, g⟩ := rd_u16 h
  exact ⟨⟨x⟩, rfl, g⟩
theorem rparams : Tryz.prog.funcs[0]?.isSome = true ∧ Tryz.f3.params.toList.mapM (tyOf Tryz.prog 8) = some [.slice (.int .u16), .slice (.int .u8), .int .i64] := ⟨by kernel_rfl, by kernel_rfl⟩
theorem rtypes : typesOk Tryz.prog Tryz.f3 = true := by kernel_rfl

theorem row_lifted (os : Os) (started : os.Started) (T : Type) (enc : TypeId × Value → T) :
    ReturnsInHanded {} Tryz.checked os 3 .any (fun w args => (YtpmcjiplhekgpaaGreatDoor.Rows.journalsTapeSpec.pre enc Tryz.prog Tryz.f3 [] false w args ∧ laidMetH Tryz.prog laidL w) ∧ sizedMet enc Tryz.prog Tryz.f3 (OpenSpec.ofChange YtpmcjiplhekgpaaGreatDoor.Rows.journalsTapeSpec) false w args)
      (YtpmcjiplhekgpaaGreatDoor.Rows.journalsTapeSpec.post enc Tryz.prog Tryz.f3 false true false false) := by
  refine returnsInHanded_of_change_and (C := Tryz.checked) (X := fun w _ => laidMetH Tryz.prog laidL w) (fun _ _ _ hh h => h.of_heap hh) own_knob started (by kernel_rfl) Tryz.func3
    (ChangeSpec.witness_shaped (enc := enc) (C := Tryz.checked) (os := os) (X := fun w _ => laidMetH Tryz.prog laidL w) false (World.doorLaid Tryz.prog 400 os) #[.slice none 0 0, .slice none 0 0, .int .i64 0] 8 rfl (World.shaped_of_RefB (by kernel_rfl) (by kernel_rfl)) (by kernel_rfl) (by kernel_rfl) (by kernel_rfl) (door_met os _)) ?_
  intro W base args ds gs before hval hW _ _ hL _
  refine law_calls_tab (P := Tryz.prog) (tb := 4) (s := YtpmcjiplhekgpaaGreatDoor.Rows.journalsTapeSpec) (ts := tabs) env0 rfl rparams.2 (by kernel_rfl) (by kernel_rfl) rtypes rfl ?_ (fun _ => True) ?_ W base args ds gs before hval hW (tab_laid hL) trivial
  · intro T ds hd
    match ds, hd with
    | [a0, a1, a2], _ => rfl
  · intro H css ds hro hT hrd _
    cases hrd with
    | cons h1 hrd =>
    cases hrd with
    | cons h2 hrd =>
    cases hrd with
    | cons h3 hrd =>
    cases hrd
    obtain ⟨v, l, rfl, sl, _, b1⟩ := rd_sl hro (fun _ _ h => rd_n16 h) h1
    obtain ⟨vt, tail, rfl, st, _, b2⟩ := rd_sl hro (fun _ _ h => rd_n8 h) h2
    obtain ⟨op, rfl, _⟩ := rd_i64 h3
    obtain ⟨n, o, H', h, rfl⟩ := journalsTape_run (op := op) hT sl st b1 b2
    exact ⟨n, H', h⟩
theorem row_said : YtpmcjiplhekgpaaGreatDoor.Rows.JournalsTapeSaid :=
  OpenClaim.holds_of_wide 3 Tryz.f3 rfl rfl rfl rfl rfl rfl rfl ⟨rfl, rfl, rfl, rfl, rfl⟩ rfl rfl rfl rfl rfl (by kernel_rfl) Tryz.func3 (by kernel_rfl)
    (of_decide_eq_true (by kernel_rfl)) (by unfold Func.isWrapper; first | (rw [if_pos (by decide +kernel)]; kernel_rfl) | (rw [if_neg (by decide +kernel)]; exact ⟨rfl, rfl⟩))
    (fun os started H enc _ => row_lifted os started H enc)
end Go.Iso.Gen

namespace Go.Proofs.YtpmcjiplhekgpaaGreatDoor
theorem journalsTape_holds : Rows.JournalsTapeCardSaid :=
  Claim7.holds_tied_plain_at .later [] [.data] true (true, "0295d7404cc061a8bfe2c0b4a52227ce5cb748d7646212bd4a3acaffacf6a38f") false
    Go.Iso.Gen.row_said (fun _ h => by cases h) (by kernel_rfl) (fun _ h => by cases h) journalsTape_row_tie rfl ⟨rfl, rfl⟩ (by kernel_rfl) rfl
    (fun f fn hf hfn => by
      obtain rfl : f = 3 := Option.some.inj ((show Tryz.prog.funcNamed "gansey/ganseylaw40.JournalsTape" = some 3 by kernel_rfl).symm.trans hf) |>.symm
      obtain rfl : fn = Tryz.f3 := (Option.some.inj (Tryz.func3.symm.trans hfn)).symm
      exact ⟨by kernel_rfl, fun j t ht => by
        have hall : (Tryz.f3.params.toList.all fun u => !Tryz.prog.wantsStandIn u) = true := by kernel_rfl
        have hm : t ∈ Tryz.f3.params.toList := by simpa using Array.mem_of_getElem? ht
        exact (show Tryz.prog.wantsStandIn t = false by simpa using List.all_eq_true.1 hall t hm)⟩)
    (by kernel_rfl)
end Go.Proofs.YtpmcjiplhekgpaaGreatDoor
end
