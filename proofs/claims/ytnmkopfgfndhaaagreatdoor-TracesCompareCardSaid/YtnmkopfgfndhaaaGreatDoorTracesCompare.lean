/-
  TracesCompare holds.
-/
import Derived.Test.YtnmkopfgfndhaaaGreatDoorRow
import Derived.Test.YtnmkopfgfndhaaaGreatDoorFn
import Derived.Test.YtnmkopfgfndhaaaGreatDoorCards
import Derived.Test.YtnmkopfgfndhaaaGreatDoorTie
import Derived.SevenTiedAt
set_option linter.unusedSimpArgs false
set_option linter.unusedVariables false

section
namespace Go.Iso.Gen
open Go.Iso Go.Proofs
set_option maxRecDepth 100000
set_option maxHeartbeats 4000000

theorem rparams : Tryz.f4.params.toList.mapM (tyOf Tryz.prog 8) = some [actT, actT, .arr 2 (.int .u8)] := by kernel_rfl
theorem rtypes : typesOk Tryz.prog Tryz.f4 = true := by kernel_rfl

theorem row_lifted (os : Os) (started : os.Started) (T : Type) (enc : TypeId × Value → T) :
    ReturnsInHanded {} Tryz.checked os 4 .any (fun w args => (YtnmkopfgfndhaaaGreatDoor.Rows.tracesCompareSpec.pre enc Tryz.prog Tryz.f4 [] false w args ∧ laidMetH Tryz.prog laidL w) ∧ sizedMet enc Tryz.prog Tryz.f4 (OpenSpec.ofChange YtnmkopfgfndhaaaGreatDoor.Rows.tracesCompareSpec) false w args)
      (YtnmkopfgfndhaaaGreatDoor.Rows.tracesCompareSpec.post enc Tryz.prog Tryz.f4 false true false false) := by
  refine returnsInHanded_of_change_and (C := Tryz.checked) (X := fun w _ => laidMetH Tryz.prog laidL w) (fun _ _ _ hh h => h.of_heap hh) own_knob started (by kernel_rfl) Tryz.func4
    (ChangeSpec.witness_shaped (enc := enc) (C := Tryz.checked) (os := os) (X := fun w _ => laidMetH Tryz.prog laidL w) false (World.doorLaid Tryz.prog 400 os) #[.agg #[.int .u8 0, .int .u8 0, .int .u8 0, .int .u8 0], .agg #[.int .u8 0, .int .u8 0, .int .u8 0, .int .u8 0], .agg #[.int .u8 0, .int .u8 0]] 8 rfl (World.shaped_of_RefB (by kernel_rfl) (by kernel_rfl)) (by kernel_rfl) (by kernel_rfl) (by kernel_rfl) (door_met os _)) ?_
  intro W base args ds gs before hval hW _ _ hL _
  refine law_calls_tab (P := Tryz.prog) (tb := 4) (s := YtnmkopfgfndhaaaGreatDoor.Rows.tracesCompareSpec) (ts := tabs) env0 rfl rparams (by kernel_rfl) (by kernel_rfl) rtypes rfl ?_ (fun _ => True) ?_ W base args ds gs before hval hW (tab_laid hL) trivial
  · intro T ds hd
    match ds, hd with
    | [a, b, c], _ => rfl
  · intro H css ds hro hT hrd _
    cases hrd with
    | cons h1 hrd =>
    cases hrd with
    | cons h2 hrd =>
    cases hrd with
    | cons h3 hrd =>
    cases hrd
    obtain ⟨w, y, n, r, rfl, b1⟩ := rd_act h1
    obtain ⟨w', y', n', r', rfl, b2⟩ := rd_act h2
    obtain ⟨p, q, rfl, b3⟩ := rd_two8 h3
    obtain ⟨n, o, H', h, rfl⟩ := tracesCompare_run b1 b2 b3 hT
    exact ⟨n, H', h⟩

theorem row_said : YtnmkopfgfndhaaaGreatDoor.Rows.TracesCompareSaid :=
  OpenClaim.holds_of_wide 4 Tryz.f4 rfl rfl rfl rfl rfl rfl rfl ⟨rfl, rfl, rfl, rfl, rfl⟩ rfl rfl rfl rfl rfl (by kernel_rfl) Tryz.func4 (by kernel_rfl)
    (of_decide_eq_true (by kernel_rfl)) (by unfold Func.isWrapper; first | (rw [if_pos (by decide +kernel)]; kernel_rfl) | (rw [if_neg (by decide +kernel)]; exact ⟨rfl, rfl⟩))
    (fun os started H enc _ => row_lifted os started H enc)
end Go.Iso.Gen

namespace Go.Proofs.YtnmkopfgfndhaaaGreatDoor
theorem tracesCompare_holds : Rows.TracesCompareCardSaid :=
  Claim7.holds_tied_plain_at .later [] [.data] true (true, "6409f25d3ca38c6df856219acd3e5c54c5c228494742356ae4d01fdec05838e0") false
    Go.Iso.Gen.row_said (fun _ h => by cases h) (by kernel_rfl) (fun _ h => by cases h) tracesCompare_row_tie rfl ⟨rfl, rfl⟩ (by kernel_rfl) rfl
    (fun f fn hf hfn => by
      obtain rfl : f = 4 := Option.some.inj ((show Tryz.prog.funcNamed "gansey/ganseylaw34.TracesCompare" = some 4 by kernel_rfl).symm.trans hf) |>.symm
      obtain rfl : fn = Tryz.f4 := (Option.some.inj (Tryz.func4.symm.trans hfn)).symm
      exact ⟨by kernel_rfl, fun j t ht => by
        have hall : (Tryz.f4.params.toList.all fun u => !Tryz.prog.wantsStandIn u) = true := by kernel_rfl
        have hm : t ∈ Tryz.f4.params.toList := by simpa using Array.mem_of_getElem? ht
        exact (show Tryz.prog.wantsStandIn t = false by simpa using List.all_eq_true.1 hall t hm)⟩)
    (by kernel_rfl)
end Go.Proofs.YtnmkopfgfndhaaaGreatDoor
end
