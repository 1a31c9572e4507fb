/-
  OrdersStep holds.
-/
import Derived.Test.YthccekocaliohaaDoorRow
import Derived.Test.YthccekocaliohaaDoorRun
import Derived.Test.YthccekocaliohaaDoorCards
import Derived.Test.YthccekocaliohaaDoorTie
import Derived.SevenTiedAt
set_option linter.unusedSimpArgs false
set_option linter.unusedVariables false

section
namespace Go.Iso.Gen
open Go.Iso Go.Proofs
set_option maxRecDepth 100000
set_option maxHeartbeats 4000000

theorem rparams : Tryd.f4.params.toList.mapM (tyOf Tryd.prog 8) = some [.slice putT, .int .i64, .int .u8] := by kernel_rfl
theorem rtypes : typesOk Tryd.prog Tryd.f4 = true := by kernel_rfl

theorem row_lifted (os : Os) (started : os.Started) (T : Type) (enc : TypeId × Value → T) :
    ReturnsInHanded {} Tryd.checked os 4 .any (fun w args => (YthccekocaliohaaDoor.Rows.ordersStepSpec.pre enc Tryd.prog Tryd.f4 [] false w args ∧ laidMetH Tryd.prog laidL w) ∧ sizedMet enc Tryd.prog Tryd.f4 (OpenSpec.ofChange YthccekocaliohaaDoor.Rows.ordersStepSpec) false w args)
      (YthccekocaliohaaDoor.Rows.ordersStepSpec.post enc Tryd.prog Tryd.f4 false true false false) := by
  refine returnsInHanded_of_change_and (C := Tryd.checked) (X := fun w _ => laidMetH Tryd.prog laidL w) (fun _ _ _ hh h => h.of_heap hh) own_knob started (by kernel_rfl) Tryd.func4
    (ChangeSpec.witness_shaped (enc := enc) (C := Tryd.checked) (os := os) (X := fun w _ => laidMetH Tryd.prog laidL w) false (World.doorLaid Tryd.prog 400 os) #[.slice none 0 0, .int .i64 0, .int .u8 0] 8 rfl (World.shaped_of_RefB (by kernel_rfl) (by kernel_rfl)) (by kernel_rfl) (by kernel_rfl) (by kernel_rfl) (door_met os _)) ?_
  intro W base args ds gs before hval hW _ _ hL _
  refine law_calls_tab (P := Tryd.prog) (tb := 4) (s := YthccekocaliohaaDoor.Rows.ordersStepSpec) (ts := tabs) env0 rfl rparams (by kernel_rfl) (by kernel_rfl) rtypes rfl ?_ (fun _ => True) ?_ W base args ds gs before hval hW (tab_laid hL) trivial
  · intro T ds hd
    match ds, hd with
    | [a, b, c], _ => rfl
  · intro H css ds hro hT hrd _
    cases hrd with
    | cons h1 hrd =>
    cases hrd with
    | cons h2 hrd =>
    cases hrd with
    | cons h3 hrd =>
    cases hrd
    obtain ⟨v, l, rfl, hl, hx⟩ := rd_B hro h1
    cases h2 with
    | int k r hr =>
    cases h3 with
    | int k d hd =>
    obtain ⟨n, o, H', h, rfl⟩ := ordersStep_run r d hd hT hl hx
    exact ⟨n, H', h⟩

theorem row_said : YthccekocaliohaaDoor.Rows.OrdersStepSaid :=
  OpenClaim.holds_of_wide 4 Tryd.f4 rfl rfl rfl rfl rfl rfl rfl ⟨rfl, rfl, rfl, rfl, rfl⟩ rfl rfl rfl rfl rfl (by kernel_rfl) Tryd.func4 (by kernel_rfl)
    (of_decide_eq_true (by kernel_rfl)) (by unfold Func.isWrapper; first | (rw [if_pos (by decide +kernel)]; kernel_rfl) | (rw [if_neg (by decide +kernel)]; exact ⟨rfl, rfl⟩))
    (fun os started H enc _ => row_lifted os started H enc)
end Go.Iso.Gen

namespace Go.Proofs.YthccekocaliohaaDoor
theorem ordersStep_holds : Rows.OrdersStepCardSaid :=
  Claim7.holds_tied_plain_at .later [] [.data] true (true, "3596e000957811804b35dfc89ce0e90d1a11844afb9a40b87bed4623b0752bfd") false
    Go.Iso.Gen.row_said (fun _ h => by cases h) (by kernel_rfl) (fun _ h => by cases h) ordersStep_row_tie rfl ⟨rfl, rfl⟩ (by kernel_rfl) rfl
    (fun f fn hf hfn => by
      obtain rfl : f = 4 := Option.some.inj ((show Tryd.prog.funcNamed "gansey/ganseylaw04.OrdersStep" = some 4 by kernel_rfl).symm.trans hf) |>.symm
      obtain rfl : fn = Tryd.f4 := (Option.some.inj (Tryd.func4.symm.trans hfn)).symm
      exact ⟨by kernel_rfl, fun j t ht => by
        have hall : (Tryd.f4.params.toList.all fun u => !Tryd.prog.wantsStandIn u) = true := by kernel_rfl
        have hm : t ∈ Tryd.f4.params.toList := by simpa using Array.mem_of_getElem? ht
        exact (show Tryd.prog.wantsStandIn t = false by simpa using List.all_eq_true.1 hall t hm)⟩)
    (by kernel_rfl)
end Go.Proofs.YthccekocaliohaaDoor
end
