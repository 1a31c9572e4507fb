/-
  OrdersBetween holds.
-/
import Derived.Test.YthccekocaliohaaDoorRow
import Derived.Test.YthccekocaliohaaDoorRun
import Derived.Test.YthccekocaliohaaDoorCards
import Derived.Test.YthccekocaliohaaDoorTie
import Derived.SevenTiedAt
set_option linter.unusedSimpArgs false
set_option linter.unusedVariables false

section
namespace Go.Iso.Gen
open Go.Iso Go.Proofs
set_option maxRecDepth 100000
set_option maxHeartbeats 4000000

theorem rparams : Tryd.f8.params.toList.mapM (tyOf Tryd.prog 8) = some [.slice putT, .int .u8, .arr 2 (.int .i64)] := by kernel_rfl
theorem rtypes : typesOk Tryd.prog Tryd.f8 = true := by kernel_rfl

theorem row_lifted (os : Os) (started : os.Started) (T : Type) (enc : TypeId × Value → T) :
    ReturnsInHanded {} Tryd.checked os 8 .any (fun w args => (YthccekocaliohaaDoor.Rows.ordersBetweenSpec.pre enc Tryd.prog Tryd.f8 [] false w args ∧ laidMetH Tryd.prog laidL w) ∧ sizedMet enc Tryd.prog Tryd.f8 (OpenSpec.ofChange YthccekocaliohaaDoor.Rows.ordersBetweenSpec) false w args)
      (YthccekocaliohaaDoor.Rows.ordersBetweenSpec.post enc Tryd.prog Tryd.f8 false true false false) := by
  refine returnsInHanded_of_change_and (C := Tryd.checked) (X := fun w _ => laidMetH Tryd.prog laidL w) (fun _ _ _ hh h => h.of_heap hh) own_knob started (by kernel_rfl) Tryd.func8
    (ChangeSpec.witness_shaped (enc := enc) (C := Tryd.checked) (os := os) (X := fun w _ => laidMetH Tryd.prog laidL w) false (World.doorLaid Tryd.prog 400 os) #[.slice none 0 0, .int .u8 0, .agg #[.int .i64 0, .int .i64 0]] 8 rfl (World.shaped_of_RefB (by kernel_rfl) (by kernel_rfl)) (by kernel_rfl) (by kernel_rfl) (by kernel_rfl) (door_met os _)) ?_
  intro W base args ds gs before hval hW _ _ hL _
  refine law_calls_tab (P := Tryd.prog) (tb := 4) (s := YthccekocaliohaaDoor.Rows.ordersBetweenSpec) (ts := tabs) env0 rfl rparams (by kernel_rfl) (by kernel_rfl) rtypes rfl ?_ (fun _ => True) ?_ W base args ds gs before hval hW (tab_laid hL) trivial
  · intro T ds hd
    match ds, hd with
    | [a, b, c], _ => rfl
  · intro H css ds hro hT hrd _
    cases hrd with
    | cons h1 hrd =>
    cases hrd with
    | cons h2 hrd =>
    cases hrd with
    | cons h3 hrd =>
    cases hrd
    obtain ⟨v, l, rfl, hl, hx⟩ := rd_B hro h1
    cases h2 with
    | int k rk hrk =>
    obtain ⟨p, q, rfl⟩ := rd_two h3
    obtain ⟨hrk0, hrk1⟩ : 0 ≤ rk ∧ rk ≤ 255 := hrk
    have key := ordersBetween_run (rk := rk.toNat) (by omega) p q hT hl hx
    rw [Int.toNat_of_nonneg hrk0] at key
    obtain ⟨n, o, H', h, rfl⟩ := key
    exact ⟨n, H', h⟩

theorem row_said : YthccekocaliohaaDoor.Rows.OrdersBetweenSaid :=
  OpenClaim.holds_of_wide 8 Tryd.f8 rfl rfl rfl rfl rfl rfl rfl ⟨rfl, rfl, rfl, rfl, rfl⟩ rfl rfl rfl rfl rfl (by kernel_rfl) Tryd.func8 (by kernel_rfl)
    (of_decide_eq_true (by kernel_rfl)) (by unfold Func.isWrapper; first | (rw [if_pos (by decide +kernel)]; kernel_rfl) | (rw [if_neg (by decide +kernel)]; exact ⟨rfl, rfl⟩))
    (fun os started H enc _ => row_lifted os started H enc)
end Go.Iso.Gen

namespace Go.Proofs.YthccekocaliohaaDoor
theorem ordersBetween_holds : Rows.OrdersBetweenCardSaid :=
  Claim7.holds_tied_plain_at .later [] [.data] true (true, "3596e000957811804b35dfc89ce0e90d1a11844afb9a40b87bed4623b0752bfd") false
    Go.Iso.Gen.row_said (fun _ h => by cases h) (by kernel_rfl) (fun _ h => by cases h) ordersBetween_row_tie rfl ⟨rfl, rfl⟩ (by kernel_rfl) rfl
    (fun f fn hf hfn => by
      obtain rfl : f = 8 := Option.some.inj ((show Tryd.prog.funcNamed "gansey/ganseylaw04.OrdersBetween" = some 8 by kernel_rfl).symm.trans hf) |>.symm
      obtain rfl : fn = Tryd.f8 := (Option.some.inj (Tryd.func8.symm.trans hfn)).symm
      exact ⟨by kernel_rfl, fun j t ht => by
        have hall : (Tryd.f8.params.toList.all fun u => !Tryd.prog.wantsStandIn u) = true := by kernel_rfl
        have hm : t ∈ Tryd.f8.params.toList := by simpa using Array.mem_of_getElem? ht
        exact (show Tryd.prog.wantsStandIn t = false by simpa using List.all_eq_true.1 hall t hm)⟩)
    (by kernel_rfl)
end Go.Proofs.YthccekocaliohaaDoor
end
