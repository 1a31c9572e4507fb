/-
  RewritesKnown answers true: the examples of the chapter, and programs derived from a counter...
-/
import Derived.Test.YtkeadbgfiiphlaaGreatDoorRow
import Derived.Test.YtkeadbgfiiphlaaGreatDoorFnD
import Derived.Test.YtkeadbgfiiphlaaGreatDoorCards
import Derived.Test.YtkeadbgfiiphlaaGreatDoorTie
import Derived.SevenTiedAt
set_option linter.unusedSimpArgs false
set_option linter.unusedVariables false
set_option maxRecDepth 100000
set_option maxHeartbeats 4000000
section
namespace Go.Iso.Gen
open Go.Iso Go.Proofs
theorem rparams:Tryz.prog.funcs[0]?.isSome=true/\Tryz.f3.params.toList.mapM (pF Tryz.prog 8)=some []:=⟨by kernel_rfl,by kernel_rfl⟩
theorem abb:Eu Tryz.prog Tryz.f3=true:=by kernel_rfl
theorem KH(os:Os)(q:os.Started)(T:Type)(enc:TypeId×Value->T):ReturnsInHanded {} Tryz.checked os 3 .any (λw args=>(YtkeadbgfiiphlaaGreatDoor.Rows.rewritesKnownSpec.pre enc Tryz.prog Tryz.f3 [] false w args/\laidMetH Tryz.prog Ix w)/\sizedMet enc Tryz.prog Tryz.f3 (OpenSpec.ofChange YtkeadbgfiiphlaaGreatDoor.Rows.rewritesKnownSpec) false w args) (YtkeadbgfiiphlaaGreatDoor.Rows.rewritesKnownSpec.post enc Tryz.prog Tryz.f3 false true false false):=by refine returnsInHanded_of_change_and (C:=Tryz.checked) (X:=λw _=>laidMetH Tryz.prog Ix w) (λ_ _ _ Z h=>h.of_heap Z) TW q (by kernel_rfl) Tryz.func3 (ChangeSpec.witness_shaped (enc:=enc) (C:=Tryz.checked) (os:=os) (X:=λw _=>laidMetH Tryz.prog Ix w) false (World.doorLaid Tryz.prog 400 os) #[] 8 rfl (World.shaped_of_RefB (by kernel_rfl) (by kernel_rfl)) (by kernel_rfl) (by kernel_rfl) (by kernel_rfl) (Vm os _)) ?_;intro W base args ds gs E F V _ _ Q _;refine Ca (P:=Tryz.prog) (tb:=4) (s:=YtkeadbgfiiphlaaGreatDoor.Rows.rewritesKnownSpec) (ts:=tabs) wH rfl rparams.2 (by kernel_rfl) (by kernel_rfl) abb rfl ?_ (λ_=>True) ?_ W base args ds gs E F V (SE Q) trivial;{intro T ds hd;match ds,hd with|[],_=>rfl};{intro H O ds ad U I _;cases I;obtain⟨n,o,H',h,rfl⟩:=ug U;exact⟨n,H',h⟩}
theorem row_said:YtkeadbgfiiphlaaGreatDoor.Rows.RewritesKnownSaid:=OpenClaim.holds_of_wide 3 Tryz.f3 rfl rfl rfl rfl rfl rfl rfl ⟨rfl,rfl,rfl,rfl,rfl⟩ rfl rfl rfl rfl rfl (by kernel_rfl) Tryz.func3 (by kernel_rfl) (of_decide_eq_true (by kernel_rfl)) (by unfold Func.isWrapper;first|(rw[if_pos (by decide+kernel)];kernel_rfl)|(rw[if_neg (by decide+kernel)];exact⟨rfl,rfl⟩)) (λos q H enc _=>KH os q H enc)
end Go.Iso.Gen
namespace Go.Proofs.YtkeadbgfiiphlaaGreatDoor
theorem rewritesKnown_holds:Rows.RewritesKnownCardSaid:=Claim7.holds_tied_plain_at .later [] [.data] true (true,"37fa54277be3b16dee7b2c8cbf6efeddf18770edd8c159fc887389ac340e290b") false Go.Iso.Gen.row_said (λ_ h=>by cases h) (by kernel_rfl) (λ_ h=>by cases h) rewritesKnown_row_tie rfl ⟨rfl,rfl⟩ (by kernel_rfl) rfl (λf fn F E=>by obtain rfl:f=3:=Option.some.inj ((show Tryz.prog.funcNamed "gansey/ganseylaw35.RewritesKnown"=some 3 by kernel_rfl).symm.trans F)|>.symm;obtain rfl:fn=Tryz.f3:=(Option.some.inj (Tryz.func3.symm.trans E)).symm;exact⟨by kernel_rfl,λj t I=>by have q:(Tryz.f3.params.toList.all λu=>!Tryz.prog.wantsStandIn u)=true:=by{kernel_rfl};have hm:t∈Tryz.f3.params.toList:=by{simpa using Array.mem_of_getElem? I};exact(show Tryz.prog.wantsStandIn t=false by simpa using List.all_eq_true.1 q t hm)⟩) (by kernel_rfl)
end Go.Proofs.YtkeadbgfiiphlaaGreatDoor
end
