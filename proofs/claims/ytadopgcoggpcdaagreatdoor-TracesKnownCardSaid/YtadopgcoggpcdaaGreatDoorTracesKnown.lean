/-
  the examples of the chapter hold, and so do the statements of the layer for programs that are derived from a counter. Conditions: none..
-/
import Derived.Test.YtadopgcoggpcdaaGreatDoorRow
import Derived.Test.YtadopgcoggpcdaaGreatDoorFnD
import Derived.Test.YtadopgcoggpcdaaGreatDoorCards
import Derived.Test.YtadopgcoggpcdaaGreatDoorTie
import Derived.SevenTiedAt
set_option linter.unusedSimpArgs false
set_option linter.unusedVariables false
set_option maxRecDepth 100000
set_option maxHeartbeats 4000000
section
namespace Go.Iso.Gen
open Go.Iso Go.Proofs
theorem rparams:Tryz.prog.funcs[0]?.isSome=true/\Tryz.f3.params.toList.mapM (qX Tryz.prog 8)=some []:=⟨by kernel_rfl,by kernel_rfl⟩
theorem abZ:Ht Tryz.prog Tryz.f3=true:=by kernel_rfl
theorem Ot(os:Os)(E:os.Started)(T:Type)(enc:TypeId×Value->T):ReturnsInHanded {} Tryz.checked os 3 .any (λw args=>(YtadopgcoggpcdaaGreatDoor.Rows.tracesKnownSpec.pre enc Tryz.prog Tryz.f3 [] false w args/\laidMetH Tryz.prog K1 w)/\sizedMet enc Tryz.prog Tryz.f3 (OpenSpec.ofChange YtadopgcoggpcdaaGreatDoor.Rows.tracesKnownSpec) false w args) (YtadopgcoggpcdaaGreatDoor.Rows.tracesKnownSpec.post enc Tryz.prog Tryz.f3 false true false false):=by refine returnsInHanded_of_change_and (C:=Tryz.checked) (X:=λw _=>laidMetH Tryz.prog K1 w) (λ_ _ _ hh h=>h.of_heap hh) V6 E (by kernel_rfl) Tryz.func3 (ChangeSpec.witness_shaped (enc:=enc) (C:=Tryz.checked) (os:=os) (X:=λw _=>laidMetH Tryz.prog K1 w) false (World.doorLaid Tryz.prog 400 os) #[] 8 rfl (World.shaped_of_RefB (by kernel_rfl) (by kernel_rfl)) (by kernel_rfl) (by kernel_rfl) (by kernel_rfl) (Xx os _)) ?_;intro W base args ds gs F I V _ _ Q _;refine EH (P:=Tryz.prog) (tb:=4) (s:=YtadopgcoggpcdaaGreatDoor.Rows.tracesKnownSpec) (ts:=tabs) zc rfl rparams.2 (by kernel_rfl) (by kernel_rfl) abZ rfl ?_ (λ_=>True) ?_ W base args ds gs F I V (U3 Q) trivial;{intro T ds Z;match ds,Z with|[],_=>rfl};{intro H O ds ad U J _;cases J;obtain⟨n,o,H',h,rfl⟩:=Ao U;exact⟨n,H',h⟩}
theorem row_said:YtadopgcoggpcdaaGreatDoor.Rows.TracesKnownSaid:=OpenClaim.holds_of_wide 3 Tryz.f3 rfl rfl rfl rfl rfl rfl rfl ⟨rfl,rfl,rfl,rfl,rfl⟩ rfl rfl rfl rfl rfl (by kernel_rfl) Tryz.func3 (by kernel_rfl) (of_decide_eq_true (by kernel_rfl)) (by unfold Func.isWrapper;first|(rw[if_pos (by decide+kernel)];kernel_rfl)|(rw[if_neg (by decide+kernel)];exact⟨rfl,rfl⟩)) (λos E H enc _=>Ot os E H enc)
end Go.Iso.Gen
namespace Go.Proofs.YtadopgcoggpcdaaGreatDoor
theorem tracesKnown_holds:Rows.TracesKnownCardSaid:=Claim7.holds_tied_plain_at .later [] [.data] true (true,"162922ed626eb0a9df6f57003d679850ceab6e957779138dff061ee68b281988") false Go.Iso.Gen.row_said (λ_ h=>by cases h) (by kernel_rfl) (λ_ h=>by cases h) tracesKnown_row_tie rfl ⟨rfl,rfl⟩ (by kernel_rfl) rfl (λf fn I F=>by obtain rfl:f=3:=Option.some.inj ((show Tryz.prog.funcNamed "gansey/ganseylaw34.TracesKnown"=some 3 by kernel_rfl).symm.trans I)|>.symm;obtain rfl:fn=Tryz.f3:=(Option.some.inj (Tryz.func3.symm.trans F)).symm;exact⟨by kernel_rfl,λj t J=>by have E:(Tryz.f3.params.toList.all λu=>!Tryz.prog.wantsStandIn u)=true:=by{kernel_rfl};have hm:t∈Tryz.f3.params.toList:=by{simpa using Array.mem_of_getElem? J};exact(show Tryz.prog.wantsStandIn t=false by simpa using List.all_eq_true.1 E t hm)⟩) (by kernel_rfl)
end Go.Proofs.YtadopgcoggpcdaaGreatDoor
end
