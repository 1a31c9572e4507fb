/-
  the examples of the chapter hold, and so do the statements of the layer for programs that are derived from a counter. Conditions: none..
-/
import Derived.Test.YtadopgcoggpcdabGreatDoorRow
import Derived.Test.YtadopgcoggpcdabGreatDoorFnD
import Derived.Test.YtadopgcoggpcdabGreatDoorCards
import Derived.Test.YtadopgcoggpcdabGreatDoorTie
import Derived.SevenTiedAt
set_option linter.unusedSimpArgs false
set_option linter.unusedVariables false
set_option maxRecDepth 100000
set_option maxHeartbeats 4000000
section
namespace Go.Iso.Gen
open Go.Iso Go.Proofs
theorem rparams:Tryz.prog.funcs[0]?.isSome=true/\Tryz.f3.params.toList.mapM (tu Tryz.prog 8)=some []:=⟨by kernel_rfl,by kernel_rfl⟩
theorem abC:JI Tryz.prog Tryz.f3=true:=by kernel_rfl
theorem OM(os:Os)(q:os.Started)(T:Type)(enc:TypeId×Value->T):ReturnsInHanded {} Tryz.checked os 3 .any (λw args=>(YtadopgcoggpcdabGreatDoor.Rows.journalsKnownSpec.pre enc Tryz.prog Tryz.f3 [] false w args/\laidMetH Tryz.prog MG w)/\sizedMet enc Tryz.prog Tryz.f3 (OpenSpec.ofChange YtadopgcoggpcdabGreatDoor.Rows.journalsKnownSpec) false w args) (YtadopgcoggpcdabGreatDoor.Rows.journalsKnownSpec.post enc Tryz.prog Tryz.f3 false true false false):=by refine returnsInHanded_of_change_and (C:=Tryz.checked) (X:=λw _=>laidMetH Tryz.prog MG w) (λ_ _ _ V h=>h.of_heap V) VU q (by kernel_rfl) Tryz.func3 (ChangeSpec.witness_shaped (enc:=enc) (C:=Tryz.checked) (os:=os) (X:=λw _=>laidMetH Tryz.prog MG w) false (World.doorLaid Tryz.prog 400 os) #[] 8 rfl (World.shaped_of_RefB (by kernel_rfl) (by kernel_rfl)) (by kernel_rfl) (by kernel_rfl) (by kernel_rfl) (Xj os _)) ?_;intro W base args ds gs A E O _ _ J _;refine GA (P:=Tryz.prog) (tb:=4) (s:=YtadopgcoggpcdabGreatDoor.Rows.journalsKnownSpec) (ts:=tabs) A0 rfl rparams.2 (by kernel_rfl) (by kernel_rfl) abC rfl ?_ (λ_=>True) ?_ W base args ds gs A E O (UQ J) trivial;{intro T ds U;match ds,U with|[],_=>rfl};{intro H I ds Y K F _;cases F;obtain⟨n,o,H',h,rfl⟩:=yF K;exact⟨n,H',h⟩}
theorem row_said:YtadopgcoggpcdabGreatDoor.Rows.JournalsKnownSaid:=OpenClaim.holds_of_wide 3 Tryz.f3 rfl rfl rfl rfl rfl rfl rfl ⟨rfl,rfl,rfl,rfl,rfl⟩ rfl rfl rfl rfl rfl (by kernel_rfl) Tryz.func3 (by kernel_rfl) (of_decide_eq_true (by kernel_rfl)) (by unfold Func.isWrapper;first|(rw[if_pos (by decide+kernel)];kernel_rfl)|(rw[if_neg (by decide+kernel)];exact⟨rfl,rfl⟩)) (λos q H enc _=>OM os q H enc)
end Go.Iso.Gen
namespace Go.Proofs.YtadopgcoggpcdabGreatDoor
theorem journalsKnown_holds:Rows.JournalsKnownCardSaid:=Claim7.holds_tied_plain_at .later [] [.data] true (true,"618f583dfd8aa9c35043cacdacbeb68cb459b6c1e9cd8d4debe7bc04ca670c24") false Go.Iso.Gen.row_said (λ_ h=>by cases h) (by kernel_rfl) (λ_ h=>by cases h) journalsKnown_row_tie rfl ⟨rfl,rfl⟩ (by kernel_rfl) rfl (λf fn E A=>by obtain rfl:f=3:=Option.some.inj ((show Tryz.prog.funcNamed "gansey/ganseylaw40.JournalsKnown"=some 3 by kernel_rfl).symm.trans E)|>.symm;obtain rfl:fn=Tryz.f3:=(Option.some.inj (Tryz.func3.symm.trans A)).symm;exact⟨by kernel_rfl,λj t F=>by have q:(Tryz.f3.params.toList.all λu=>!Tryz.prog.wantsStandIn u)=true:=by{kernel_rfl};have hm:t∈Tryz.f3.params.toList:=by{simpa using Array.mem_of_getElem? F};exact(show Tryz.prog.wantsStandIn t=false by simpa using List.all_eq_true.1 q t hm)⟩) (by kernel_rfl)
end Go.Proofs.YtadopgcoggpcdabGreatDoor
end
