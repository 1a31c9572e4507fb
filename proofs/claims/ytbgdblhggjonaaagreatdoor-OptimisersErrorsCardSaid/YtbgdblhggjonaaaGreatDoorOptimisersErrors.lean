/-
  Arrange and Improve have the errors of machines.Run.
-/
import Derived.Test.YtbgdblhggjonaaaGreatDoorRow
import Derived.Test.YtbgdblhggjonaaaGreatDoorFnD
import Derived.Test.YtbgdblhggjonaaaGreatDoorFnE
import Derived.Test.YtbgdblhggjonaaaGreatDoorFnF
import Derived.Test.YtbgdblhggjonaaaGreatDoorCards
import Derived.Test.YtbgdblhggjonaaaGreatDoorTie
import Derived.SevenTiedAt
set_option linter.unusedSimpArgs false
set_option linter.unusedVariables false
set_option maxRecDepth 100000
set_option maxHeartbeats 4000000
section
namespace Go.Iso.Gen
open Go.Iso Go.Proofs
theorem abm{H:Heap}{c:List IV}{d:PD}(h:Rd H (.struct [.int .u8,.int .u8,.struct [.int .u8,.int .i64],.int .u8,.int .i64]) c d):∃a:Opn,c=Cell.cs a/\True:=by cases h with|struct ts A l q=>cases q with|cons E q=>cases q with|cons F q=>cases q with|cons I q=>cases q with|cons O q=>cases q with|cons T q=>cases q;cases I with|struct ts A l q=>cases q with|cons U q=>cases q with|cons V q=>cases q;obtain⟨Y,rfl,_⟩:=LF E;obtain⟨Z,rfl,_⟩:=LF F;obtain⟨x4,rfl,_⟩:=LF O;obtain⟨x5,rfl,_⟩:=Ry T;obtain⟨x6,rfl,_⟩:=LF U;obtain⟨x7,rfl,_⟩:=Ry V;exact⟨⟨Y,Z,x6,x7,x4,x5⟩,rfl,trivial⟩
theorem rparams:Tryz.prog.funcs[0]?.isSome=true/\Tryz.f3.params.toList.mapM (m9 Tryz.prog 8)=some [.slice (.struct [.int .u8,.int .u8,.struct [.int .u8,.int .i64],.int .u8,.int .i64])]:=⟨by kernel_rfl,by kernel_rfl⟩
theorem Ye:C7 Tryz.prog Tryz.f3=true:=by kernel_rfl
theorem Ji(os:Os)(q:os.Started)(T:Type)(enc:TypeId×Value->T):ReturnsInHanded {} Tryz.checked os 3 .any (λw args=>(YtbgdblhggjonaaaGreatDoor.Rows.optimisersErrorsSpec.pre enc Tryz.prog Tryz.f3 [] false w args/\laidMetH Tryz.prog Gy w)/\sizedMet enc Tryz.prog Tryz.f3 (OpenSpec.ofChange YtbgdblhggjonaaaGreatDoor.Rows.optimisersErrorsSpec) false w args) (YtbgdblhggjonaaaGreatDoor.Rows.optimisersErrorsSpec.post enc Tryz.prog Tryz.f3 false true false false):=by refine returnsInHanded_of_change_and (C:=Tryz.checked) (X:=λw _=>laidMetH Tryz.prog Gy w) (λ_ _ _ Z h=>h.of_heap Z) RH q (by kernel_rfl) Tryz.func3 (ChangeSpec.witness_shaped (enc:=enc) (C:=Tryz.checked) (os:=os) (X:=λw _=>laidMetH Tryz.prog Gy w) false (World.doorLaid Tryz.prog 400 os) #[.slice none 0 0] 8 rfl (World.shaped_of_RefB (by kernel_rfl) (by kernel_rfl)) (by kernel_rfl) (by kernel_rfl) (by kernel_rfl) (Ta os _)) ?_;intro W base args ds gs A F Y _ _ V _;refine AY (P:=Tryz.prog) (tb:=4) (s:=YtbgdblhggjonaaaGreatDoor.Rows.optimisersErrorsSpec) (ts:=tabs) vc rfl rparams.2 (by kernel_rfl) (by kernel_rfl) Ye rfl ?_ (λ_=>True) ?_ W base args ds gs A F Y (QE V) trivial;{intro T ds hd;match ds,hd with|[a0],_=>rfl};{intro H O ds I hT E _;cases E with|cons U E=>cases E;obtain⟨v,l,rfl,sl,_,_⟩:=abl I (λ_ _ h=>abm h) U;obtain⟨n,o,H',h,rfl⟩:=oq hT sl;exact⟨n,H',h⟩}
theorem row_said:YtbgdblhggjonaaaGreatDoor.Rows.OptimisersErrorsSaid:=OpenClaim.holds_of_wide 3 Tryz.f3 rfl rfl rfl rfl rfl rfl rfl ⟨rfl,rfl,rfl,rfl,rfl⟩ rfl rfl rfl rfl rfl (by kernel_rfl) Tryz.func3 (by kernel_rfl) (of_decide_eq_true (by kernel_rfl)) (by unfold Func.isWrapper;first|(rw[if_pos (by decide+kernel)];kernel_rfl)|(rw[if_neg (by decide+kernel)];exact⟨rfl,rfl⟩)) (λos q H enc _=>Ji os q H enc)
end Go.Iso.Gen
namespace Go.Proofs.YtbgdblhggjonaaaGreatDoor
theorem optimisersErrors_holds:Rows.OptimisersErrorsCardSaid:=Claim7.holds_tied_plain_at .later [] [.data] true (true,"ee4daa19e775cbfb266fc82d9c13d25f4ef259565a53eccece106509ef92488a") false Go.Iso.Gen.row_said (λ_ h=>by cases h) (by kernel_rfl) (λ_ h=>by cases h) optimisersErrors_row_tie rfl ⟨rfl,rfl⟩ (by kernel_rfl) rfl (λf fn E A=>by obtain rfl:f=3:=Option.some.inj ((show Tryz.prog.funcNamed "gansey/ganseylaw36.OptimisersErrors"=some 3 by kernel_rfl).symm.trans E)|>.symm;obtain rfl:fn=Tryz.f3:=(Option.some.inj (Tryz.func3.symm.trans A)).symm;exact⟨by kernel_rfl,λj t F=>by have q:(Tryz.f3.params.toList.all λu=>!Tryz.prog.wantsStandIn u)=true:=by{kernel_rfl};have hm:t∈Tryz.f3.params.toList:=by{simpa using Array.mem_of_getElem? F};exact(show Tryz.prog.wantsStandIn t=false by simpa using List.all_eq_true.1 q t hm)⟩) (by kernel_rfl)
end Go.Proofs.YtbgdblhggjonaaaGreatDoor
end
