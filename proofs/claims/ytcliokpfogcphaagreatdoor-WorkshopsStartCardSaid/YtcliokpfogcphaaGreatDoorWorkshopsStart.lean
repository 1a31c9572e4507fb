/-
  programs that do not run, that leave something on the machine, and orders that are none are refused; one without operations is ready at once.
-/
import Derived.Test.YtcliokpfogcphaaGreatDoorRow
import Derived.Test.YtcliokpfogcphaaGreatDoorFnD
import Derived.Test.YtcliokpfogcphaaGreatDoorCards
import Derived.Test.YtcliokpfogcphaaGreatDoorTie
import Derived.SevenTiedAt
set_option linter.unusedSimpArgs false
set_option linter.unusedVariables false
set_option maxRecDepth 100000
set_option maxHeartbeats 4000000
section
namespace Go.Iso.Gen
open Go.Iso Go.Proofs
theorem af3{H:Heap}{c:List IV}{d:PD}(h:Rd H (.struct [.int .u8,.int .u8,.int .u8,.int .u8]) c d):∃a:Ac,c=Cell.cs a/\okA a:=by cases h with|struct ts I l q=>cases q with|cons J q=>cases q with|cons K q=>cases q with|cons O q=>cases q with|cons U q=>cases q;obtain⟨V,rfl,b1⟩:=BQ J;obtain⟨Y,rfl,b2⟩:=BQ K;obtain⟨Z,rfl,E⟩:=BQ O;obtain⟨x4,rfl,F⟩:=BQ U;exact⟨⟨V,Y,Z,x4⟩,rfl,b1,b2,E,F⟩
theorem af2{H:Heap}{c:List IV}{d:PD}(h:Rd H (.struct [.int .u8,.int .u8,.struct [.int .u8,.int .i64],.int .u8,.int .i64]) c d):∃a:Opn,c=Cell.cs a:=by cases h with|struct ts E l q=>cases q with|cons F q=>cases q with|cons I q=>cases q with|cons J q=>cases q with|cons K q=>cases q with|cons O q=>cases q;cases J with|struct ts E l q=>cases q with|cons U q=>cases q with|cons V q=>cases q;obtain⟨Y,rfl,_⟩:=BQ F;obtain⟨Z,rfl,_⟩:=BQ I;obtain⟨x4,rfl,_⟩:=BQ K;obtain⟨x5,rfl,_⟩:=Kb O;obtain⟨x6,rfl,_⟩:=BQ U;obtain⟨x7,rfl,_⟩:=Kb V;exact⟨⟨Y,Z,x6,x7,x4,x5⟩,rfl⟩
theorem acL{H:Heap}{c:List IV}{d:PD}(h:Rd H (.arr 2 (.int .i64)) c d):∃a b:Int,c=[.int .i64 a,.int .i64 b]:=by cases h with|arr n e E l q=>cases q with|cons F q=>cases q with|cons I q=>cases q;obtain⟨J,rfl,_⟩:=Kb F;obtain⟨K,rfl,_⟩:=Kb I;exact⟨J,K,rfl⟩
theorem rparams:Tryz.prog.funcs[0]?.isSome=true/\Tryz.f3.params.toList.mapM (sX Tryz.prog 8)=some [.slice (.struct [.int .u8,.int .u8,.int .u8,.int .u8]),.struct [.int .u8,.int .u8,.struct [.int .u8,.int .i64],.int .u8,.int .i64],.arr 2 (.int .i64)]:=⟨by kernel_rfl,by kernel_rfl⟩
theorem acA:JQ Tryz.prog Tryz.f3=true:=by kernel_rfl
theorem Px(os:Os)(E:os.Started)(T:Type)(enc:TypeId×Value->T):ReturnsInHanded {} Tryz.checked os 3 .any (λw args=>(YtcliokpfogcphaaGreatDoor.Rows.workshopsStartSpec.pre enc Tryz.prog Tryz.f3 [] false w args/\laidMetH Tryz.prog Ng w)/\sizedMet enc Tryz.prog Tryz.f3 (OpenSpec.ofChange YtcliokpfogcphaaGreatDoor.Rows.workshopsStartSpec) false w args) (YtcliokpfogcphaaGreatDoor.Rows.workshopsStartSpec.post enc Tryz.prog Tryz.f3 false true false false):=by refine returnsInHanded_of_change_and (C:=Tryz.checked) (X:=λw _=>laidMetH Tryz.prog Ng w) (λ_ _ _ hh h=>h.of_heap hh) Wi E (by kernel_rfl) Tryz.func3 (ChangeSpec.witness_shaped (enc:=enc) (C:=Tryz.checked) (os:=os) (X:=λw _=>laidMetH Tryz.prog Ng w) false (World.doorLaid Tryz.prog 400 os) #[.slice none 0 0,.agg #[.int .u8 0,.int .u8 0,.int .u8 0,.int .i64 0,.int .u8 0,.int .i64 0],.agg #[.int .i64 0,.int .i64 0]] 8 rfl (World.shaped_of_RefB (by kernel_rfl) (by kernel_rfl)) (by kernel_rfl) (by kernel_rfl) (by kernel_rfl) (XO os _)) ?_;intro W base args ds gs F I hW _ _ Z _;refine Hl (P:=Tryz.prog) (tb:=4) (s:=YtcliokpfogcphaaGreatDoor.Rows.workshopsStartSpec) (ts:=tabs) A9 rfl rparams.2 (by kernel_rfl) (by kernel_rfl) acA rfl ?_ (λ_=>True) ?_ W base args ds gs F I hW (Va Z) trivial;{intro T ds hd;match ds,hd with|[a0,a1,a2],_=>rfl};{intro H O ds K hT q _;cases q with|cons U q=>cases q with|cons V q=>cases q with|cons Y q=>cases q;obtain⟨v,l,rfl,sl,_,J⟩:=af1 K (λ_ _ h=>af3 h) U;obtain⟨x,rfl⟩:=af2 V;obtain⟨a,b,rfl⟩:=acL Y;obtain⟨n,o,H',h,rfl⟩:=wR hT sl J;exact⟨n,H',h⟩}
theorem row_said:YtcliokpfogcphaaGreatDoor.Rows.WorkshopsStartSaid:=OpenClaim.holds_of_wide 3 Tryz.f3 rfl rfl rfl rfl rfl rfl rfl ⟨rfl,rfl,rfl,rfl,rfl⟩ rfl rfl rfl rfl rfl (by kernel_rfl) Tryz.func3 (by kernel_rfl) (of_decide_eq_true (by kernel_rfl)) (by unfold Func.isWrapper;first|(rw[if_pos (by decide+kernel)];kernel_rfl)|(rw[if_neg (by decide+kernel)];exact⟨rfl,rfl⟩)) (λos q H enc _=>Px os q H enc)
end Go.Iso.Gen
namespace Go.Proofs.YtcliokpfogcphaaGreatDoor
theorem workshopsStart_holds:Rows.WorkshopsStartCardSaid:=Claim7.holds_tied_plain_at .later [] [.data] true (true,"0153d619c05a87d11950d638ea40c9578787116cedba3c930677db873037df3f") false Go.Iso.Gen.row_said (λ_ h=>by cases h) (by kernel_rfl) (λ_ h=>by cases h) workshopsStart_row_tie rfl ⟨rfl,rfl⟩ (by kernel_rfl) rfl (λf fn F E=>by obtain rfl:f=3:=Option.some.inj ((show Tryz.prog.funcNamed "gansey/ganseylaw43.WorkshopsStart"=some 3 by kernel_rfl).symm.trans F)|>.symm;obtain rfl:fn=Tryz.f3:=(Option.some.inj (Tryz.func3.symm.trans E)).symm;exact⟨by kernel_rfl,λj t I=>by have q:(Tryz.f3.params.toList.all λu=>!Tryz.prog.wantsStandIn u)=true:=by{kernel_rfl};have hm:t∈Tryz.f3.params.toList:=by{simpa using Array.mem_of_getElem? I};exact(show Tryz.prog.wantsStandIn t=false by simpa using List.all_eq_true.1 q t hm)⟩) (by kernel_rfl)
end Go.Proofs.YtcliokpfogcphaaGreatDoor
end
