/-
  Programs that leave nothing on the machine can be done one behind the other, and need the sum of their yarns; the cards, with the laid table orders.steps tied..
-/
import Derived.Test.YtiofebdpgbojmaaGreatDoorRow
import Derived.Test.YtiofebdpgbojmaaGreatDoorFnD
import Derived.Test.YtiofebdpgbojmaaGreatDoorCards
import Derived.Test.YtiofebdpgbojmaaGreatDoorTie
import Derived.SevenTiedAt
set_option linter.unusedSimpArgs false
set_option linter.unusedVariables false
set_option maxRecDepth 100000
set_option maxHeartbeats 4000000
section
namespace Go.Iso.Gen
open Go.Iso Go.Proofs
theorem Vd{H:Heap}{c:List IV}{d:PD}(h:Rd H (.struct [.int .u8,.int .u8,.int .u8,.int .u8]) c d):∃a:Ac,c=Cell.cs a/\ZN a:=by cases h with|struct ts E l q=>cases q with|cons F q=>cases q with|cons I q=>cases q with|cons K q=>cases q with|cons O q=>cases q;obtain⟨Q,rfl,b1⟩:=KM F;obtain⟨T,rfl,b2⟩:=KM I;obtain⟨U,rfl,u⟩:=KM K;obtain⟨V,rfl,A⟩:=KM O;exact⟨⟨Q,T,U,V⟩,rfl,b1,b2,u,A⟩
theorem rparams:Tryz.prog.funcs[0]?.isSome=true/\Tryz.f6.params.toList.mapM (oe Tryz.prog 8)=some [.slice (.struct [.int .u8,.int .u8,.int .u8,.int .u8]),.slice (.struct [.int .u8,.int .u8,.int .u8,.int .u8])]:=⟨by kernel_rfl,by kernel_rfl⟩
theorem WC:CU Tryz.prog Tryz.f6=true:=by kernel_rfl
theorem IR(os:Os)(A:os.Started)(T:Type)(enc:TypeId×Value->T):ReturnsInHanded {} Tryz.checked os 6 .any (λw args=>(YtiofebdpgbojmaaGreatDoor.Rows.costsBehindSpec.pre enc Tryz.prog Tryz.f6 [] false w args/\laidMetH Tryz.prog Gx w)/\sizedMet enc Tryz.prog Tryz.f6 (OpenSpec.ofChange YtiofebdpgbojmaaGreatDoor.Rows.costsBehindSpec) false w args) (YtiofebdpgbojmaaGreatDoor.Rows.costsBehindSpec.post enc Tryz.prog Tryz.f6 false true false false):=by refine returnsInHanded_of_change_and (C:=Tryz.checked) (X:=λw _=>laidMetH Tryz.prog Gx w) (λ_ _ _ Z h=>h.of_heap Z) P0 A (by kernel_rfl) Tryz.func6 (ChangeSpec.witness_shaped (enc:=enc) (C:=Tryz.checked) (os:=os) (X:=λw _=>laidMetH Tryz.prog Gx w) false (World.doorLaid Tryz.prog 400 os) #[.slice none 0 0,.slice none 0 0] 8 rfl (World.shaped_of_RefB (by kernel_rfl) (by kernel_rfl)) (by kernel_rfl) (by kernel_rfl) (by kernel_rfl) (Ra os _)) ?_;intro W base args ds gs E I Y _ _ U _;refine AI (P:=Tryz.prog) (tb:=4) (s:=YtiofebdpgbojmaaGreatDoor.Rows.costsBehindSpec) (ts:=tabs) uY rfl rparams.2 (by kernel_rfl) (by kernel_rfl) WC rfl ?_ (λ_=>True) ?_ W base args ds gs E I Y (OW U) trivial;{intro T ds hd;match ds,hd with|[a0,a1],_=>rfl};{intro H K ds F V u _;cases u with|cons O u=>cases u with|cons Q u=>cases u;obtain⟨p,la,rfl,s1,_,b1⟩:=Vc F (λ_ _ h=>Vd h) O;obtain⟨q,lb,rfl,s2,_,b2⟩:=Vc F (λ_ _ h=>Vd h) Q;obtain⟨n,o,H',h,rfl⟩:=wv V s1 b1 s2 b2;exact⟨n,H',h⟩}
theorem row_said:YtiofebdpgbojmaaGreatDoor.Rows.CostsBehindSaid:=OpenClaim.holds_of_wide 6 Tryz.f6 rfl rfl rfl rfl rfl rfl rfl ⟨rfl,rfl,rfl,rfl,rfl⟩ rfl rfl rfl rfl rfl (by kernel_rfl) Tryz.func6 (by kernel_rfl) (of_decide_eq_true (by kernel_rfl)) (by unfold Func.isWrapper;first|(rw[if_pos (by decide+kernel)];kernel_rfl)|(rw[if_neg (by decide+kernel)];exact⟨rfl,rfl⟩)) (λos q H enc _=>IR os q H enc)
end Go.Iso.Gen
namespace Go.Proofs.YtiofebdpgbojmaaGreatDoor
theorem costsBehind_holds:Rows.CostsBehindCardSaid:=Claim7.holds_tied_plain_at .later [] [.data] true (true,"34c3e6cfcce7a476dbd21c42d401b4995b9d10a39055dd61407e9188a989d73b") false Go.Iso.Gen.row_said (λ_ h=>by cases h) (by kernel_rfl) (λ_ h=>by cases h) costsBehind_row_tie rfl ⟨rfl,rfl⟩ (by kernel_rfl) rfl (λf fn E A=>by obtain rfl:f=6:=Option.some.inj ((show Tryz.prog.funcNamed "gansey/ganseylaw38.CostsBehind"=some 6 by kernel_rfl).symm.trans E)|>.symm;obtain rfl:fn=Tryz.f6:=(Option.some.inj (Tryz.func6.symm.trans A)).symm;exact⟨by kernel_rfl,λj t F=>by have q:(Tryz.f6.params.toList.all λu=>!Tryz.prog.wantsStandIn u)=true:=by{kernel_rfl};have hm:t∈Tryz.f6.params.toList:=by{simpa using Array.mem_of_getElem? F};exact(show Tryz.prog.wantsStandIn t=false by simpa using List.all_eq_true.1 q t hm)⟩) (by kernel_rfl)
end Go.Proofs.YtiofebdpgbojmaaGreatDoor
end
