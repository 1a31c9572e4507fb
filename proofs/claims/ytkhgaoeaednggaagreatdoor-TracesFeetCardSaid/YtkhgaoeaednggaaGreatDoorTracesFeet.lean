/-
  ganseylaw34.TracesFeet answers true for every P..
-/
import Derived.Test.YtkhgaoeaednggaaGreatDoorRow
import Derived.Test.YtkhgaoeaednggaaGreatDoorFnD
import Derived.Test.YtkhgaoeaednggaaGreatDoorCards
import Derived.Test.YtkhgaoeaednggaaGreatDoorTie
import Derived.SevenTiedAt
set_option linter.unusedSimpArgs false
set_option linter.unusedVariables false
set_option maxRecDepth 100000
set_option maxHeartbeats 4000000
section
namespace Go.Iso.Gen
open Go.Iso Go.Proofs
theorem XZ{H:Heap}{c:List IV}{d:PD}(h:Rd H (.struct [.int .u8,.int .u8,.int .u8,.int .u8]) c d):∃a:Ac,c=Cell.cs a/\Zq a:=by cases h with|struct ts F l q=>cases q with|cons I q=>cases q with|cons J q=>cases q with|cons K q=>cases q with|cons O q=>cases q;obtain⟨Q,rfl,b1⟩:=KC I;obtain⟨T,rfl,b2⟩:=KC J;obtain⟨U,rfl,u⟩:=KC K;obtain⟨V,rfl,E⟩:=KC O;exact⟨⟨Q,T,U,V⟩,rfl,b1,b2,u,E⟩
theorem rparams:Tryz.prog.funcs[0]?.isSome=true/\Tryz.f4.params.toList.mapM (nH Tryz.prog 8)=some [.slice (.struct [.int .u8,.int .u8,.int .u8,.int .u8])]:=⟨by kernel_rfl,by kernel_rfl⟩
theorem Wb:Dl Tryz.prog Tryz.f4=true:=by kernel_rfl
theorem IM(os:Os)(q:os.Started)(T:Type)(enc:TypeId×Value->T):ReturnsInHanded {} Tryz.checked os 4 .any (λw args=>(YtkhgaoeaednggaaGreatDoor.Rows.tracesFeetSpec.pre enc Tryz.prog Tryz.f4 [] false w args/\laidMetH Tryz.prog Gq w)/\sizedMet enc Tryz.prog Tryz.f4 (OpenSpec.ofChange YtkhgaoeaednggaaGreatDoor.Rows.tracesFeetSpec) false w args) (YtkhgaoeaednggaaGreatDoor.Rows.tracesFeetSpec.post enc Tryz.prog Tryz.f4 false true false false):=by refine returnsInHanded_of_change_and (C:=Tryz.checked) (X:=λw _=>laidMetH Tryz.prog Gq w) (λ_ _ _ Z h=>h.of_heap Z) Pn q (by kernel_rfl) Tryz.func4 (ChangeSpec.witness_shaped (enc:=enc) (C:=Tryz.checked) (os:=os) (X:=λw _=>laidMetH Tryz.prog Gq w) false (World.doorLaid Tryz.prog 400 os) #[.slice none 0 0] 8 rfl (World.shaped_of_RefB (by kernel_rfl) (by kernel_rfl)) (by kernel_rfl) (by kernel_rfl) (by kernel_rfl) (QJ os _)) ?_;intro W base args ds gs u F V _ _ Q _;refine AX (P:=Tryz.prog) (tb:=4) (s:=YtkhgaoeaednggaaGreatDoor.Rows.tracesFeetSpec) (ts:=tabs) uC rfl rparams.2 (by kernel_rfl) (by kernel_rfl) Wb rfl ?_ (λ_=>True) ?_ W base args ds gs u F V (Oi Q) trivial;{intro T ds Y;match ds,Y with|[a0],_=>rfl};{intro H K ds J U E _;cases E with|cons O E=>cases E;obtain⟨v,l,rfl,sl,_,I⟩:=XY J (λ_ _ h=>XZ h) O;obtain⟨n,o,H',h,rfl⟩:=xS U sl I;exact⟨n,H',h⟩}
theorem row_said:YtkhgaoeaednggaaGreatDoor.Rows.TracesFeetSaid:=OpenClaim.holds_of_wide 4 Tryz.f4 rfl rfl rfl rfl rfl rfl rfl ⟨rfl,rfl,rfl,rfl,rfl⟩ rfl rfl rfl rfl rfl (by kernel_rfl) Tryz.func4 (by kernel_rfl) (of_decide_eq_true (by kernel_rfl)) (by unfold Func.isWrapper;first|(rw[if_pos (by decide+kernel)];kernel_rfl)|(rw[if_neg (by decide+kernel)];exact⟨rfl,rfl⟩)) (λos q H enc _=>IM os q H enc)
end Go.Iso.Gen
namespace Go.Proofs.YtkhgaoeaednggaaGreatDoor
theorem tracesFeet_holds:Rows.TracesFeetCardSaid:=Claim7.holds_tied_plain_at .later [] [.data] true (true,"724d9e08e7a328e41c6bb4c8225ab8b3de9b55932e6bd67509c8a7c5cf408b01") false Go.Iso.Gen.row_said (λ_ h=>by cases h) (by kernel_rfl) (λ_ h=>by cases h) tracesFeet_row_tie rfl ⟨rfl,rfl⟩ (by kernel_rfl) rfl (λf fn F E=>by obtain rfl:f=4:=Option.some.inj ((show Tryz.prog.funcNamed "gansey/ganseylaw34.TracesFeet"=some 4 by kernel_rfl).symm.trans F)|>.symm;obtain rfl:fn=Tryz.f4:=(Option.some.inj (Tryz.func4.symm.trans E)).symm;exact⟨by kernel_rfl,λj t I=>by have q:(Tryz.f4.params.toList.all λu=>!Tryz.prog.wantsStandIn u)=true:=by{kernel_rfl};have hm:t∈Tryz.f4.params.toList:=by{simpa using Array.mem_of_getElem? I};exact(show Tryz.prog.wantsStandIn t=false by simpa using List.all_eq_true.1 q t hm)⟩) (by kernel_rfl)
end Go.Proofs.YtkhgaoeaednggaaGreatDoor
end
