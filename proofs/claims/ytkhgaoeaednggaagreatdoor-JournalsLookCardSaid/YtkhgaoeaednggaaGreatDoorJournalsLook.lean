/-
  ganseylaw40.JournalsLook answers true for every P..
-/
import Derived.Test.YtkhgaoeaednggaaGreatDoorRow
import Derived.Test.YtkhgaoeaednggaaGreatDoorFnC
import Derived.Test.YtkhgaoeaednggaaGreatDoorCards
import Derived.Test.YtkhgaoeaednggaaGreatDoorTie
import Derived.SevenTiedAt
set_option linter.unusedSimpArgs false
set_option linter.unusedVariables false
set_option maxRecDepth 100000
set_option maxHeartbeats 4000000
section
namespace Go.Iso.Gen
open Go.Iso Go.Proofs
theorem Wn{H:Heap}{c:List IV}{d:PD}(h:Rd H (.struct [.int .u8,.int .u8,.int .u8,.int .u8]) c d):∃a:Ac,c=Cell.cs a/\XG a:=by cases h with|struct ts E l q=>cases q with|cons F q=>cases q with|cons I q=>cases q with|cons J q=>cases q with|cons K q=>cases q;obtain⟨O,rfl,b1⟩:=Jy F;obtain⟨Q,rfl,b2⟩:=Jy I;obtain⟨T,rfl,u⟩:=Jy J;obtain⟨x4,rfl,A⟩:=Jy K;exact⟨⟨O,Q,T,x4⟩,rfl,b1,b2,u,A⟩
theorem rparams:Tryz.prog.funcs[0]?.isSome=true/\Tryz.f3.params.toList.mapM (nH Tryz.prog 8)=some [.slice (.struct [.int .u8,.int .u8,.int .u8,.int .u8])]:=⟨by kernel_rfl,by kernel_rfl⟩
theorem UC:CF Tryz.prog Tryz.f3=true:=by kernel_rfl
theorem Hx(os:Os)(q:os.Started)(T:Type)(enc:TypeId×Value->T):ReturnsInHanded {} Tryz.checked os 3 .any (λw args=>(YtkhgaoeaednggaaGreatDoor.Rows.journalsLookSpec.pre enc Tryz.prog Tryz.f3 [] false w args/\laidMetH Tryz.prog Fh w)/\sizedMet enc Tryz.prog Tryz.f3 (OpenSpec.ofChange YtkhgaoeaednggaaGreatDoor.Rows.journalsLookSpec) false w args) (YtkhgaoeaednggaaGreatDoor.Rows.journalsLookSpec.post enc Tryz.prog Tryz.f3 false true false false):=by refine returnsInHanded_of_change_and (C:=Tryz.checked) (X:=λw _=>laidMetH Tryz.prog Fh w) (λ_ _ _ Y h=>h.of_heap Y) NP q (by kernel_rfl) Tryz.func3 (ChangeSpec.witness_shaped (enc:=enc) (C:=Tryz.checked) (os:=os) (X:=λw _=>laidMetH Tryz.prog Fh w) false (World.doorLaid Tryz.prog 400 os) #[.slice none 0 0] 8 rfl (World.shaped_of_RefB (by kernel_rfl) (by kernel_rfl)) (by kernel_rfl) (by kernel_rfl) (by kernel_rfl) (Pb os _)) ?_;intro W base args ds gs u E U _ _ O _;refine Ab (P:=Tryz.prog) (tb:=4) (s:=YtkhgaoeaednggaaGreatDoor.Rows.journalsLookSpec) (ts:=tabs) ua rfl rparams.2 (by kernel_rfl) (by kernel_rfl) UC rfl ?_ (λ_=>True) ?_ W base args ds gs u E U (MD O) trivial;{intro T ds V;match ds,V with|[Z],_=>rfl};{intro H J ds I Q A _;cases A with|cons K A=>cases A;obtain⟨v,l,rfl,sl,_,F⟩:=Wm I (λ_ _ h=>Wn h) K;obtain⟨n,o,H',h,rfl⟩:=tU Q sl F;exact⟨n,H',h⟩}
theorem row_said:YtkhgaoeaednggaaGreatDoor.Rows.JournalsLookSaid:=OpenClaim.holds_of_wide 3 Tryz.f3 rfl rfl rfl rfl rfl rfl rfl ⟨rfl,rfl,rfl,rfl,rfl⟩ rfl rfl rfl rfl rfl (by kernel_rfl) Tryz.func3 (by kernel_rfl) (of_decide_eq_true (by kernel_rfl)) (by unfold Func.isWrapper;first|(rw[if_pos (by decide+kernel)];kernel_rfl)|(rw[if_neg (by decide+kernel)];exact⟨rfl,rfl⟩)) (λos q H enc _=>Hx os q H enc)
end Go.Iso.Gen
namespace Go.Proofs.YtkhgaoeaednggaaGreatDoor
theorem journalsLook_holds:Rows.JournalsLookCardSaid:=Claim7.holds_tied_plain_at .later [] [.data] true (true,"724d9e08e7a328e41c6bb4c8225ab8b3de9b55932e6bd67509c8a7c5cf408b01") false Go.Iso.Gen.row_said (λ_ h=>by cases h) (by kernel_rfl) (λ_ h=>by cases h) journalsLook_row_tie rfl ⟨rfl,rfl⟩ (by kernel_rfl) rfl (λf fn E A=>by obtain rfl:f=3:=Option.some.inj ((show Tryz.prog.funcNamed "gansey/ganseylaw40.JournalsLook"=some 3 by kernel_rfl).symm.trans E)|>.symm;obtain rfl:fn=Tryz.f3:=(Option.some.inj (Tryz.func3.symm.trans A)).symm;exact⟨by kernel_rfl,λj t F=>by have q:(Tryz.f3.params.toList.all λu=>!Tryz.prog.wantsStandIn u)=true:=by{kernel_rfl};have hm:t∈Tryz.f3.params.toList:=by{simpa using Array.mem_of_getElem? F};exact(show Tryz.prog.wantsStandIn t=false by simpa using List.all_eq_true.1 q t hm)⟩) (by kernel_rfl)
end Go.Proofs.YtkhgaoeaednggaaGreatDoor
end
