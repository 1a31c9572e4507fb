/-
  a machine whose power fails again and again makes the fabric of its program, if it goes on each time where Resume says so..
-/
import Derived.Test.YtibkoahppjkakaaGreatDoorRow
import Derived.Test.YtibkoahppjkakaaGreatDoorFnD
import Derived.Test.YtibkoahppjkakaaGreatDoorCards
import Derived.Test.YtibkoahppjkakaaGreatDoorTie
import Derived.SevenTiedAt
set_option linter.unusedSimpArgs false
set_option linter.unusedVariables false
set_option maxRecDepth 100000
set_option maxHeartbeats 4000000
section
namespace Go.Iso.Gen
open Go.Iso Go.Proofs
theorem aaY{H:Heap}{c:List IV}{d:PD}(h:Rd H (.struct [.int .u8,.int .u8,.int .u8,.int .u8]) c d):∃a:Ac,c=Cell.cs a/\okA a:=by cases h with|struct ts E l q=>cases q with|cons F q=>cases q with|cons I q=>cases q with|cons J q=>cases q with|cons K q=>cases q;obtain⟨O,rfl,b1⟩:=Ea F;obtain⟨T,rfl,b2⟩:=Ea I;obtain⟨U,rfl,u⟩:=Ea J;obtain⟨x4,rfl,A⟩:=Ea K;exact⟨⟨O,T,U,x4⟩,rfl,b1,b2,u,A⟩
theorem aaX{H:Heap}{c:List IV}{d:PD}(h:Rd H (.arr 2 (.int .u8)) c d):∃a:Ct,c=Cell.cs a/\True:=by cases h with|arr n e q l u=>have g:Rds H [.int .u8,.int .u8] q l:=u;clear u;cases g with|cons A g=>cases g with|cons E g=>cases g;obtain⟨F,rfl,_⟩:=Ea A;obtain⟨I,rfl,_⟩:=Ea E;exact⟨⟨F,I⟩,rfl,trivial⟩
theorem rparams:Tryz.prog.funcs[0]?.isSome=true/\Tryz.f3.params.toList.mapM (pD Tryz.prog 8)=some [.slice (.struct [.int .u8,.int .u8,.int .u8,.int .u8]),.slice (.arr 2 (.int .u8))]:=⟨by kernel_rfl,by kernel_rfl⟩
theorem Y2:F0 Tryz.prog Tryz.f3=true:=by kernel_rfl
theorem K4(os:Os)(u:os.Started)(T:Type)(enc:TypeId×Value->T):ReturnsInHanded {} Tryz.checked os 3 .any (λw args=>(YtibkoahppjkakaaGreatDoor.Rows.journalsAgainSpec.pre enc Tryz.prog Tryz.f3 [] false w args/\laidMetH Tryz.prog Jd w)/\sizedMet enc Tryz.prog Tryz.f3 (OpenSpec.ofChange YtibkoahppjkakaaGreatDoor.Rows.journalsAgainSpec) false w args) (YtibkoahppjkakaaGreatDoor.Rows.journalsAgainSpec.post enc Tryz.prog Tryz.f3 false true false false):=by refine returnsInHanded_of_change_and (C:=Tryz.checked) (X:=λw _=>laidMetH Tryz.prog Jd w) (λ_ _ _ hh h=>h.of_heap hh) RD u (by kernel_rfl) Tryz.func3 (ChangeSpec.witness_shaped (enc:=enc) (C:=Tryz.checked) (os:=os) (X:=λw _=>laidMetH Tryz.prog Jd w) false (World.doorLaid Tryz.prog 400 os) #[.slice none 0 0,.slice none 0 0] 8 rfl (World.shaped_of_RefB (by kernel_rfl) (by kernel_rfl)) (by kernel_rfl) (by kernel_rfl) (by kernel_rfl) (Th os _)) ?_;intro W base args ds gs A F Y _ _ U _;refine Dx (P:=Tryz.prog) (tb:=4) (s:=YtibkoahppjkakaaGreatDoor.Rows.journalsAgainSpec) (ts:=tabs) xv rfl rparams.2 (by kernel_rfl) (by kernel_rfl) Y2 rfl ?_ (λ_=>True) ?_ W base args ds gs A F Y (Qs U) trivial;{intro T ds Z;match ds,Z with|[a0,a1],_=>rfl};{intro H J ds E V q _;cases q with|cons K q=>cases q with|cons O q=>cases q;obtain⟨v,l,rfl,sl,_,I⟩:=XL E (λ_ _ h=>aaY h) K;obtain⟨w,cs,rfl,sw,_,_⟩:=XL E (λ_ _ h=>aaX h) O;obtain⟨n,o,H',h,rfl⟩:=uP V sl I sw;exact⟨n,H',h⟩}
theorem row_said:YtibkoahppjkakaaGreatDoor.Rows.JournalsAgainSaid:=OpenClaim.holds_of_wide 3 Tryz.f3 rfl rfl rfl rfl rfl rfl rfl ⟨rfl,rfl,rfl,rfl,rfl⟩ rfl rfl rfl rfl rfl (by kernel_rfl) Tryz.func3 (by kernel_rfl) (of_decide_eq_true (by kernel_rfl)) (by unfold Func.isWrapper;first|(rw[if_pos (by decide+kernel)];kernel_rfl)|(rw[if_neg (by decide+kernel)];exact⟨rfl,rfl⟩)) (λos q H enc _=>K4 os q H enc)
end Go.Iso.Gen
namespace Go.Proofs.YtibkoahppjkakaaGreatDoor
theorem journalsAgain_holds:Rows.JournalsAgainCardSaid:=Claim7.holds_tied_plain_at .later [] [.data] true (true,"ee9ad1503645a8e1eaacd4d54a614bcd3552493b42419ef826b0d7641a5a1bcf") false Go.Iso.Gen.row_said (λ_ h=>by cases h) (by kernel_rfl) (λ_ h=>by cases h) journalsAgain_row_tie rfl ⟨rfl,rfl⟩ (by kernel_rfl) rfl (λf fn E A=>by obtain rfl:f=3:=Option.some.inj ((show Tryz.prog.funcNamed "gansey/ganseylaw40.JournalsAgain"=some 3 by kernel_rfl).symm.trans E)|>.symm;obtain rfl:fn=Tryz.f3:=(Option.some.inj (Tryz.func3.symm.trans A)).symm;exact⟨by kernel_rfl,λj t F=>by have q:(Tryz.f3.params.toList.all λu=>!Tryz.prog.wantsStandIn u)=true:=by{kernel_rfl};have hm:t∈Tryz.f3.params.toList:=by{simpa using Array.mem_of_getElem? F};exact(show Tryz.prog.wantsStandIn t=false by simpa using List.all_eq_true.1 q t hm)⟩) (by kernel_rfl)
end Go.Proofs.YtibkoahppjkakaaGreatDoor
end
