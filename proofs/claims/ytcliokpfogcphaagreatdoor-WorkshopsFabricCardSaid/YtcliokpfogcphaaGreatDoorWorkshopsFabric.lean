/-
  whatever breaks, and whenever the power fails, each machine makes the fabric of its program, if all is mended, and the power is back, and enough ticks have passed.
-/
import Derived.Test.YtcliokpfogcphaaGreatDoorRow
import Derived.Test.YtcliokpfogcphaaGreatDoorFnD
import Derived.Test.YtcliokpfogcphaaGreatDoorCards
import Derived.Test.YtcliokpfogcphaaGreatDoorTie
import Derived.SevenTiedAt
set_option linter.unusedSimpArgs false
set_option linter.unusedVariables false
set_option maxRecDepth 100000
set_option maxHeartbeats 4000000
section
namespace Go.Iso.Gen
open Go.Iso Go.Proofs
theorem agG{H:Heap}{c:List IV}{d:PD}(h:Rd H (.struct [.int .u8,.int .u8,.int .u8,.int .u8]) c d):∃a:Ac,c=Cell.cs a/\okA a:=by cases h with|struct ts I l q=>cases q with|cons J q=>cases q with|cons K q=>cases q with|cons O q=>cases q with|cons U q=>cases q;obtain⟨V,rfl,b1⟩:=Cd J;obtain⟨Y,rfl,b2⟩:=Cd K;obtain⟨Z,rfl,E⟩:=Cd O;obtain⟨x4,rfl,F⟩:=Cd U;exact⟨⟨V,Y,Z,x4⟩,rfl,b1,b2,E,F⟩
theorem agE{H:Heap}{c:List IV}{d:PD}(h:Rd H (.int .u8) c d):∃a:N8,c=Cell.cs a/\a.v<=255:=by obtain⟨x,rfl,hx⟩:=Cd h;exact⟨⟨x⟩,rfl,hx⟩
theorem agF{H:Heap}(F:Ro H){c:List IV}{d:PD}(h:Rd H (.struct [.int .u8,.int .u8,.int .u8,.slice (.int .u8)]) c d):∃a:Av,c=Cell.cs a/\adB H a:=by cases h with|struct ts J l q=>cases q with|cons K q=>cases q with|cons O q=>cases q with|cons U q=>cases q with|cons V q=>cases q;obtain⟨Y,rfl,b1⟩:=Cd K;obtain⟨Z,rfl,b2⟩:=Cd O;obtain⟨x3,rfl,I⟩:=Cd U;obtain⟨v,l,rfl,sl,_,E⟩:=R4 F (λ_ _ h=>agE h) V;exact⟨⟨Y,Z,x3,v⟩,rfl,b1,b2,I,l,sl,E⟩
theorem agD{H:Heap}(E:Ro H){c:List IV}{d:PD}(h:Rd H (.slice (.struct [.int .u8,.int .u8,.int .u8,.int .u8])) c d):∃a:SV,c=Cell.cs a/\∃F:List Ac,Sl H a F/\∀x∈F,okA x:=by obtain⟨v,l,rfl,sl,_,q⟩:=R4 E (λ_ _ h=>agG h) h;exact⟨v,rfl,l,sl,q⟩
theorem rparams:Tryz.prog.funcs[0]?.isSome=true/\Tryz.f4.params.toList.mapM (tW Tryz.prog 8)=some [.slice (.slice (.struct [.int .u8,.int .u8,.int .u8,.int .u8])),.slice (.struct [.int .u8,.int .u8,.int .u8,.slice (.int .u8)])]:=⟨by kernel_rfl,by kernel_rfl⟩
theorem adc:Kp Tryz.prog Tryz.f4=true:=by kernel_rfl
theorem Qd(os:Os)(E:os.Started)(T:Type)(enc:TypeId×Value->T):ReturnsInHanded {} Tryz.checked os 4 .any (λw args=>(YtcliokpfogcphaaGreatDoor.Rows.workshopsFabricSpec.pre enc Tryz.prog Tryz.f4 [] false w args/\laidMetH Tryz.prog NP w)/\sizedMet enc Tryz.prog Tryz.f4 (OpenSpec.ofChange YtcliokpfogcphaaGreatDoor.Rows.workshopsFabricSpec) false w args) (YtcliokpfogcphaaGreatDoor.Rows.workshopsFabricSpec.post enc Tryz.prog Tryz.f4 false true false false):=by refine returnsInHanded_of_change_and (C:=Tryz.checked) (X:=λw _=>laidMetH Tryz.prog NP w) (λ_ _ _ hh h=>h.of_heap hh) WY E (by kernel_rfl) Tryz.func4 (ChangeSpec.witness_shaped (enc:=enc) (C:=Tryz.checked) (os:=os) (X:=λw _=>laidMetH Tryz.prog NP w) false (World.doorLaid Tryz.prog 400 os) #[.slice none 0 0,.slice none 0 0] 8 rfl (World.shaped_of_RefB (by kernel_rfl) (by kernel_rfl)) (by kernel_rfl) (by kernel_rfl) (by kernel_rfl) (Yq os _)) ?_;intro W base args ds gs F J Z _ _ V _;refine HU (P:=Tryz.prog) (tb:=4) (s:=YtcliokpfogcphaaGreatDoor.Rows.workshopsFabricSpec) (ts:=tabs) Bv rfl rparams.2 (by kernel_rfl) (by kernel_rfl) adc rfl ?_ (λ_=>True) ?_ W base args ds gs F J Z (VU V) trivial;{intro T ds hd;match ds,hd with|[a0,a1],_=>rfl};{intro H K ds I Y q _;cases q with|cons O q=>cases q with|cons U q=>cases q;obtain⟨v,l,rfl,sl,_,hx⟩:=R4 I (λ_ _ h=>agD I h) O;obtain⟨w,m,rfl,sm,_,ha⟩:=R4 I (λ_ _ h=>agF I h) U;obtain⟨n,o,H',h,rfl⟩:=wT Y sl hx sm ha;exact⟨n,H',h⟩}
theorem row_said:YtcliokpfogcphaaGreatDoor.Rows.WorkshopsFabricSaid:=OpenClaim.holds_of_wide 4 Tryz.f4 rfl rfl rfl rfl rfl rfl rfl ⟨rfl,rfl,rfl,rfl,rfl⟩ rfl rfl rfl rfl rfl (by kernel_rfl) Tryz.func4 (by kernel_rfl) (of_decide_eq_true (by kernel_rfl)) (by unfold Func.isWrapper;first|(rw[if_pos (by decide+kernel)];kernel_rfl)|(rw[if_neg (by decide+kernel)];exact⟨rfl,rfl⟩)) (λos q H enc _=>Qd os q H enc)
end Go.Iso.Gen
namespace Go.Proofs.YtcliokpfogcphaaGreatDoor
theorem workshopsFabric_holds:Rows.WorkshopsFabricCardSaid:=Claim7.holds_tied_plain_at .later [] [.data] true (true,"0153d619c05a87d11950d638ea40c9578787116cedba3c930677db873037df3f") false Go.Iso.Gen.row_said (λ_ h=>by cases h) (by kernel_rfl) (λ_ h=>by cases h) workshopsFabric_row_tie rfl ⟨rfl,rfl⟩ (by kernel_rfl) rfl (λf fn F E=>by obtain rfl:f=4:=Option.some.inj ((show Tryz.prog.funcNamed "gansey/ganseylaw43.WorkshopsFabric"=some 4 by kernel_rfl).symm.trans F)|>.symm;obtain rfl:fn=Tryz.f4:=(Option.some.inj (Tryz.func4.symm.trans E)).symm;exact⟨by kernel_rfl,λj t I=>by have q:(Tryz.f4.params.toList.all λu=>!Tryz.prog.wantsStandIn u)=true:=by{kernel_rfl};have hm:t∈Tryz.f4.params.toList:=by{simpa using Array.mem_of_getElem? I};exact(show Tryz.prog.wantsStandIn t=false by simpa using List.all_eq_true.1 q t hm)⟩) (by kernel_rfl)
end Go.Proofs.YtcliokpfogcphaaGreatDoor
end
