/-
  What a rule says, and where it applies, is what the definition says, told from the states between the operations; the cards, with the laid table orders.steps tied, every W and rule..
-/
import Derived.Test.YtiofebdpgbojmaaGreatDoorRow
import Derived.Test.YtiofebdpgbojmaaGreatDoorFnD
import Derived.Test.YtiofebdpgbojmaaGreatDoorCards
import Derived.Test.YtiofebdpgbojmaaGreatDoorTie
import Derived.SevenTiedAt
set_option linter.unusedSimpArgs false
set_option linter.unusedVariables false
set_option maxRecDepth 100000
set_option maxHeartbeats 4000000
section
namespace Go.Iso.Gen
open Go.Iso Go.Proofs
theorem aem{H:Heap}{c:List IV}{d:PD}(h:Rd H (.struct [.int .u8,.int .u8,.int .u8,.int .u8]) c d):∃a:Ac,c=Cell.cs a/\okA a:=by cases h with|struct ts I l q=>cases q with|cons J q=>cases q with|cons K q=>cases q with|cons O q=>cases q with|cons Q q=>cases q;obtain⟨T,rfl,b1⟩:=Fy J;obtain⟨U,rfl,b2⟩:=Fy K;obtain⟨V,rfl,E⟩:=Fy O;obtain⟨Y,rfl,F⟩:=Fy Q;exact⟨⟨T,U,V,Y⟩,rfl,b1,b2,E,F⟩
theorem aaV{H:Heap}{c:List IV}{d:PD}(h:Rd H (.int .u8) c d):∃a:N8,c=Cell.cs a/\a.v<=255:=by obtain⟨x,rfl,b⟩:=Fy h;exact⟨⟨x⟩,rfl,b⟩
theorem ahr{H:Heap}(F:Ro H){c:List IV}{d:PD}(h:Rd H (.struct [.slice (.struct [.int .u8,.int .u8,.int .u8,.int .u8]),.slice (.int .u8),.slice (.int .u8)]) c d):∃(p w q:SV) (la:List Ac) (ws I:List N8),c=[p.iv,w.iv,q.iv]/\(Sl H p la/\∀a∈la,okA a)/\(Sl H w ws/\∀x∈ws,x.v<=255)/\(Sl H q I/\∀x∈I,x.v<=255):=by cases h with|struct ts K l E=>cases E with|cons O E=>cases E with|cons Q E=>cases E with|cons T E=>cases E;obtain⟨p,la,rfl,s1,_,b1⟩:=Uz F (λ_ _ h=>aem h) O;obtain⟨w,ws,rfl,s2,_,b2⟩:=Uz F (λ_ _ h=>aaV h) Q;obtain⟨q,I,rfl,U,_,J⟩:=Uz F (λ_ _ h=>aaV h) T;exact⟨p,w,q,la,ws,I,rfl,⟨s1,b1⟩,⟨s2,b2⟩,U,J⟩
theorem rparams:Tryz.prog.funcs[0]?.isSome=true/\Tryz.f3.params.toList.mapM (ru Tryz.prog 8)=some [.struct [.slice (.struct [.int .u8,.int .u8,.int .u8,.int .u8]),.slice (.int .u8),.slice (.int .u8)],.int .u8]:=⟨by kernel_rfl,by kernel_rfl⟩
theorem ach:HQ Tryz.prog Tryz.f3=true:=by kernel_rfl
theorem Nv(os:Os)(F:os.Started)(T:Type)(enc:TypeId×Value->T):ReturnsInHanded {} Tryz.checked os 3 .any (λw args=>(YtiofebdpgbojmaaGreatDoor.Rows.rewritesPlacesSpec.pre enc Tryz.prog Tryz.f3 [] false w args/\laidMetH Tryz.prog K0 w)/\sizedMet enc Tryz.prog Tryz.f3 (OpenSpec.ofChange YtiofebdpgbojmaaGreatDoor.Rows.rewritesPlacesSpec) false w args) (YtiofebdpgbojmaaGreatDoor.Rows.rewritesPlacesSpec.post enc Tryz.prog Tryz.f3 false true false false):=by refine returnsInHanded_of_change_and (C:=Tryz.checked) (X:=λw _=>laidMetH Tryz.prog K0 w) (λ_ _ _ hh h=>h.of_heap hh) UI F (by kernel_rfl) Tryz.func3 (ChangeSpec.witness_shaped (enc:=enc) (C:=Tryz.checked) (os:=os) (X:=λw _=>laidMetH Tryz.prog K0 w) false (World.doorLaid Tryz.prog 400 os) #[.agg #[.slice none 0 0,.slice none 0 0,.slice none 0 0],.int .u8 0] 8 rfl (World.shaped_of_RefB (by kernel_rfl) (by kernel_rfl)) (by kernel_rfl) (by kernel_rfl) (by kernel_rfl) (V6 os _)) ?_;intro W base args ds gs I J hW _ _ Z _;refine EZ (P:=Tryz.prog) (tb:=4) (s:=YtiofebdpgbojmaaGreatDoor.Rows.rewritesPlacesSpec) (ts:=tabs) zA rfl rparams.2 (by kernel_rfl) (by kernel_rfl) ach rfl ?_ (λ_=>True) ?_ W base args ds gs I J hW (Tz Z) trivial;{intro T ds hd;match ds,hd with|[a0,a1],_=>rfl};{intro H U ds K hT E _;cases E with|cons V E=>cases E with|cons Y E=>cases E;obtain⟨p,w,q,la,ws,qs,rfl,⟨s1,b1⟩,⟨s2,b2⟩,s3,O⟩:=ahr K V;obtain⟨a,rfl,Q⟩:=Fy Y;obtain⟨n,o,H',h,rfl⟩:=vz hT s1 b1 s2 b2 s3 O Q;exact⟨n,H',h⟩}
theorem row_said:YtiofebdpgbojmaaGreatDoor.Rows.RewritesPlacesSaid:=OpenClaim.holds_of_wide 3 Tryz.f3 rfl rfl rfl rfl rfl rfl rfl ⟨rfl,rfl,rfl,rfl,rfl⟩ rfl rfl rfl rfl rfl (by kernel_rfl) Tryz.func3 (by kernel_rfl) (of_decide_eq_true (by kernel_rfl)) (by unfold Func.isWrapper;first|(rw[if_pos (by decide+kernel)];kernel_rfl)|(rw[if_neg (by decide+kernel)];exact⟨rfl,rfl⟩)) (λos q H enc _=>Nv os q H enc)
end Go.Iso.Gen
namespace Go.Proofs.YtiofebdpgbojmaaGreatDoor
theorem rewritesPlaces_holds:Rows.RewritesPlacesCardSaid:=Claim7.holds_tied_plain_at .later [] [.data] true (true,"34c3e6cfcce7a476dbd21c42d401b4995b9d10a39055dd61407e9188a989d73b") false Go.Iso.Gen.row_said (λ_ h=>by cases h) (by kernel_rfl) (λ_ h=>by cases h) rewritesPlaces_row_tie rfl ⟨rfl,rfl⟩ (by kernel_rfl) rfl (λf fn F E=>by obtain rfl:f=3:=Option.some.inj ((show Tryz.prog.funcNamed "gansey/ganseylaw35.RewritesPlaces"=some 3 by kernel_rfl).symm.trans F)|>.symm;obtain rfl:fn=Tryz.f3:=(Option.some.inj (Tryz.func3.symm.trans E)).symm;exact⟨by kernel_rfl,λj t I=>by have q:(Tryz.f3.params.toList.all λu=>!Tryz.prog.wantsStandIn u)=true:=by{kernel_rfl};have hm:t∈Tryz.f3.params.toList:=by{simpa using Array.mem_of_getElem? I};exact(show Tryz.prog.wantsStandIn t=false by simpa using List.all_eq_true.1 q t hm)⟩) (by kernel_rfl)
end Go.Proofs.YtiofebdpgbojmaaGreatDoor
end
