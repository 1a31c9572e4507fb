/-
  the costs of a program are those of the definition, for every program..
-/
import Derived.Test.YtiofebdpgbojmaaGreatDoorRow
import Derived.Test.YtiofebdpgbojmaaGreatDoorFnD
import Derived.Test.YtiofebdpgbojmaaGreatDoorCards
import Derived.Test.YtiofebdpgbojmaaGreatDoorTie
import Derived.SevenTiedAt
set_option linter.unusedSimpArgs false
set_option linter.unusedVariables false
set_option maxRecDepth 100000
set_option maxHeartbeats 4000000
section
namespace Go.Iso.Gen
open Go.Iso Go.Proofs
theorem abx{H:Heap}{c:List IV}{d:PD}(h:Rd H (.struct [.int .u8,.int .u8,.int .u8,.int .u8]) c d):∃a:Ac,c=Cell.cs a/\okA a:=by cases h with|struct ts F l q=>cases q with|cons I q=>cases q with|cons K q=>cases q with|cons O q=>cases q with|cons Q q=>cases q;obtain⟨T,rfl,b1⟩:=Jd I;obtain⟨U,rfl,b2⟩:=Jd K;obtain⟨V,rfl,A⟩:=Jd O;obtain⟨Y,rfl,E⟩:=Jd Q;exact⟨⟨T,U,V,Y⟩,rfl,b1,b2,A,E⟩
theorem Yh{H:Heap}{c:List IV}{d:PD}(h:Rd H (.int .u8) c d):∃a:N8,c=Cell.cs a/\a.v<=255:=by obtain⟨x,rfl,b⟩:=Jd h;exact⟨⟨x⟩,rfl,b⟩
theorem aeG{H:Heap}(E:Ro H){c:List IV}{d:PD}(h:Rd H (.struct [.slice (.struct [.int .u8,.int .u8,.int .u8,.int .u8]),.slice (.int .u8),.slice (.int .u8)]) c d):∃(p w q:SV) (la:List Ac) (ws F:List N8),c=[p.iv,w.iv,q.iv]/\(Sl H p la/\∀a∈la,okA a)/\(Sl H w ws/\∀x∈ws,x.v<=255)/\(Sl H q F/\∀x∈F,x.v<=255):=by cases h with|struct ts K l A=>cases A with|cons O A=>cases A with|cons Q A=>cases A with|cons T A=>cases A;obtain⟨p,la,rfl,s1,_,b1⟩:=R7 E (λ_ _ h=>abx h) O;obtain⟨w,ws,rfl,s2,_,b2⟩:=R7 E (λ_ _ h=>Yh h) Q;obtain⟨q,F,rfl,U,_,I⟩:=R7 E (λ_ _ h=>Yh h) T;exact⟨p,w,q,la,ws,F,rfl,⟨s1,b1⟩,⟨s2,b2⟩,U,I⟩
theorem rparams:Tryz.prog.funcs[0]?.isSome=true/\Tryz.f4.params.toList.mapM (rz Tryz.prog 8)=some [.struct [.slice (.struct [.int .u8,.int .u8,.int .u8,.int .u8]),.slice (.int .u8),.slice (.int .u8)]]:=⟨by kernel_rfl,by kernel_rfl⟩
theorem Zt:Gx Tryz.prog Tryz.f4=true:=by kernel_rfl
theorem LT(os:Os)(A:os.Started)(T:Type)(enc:TypeId×Value->T):ReturnsInHanded {} Tryz.checked os 4 .any (λw args=>(YtiofebdpgbojmaaGreatDoor.Rows.costsOfSpec.pre enc Tryz.prog Tryz.f4 [] false w args/\laidMetH Tryz.prog JO w)/\sizedMet enc Tryz.prog Tryz.f4 (OpenSpec.ofChange YtiofebdpgbojmaaGreatDoor.Rows.costsOfSpec) false w args) (YtiofebdpgbojmaaGreatDoor.Rows.costsOfSpec.post enc Tryz.prog Tryz.f4 false true false false):=by refine returnsInHanded_of_change_and (C:=Tryz.checked) (X:=λw _=>laidMetH Tryz.prog JO w) (λ_ _ _ hh h=>h.of_heap hh) Sh A (by kernel_rfl) Tryz.func4 (ChangeSpec.witness_shaped (enc:=enc) (C:=Tryz.checked) (os:=os) (X:=λw _=>laidMetH Tryz.prog JO w) false (World.doorLaid Tryz.prog 400 os) #[.agg #[.slice none 0 0,.slice none 0 0,.slice none 0 0]] 8 rfl (World.shaped_of_RefB (by kernel_rfl) (by kernel_rfl)) (by kernel_rfl) (by kernel_rfl) (by kernel_rfl) (TO os _)) ?_;intro W base args ds gs E I Z _ _ V _;refine DU (P:=Tryz.prog) (tb:=4) (s:=YtiofebdpgbojmaaGreatDoor.Rows.costsOfSpec) (ts:=tabs) yw rfl rparams.2 (by kernel_rfl) (by kernel_rfl) Zt rfl ?_ (λ_=>True) ?_ W base args ds gs E I Z (Q6 V) trivial;{intro T ds hd;match ds,hd with|[a0],_=>rfl};{intro H Q ds K Y F _;cases F with|cons U F=>cases F;obtain⟨p,w,q,la,ws,qs,rfl,⟨s1,b1⟩,⟨s2,b2⟩,s3,O⟩:=aeG K U;obtain⟨n,o,H',h,rfl⟩:=Kw Y s1 b1 s2 b2 s3 O;exact⟨n,H',h⟩}
theorem row_said:YtiofebdpgbojmaaGreatDoor.Rows.CostsOfSaid:=OpenClaim.holds_of_wide 4 Tryz.f4 rfl rfl rfl rfl rfl rfl rfl ⟨rfl,rfl,rfl,rfl,rfl⟩ rfl rfl rfl rfl rfl (by kernel_rfl) Tryz.func4 (by kernel_rfl) (of_decide_eq_true (by kernel_rfl)) (by unfold Func.isWrapper;first|(rw[if_pos (by decide+kernel)];kernel_rfl)|(rw[if_neg (by decide+kernel)];exact⟨rfl,rfl⟩)) (λos q H enc _=>LT os q H enc)
end Go.Iso.Gen
namespace Go.Proofs.YtiofebdpgbojmaaGreatDoor
theorem costsOf_holds:Rows.CostsOfCardSaid:=Claim7.holds_tied_plain_at .later [] [.data] true (true,"34c3e6cfcce7a476dbd21c42d401b4995b9d10a39055dd61407e9188a989d73b") false Go.Iso.Gen.row_said (λ_ h=>by cases h) (by kernel_rfl) (λ_ h=>by cases h) costsOf_row_tie rfl ⟨rfl,rfl⟩ (by kernel_rfl) rfl (λf fn E A=>by obtain rfl:f=4:=Option.some.inj ((show Tryz.prog.funcNamed "gansey/ganseylaw38.CostsOf"=some 4 by kernel_rfl).symm.trans E)|>.symm;obtain rfl:fn=Tryz.f4:=(Option.some.inj (Tryz.func4.symm.trans A)).symm;exact⟨by kernel_rfl,λj t F=>by have q:(Tryz.f4.params.toList.all λu=>!Tryz.prog.wantsStandIn u)=true:=by{kernel_rfl};have hm:t∈Tryz.f4.params.toList:=by{simpa using Array.mem_of_getElem? F};exact(show Tryz.prog.wantsStandIn t=false by simpa using List.all_eq_true.1 q t hm)⟩) (by kernel_rfl)
end Go.Proofs.YtiofebdpgbojmaaGreatDoor
end
