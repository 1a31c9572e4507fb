/-
  Wherever a rule is applied, the program runs, and makes the same fabric, with fewer operations, and no more passes; the cards, with the laid table orders.steps tied, every W..
-/
import Derived.Test.YtiofebdpgbojmaaGreatDoorRow
import Derived.Test.YtiofebdpgbojmaaGreatDoorFnD
import Derived.Test.YtiofebdpgbojmaaGreatDoorCards
import Derived.Test.YtiofebdpgbojmaaGreatDoorTie
import Derived.SevenTiedAt
set_option linter.unusedSimpArgs false
set_option linter.unusedVariables false
set_option maxRecDepth 100000
set_option maxHeartbeats 4000000
section
namespace Go.Iso.Gen
open Go.Iso Go.Proofs
theorem abD{H:Heap}{c:List IV}{d:PD}(h:Rd H (.struct [.int .u8,.int .u8,.int .u8,.int .u8]) c d):∃a:Ac,c=Cell.cs a/\okA a:=by cases h with|struct ts E l q=>cases q with|cons F q=>cases q with|cons I q=>cases q with|cons K q=>cases q with|cons O q=>cases q;obtain⟨Q,rfl,b1⟩:=FT F;obtain⟨T,rfl,b2⟩:=FT I;obtain⟨U,rfl,u⟩:=FT K;obtain⟨V,rfl,A⟩:=FT O;exact⟨⟨Q,T,U,V⟩,rfl,b1,b2,u,A⟩
theorem WV{H:Heap}{c:List IV}{d:PD}(h:Rd H (.int .u8) c d):∃a:N8,c=Cell.cs a/\a.v<=255:=by obtain⟨x,rfl,b⟩:=FT h;exact⟨⟨x⟩,rfl,b⟩
theorem ad6{H:Heap}(A:Ro H){c:List IV}{d:PD}(h:Rd H (.struct [.slice (.struct [.int .u8,.int .u8,.int .u8,.int .u8]),.slice (.int .u8),.slice (.int .u8)]) c d):∃(p w q:SV) (la:List Ac) (ws E:List N8),c=[p.iv,w.iv,q.iv]/\(Sl H p la/\∀a∈la,okA a)/\(Sl H w ws/\∀x∈ws,x.v<=255)/\(Sl H q E/\∀x∈E,x.v<=255):=by cases h with|struct ts I l u=>cases u with|cons K u=>cases u with|cons O u=>cases u with|cons Q u=>cases u;obtain⟨p,la,rfl,s1,_,b1⟩:=QC A (λ_ _ h=>abD h) K;obtain⟨w,ws,rfl,s2,_,b2⟩:=QC A (λ_ _ h=>WV h) O;obtain⟨q,E,rfl,T,_,F⟩:=QC A (λ_ _ h=>WV h) Q;exact⟨p,w,q,la,ws,E,rfl,⟨s1,b1⟩,⟨s2,b2⟩,T,F⟩
theorem rparams:Tryz.prog.funcs[0]?.isSome=true/\Tryz.f7.params.toList.mapM (nZ Tryz.prog 8)=some [.struct [.slice (.struct [.int .u8,.int .u8,.int .u8,.int .u8]),.slice (.int .u8),.slice (.int .u8)]]:=⟨by kernel_rfl,by kernel_rfl⟩
theorem Yc:Db Tryz.prog Tryz.f7=true:=by kernel_rfl
theorem I9(os:Os)(u:os.Started)(T:Type)(enc:TypeId×Value->T):ReturnsInHanded {} Tryz.checked os 7 .any (λw args=>(YtiofebdpgbojmaaGreatDoor.Rows.rewritesKeepSpec.pre enc Tryz.prog Tryz.f7 [] false w args/\laidMetH Tryz.prog GF w)/\sizedMet enc Tryz.prog Tryz.f7 (OpenSpec.ofChange YtiofebdpgbojmaaGreatDoor.Rows.rewritesKeepSpec) false w args) (YtiofebdpgbojmaaGreatDoor.Rows.rewritesKeepSpec.post enc Tryz.prog Tryz.f7 false true false false):=by refine returnsInHanded_of_change_and (C:=Tryz.checked) (X:=λw _=>laidMetH Tryz.prog GF w) (λ_ _ _ hh h=>h.of_heap hh) QM u (by kernel_rfl) Tryz.func7 (ChangeSpec.witness_shaped (enc:=enc) (C:=Tryz.checked) (os:=os) (X:=λw _=>laidMetH Tryz.prog GF w) false (World.doorLaid Tryz.prog 400 os) #[.agg #[.slice none 0 0,.slice none 0 0,.slice none 0 0]] 8 rfl (World.shaped_of_RefB (by kernel_rfl) (by kernel_rfl)) (by kernel_rfl) (by kernel_rfl) (by kernel_rfl) (Se os _)) ?_;intro W base args ds gs A F Z _ _ U _;refine AP (P:=Tryz.prog) (tb:=4) (s:=YtiofebdpgbojmaaGreatDoor.Rows.rewritesKeepSpec) (ts:=tabs) vi rfl rparams.2 (by kernel_rfl) (by kernel_rfl) Yc rfl ?_ (λ_=>True) ?_ W base args ds gs A F Z (PL U) trivial;{intro T ds hd;match ds,hd with|[a0],_=>rfl};{intro H O ds I V E _;cases E with|cons Q E=>cases E;obtain⟨p,w,q,la,ws,qs,rfl,⟨s1,b1⟩,⟨s2,b2⟩,s3,K⟩:=ad6 I Q;obtain⟨n,o,H',h,rfl⟩:=uz V s1 b1 s2 b2 s3 K;exact⟨n,H',h⟩}
theorem row_said:YtiofebdpgbojmaaGreatDoor.Rows.RewritesKeepSaid:=OpenClaim.holds_of_wide 7 Tryz.f7 rfl rfl rfl rfl rfl rfl rfl ⟨rfl,rfl,rfl,rfl,rfl⟩ rfl rfl rfl rfl rfl (by kernel_rfl) Tryz.func7 (by kernel_rfl) (of_decide_eq_true (by kernel_rfl)) (by unfold Func.isWrapper;first|(rw[if_pos (by decide+kernel)];kernel_rfl)|(rw[if_neg (by decide+kernel)];exact⟨rfl,rfl⟩)) (λos q H enc _=>I9 os q H enc)
end Go.Iso.Gen
namespace Go.Proofs.YtiofebdpgbojmaaGreatDoor
theorem rewritesKeep_holds:Rows.RewritesKeepCardSaid:=Claim7.holds_tied_plain_at .later [] [.data] true (true,"34c3e6cfcce7a476dbd21c42d401b4995b9d10a39055dd61407e9188a989d73b") false Go.Iso.Gen.row_said (λ_ h=>by cases h) (by kernel_rfl) (λ_ h=>by cases h) rewritesKeep_row_tie rfl ⟨rfl,rfl⟩ (by kernel_rfl) rfl (λf fn E A=>by obtain rfl:f=7:=Option.some.inj ((show Tryz.prog.funcNamed "gansey/ganseylaw35.RewritesKeep"=some 7 by kernel_rfl).symm.trans E)|>.symm;obtain rfl:fn=Tryz.f7:=(Option.some.inj (Tryz.func7.symm.trans A)).symm;exact⟨by kernel_rfl,λj t F=>by have q:(Tryz.f7.params.toList.all λu=>!Tryz.prog.wantsStandIn u)=true:=by{kernel_rfl};have hm:t∈Tryz.f7.params.toList:=by{simpa using Array.mem_of_getElem? F};exact(show Tryz.prog.wantsStandIn t=false by simpa using List.all_eq_true.1 q t hm)⟩) (by kernel_rfl)
end Go.Proofs.YtiofebdpgbojmaaGreatDoor
end
