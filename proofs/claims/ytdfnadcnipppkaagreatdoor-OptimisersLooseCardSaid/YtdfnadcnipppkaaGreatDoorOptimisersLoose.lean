/-
  The statement OptimisersLoose of ganseylaw36 holds of the given program for every input..
-/
import Derived.Test.YtdfnadcnipppkaaGreatDoorRow
import Derived.Test.YtdfnadcnipppkaaGreatDoorFnH
import Derived.Test.YtdfnadcnipppkaaGreatDoorCards
import Derived.Test.YtdfnadcnipppkaaGreatDoorTie
import Derived.SevenTiedAt
set_option linter.unusedSimpArgs false
set_option linter.unusedVariables false
set_option maxRecDepth 100000
set_option maxHeartbeats 4000000
section
namespace Go.Iso.Gen
open Go.Iso Go.Proofs
theorem ZL{H:Heap}{c:List IV}{d:PD}(h:Rd H (.int .u8) c d):∃a:N8,c=Cell.cs a/\a.v<=255:=by obtain⟨x,rfl,b⟩:=aez h;exact⟨⟨x⟩,rfl,b⟩
theorem aeA{H:Heap}{c:List IV}{d:PD}(h:Rd H .bool c d):∃a:Bw,c=Cell.cs a/\True:=by cases h with|bool b=>exact⟨⟨b⟩,rfl,trivial⟩
theorem rparams:Tryz.prog.funcs[0]?.isSome=true/\Tryz.f3.params.toList.mapM (pg Tryz.prog 8)=some [.slice .bool,.slice (.int .u8),.slice (.int .u8)]:=⟨by kernel_rfl,by kernel_rfl⟩
theorem aa2:Fl Tryz.prog Tryz.f3=true:=by kernel_rfl
theorem LS(os:Os)(F:os.Started)(T:Type)(enc:TypeId×Value->T):ReturnsInHanded {} Tryz.checked os 3 .any (λw args=>(YtdfnadcnipppkaaGreatDoor.Rows.optimisersLooseSpec.pre enc Tryz.prog Tryz.f3 [] false w args/\laidMetH Tryz.prog Jk w)/\sizedMet enc Tryz.prog Tryz.f3 (OpenSpec.ofChange YtdfnadcnipppkaaGreatDoor.Rows.optimisersLooseSpec) false w args) (YtdfnadcnipppkaaGreatDoor.Rows.optimisersLooseSpec.post enc Tryz.prog Tryz.f3 false true false false):=by refine returnsInHanded_of_change_and (C:=Tryz.checked) (X:=λw _=>laidMetH Tryz.prog Jk w) (λ_ _ _ hh h=>h.of_heap hh) Us F (by kernel_rfl) Tryz.func3 (ChangeSpec.witness_shaped (enc:=enc) (C:=Tryz.checked) (os:=os) (X:=λw _=>laidMetH Tryz.prog Jk w) false (World.doorLaid Tryz.prog 400 os) #[.slice none 0 0,.slice none 0 0,.slice none 0 0] 8 rfl (World.shaped_of_RefB (by kernel_rfl) (by kernel_rfl)) (by kernel_rfl) (by kernel_rfl) (by kernel_rfl) (VV os _)) ?_;intro W base args ds gs I U hW _ _ hL _;refine CZ (P:=Tryz.prog) (tb:=4) (s:=YtdfnadcnipppkaaGreatDoor.Rows.optimisersLooseSpec) (ts:=tabs) xt rfl rparams.2 (by kernel_rfl) (by kernel_rfl) aa2 rfl ?_ (λ_=>True) ?_ W base args ds gs I U hW (Ti hL) trivial;{intro T ds hd;match ds,hd with|[a0,a1,a2],_=>rfl};{intro H V ds O hT E _;cases E with|cons Y E=>cases E with|cons Z E=>cases E with|cons h3 E=>cases E;obtain⟨x,mx,rfl,s1,_,_⟩:=Ui O (λ_ _ h=>aeA h) Y;obtain⟨p,ls,rfl,s2,_,_⟩:=Ui O (λ_ _ h=>ZL h) Z;obtain⟨q,rs,rfl,s3,_,_⟩:=Ui O (λ_ _ h=>ZL h) h3;obtain⟨n,o,H',h,rfl⟩:=sq hT s1 s2 s3;exact⟨n,H',h⟩}
theorem row_said:YtdfnadcnipppkaaGreatDoor.Rows.OptimisersLooseSaid:=OpenClaim.holds_of_wide 3 Tryz.f3 rfl rfl rfl rfl rfl rfl rfl ⟨rfl,rfl,rfl,rfl,rfl⟩ rfl rfl rfl rfl rfl (by kernel_rfl) Tryz.func3 (by kernel_rfl) (of_decide_eq_true (by kernel_rfl)) (by unfold Func.isWrapper;first|(rw[if_pos (by decide+kernel)];kernel_rfl)|(rw[if_neg (by decide+kernel)];exact⟨rfl,rfl⟩)) (λos E H enc _=>LS os E H enc)
end Go.Iso.Gen
namespace Go.Proofs.YtdfnadcnipppkaaGreatDoor
theorem optimisersLoose_holds:Rows.OptimisersLooseCardSaid:=Claim7.holds_tied_plain_at .later [] [.data] true (true,"2e0cbc4e5a17cff3da3aa7abdc2ce1d7be82228f2f7f0d2c2298aef18e4cf546") false Go.Iso.Gen.row_said (λ_ h=>by cases h) (by kernel_rfl) (λ_ h=>by cases h) optimisersLoose_row_tie rfl ⟨rfl,rfl⟩ (by kernel_rfl) rfl (λf fn I F=>by obtain rfl:f=3:=Option.some.inj ((show Tryz.prog.funcNamed "gansey/ganseylaw36.OptimisersLoose"=some 3 by kernel_rfl).symm.trans I)|>.symm;obtain rfl:fn=Tryz.f3:=(Option.some.inj (Tryz.func3.symm.trans F)).symm;exact⟨by kernel_rfl,λj t O=>by have E:(Tryz.f3.params.toList.all λu=>!Tryz.prog.wantsStandIn u)=true:=by{kernel_rfl};have hm:t∈Tryz.f3.params.toList:=by{simpa using Array.mem_of_getElem? O};exact(show Tryz.prog.wantsStandIn t=false by simpa using List.all_eq_true.1 E t hm)⟩) (by kernel_rfl)
end Go.Proofs.YtdfnadcnipppkaaGreatDoor
end
