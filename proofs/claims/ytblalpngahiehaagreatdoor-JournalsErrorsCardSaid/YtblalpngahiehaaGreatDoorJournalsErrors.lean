/-
  what Look, Resume and Begin say of each tape that is not whole, or not of one work.
-/
import Derived.Test.YtblalpngahiehaaGreatDoorRow
import Derived.Test.YtblalpngahiehaaGreatDoorFnD
import Derived.Test.YtblalpngahiehaaGreatDoorCards
import Derived.Test.YtblalpngahiehaaGreatDoorTie
import Derived.SevenTiedAt
set_option linter.unusedSimpArgs false
set_option linter.unusedVariables false
set_option maxRecDepth 100000
set_option maxHeartbeats 4000000
section
namespace Go.Iso.Gen
open Go.Iso Go.Proofs
theorem ZX{H:Heap}{c:List IV}{d:PD}(h:Rd H (.struct [.int .u8,.int .u8,.int .u8,.int .u8]) c d):∃a:Ac,c=Cell.cs a/\okA a:=by cases h with|struct ts F l q=>cases q with|cons I q=>cases q with|cons J q=>cases q with|cons K q=>cases q with|cons O q=>cases q;obtain⟨T,rfl,b1⟩:=Do I;obtain⟨U,rfl,b2⟩:=Do J;obtain⟨V,rfl,A⟩:=Do K;obtain⟨x4,rfl,E⟩:=Do O;exact⟨⟨T,U,V,x4⟩,rfl,b1,b2,A,E⟩
theorem rparams:Tryz.prog.funcs[0]?.isSome=true/\Tryz.f3.params.toList.mapM (qs Tryz.prog 8)=some [.slice (.struct [.int .u8,.int .u8,.int .u8,.int .u8]),.int .u8,.int .u8]:=⟨by kernel_rfl,by kernel_rfl⟩
theorem X0:Fg Tryz.prog Tryz.f3=true:=by kernel_rfl
theorem Kv(os:Os)(A:os.Started)(T:Type)(enc:TypeId×Value->T):ReturnsInHanded {} Tryz.checked os 3 .any (λw args=>(YtblalpngahiehaaGreatDoor.Rows.journalsErrorsSpec.pre enc Tryz.prog Tryz.f3 [] false w args/\laidMetH Tryz.prog Ip w)/\sizedMet enc Tryz.prog Tryz.f3 (OpenSpec.ofChange YtblalpngahiehaaGreatDoor.Rows.journalsErrorsSpec) false w args) (YtblalpngahiehaaGreatDoor.Rows.journalsErrorsSpec.post enc Tryz.prog Tryz.f3 false true false false):=by refine returnsInHanded_of_change_and (C:=Tryz.checked) (X:=λw _=>laidMetH Tryz.prog Ip w) (λ_ _ _ hh h=>h.of_heap hh) Q1 A (by kernel_rfl) Tryz.func3 (ChangeSpec.witness_shaped (enc:=enc) (C:=Tryz.checked) (os:=os) (X:=λw _=>laidMetH Tryz.prog Ip w) false (World.doorLaid Tryz.prog 400 os) #[.slice none 0 0,.int .u8 0,.int .u8 0] 8 rfl (World.shaped_of_RefB (by kernel_rfl) (by kernel_rfl)) (by kernel_rfl) (by kernel_rfl) (by kernel_rfl) (Sv os _)) ?_;intro W base args ds gs E F hW _ _ Y _;refine CT (P:=Tryz.prog) (tb:=4) (s:=YtblalpngahiehaaGreatDoor.Rows.journalsErrorsSpec) (ts:=tabs) xh rfl rparams.2 (by kernel_rfl) (by kernel_rfl) X0 rfl ?_ (λ_=>True) ?_ W base args ds gs E F hW (PU Y) trivial;{intro T ds hd;match ds,hd with|[a0,a1,a2],_=>rfl};{intro H K ds J Z q _;cases q with|cons O q=>cases q with|cons U q=>cases q with|cons V q=>cases q;obtain⟨v,l,rfl,sl,_,I⟩:=ZW J (λ_ _ h=>ZX h) O;obtain⟨x,rfl,hx⟩:=Do U;obtain⟨y,rfl,hy⟩:=Do V;obtain⟨n,o,H',h,rfl⟩:=ux Z sl I hx hy;exact⟨n,H',h⟩}
theorem row_said:YtblalpngahiehaaGreatDoor.Rows.JournalsErrorsSaid:=OpenClaim.holds_of_wide 3 Tryz.f3 rfl rfl rfl rfl rfl rfl rfl ⟨rfl,rfl,rfl,rfl,rfl⟩ rfl rfl rfl rfl rfl (by kernel_rfl) Tryz.func3 (by kernel_rfl) (of_decide_eq_true (by kernel_rfl)) (by unfold Func.isWrapper;first|(rw[if_pos (by decide+kernel)];kernel_rfl)|(rw[if_neg (by decide+kernel)];exact⟨rfl,rfl⟩)) (λos q H enc _=>Kv os q H enc)
end Go.Iso.Gen
namespace Go.Proofs.YtblalpngahiehaaGreatDoor
theorem journalsErrors_holds:Rows.JournalsErrorsCardSaid:=Claim7.holds_tied_plain_at .later [] [.data] true (true,"8b6cccd1984f6d90b588b9bfd4bc6f8c68dfdd0d74d2628512f1e2ac15b022cd") false Go.Iso.Gen.row_said (λ_ h=>by cases h) (by kernel_rfl) (λ_ h=>by cases h) journalsErrors_row_tie rfl ⟨rfl,rfl⟩ (by kernel_rfl) rfl (λf fn E A=>by obtain rfl:f=3:=Option.some.inj ((show Tryz.prog.funcNamed "gansey/ganseylaw40.JournalsErrors"=some 3 by kernel_rfl).symm.trans E)|>.symm;obtain rfl:fn=Tryz.f3:=(Option.some.inj (Tryz.func3.symm.trans A)).symm;exact⟨by kernel_rfl,λj t F=>by have q:(Tryz.f3.params.toList.all λu=>!Tryz.prog.wantsStandIn u)=true:=by{kernel_rfl};have hm:t∈Tryz.f3.params.toList:=by{simpa using Array.mem_of_getElem? F};exact(show Tryz.prog.wantsStandIn t=false by simpa using List.all_eq_true.1 q t hm)⟩) (by kernel_rfl)
end Go.Proofs.YtblalpngahiehaaGreatDoor
end
