/-
  what Crash returns at each operation and stage, and at such as are none.
-/
import Derived.Test.YtblalpngahiehaaGreatDoorRow
import Derived.Test.YtblalpngahiehaaGreatDoorFnD
import Derived.Test.YtblalpngahiehaaGreatDoorCards
import Derived.Test.YtblalpngahiehaaGreatDoorTie
import Derived.SevenTiedAt
set_option linter.unusedSimpArgs false
set_option linter.unusedVariables false
set_option maxRecDepth 100000
set_option maxHeartbeats 4000000
section
namespace Go.Iso.Gen
open Go.Iso Go.Proofs
theorem Zp{H:Heap}{c:List IV}{d:PD}(h:Rd H (.struct [.int .u8,.int .u8,.int .u8,.int .u8]) c d):∃a:Ac,c=Cell.cs a/\okA a:=by cases h with|struct ts E l q=>cases q with|cons F q=>cases q with|cons I q=>cases q with|cons J q=>cases q with|cons K q=>cases q;obtain⟨O,rfl,b1⟩:=Lr F;obtain⟨T,rfl,b2⟩:=Lr I;obtain⟨U,rfl,u⟩:=Lr J;obtain⟨V,rfl,A⟩:=Lr K;exact⟨⟨O,T,U,V⟩,rfl,b1,b2,u,A⟩
theorem rparams:Tryz.prog.funcs[0]?.isSome=true/\Tryz.f5.params.toList.mapM (pP Tryz.prog 8)=some [.slice (.struct [.int .u8,.int .u8,.int .u8,.int .u8]),.int .i64,.int .i64]:=⟨by kernel_rfl,by kernel_rfl⟩
theorem Xv:ED Tryz.prog Tryz.f5=true:=by kernel_rfl
theorem JO(os:Os)(u:os.Started)(T:Type)(enc:TypeId×Value->T):ReturnsInHanded {} Tryz.checked os 5 .any (λw args=>(YtblalpngahiehaaGreatDoor.Rows.journalsCrashSpec.pre enc Tryz.prog Tryz.f5 [] false w args/\laidMetH Tryz.prog Hw w)/\sizedMet enc Tryz.prog Tryz.f5 (OpenSpec.ofChange YtblalpngahiehaaGreatDoor.Rows.journalsCrashSpec) false w args) (YtblalpngahiehaaGreatDoor.Rows.journalsCrashSpec.post enc Tryz.prog Tryz.f5 false true false false):=by refine returnsInHanded_of_change_and (C:=Tryz.checked) (X:=λw _=>laidMetH Tryz.prog Hw w) (λ_ _ _ hh h=>h.of_heap hh) Qn u (by kernel_rfl) Tryz.func5 (ChangeSpec.witness_shaped (enc:=enc) (C:=Tryz.checked) (os:=os) (X:=λw _=>laidMetH Tryz.prog Hw w) false (World.doorLaid Tryz.prog 400 os) #[.slice none 0 0,.int .i64 0,.int .i64 0] 8 rfl (World.shaped_of_RefB (by kernel_rfl) (by kernel_rfl)) (by kernel_rfl) (by kernel_rfl) (by kernel_rfl) (RQ os _)) ?_;intro W base args ds gs A E Z _ _ V _;refine Cc (P:=Tryz.prog) (tb:=4) (s:=YtblalpngahiehaaGreatDoor.Rows.journalsCrashSpec) (ts:=tabs) wu rfl rparams.2 (by kernel_rfl) (by kernel_rfl) Xv rfl ?_ (λ_=>True) ?_ W base args ds gs A E Z (Ph V) trivial;{intro T ds hd;match ds,hd with|[a0,a1,a2],_=>rfl};{intro H J ds I Y q _;cases q with|cons K q=>cases q with|cons O q=>cases q with|cons U q=>cases q;obtain⟨v,l,rfl,sl,_,F⟩:=Zo I (λ_ _ h=>Zp h) K;obtain⟨x,rfl,_,_⟩:=Qd O;obtain⟨y,rfl,_,_⟩:=Qd U;obtain⟨n,o,H',h,rfl⟩:=uQ Y sl F;exact⟨n,H',h⟩}
theorem row_said:YtblalpngahiehaaGreatDoor.Rows.JournalsCrashSaid:=OpenClaim.holds_of_wide 5 Tryz.f5 rfl rfl rfl rfl rfl rfl rfl ⟨rfl,rfl,rfl,rfl,rfl⟩ rfl rfl rfl rfl rfl (by kernel_rfl) Tryz.func5 (by kernel_rfl) (of_decide_eq_true (by kernel_rfl)) (by unfold Func.isWrapper;first|(rw[if_pos (by decide+kernel)];kernel_rfl)|(rw[if_neg (by decide+kernel)];exact⟨rfl,rfl⟩)) (λos q H enc _=>JO os q H enc)
end Go.Iso.Gen
namespace Go.Proofs.YtblalpngahiehaaGreatDoor
theorem journalsCrash_holds:Rows.JournalsCrashCardSaid:=Claim7.holds_tied_plain_at .later [] [.data] true (true,"8b6cccd1984f6d90b588b9bfd4bc6f8c68dfdd0d74d2628512f1e2ac15b022cd") false Go.Iso.Gen.row_said (λ_ h=>by cases h) (by kernel_rfl) (λ_ h=>by cases h) journalsCrash_row_tie rfl ⟨rfl,rfl⟩ (by kernel_rfl) rfl (λf fn E A=>by obtain rfl:f=5:=Option.some.inj ((show Tryz.prog.funcNamed "gansey/ganseylaw40.JournalsCrash"=some 5 by kernel_rfl).symm.trans E)|>.symm;obtain rfl:fn=Tryz.f5:=(Option.some.inj (Tryz.func5.symm.trans A)).symm;exact⟨by kernel_rfl,λj t F=>by have q:(Tryz.f5.params.toList.all λu=>!Tryz.prog.wantsStandIn u)=true:=by{kernel_rfl};have hm:t∈Tryz.f5.params.toList:=by{simpa using Array.mem_of_getElem? F};exact(show Tryz.prog.wantsStandIn t=false by simpa using List.all_eq_true.1 q t hm)⟩) (by kernel_rfl)
end Go.Proofs.YtblalpngahiehaaGreatDoor
end
