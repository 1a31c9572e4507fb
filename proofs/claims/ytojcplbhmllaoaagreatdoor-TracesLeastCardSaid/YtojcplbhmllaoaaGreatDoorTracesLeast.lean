/-
  programs that become each other have one least program.
-/
import Derived.Test.YtojcplbhmllaoaaGreatDoorRow
import Derived.Test.YtojcplbhmllaoaaGreatDoorFnD
import Derived.Test.YtojcplbhmllaoaaGreatDoorCards
import Derived.Test.YtojcplbhmllaoaaGreatDoorTie
import Derived.SevenTiedAt
set_option linter.unusedSimpArgs false
set_option linter.unusedVariables false
set_option maxRecDepth 100000
set_option maxHeartbeats 4000000
section
namespace Go.Iso.Gen
open Go.Iso Go.Proofs
theorem acD{H:Heap}{c:List IV}{d:PD}(h:Rd H (.struct [.int .u8,.int .u8,.int .u8,.int .u8]) c d):∃a:Ac,c=Cell.cs a/\okA a:=by cases h with|struct ts J l E=>cases E with|cons O E=>cases E with|cons Q E=>cases E with|cons T E=>cases E with|cons U E=>cases E;obtain⟨V,rfl,b1⟩:=Jg O;obtain⟨Z,rfl,b2⟩:=Jg Q;obtain⟨x3,rfl,F⟩:=Jg T;obtain⟨x4,rfl,I⟩:=Jg U;exact⟨⟨V,Z,x3,x4⟩,rfl,b1,b2,F,I⟩
theorem acC{H:Heap}{c:List IV}{d:PD}(h:Rd H (.int .u8) c d):∃a:N8,c=Cell.cs a/\a.v<=255:=by obtain⟨x,rfl,b⟩:=Jg h;exact⟨⟨x⟩,rfl,b⟩
theorem rparams:Tryz.prog.funcs[0]?.isSome=true/\Tryz.f3.params.toList.mapM (pV Tryz.prog 8)=some [.slice (.struct [.int .u8,.int .u8,.int .u8,.int .u8]),.slice (.int .u8)]:=⟨by kernel_rfl,by kernel_rfl⟩
theorem aaL:Gu Tryz.prog Tryz.f3=true:=by kernel_rfl
theorem MB(os:Os)(F:os.Started)(T:Type)(enc:TypeId×Value->T):ReturnsInHanded {} Tryz.checked os 3 .any (λw args=>(YtojcplbhmllaoaaGreatDoor.Rows.tracesLeastSpec.pre enc Tryz.prog Tryz.f3 [] false w args/\laidMetH Tryz.prog JW w)/\sizedMet enc Tryz.prog Tryz.f3 (OpenSpec.ofChange YtojcplbhmllaoaaGreatDoor.Rows.tracesLeastSpec) false w args) (YtojcplbhmllaoaaGreatDoor.Rows.tracesLeastSpec.post enc Tryz.prog Tryz.f3 false true false false):=by refine returnsInHanded_of_change_and (C:=Tryz.checked) (X:=λw _=>laidMetH Tryz.prog JW w) (λ_ _ _ hh h=>h.of_heap hh) Ts F (by kernel_rfl) Tryz.func3 (ChangeSpec.witness_shaped (enc:=enc) (C:=Tryz.checked) (os:=os) (X:=λw _=>laidMetH Tryz.prog JW w) false (World.doorLaid Tryz.prog 400 os) #[.slice none 0 0,.slice none 0 0] 8 rfl (World.shaped_of_RefB (by kernel_rfl) (by kernel_rfl)) (by kernel_rfl) (by kernel_rfl) (by kernel_rfl) (U3 os _)) ?_;intro W base args ds gs I O hW _ _ hL _;refine DC (P:=Tryz.prog) (tb:=4) (s:=YtojcplbhmllaoaaGreatDoor.Rows.tracesLeastSpec) (ts:=tabs) xO rfl rparams.2 (by kernel_rfl) (by kernel_rfl) aaL rfl ?_ (λ_=>True) ?_ W base args ds gs I O hW (R8 hL) trivial;{intro T ds hd;match ds,hd with|[a0,a1],_=>rfl};{intro H U ds J hT E _;cases E with|cons V E=>cases E with|cons Z E=>cases E;obtain⟨v,l,rfl,sl,_,Q⟩:=Zp J (λ_ _ h=>acD h) V;obtain⟨w,cs,rfl,sw,_,hb⟩:=Zp J (λ_ _ h=>acC h) Z;obtain⟨n,o,H',h,rfl⟩:=zn hT sl Q sw hb;exact⟨n,H',h⟩}
theorem row_said:YtojcplbhmllaoaaGreatDoor.Rows.TracesLeastSaid:=OpenClaim.holds_of_wide 3 Tryz.f3 rfl rfl rfl rfl rfl rfl rfl ⟨rfl,rfl,rfl,rfl,rfl⟩ rfl rfl rfl rfl rfl (by kernel_rfl) Tryz.func3 (by kernel_rfl) (of_decide_eq_true (by kernel_rfl)) (by unfold Func.isWrapper;first|(rw[if_pos (by decide+kernel)];kernel_rfl)|(rw[if_neg (by decide+kernel)];exact⟨rfl,rfl⟩)) (λos E H enc _=>MB os E H enc)
end Go.Iso.Gen
namespace Go.Proofs.YtojcplbhmllaoaaGreatDoor
theorem tracesLeast_holds:Rows.TracesLeastCardSaid:=Claim7.holds_tied_plain_at .later [] [.data] true (true,"61396388eca25126aface54369fd3bdb21e04046f9a37f76923c4c823bcd6757") false Go.Iso.Gen.row_said (λ_ h=>by cases h) (by kernel_rfl) (λ_ h=>by cases h) tracesLeast_row_tie rfl ⟨rfl,rfl⟩ (by kernel_rfl) rfl (λf fn I F=>by obtain rfl:f=3:=Option.some.inj ((show Tryz.prog.funcNamed "gansey/ganseylaw34.TracesLeast"=some 3 by kernel_rfl).symm.trans I)|>.symm;obtain rfl:fn=Tryz.f3:=(Option.some.inj (Tryz.func3.symm.trans F)).symm;exact⟨by kernel_rfl,λj t J=>by have E:(Tryz.f3.params.toList.all λu=>!Tryz.prog.wantsStandIn u)=true:=by{kernel_rfl};have hm:t∈Tryz.f3.params.toList:=by{simpa using Array.mem_of_getElem? J};exact(show Tryz.prog.wantsStandIn t=false by simpa using List.all_eq_true.1 E t hm)⟩) (by kernel_rfl)
end Go.Proofs.YtojcplbhmllaoaaGreatDoor
end
