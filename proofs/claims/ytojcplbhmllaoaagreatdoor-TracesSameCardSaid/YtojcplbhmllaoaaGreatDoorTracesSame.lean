/-
  programs with one least program are those that become each other.
-/
import Derived.Test.YtojcplbhmllaoaaGreatDoorRow
import Derived.Test.YtojcplbhmllaoaaGreatDoorFnD
import Derived.Test.YtojcplbhmllaoaaGreatDoorCards
import Derived.Test.YtojcplbhmllaoaaGreatDoorTie
import Derived.SevenTiedAt
set_option linter.unusedSimpArgs false
set_option linter.unusedVariables false
set_option maxRecDepth 100000
set_option maxHeartbeats 4000000
section
namespace Go.Iso.Gen
open Go.Iso Go.Proofs
theorem abW{H:Heap}{c:List IV}{d:PD}(h:Rd H (.struct [.int .u8,.int .u8,.int .u8,.int .u8]) c d):∃a:Ac,c=Cell.cs a/\okA a:=by cases h with|struct ts J l E=>cases E with|cons O E=>cases E with|cons Q E=>cases E with|cons T E=>cases E with|cons U E=>cases E;obtain⟨V,rfl,b1⟩:=Ja O;obtain⟨Z,rfl,b2⟩:=Ja Q;obtain⟨x3,rfl,F⟩:=Ja T;obtain⟨x4,rfl,I⟩:=Ja U;exact⟨⟨V,Z,x3,x4⟩,rfl,b1,b2,F,I⟩
theorem rparams:Tryz.prog.funcs[0]?.isSome=true/\Tryz.f4.params.toList.mapM (pX Tryz.prog 8)=some [.slice (.struct [.int .u8,.int .u8,.int .u8,.int .u8]),.int .u8]:=⟨by kernel_rfl,by kernel_rfl⟩
theorem Z2:Gp Tryz.prog Tryz.f4=true:=by kernel_rfl
theorem Mh(os:Os)(F:os.Started)(T:Type)(enc:TypeId×Value->T):ReturnsInHanded {} Tryz.checked os 4 .any (λw args=>(YtojcplbhmllaoaaGreatDoor.Rows.tracesSameSpec.pre enc Tryz.prog Tryz.f4 [] false w args/\laidMetH Tryz.prog JQ w)/\sizedMet enc Tryz.prog Tryz.f4 (OpenSpec.ofChange YtojcplbhmllaoaaGreatDoor.Rows.tracesSameSpec) false w args) (YtojcplbhmllaoaaGreatDoor.Rows.tracesSameSpec.post enc Tryz.prog Tryz.f4 false true false false):=by refine returnsInHanded_of_change_and (C:=Tryz.checked) (X:=λw _=>laidMetH Tryz.prog JQ w) (λ_ _ _ hh h=>h.of_heap hh) SM F (by kernel_rfl) Tryz.func4 (ChangeSpec.witness_shaped (enc:=enc) (C:=Tryz.checked) (os:=os) (X:=λw _=>laidMetH Tryz.prog JQ w) false (World.doorLaid Tryz.prog 400 os) #[.slice none 0 0,.int .u8 0] 8 rfl (World.shaped_of_RefB (by kernel_rfl) (by kernel_rfl)) (by kernel_rfl) (by kernel_rfl) (by kernel_rfl) (Us os _)) ?_;intro W base args ds gs I J hW _ _ hL _;refine DI (P:=Tryz.prog) (tb:=4) (s:=YtojcplbhmllaoaaGreatDoor.Rows.tracesSameSpec) (ts:=tabs) xP rfl rparams.2 (by kernel_rfl) (by kernel_rfl) Z2 rfl ?_ (λ_=>True) ?_ W base args ds gs I J hW (RC hL) trivial;{intro T ds hd;match ds,hd with|[a0,a1],_=>rfl};{intro H U ds Q hT E _;cases E with|cons V E=>cases E with|cons Z E=>cases E;obtain⟨v,l,rfl,sl,_,O⟩:=abV Q (λ_ _ h=>abW h) V;obtain⟨x,rfl,hb⟩:=Ja Z;obtain⟨n,o,H',h,rfl⟩:=A2 hT sl O hb;exact⟨n,H',h⟩}
theorem row_said:YtojcplbhmllaoaaGreatDoor.Rows.TracesSameSaid:=OpenClaim.holds_of_wide 4 Tryz.f4 rfl rfl rfl rfl rfl rfl rfl ⟨rfl,rfl,rfl,rfl,rfl⟩ rfl rfl rfl rfl rfl (by kernel_rfl) Tryz.func4 (by kernel_rfl) (of_decide_eq_true (by kernel_rfl)) (by unfold Func.isWrapper;first|(rw[if_pos (by decide+kernel)];kernel_rfl)|(rw[if_neg (by decide+kernel)];exact⟨rfl,rfl⟩)) (λos E H enc _=>Mh os E H enc)
end Go.Iso.Gen
namespace Go.Proofs.YtojcplbhmllaoaaGreatDoor
theorem tracesSame_holds:Rows.TracesSameCardSaid:=Claim7.holds_tied_plain_at .later [] [.data] true (true,"61396388eca25126aface54369fd3bdb21e04046f9a37f76923c4c823bcd6757") false Go.Iso.Gen.row_said (λ_ h=>by cases h) (by kernel_rfl) (λ_ h=>by cases h) tracesSame_row_tie rfl ⟨rfl,rfl⟩ (by kernel_rfl) rfl (λf fn I F=>by obtain rfl:f=4:=Option.some.inj ((show Tryz.prog.funcNamed "gansey/ganseylaw34.TracesSame"=some 4 by kernel_rfl).symm.trans I)|>.symm;obtain rfl:fn=Tryz.f4:=(Option.some.inj (Tryz.func4.symm.trans F)).symm;exact⟨by kernel_rfl,λj t J=>by have E:(Tryz.f4.params.toList.all λu=>!Tryz.prog.wantsStandIn u)=true:=by{kernel_rfl};have hm:t∈Tryz.f4.params.toList:=by{simpa using Array.mem_of_getElem? J};exact(show Tryz.prog.wantsStandIn t=false by simpa using List.all_eq_true.1 E t hm)⟩) (by kernel_rfl)
end Go.Proofs.YtojcplbhmllaoaaGreatDoor
end
