/-
  Behind Reduce a program with racks in it that change nothing has no more operations than Reduce leaves of it without them; the cards, with the laid table orders.steps tied, every P of ganseylaw34; at most 10 places..
-/
import Derived.Test.YtagpgnldjjmhkabGreatDoorRow
import Derived.Test.YtagpgnldjjmhkabGreatDoorFnD
import Derived.Test.YtagpgnldjjmhkabGreatDoorCards
import Derived.Test.YtagpgnldjjmhkabGreatDoorTie
import Derived.SevenTiedAt
set_option linter.unusedSimpArgs false
set_option linter.unusedVariables false
set_option maxRecDepth 100000
set_option maxHeartbeats 4000000
section
namespace Go.Iso.Gen
open Go.Iso Go.Proofs
theorem abS{H:Heap}{c:List IV}{d:PD}(h:Rd H (.struct [.int .u8,.int .u8,.int .u8,.int .u8]) c d):∃a:Ac,c=Cell.cs a/\okA a:=by cases h with|struct ts I l q=>cases q with|cons O q=>cases q with|cons Q q=>cases q with|cons T q=>cases q with|cons U q=>cases q;obtain⟨V,rfl,b1⟩:=Hf O;obtain⟨x2,rfl,b2⟩:=Hf Q;obtain⟨x3,rfl,E⟩:=Hf T;obtain⟨x4,rfl,F⟩:=Hf U;exact⟨⟨V,x2,x3,x4⟩,rfl,b1,b2,E,F⟩
theorem abR{H:Heap}{c:List IV}{d:PD}(h:Rd H (.int .u8) c d):∃a:N8,c=Cell.cs a/\a.v<=255:=by obtain⟨x,rfl,b⟩:=Hf h;exact⟨⟨x⟩,rfl,b⟩
theorem rparams:Tryz.prog.funcs[0]?.isSome=true/\Tryz.f3.params.toList.mapM (pt Tryz.prog 8)=some [.slice (.struct [.int .u8,.int .u8,.int .u8,.int .u8]),.slice (.int .u8)]:=⟨by kernel_rfl,by kernel_rfl⟩
theorem YP:Eg Tryz.prog Tryz.f3=true:=by kernel_rfl
theorem Kn(os:Os)(E:os.Started)(T:Type)(enc:TypeId×Value->T):ReturnsInHanded {} Tryz.checked os 3 .any (λw args=>(YtagpgnldjjmhkabGreatDoor.Rows.rewritesUselessSpec.pre enc Tryz.prog Tryz.f3 [] false w args/\laidMetH Tryz.prog Ic w)/\sizedMet enc Tryz.prog Tryz.f3 (OpenSpec.ofChange YtagpgnldjjmhkabGreatDoor.Rows.rewritesUselessSpec) false w args) (YtagpgnldjjmhkabGreatDoor.Rows.rewritesUselessSpec.post enc Tryz.prog Tryz.f3 false true false false):=by refine returnsInHanded_of_change_and (C:=Tryz.checked) (X:=λw _=>laidMetH Tryz.prog Ic w) (λ_ _ _ hh h=>h.of_heap hh) R9 E (by kernel_rfl) Tryz.func3 (ChangeSpec.witness_shaped (enc:=enc) (C:=Tryz.checked) (os:=os) (X:=λw _=>laidMetH Tryz.prog Ic w) false (World.doorLaid Tryz.prog 400 os) #[.slice none 0 0,.slice none 0 0] 8 rfl (World.shaped_of_RefB (by kernel_rfl) (by kernel_rfl)) (by kernel_rfl) (by kernel_rfl) (by kernel_rfl) (TF os _)) ?_;intro W base args ds gs F O hW _ _ hL _;refine BY (P:=Tryz.prog) (tb:=4) (s:=YtagpgnldjjmhkabGreatDoor.Rows.rewritesUselessSpec) (ts:=tabs) wp rfl rparams.2 (by kernel_rfl) (by kernel_rfl) YP rfl ?_ (λ_=>True) ?_ W base args ds gs F O hW (QZ hL) trivial;{intro T ds hd;match ds,hd with|[a0,a1],_=>rfl};{intro H U ds I hT q _;cases q with|cons V q=>cases q with|cons h2 q=>cases q;obtain⟨v,l,rfl,sl,_,Q⟩:=Xz I (λ_ _ h=>abS h) V;obtain⟨w,ws,rfl,sw,_,hb⟩:=Xz I (λ_ _ h=>abR h) h2;obtain⟨n,o,H',h,rfl⟩:=rI hT sl Q sw hb;exact⟨n,H',h⟩}
theorem row_said:YtagpgnldjjmhkabGreatDoor.Rows.RewritesUselessSaid:=OpenClaim.holds_of_wide 3 Tryz.f3 rfl rfl rfl rfl rfl rfl rfl ⟨rfl,rfl,rfl,rfl,rfl⟩ rfl rfl rfl rfl rfl (by kernel_rfl) Tryz.func3 (by kernel_rfl) (of_decide_eq_true (by kernel_rfl)) (by unfold Func.isWrapper;first|(rw[if_pos (by decide+kernel)];kernel_rfl)|(rw[if_neg (by decide+kernel)];exact⟨rfl,rfl⟩)) (λos q H enc _=>Kn os q H enc)
end Go.Iso.Gen
namespace Go.Proofs.YtagpgnldjjmhkabGreatDoor
theorem rewritesUseless_holds:Rows.RewritesUselessCardSaid:=Claim7.holds_tied_plain_at .later [] [.data] true (true,"addea4d498ca031b47f16af35526b4699ae5bb59f6e07f968d5706ef498efc07") false Go.Iso.Gen.row_said (λ_ h=>by cases h) (by kernel_rfl) (λ_ h=>by cases h) rewritesUseless_row_tie rfl ⟨rfl,rfl⟩ (by kernel_rfl) rfl (λf fn F E=>by obtain rfl:f=3:=Option.some.inj ((show Tryz.prog.funcNamed "gansey/ganseylaw35.RewritesUseless"=some 3 by kernel_rfl).symm.trans F)|>.symm;obtain rfl:fn=Tryz.f3:=(Option.some.inj (Tryz.func3.symm.trans E)).symm;exact⟨by kernel_rfl,λj t I=>by have q:(Tryz.f3.params.toList.all λu=>!Tryz.prog.wantsStandIn u)=true:=by{kernel_rfl};have hm:t∈Tryz.f3.params.toList:=by{simpa using Array.mem_of_getElem? I};exact(show Tryz.prog.wantsStandIn t=false by simpa using List.all_eq_true.1 q t hm)⟩) (by kernel_rfl)
end Go.Proofs.YtagpgnldjjmhkabGreatDoor
end
