/-
  Better compares the numbers of passes, then the times, then the numbers of operations of two programs, and Gains tells the differences; the cards, with the laid table orders.steps tied, any two W of ganseylaw35..
-/
import Derived.Test.YtagpgnldjjmhkacGreatDoorRow
import Derived.Test.YtagpgnldjjmhkacGreatDoorFnD
import Derived.Test.YtagpgnldjjmhkacGreatDoorFnE
import Derived.Test.YtagpgnldjjmhkacGreatDoorFnF
import Derived.Test.YtagpgnldjjmhkacGreatDoorCards
import Derived.Test.YtagpgnldjjmhkacGreatDoorTie
import Derived.SevenTiedAt
set_option linter.unusedSimpArgs false
set_option linter.unusedVariables false
set_option maxRecDepth 100000
set_option maxHeartbeats 4000000
section
namespace Go.Iso.Gen
open Go.Iso Go.Proofs
theorem ab1{H:Heap}{c:List IV}{d:PD}(h:Rd H (.struct [.int .u8,.int .u8,.int .u8,.int .u8]) c d):∃a:Ac,c=Cell.cs a/\Y7 a:=by cases h with|struct ts F l q=>cases q with|cons I q=>cases q with|cons O q=>cases q with|cons T q=>cases q with|cons U q=>cases q;obtain⟨V,rfl,b1⟩:=Gx I;obtain⟨Y,rfl,b2⟩:=Gx O;obtain⟨Z,rfl,A⟩:=Gx T;obtain⟨x4,rfl,E⟩:=Gx U;exact⟨⟨V,Y,Z,x4⟩,rfl,b1,b2,A,E⟩
theorem XB{H:Heap}{c:List IV}{d:PD}(h:Rd H (.int .u8) c d):∃a:N8,c=Cell.cs a/\a.v<=255:=by obtain⟨x,rfl,b⟩:=Gx h;exact⟨⟨x⟩,rfl,b⟩
theorem ab0{H:Heap}(E:Ro H){c:List IV}{d:PD}(h:Rd H (.struct [.slice (.struct [.int .u8,.int .u8,.int .u8,.int .u8]),.slice (.int .u8),.slice (.int .u8)]) c d):∃(p w q:SV) (la:List Ac) (ws F:List N8),c=[p.iv,w.iv,q.iv]/\(Sl H p la/\∀a∈la,Y7 a)/\(Sl H w ws/\∀x∈ws,x.v<=255)/\(Sl H q F/\∀x∈F,x.v<=255):=by cases h with|struct ts O l A=>cases A with|cons T A=>cases A with|cons U A=>cases A with|cons V A=>cases A;obtain⟨p,la,rfl,s1,_,b1⟩:=R3 E (λ_ _ h=>ab1 h) T;obtain⟨w,ws,rfl,s2,_,b2⟩:=R3 E (λ_ _ h=>XB h) U;obtain⟨q,F,rfl,Y,_,I⟩:=R3 E (λ_ _ h=>XB h) V;exact⟨p,w,q,la,ws,F,rfl,⟨s1,b1⟩,⟨s2,b2⟩,Y,I⟩
theorem rparams:Tryz.prog.funcs[0]?.isSome=true/\Tryz.f3.params.toList.mapM (nC Tryz.prog 8)=some [.struct [.slice (.struct [.int .u8,.int .u8,.int .u8,.int .u8]),.slice (.int .u8),.slice (.int .u8)],.struct [.slice (.struct [.int .u8,.int .u8,.int .u8,.int .u8]),.slice (.int .u8),.slice (.int .u8)]]:=⟨by kernel_rfl,by kernel_rfl⟩
theorem YP:DD Tryz.prog Tryz.f3=true:=by kernel_rfl
theorem JN(os:Os)(E:os.Started)(T:Type)(enc:TypeId×Value->T):ReturnsInHanded {} Tryz.checked os 3 .any (λw args=>(YtagpgnldjjmhkacGreatDoor.Rows.optimisersBetterSpec.pre enc Tryz.prog Tryz.f3 [] false w args/\laidMetH Tryz.prog G6 w)/\sizedMet enc Tryz.prog Tryz.f3 (OpenSpec.ofChange YtagpgnldjjmhkacGreatDoor.Rows.optimisersBetterSpec) false w args) (YtagpgnldjjmhkacGreatDoor.Rows.optimisersBetterSpec.post enc Tryz.prog Tryz.f3 false true false false):=by refine returnsInHanded_of_change_and (C:=Tryz.checked) (X:=λw _=>laidMetH Tryz.prog G6 w) (λ_ _ _ hh h=>h.of_heap hh) Sc E (by kernel_rfl) Tryz.func3 (ChangeSpec.witness_shaped (enc:=enc) (C:=Tryz.checked) (os:=os) (X:=λw _=>laidMetH Tryz.prog G6 w) false (World.doorLaid Tryz.prog 400 os) #[.agg #[.slice none 0 0,.slice none 0 0,.slice none 0 0],.agg #[.slice none 0 0,.slice none 0 0,.slice none 0 0]] 8 rfl (World.shaped_of_RefB (by kernel_rfl) (by kernel_rfl)) (by kernel_rfl) (by kernel_rfl) (by kernel_rfl) (TP os _)) ?_;intro W base args ds gs F O hW _ _ hL _;refine Bl (P:=Tryz.prog) (tb:=4) (s:=YtagpgnldjjmhkacGreatDoor.Rows.optimisersBetterSpec) (ts:=tabs) vA rfl rparams.2 (by kernel_rfl) (by kernel_rfl) YP rfl ?_ (λ_=>True) ?_ W base args ds gs F O hW (Q9 hL) trivial;{intro T ds hd;match ds,hd with|[a0,a1],_=>rfl};{intro H ad ds I hT A _;cases A with|cons h1 A=>cases A with|cons h2 A=>cases A;obtain⟨p,w,q,la,ws,qs,rfl,⟨s1,b1⟩,⟨s2,b2⟩,s3,U⟩:=ab0 I h1;obtain⟨p',w',q',ag,ws',aE,rfl,⟨s4,V⟩,⟨s5,Y⟩,s6,Z⟩:=ab0 I h2;obtain⟨n,o,H',h,rfl⟩:=oN hT s1 b1 s2 b2 s3 U s4 V s5 Y s6 Z;exact⟨n,H',h⟩}
theorem row_said:YtagpgnldjjmhkacGreatDoor.Rows.OptimisersBetterSaid:=OpenClaim.holds_of_wide 3 Tryz.f3 rfl rfl rfl rfl rfl rfl rfl ⟨rfl,rfl,rfl,rfl,rfl⟩ rfl rfl rfl rfl rfl (by kernel_rfl) Tryz.func3 (by kernel_rfl) (of_decide_eq_true (by kernel_rfl)) (by unfold Func.isWrapper;first|(rw[if_pos (by decide+kernel)];kernel_rfl)|(rw[if_neg (by decide+kernel)];exact⟨rfl,rfl⟩)) (λos q H enc _=>JN os q H enc)
end Go.Iso.Gen
namespace Go.Proofs.YtagpgnldjjmhkacGreatDoor
theorem optimisersBetter_holds:Rows.OptimisersBetterCardSaid:=Claim7.holds_tied_plain_at .later [] [.data] true (true,"430834275faf2baa9e195ad09cba6bc0b69bdbc5f9e57fd87ca542b2aef8774e") false Go.Iso.Gen.row_said (λ_ h=>by cases h) (by kernel_rfl) (λ_ h=>by cases h) optimisersBetter_row_tie rfl ⟨rfl,rfl⟩ (by kernel_rfl) rfl (λf fn E A=>by obtain rfl:f=3:=Option.some.inj ((show Tryz.prog.funcNamed "gansey/ganseylaw36.OptimisersBetter"=some 3 by kernel_rfl).symm.trans E)|>.symm;obtain rfl:fn=Tryz.f3:=(Option.some.inj (Tryz.func3.symm.trans A)).symm;exact⟨by kernel_rfl,λj t F=>by have q:(Tryz.f3.params.toList.all λu=>!Tryz.prog.wantsStandIn u)=true:=by{kernel_rfl};have hm:t∈Tryz.f3.params.toList:=by{simpa using Array.mem_of_getElem? F};exact(show Tryz.prog.wantsStandIn t=false by simpa using List.all_eq_true.1 q t hm)⟩) (by kernel_rfl)
end Go.Proofs.YtagpgnldjjmhkacGreatDoor
end
