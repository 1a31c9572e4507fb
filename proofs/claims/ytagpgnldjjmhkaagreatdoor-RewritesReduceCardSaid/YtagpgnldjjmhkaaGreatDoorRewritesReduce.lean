/-
  Reduce applies the rules where the definition says so, one after another, till none applies, and what it leaves makes the same fabric. Conditions: none..
-/
import Derived.Test.YtagpgnldjjmhkaaGreatDoorRow
import Derived.Test.YtagpgnldjjmhkaaGreatDoorFnD
import Derived.Test.YtagpgnldjjmhkaaGreatDoorCards
import Derived.Test.YtagpgnldjjmhkaaGreatDoorTie
import Derived.SevenTiedAt
set_option linter.unusedSimpArgs false
set_option linter.unusedVariables false
set_option maxRecDepth 100000
set_option maxHeartbeats 4000000
section
namespace Go.Iso.Gen
open Go.Iso Go.Proofs
theorem ago{H:Heap}{c:List IV}{d:PD}(h:Rd H (.struct [.int .u8,.int .u8,.int .u8,.int .u8]) c d):∃a:Ac,c=Cell.cs a/\okA a:=by cases h with|struct ts F l q=>cases q with|cons I q=>cases q with|cons O q=>cases q with|cons Q q=>cases q with|cons T q=>cases q;obtain⟨U,rfl,b1⟩:=Mw I;obtain⟨V,rfl,b2⟩:=Mw O;obtain⟨Z,rfl,A⟩:=Mw Q;obtain⟨x4,rfl,E⟩:=Mw T;exact⟨⟨U,V,Z,x4⟩,rfl,b1,b2,A,E⟩
theorem ab6{H:Heap}{c:List IV}{d:PD}(h:Rd H (.int .u8) c d):∃a:N8,c=Cell.cs a/\a.v<=255:=by obtain⟨x,rfl,b⟩:=Mw h;exact⟨⟨x⟩,rfl,b⟩
theorem aiX{H:Heap}(E:Ro H){c:List IV}{d:PD}(h:Rd H (.struct [.slice (.struct [.int .u8,.int .u8,.int .u8,.int .u8]),.slice (.int .u8),.slice (.int .u8)]) c d):∃(p w q:SV) (la:List Ac) (ws F:List N8),c=[p.iv,w.iv,q.iv]/\(Sl H p la/\∀a∈la,okA a)/\(Sl H w ws/\∀x∈ws,x.v<=255)/\(Sl H q F/\∀x∈F,x.v<=255):=by cases h with|struct ts O l A=>cases A with|cons Q A=>cases A with|cons T A=>cases A with|cons U A=>cases A;obtain⟨p,la,rfl,s1,_,b1⟩:=WW E (λ_ _ h=>ago h) Q;obtain⟨w,ws,rfl,s2,_,b2⟩:=WW E (λ_ _ h=>ab6 h) T;obtain⟨q,F,rfl,V,_,I⟩:=WW E (λ_ _ h=>ab6 h) U;exact⟨p,w,q,la,ws,F,rfl,⟨s1,b1⟩,⟨s2,b2⟩,V,I⟩
theorem rparams:Tryz.prog.funcs[0]?.isSome=true/\Tryz.f3.params.toList.mapM (uo Tryz.prog 8)=some [.struct [.slice (.struct [.int .u8,.int .u8,.int .u8,.int .u8]),.slice (.int .u8),.slice (.int .u8)]]:=⟨by kernel_rfl,by kernel_rfl⟩
theorem adj:J3 Tryz.prog Tryz.f3=true:=by kernel_rfl
theorem PO(os:Os)(A:os.Started)(T:Type)(enc:TypeId×Value->T):ReturnsInHanded {} Tryz.checked os 3 .any (λw args=>(YtagpgnldjjmhkaaGreatDoor.Rows.rewritesReduceSpec.pre enc Tryz.prog Tryz.f3 [] false w args/\laidMetH Tryz.prog Nr w)/\sizedMet enc Tryz.prog Tryz.f3 (OpenSpec.ofChange YtagpgnldjjmhkaaGreatDoor.Rows.rewritesReduceSpec) false w args) (YtagpgnldjjmhkaaGreatDoor.Rows.rewritesReduceSpec.post enc Tryz.prog Tryz.f3 false true false false):=by refine returnsInHanded_of_change_and (C:=Tryz.checked) (X:=λw _=>laidMetH Tryz.prog Nr w) (λ_ _ _ hh h=>h.of_heap hh) W6 A (by kernel_rfl) Tryz.func3 (ChangeSpec.witness_shaped (enc:=enc) (C:=Tryz.checked) (os:=os) (X:=λw _=>laidMetH Tryz.prog Nr w) false (World.doorLaid Tryz.prog 400 os) #[.agg #[.slice none 0 0,.slice none 0 0,.slice none 0 0]] 8 rfl (World.shaped_of_RefB (by kernel_rfl) (by kernel_rfl)) (by kernel_rfl) (by kernel_rfl) (by kernel_rfl) (Ym os _)) ?_;intro W base args ds gs E I hW _ _ Z _;refine Ha (P:=Tryz.prog) (tb:=4) (s:=YtagpgnldjjmhkaaGreatDoor.Rows.rewritesReduceSpec) (ts:=tabs) Bm rfl rparams.2 (by kernel_rfl) (by kernel_rfl) adj rfl ?_ (λ_=>True) ?_ W base args ds gs E I hW (VX Z) trivial;{intro T ds hd;match ds,hd with|[a0],_=>rfl};{intro H U ds O hT F _;cases F with|cons V F=>cases F;obtain⟨p,w,q,la,ws,qs,rfl,⟨s1,b1⟩,⟨s2,b2⟩,s3,Q⟩:=aiX O V;obtain⟨n,o,H',h,rfl⟩:=xm hT s1 b1 s2 b2 s3 Q;exact⟨n,H',h⟩}
theorem row_said:YtagpgnldjjmhkaaGreatDoor.Rows.RewritesReduceSaid:=OpenClaim.holds_of_wide 3 Tryz.f3 rfl rfl rfl rfl rfl rfl rfl ⟨rfl,rfl,rfl,rfl,rfl⟩ rfl rfl rfl rfl rfl (by kernel_rfl) Tryz.func3 (by kernel_rfl) (of_decide_eq_true (by kernel_rfl)) (by unfold Func.isWrapper;first|(rw[if_pos (by decide+kernel)];kernel_rfl)|(rw[if_neg (by decide+kernel)];exact⟨rfl,rfl⟩)) (λos q H enc _=>PO os q H enc)
end Go.Iso.Gen
namespace Go.Proofs.YtagpgnldjjmhkaaGreatDoor
theorem rewritesReduce_holds:Rows.RewritesReduceCardSaid:=Claim7.holds_tied_plain_at .later [] [.data] true (true,"788a28d413cd9b14d536475a31b946adcea6bcff8b7df148ddf48ead8c52a6a9") false Go.Iso.Gen.row_said (λ_ h=>by cases h) (by kernel_rfl) (λ_ h=>by cases h) rewritesReduce_row_tie rfl ⟨rfl,rfl⟩ (by kernel_rfl) rfl (λf fn E A=>by obtain rfl:f=3:=Option.some.inj ((show Tryz.prog.funcNamed "gansey/ganseylaw35.RewritesReduce"=some 3 by kernel_rfl).symm.trans E)|>.symm;obtain rfl:fn=Tryz.f3:=(Option.some.inj (Tryz.func3.symm.trans A)).symm;exact⟨by kernel_rfl,λj t F=>by have q:(Tryz.f3.params.toList.all λu=>!Tryz.prog.wantsStandIn u)=true:=by{kernel_rfl};have hm:t∈Tryz.f3.params.toList:=by{simpa using Array.mem_of_getElem? F};exact(show Tryz.prog.wantsStandIn t=false by simpa using List.all_eq_true.1 q t hm)⟩) (by kernel_rfl)
end Go.Proofs.YtagpgnldjjmhkaaGreatDoor
end
