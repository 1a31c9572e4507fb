/-
  exchanges of free neighbours make the same.
-/
import Derived.Test.YtnpfgnhnehkccaaGreatDoorRow
import Derived.Test.YtnpfgnhnehkccaaGreatDoorFnD
import Derived.Test.YtnpfgnhnehkccaaGreatDoorCards
import Derived.Test.YtnpfgnhnehkccaaGreatDoorTie
import Derived.SevenTiedAt
set_option linter.unusedSimpArgs false
set_option linter.unusedVariables false
set_option maxRecDepth 100000
set_option maxHeartbeats 4000000
section
namespace Go.Iso.Gen
open Go.Iso Go.Proofs
theorem aaY{H:Heap}{c:List IV}{d:PD}(h:Rd H (.struct [.int .u8,.int .u8,.int .u8,.int .u8]) c d):∃a:Ac,c=Cell.cs a/\okA a:=by cases h with|struct ts F l q=>cases q with|cons I q=>cases q with|cons J q=>cases q with|cons O q=>cases q with|cons Q q=>cases q;obtain⟨T,rfl,b1⟩:=HS I;obtain⟨U,rfl,b2⟩:=HS J;obtain⟨V,rfl,A⟩:=HS O;obtain⟨Z,rfl,E⟩:=HS Q;exact⟨⟨T,U,V,Z⟩,rfl,b1,b2,A,E⟩
theorem aaX{H:Heap}{c:List IV}{d:PD}(h:Rd H (.int .u8) c d):∃a:N8,c=Cell.cs a/\a.v<=255:=by obtain⟨x,rfl,b⟩:=HS h;exact⟨⟨x⟩,rfl,b⟩
theorem rparams:Tryz.prog.funcs[0]?.isSome=true/\Tryz.f5.params.toList.mapM (pC Tryz.prog 8)=some [.slice (.struct [.int .u8,.int .u8,.int .u8,.int .u8]),.slice (.int .u8)]:=⟨by kernel_rfl,by kernel_rfl⟩
theorem Y8:E5 Tryz.prog Tryz.f5=true:=by kernel_rfl
theorem KV(os:Os)(A:os.Started)(T:Type)(enc:TypeId×Value->T):ReturnsInHanded {} Tryz.checked os 5 .any (λw args=>(YtnpfgnhnehkccaaGreatDoor.Rows.tracesExchangeSpec.pre enc Tryz.prog Tryz.f5 [] false w args/\laidMetH Tryz.prog IM w)/\sizedMet enc Tryz.prog Tryz.f5 (OpenSpec.ofChange YtnpfgnhnehkccaaGreatDoor.Rows.tracesExchangeSpec) false w args) (YtnpfgnhnehkccaaGreatDoor.Rows.tracesExchangeSpec.post enc Tryz.prog Tryz.f5 false true false false):=by refine returnsInHanded_of_change_and (C:=Tryz.checked) (X:=λw _=>laidMetH Tryz.prog IM w) (λ_ _ _ hh h=>h.of_heap hh) RA A (by kernel_rfl) Tryz.func5 (ChangeSpec.witness_shaped (enc:=enc) (C:=Tryz.checked) (os:=os) (X:=λw _=>laidMetH Tryz.prog IM w) false (World.doorLaid Tryz.prog 400 os) #[.slice none 0 0,.slice none 0 0] 8 rfl (World.shaped_of_RefB (by kernel_rfl) (by kernel_rfl)) (by kernel_rfl) (by kernel_rfl) (by kernel_rfl) (S5 os _)) ?_;intro W base args ds gs E I hW _ _ V _;refine CW (P:=Tryz.prog) (tb:=4) (s:=YtnpfgnhnehkccaaGreatDoor.Rows.tracesExchangeSpec) (ts:=tabs) wU rfl rparams.2 (by kernel_rfl) (by kernel_rfl) Y8 rfl ?_ (λ_=>True) ?_ W base args ds gs E I hW (Qn V) trivial;{intro T ds hd;match ds,hd with|[a0,a1],_=>rfl};{intro H O ds F Z q _;cases q with|cons Q q=>cases q with|cons U q=>cases q;obtain⟨v,l,rfl,sl,_,J⟩:=XV F (λ_ _ h=>aaY h) Q;obtain⟨w,cs,rfl,sw,_,hb⟩:=XV F (λ_ _ h=>aaX h) U;obtain⟨n,o,H',h,rfl⟩:=s9 Z sl J sw hb;exact⟨n,H',h⟩}
theorem row_said:YtnpfgnhnehkccaaGreatDoor.Rows.TracesExchangeSaid:=OpenClaim.holds_of_wide 5 Tryz.f5 rfl rfl rfl rfl rfl rfl rfl ⟨rfl,rfl,rfl,rfl,rfl⟩ rfl rfl rfl rfl rfl (by kernel_rfl) Tryz.func5 (by kernel_rfl) (of_decide_eq_true (by kernel_rfl)) (by unfold Func.isWrapper;first|(rw[if_pos (by decide+kernel)];kernel_rfl)|(rw[if_neg (by decide+kernel)];exact⟨rfl,rfl⟩)) (λos q H enc _=>KV os q H enc)
end Go.Iso.Gen
namespace Go.Proofs.YtnpfgnhnehkccaaGreatDoor
theorem tracesExchange_holds:Rows.TracesExchangeCardSaid:=Claim7.holds_tied_plain_at .later [] [.data] true (true,"fab53128fea0b3b78cdf0eb3847613730ad8534c1a44516cb255971e12ca7a2c") false Go.Iso.Gen.row_said (λ_ h=>by cases h) (by kernel_rfl) (λ_ h=>by cases h) tracesExchange_row_tie rfl ⟨rfl,rfl⟩ (by kernel_rfl) rfl (λf fn E A=>by obtain rfl:f=5:=Option.some.inj ((show Tryz.prog.funcNamed "gansey/ganseylaw34.TracesExchange"=some 5 by kernel_rfl).symm.trans E)|>.symm;obtain rfl:fn=Tryz.f5:=(Option.some.inj (Tryz.func5.symm.trans A)).symm;exact⟨by kernel_rfl,λj t F=>by have q:(Tryz.f5.params.toList.all λu=>!Tryz.prog.wantsStandIn u)=true:=by{kernel_rfl};have hm:t∈Tryz.f5.params.toList:=by{simpa using Array.mem_of_getElem? F};exact(show Tryz.prog.wantsStandIn t=false by simpa using List.all_eq_true.1 q t hm)⟩) (by kernel_rfl)
end Go.Proofs.YtnpfgnhnehkccaaGreatDoor
end
