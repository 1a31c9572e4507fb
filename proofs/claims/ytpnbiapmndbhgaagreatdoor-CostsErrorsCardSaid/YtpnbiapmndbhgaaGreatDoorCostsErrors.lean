/-
  ganseylaw38.CostsErrors answers true for every list of operations..
-/
import Derived.Test.YtpnbiapmndbhgaaGreatDoorRow
import Derived.Test.YtpnbiapmndbhgaaGreatDoorFnV
import Derived.Test.YtpnbiapmndbhgaaGreatDoorCards
import Derived.Test.YtpnbiapmndbhgaaGreatDoorTie
import Derived.SevenTiedAt
set_option linter.unusedSimpArgs false
set_option linter.unusedVariables false
set_option maxRecDepth 100000
set_option maxHeartbeats 4000000
section
namespace Go.Iso.Gen
open Go.Iso Go.Proofs
theorem al9{H:Heap}{c:List IV}{d:PD}(h:Rd H (.struct [.int .u8,.int .u8,.struct [.int .u8,.int .i64],.int .u8,.int .i64]) c d):∃a:Opn,c=Cell.cs a∧True:=by
 cases h with
 | struct ts css l he=>
   cases he with
   | cons h1 he=>
   cases he with
   | cons h2 he=>
   cases he with
   | cons h3 he=>
   cases he with
   | cons h4 he=>
   cases he with
   | cons h5 he=>
   cases he
   cases h3 with
   | struct ts css l he=>
   cases he with
   | cons h6 he=>
   cases he with
   | cons h7 he=>
   cases he;obtain⟨x1,rfl,_⟩:=GY h1
   obtain⟨x2,rfl,_⟩:=GY h2;obtain⟨x4,rfl,_⟩:=GY h4;obtain⟨x5,rfl,_⟩:=OU h5;obtain⟨x6,rfl,_⟩:=GY h6;obtain⟨x7,rfl,_⟩:=OU h7;exact⟨⟨x1,x2,x6,x7,x4,x5⟩,rfl,trivial⟩
theorem aj1{H:Heap}{τ:Ty}{v:SV}{d:PD}{z:Nat}(h:Rd H (.slice τ) [v.iv] d):∀H',zj z H' v:=by
 intro H'
 cases v with
 | nil=>trivial
 | sl b o n c ex=>
   cases h with
   | slice=>exact .inl rfl
theorem rparams:Tryz.prog.funcs[0]?.isSome=true∧Tryz.f3.params.toList.mapM (nw Tryz.prog 8)=some [.slice (.struct [.int .u8,.int .u8,.struct [.int .u8,.int .i64],.int .u8,.int .i64])]:=⟨by kernel_rfl,by kernel_rfl⟩
theorem ajS:A0 Tryz.prog Tryz.f3=true:=by kernel_rfl
theorem Fc(os:Os)(started:os.Started)(T:Type)(enc:TypeId×Value→T):
  ReturnsInHanded {} Tryz.checked os 3 .any (fun w args=>(YtpnbiapmndbhgaaGreatDoor.Rows.costsErrorsSpec.pre enc Tryz.prog Tryz.f3 [] false w args∧laidMetH Tryz.prog DJ w)∧sizedMet enc Tryz.prog Tryz.f3 (OpenSpec.ofChange YtpnbiapmndbhgaaGreatDoor.Rows.costsErrorsSpec) false w args)
   (YtpnbiapmndbhgaaGreatDoor.Rows.costsErrorsSpec.post enc Tryz.prog Tryz.f3 false true false false):=by
 refine returnsInHanded_of_change_and (C:=Tryz.checked) (X:=fun w _=>laidMetH Tryz.prog DJ w) (fun _ _ _ hh h=>h.of_heap hh) O3 started (by kernel_rfl) Tryz.func3
  (ChangeSpec.witness_shaped (enc:=enc) (C:=Tryz.checked) (os:=os) (X:=fun w _=>laidMetH Tryz.prog DJ w) false (World.doorLaid Tryz.prog 400 os) #[.slice none 0 0] 8 rfl (World.shaped_of_RefB (by kernel_rfl) (by kernel_rfl)) (by kernel_rfl) (by kernel_rfl) (by kernel_rfl) (Qa os _)) ?_
 intro W base args ds gs before hval hW _ _ hL _;refine yT (P:=Tryz.prog) (tb:=4) (s:=YtpnbiapmndbhgaaGreatDoor.Rows.costsErrorsSpec) (ts:=tabs) tu rfl rparams.2 (by kernel_rfl) (by kernel_rfl) ajS rfl ?_ (fun _=>True) ?_ W base args ds gs before hval hW (N2 hL) trivial
 ·intro T ds hd
  match ds,hd with
  | [a0],_=>rfl
 ·intro H css ds hro hT hrd _
  cases hrd with
  | cons h1 hrd=>
  cases hrd;obtain⟨v,l,rfl,sl,_,_⟩:=al8 hro (fun _ _ h=>al9 h) h1
  obtain⟨n,o,H',h,rfl⟩:=uQ hT sl (aj1 h1);exact⟨n,H',h⟩
theorem row_said:YtpnbiapmndbhgaaGreatDoor.Rows.CostsErrorsSaid:=
 OpenClaim.holds_of_wide 3 Tryz.f3 rfl rfl rfl rfl rfl rfl rfl ⟨rfl,rfl,rfl,rfl,rfl⟩ rfl rfl rfl rfl rfl (by kernel_rfl) Tryz.func3 (by kernel_rfl)
  (of_decide_eq_true (by kernel_rfl)) (by unfold Func.isWrapper;first | (rw[if_pos (by decide+kernel)];kernel_rfl) | (rw[if_neg (by decide+kernel)];exact⟨rfl,rfl⟩))
  (fun os started H enc _=>Fc os started H enc)
end Go.Iso.Gen
namespace Go.Proofs.YtpnbiapmndbhgaaGreatDoor
theorem costsErrors_holds:Rows.CostsErrorsCardSaid:=
 Claim7.holds_tied_plain_at .later [] [.data] true (true,"cd064bc900294a45842b76860b7fbf3df6e97136dc65c45fcf71a29d4793d5e0") false
  Go.Iso.Gen.row_said (fun _ h=>by cases h) (by kernel_rfl) (fun _ h=>by cases h) costsErrors_row_tie rfl ⟨rfl,rfl⟩ (by kernel_rfl) rfl
  (fun f fn hf hfn=>by
   obtain rfl:f=3:=Option.some.inj ((show Tryz.prog.funcNamed "gansey/ganseylaw38.CostsErrors"=some 3 by kernel_rfl).symm.trans hf)|>.symm
   obtain rfl:fn=Tryz.f3:=(Option.some.inj (Tryz.func3.symm.trans hfn)).symm
   exact⟨by kernel_rfl,fun j t ht=>by
    have hall:(Tryz.f3.params.toList.all fun u=>!Tryz.prog.wantsStandIn u)=true:=by kernel_rfl
    have hm:t∈Tryz.f3.params.toList:=by simpa using Array.mem_of_getElem? ht
    exact(show Tryz.prog.wantsStandIn t=false by simpa using List.all_eq_true.1 hall t hm)⟩)
  (by kernel_rfl)
end Go.Proofs.YtpnbiapmndbhgaaGreatDoor
end
