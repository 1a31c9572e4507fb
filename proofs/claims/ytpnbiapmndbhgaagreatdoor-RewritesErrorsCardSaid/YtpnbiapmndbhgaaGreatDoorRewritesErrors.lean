/-
  RewritesErrors: programs that do not run have the error of machines.Run; rules that are none are errors; for at most 20 acts, any rule and any index.
-/
import Derived.Test.YtpnbiapmndbhgaaGreatDoorRow
import Derived.Test.YtpnbiapmndbhgaaGreatDoorFnX
import Derived.Test.YtpnbiapmndbhgaaGreatDoorCards
import Derived.Test.YtpnbiapmndbhgaaGreatDoorTie
import Derived.SevenTiedAt
set_option linter.unusedSimpArgs false
set_option linter.unusedVariables false
set_option maxRecDepth 100000
set_option maxHeartbeats 4000000
section
namespace Go.Iso.Gen
open Go.Iso Go.Proofs
theorem Sd{H:Heap}{c:List IV}{d:PD}(h:Rd H (.struct [.int .u8,.int .u8,.struct [.int .u8,.int .i64],.int .u8,.int .i64]) c d):∃a:Opn,c=Cell.cs a∧True:=by
 cases h with
 | struct ts css l he=>
   cases he with
   | cons h1 he=>
   cases he with
   | cons h2 he=>
   cases he with
   | cons h3 he=>
   cases he with
   | cons h4 he=>
   cases he with
   | cons h5 he=>
   cases he
   cases h3 with
   | struct ts css l he=>
   cases he with
   | cons h6 he=>
   cases he with
   | cons h7 he=>
   cases he;obtain⟨x1,rfl,_⟩:=Bl h1
   obtain⟨x2,rfl,_⟩:=Bl h2;obtain⟨x4,rfl,_⟩:=Bl h4;obtain⟨x5,rfl,_⟩:=Ds h5;obtain⟨x6,rfl,_⟩:=Bl h6;obtain⟨x7,rfl,_⟩:=Ds h7;exact⟨⟨x1,x2,x6,x7,x4,x5⟩,rfl,trivial⟩
theorem Qt{H:Heap}{τ:Ty}{v:SV}{d:PD}{z:Nat}(h:Rd H (.slice τ) [v.iv] d):∀H',E3 z H' v:=by
 intro H'
 cases v with
 | nil=>exact fun _ _ _ _ _ h=>by cases h
 | sl b o n c ex=>
   cases h with
   | slice=>exact Di
theorem rparams:Tryz.prog.funcs[0]?.isSome=true∧Tryz.f5.params.toList.mapM (mF Tryz.prog 8)=some [.slice (.struct [.int .u8,.int .u8,.struct [.int .u8,.int .i64],.int .u8,.int .i64]),.int .u8,.int .i64]:=⟨by kernel_rfl,by kernel_rfl⟩
theorem Qj:zk Tryz.prog Tryz.f5=true:=by kernel_rfl
theorem Dm(os:Os)(started:os.Started)(T:Type)(enc:TypeId×Value→T):
  ReturnsInHanded {} Tryz.checked os 5 .any (fun w args=>(YtpnbiapmndbhgaaGreatDoor.Rows.rewritesErrorsSpec.pre enc Tryz.prog Tryz.f5 [] false w args∧laidMetH Tryz.prog BM w)∧sizedMet enc Tryz.prog Tryz.f5 (OpenSpec.ofChange YtpnbiapmndbhgaaGreatDoor.Rows.rewritesErrorsSpec) false w args)
   (YtpnbiapmndbhgaaGreatDoor.Rows.rewritesErrorsSpec.post enc Tryz.prog Tryz.f5 false true false false):=by
 refine returnsInHanded_of_change_and (C:=Tryz.checked) (X:=fun w _=>laidMetH Tryz.prog BM w) (fun _ _ _ hh h=>h.of_heap hh) JD started (by kernel_rfl) Tryz.func5
  (ChangeSpec.witness_shaped (enc:=enc) (C:=Tryz.checked) (os:=os) (X:=fun w _=>laidMetH Tryz.prog BM w) false (World.doorLaid Tryz.prog 400 os) #[.slice none 0 0,.int .u8 0,.int .i64 0] 8 rfl (World.shaped_of_RefB (by kernel_rfl) (by kernel_rfl)) (by kernel_rfl) (by kernel_rfl) (by kernel_rfl) (KK os _)) ?_
 intro W base args ds gs before hval hW _ _ hL _;refine xd (P:=Tryz.prog) (tb:=4) (s:=YtpnbiapmndbhgaaGreatDoor.Rows.rewritesErrorsSpec) (ts:=tabs) sb rfl rparams.2 (by kernel_rfl) (by kernel_rfl) Qj rfl ?_ (fun _=>True) ?_ W base args ds gs before hval hW (Iz hL) trivial
 ·intro T ds hd
  match ds,hd with
  | [a0,a1,a2],_=>rfl
 ·intro H css ds hro hT hrd _
  cases hrd with
  | cons h1 hrd=>
  cases hrd with
  | cons h2 hrd=>
  cases hrd with
  | cons h3 hrd=>
  cases hrd;obtain⟨v,l,rfl,sl,_,_⟩:=Sc hro (fun _ _ h=>Sd h) h1
  obtain⟨r,rfl,_⟩:=Bl h2;obtain⟨i,rfl,_,_⟩:=Ds h3;obtain⟨n,o,H',h,rfl⟩:=pz (r:Int) i hT sl (Qt h1);exact⟨n,H',h⟩
theorem row_said:YtpnbiapmndbhgaaGreatDoor.Rows.RewritesErrorsSaid:=
 OpenClaim.holds_of_wide 5 Tryz.f5 rfl rfl rfl rfl rfl rfl rfl ⟨rfl,rfl,rfl,rfl,rfl⟩ rfl rfl rfl rfl rfl (by kernel_rfl) Tryz.func5 (by kernel_rfl)
  (of_decide_eq_true (by kernel_rfl)) (by unfold Func.isWrapper;first | (rw[if_pos (by decide+kernel)];kernel_rfl) | (rw[if_neg (by decide+kernel)];exact⟨rfl,rfl⟩))
  (fun os started H enc _=>Dm os started H enc)
end Go.Iso.Gen
namespace Go.Proofs.YtpnbiapmndbhgaaGreatDoor
theorem rewritesErrors_holds:Rows.RewritesErrorsCardSaid:=
 Claim7.holds_tied_plain_at .later [] [.data] true (true,"cd064bc900294a45842b76860b7fbf3df6e97136dc65c45fcf71a29d4793d5e0") false
  Go.Iso.Gen.row_said (fun _ h=>by cases h) (by kernel_rfl) (fun _ h=>by cases h) rewritesErrors_row_tie rfl ⟨rfl,rfl⟩ (by kernel_rfl) rfl
  (fun f fn hf hfn=>by
   obtain rfl:f=5:=Option.some.inj ((show Tryz.prog.funcNamed "gansey/ganseylaw35.RewritesErrors"=some 5 by kernel_rfl).symm.trans hf)|>.symm
   obtain rfl:fn=Tryz.f5:=(Option.some.inj (Tryz.func5.symm.trans hfn)).symm
   exact⟨by kernel_rfl,fun j t ht=>by
    have hall:(Tryz.f5.params.toList.all fun u=>!Tryz.prog.wantsStandIn u)=true:=by kernel_rfl
    have hm:t∈Tryz.f5.params.toList:=by simpa using Array.mem_of_getElem? ht
    exact(show Tryz.prog.wantsStandIn t=false by simpa using List.all_eq_true.1 hall t hm)⟩)
  (by kernel_rfl)
end Go.Proofs.YtpnbiapmndbhgaaGreatDoor
end
