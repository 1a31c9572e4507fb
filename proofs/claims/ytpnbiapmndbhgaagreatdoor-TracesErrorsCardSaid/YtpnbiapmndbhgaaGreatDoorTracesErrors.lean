/-
  ganseylaw34.TracesErrors answers true for every list of acts..
-/
import Derived.Test.YtpnbiapmndbhgaaGreatDoorRow
import Derived.Test.YtpnbiapmndbhgaaGreatDoorFnW
import Derived.Test.YtpnbiapmndbhgaaGreatDoorCards
import Derived.Test.YtpnbiapmndbhgaaGreatDoorTie
import Derived.SevenTiedAt
set_option linter.unusedSimpArgs false
set_option linter.unusedVariables false
set_option maxRecDepth 100000
set_option maxHeartbeats 4000000
section
namespace Go.Iso.Gen
open Go.Iso Go.Proofs
theorem apu{H:Heap}{c:List IV}{d:PD}(h:Rd H (.struct [.int .u8,.int .u8,.int .u8,.int .u8]) c d):∃a:Ac,c=Cell.cs a∧okA a:=by
 cases h with
 | struct ts css l he=>
   cases he with
   | cons h1 he=>
   cases he with
   | cons h2 he=>
   cases he with
   | cons h3 he=>
   cases he with
   | cons h4 he=>
   cases he;obtain⟨x1,rfl,b1⟩:=Ii h1
   obtain⟨x2,rfl,b2⟩:=Ii h2;obtain⟨x3,rfl,b3⟩:=Ii h3;obtain⟨x4,rfl,b4⟩:=Ii h4;exact⟨⟨x1,x2,x3,x4⟩,rfl,b1,b2,b3,b4⟩
theorem rparams:Tryz.prog.funcs[0]?.isSome=true∧Tryz.f4.params.toList.mapM (mI Tryz.prog 8)=some [.slice (.struct [.int .u8,.int .u8,.int .u8,.int .u8]),.int .u32,.int .i64]:=⟨by kernel_rfl,by kernel_rfl⟩
theorem amS:BL Tryz.prog Tryz.f4=true:=by kernel_rfl
theorem F7(os:Os)(started:os.Started)(T:Type)(enc:TypeId×Value→T):
  ReturnsInHanded {} Tryz.checked os 4 .any (fun w args=>(YtpnbiapmndbhgaaGreatDoor.Rows.tracesErrorsSpec.pre enc Tryz.prog Tryz.f4 [] false w args∧laidMetH Tryz.prog Ev w)∧sizedMet enc Tryz.prog Tryz.f4 (OpenSpec.ofChange YtpnbiapmndbhgaaGreatDoor.Rows.tracesErrorsSpec) false w args)
   (YtpnbiapmndbhgaaGreatDoor.Rows.tracesErrorsSpec.post enc Tryz.prog Tryz.f4 false true false false):=by
 refine returnsInHanded_of_change_and (C:=Tryz.checked) (X:=fun w _=>laidMetH Tryz.prog Ev w) (fun _ _ _ hh h=>h.of_heap hh) Qc started (by kernel_rfl) Tryz.func4
  (ChangeSpec.witness_shaped (enc:=enc) (C:=Tryz.checked) (os:=os) (X:=fun w _=>laidMetH Tryz.prog Ev w) false (World.doorLaid Tryz.prog 400 os) #[.slice none 0 0,.int .u32 0,.int .i64 0] 8 rfl (World.shaped_of_RefB (by kernel_rfl) (by kernel_rfl)) (by kernel_rfl) (by kernel_rfl) (by kernel_rfl) (Rl os _)) ?_
 intro W base args ds gs before hval hW _ _ hL _;refine zK (P:=Tryz.prog) (tb:=4) (s:=YtpnbiapmndbhgaaGreatDoor.Rows.tracesErrorsSpec) (ts:=tabs) tO rfl rparams.2 (by kernel_rfl) (by kernel_rfl) amS rfl ?_ (fun _=>True) ?_ W base args ds gs before hval hW (Pc hL) trivial
 ·intro T ds hd
  match ds,hd with
  | [a0,a1,a2],_=>rfl
 ·intro H css ds hro hT hrd _
  cases hrd with
  | cons h1 hrd=>
  cases hrd with
  | cons h2 hrd=>
  cases hrd with
  | cons h3 hrd=>
  cases hrd;obtain⟨v,l,rfl,sl,_,hok⟩:=apt hro (fun _ _ h=>apu h) h1
  obtain⟨d,rfl,hd⟩:=am1 h2;obtain⟨i,rfl,_,_⟩:=am2 h3;obtain⟨n,o,H',h,rfl⟩:=td (i:=i) hd hT sl hok;exact⟨n,H',h⟩
theorem row_said:YtpnbiapmndbhgaaGreatDoor.Rows.TracesErrorsSaid:=
 OpenClaim.holds_of_wide 4 Tryz.f4 rfl rfl rfl rfl rfl rfl rfl ⟨rfl,rfl,rfl,rfl,rfl⟩ rfl rfl rfl rfl rfl (by kernel_rfl) Tryz.func4 (by kernel_rfl)
  (of_decide_eq_true (by kernel_rfl)) (by unfold Func.isWrapper;first | (rw[if_pos (by decide+kernel)];kernel_rfl) | (rw[if_neg (by decide+kernel)];exact⟨rfl,rfl⟩))
  (fun os started H enc _=>F7 os started H enc)
end Go.Iso.Gen
namespace Go.Proofs.YtpnbiapmndbhgaaGreatDoor
theorem tracesErrors_holds:Rows.TracesErrorsCardSaid:=
 Claim7.holds_tied_plain_at .later [] [.data] true (true,"cd064bc900294a45842b76860b7fbf3df6e97136dc65c45fcf71a29d4793d5e0") false
  Go.Iso.Gen.row_said (fun _ h=>by cases h) (by kernel_rfl) (fun _ h=>by cases h) tracesErrors_row_tie rfl ⟨rfl,rfl⟩ (by kernel_rfl) rfl
  (fun f fn hf hfn=>by
   obtain rfl:f=4:=Option.some.inj ((show Tryz.prog.funcNamed "gansey/ganseylaw34.TracesErrors"=some 4 by kernel_rfl).symm.trans hf)|>.symm
   obtain rfl:fn=Tryz.f4:=(Option.some.inj (Tryz.func4.symm.trans hfn)).symm
   exact⟨by kernel_rfl,fun j t ht=>by
    have hall:(Tryz.f4.params.toList.all fun u=>!Tryz.prog.wantsStandIn u)=true:=by kernel_rfl
    have hm:t∈Tryz.f4.params.toList:=by simpa using Array.mem_of_getElem? ht
    exact(show Tryz.prog.wantsStandIn t=false by simpa using List.all_eq_true.1 hall t hm)⟩)
  (by kernel_rfl)
end Go.Proofs.YtpnbiapmndbhgaaGreatDoor
end
