/-
  the environment of the evaluator is right.
-/
import Derived.Test.YtagpgnldjjmhkacGreatDoorEnvK
set_option linter.defProp false
set_option linter.unusedSimpArgs false
set_option linter.unusedVariables false
set_option maxRecDepth 100000
set_option maxHeartbeats 4000000
section
namespace Go.Iso.Gen
open Go.Proofs Go.Proofs.Tryz
def vA:EnvOk prog E0:=by refine⟨λf fn h=>sd fnT (λi=>i) f fn Ws h,λf s h=>?_⟩;have q:(if f=29 then some (fT prog 1 29 YB) else if f=43 then some (fT prog 1 43 Kw) else none)=some s:=h;split at q;{rename_i A;injection q with q;subst q A;exact⟨rV k29,λargs lo H v H' E=>zX E⟩};split at q;{rename_i A;injection q with q;subst q A;exact⟨⟨_,_,Tryz.func43,rfl,by kernel_rfl⟩,λargs lo H v H' E=>zX E⟩};{cases q}
end Go.Iso.Gen
end
