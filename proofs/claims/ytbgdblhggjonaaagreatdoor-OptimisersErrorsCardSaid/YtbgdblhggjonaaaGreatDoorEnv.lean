/-
  the environment of the evaluator is right.
-/
import Derived.Test.YtbgdblhggjonaaaGreatDoorEnvK
set_option linter.defProp false
set_option linter.unusedSimpArgs false
set_option linter.unusedVariables false
set_option maxRecDepth 100000
set_option maxHeartbeats 4000000
section
namespace Go.Iso.Gen
open Go.Proofs Go.Proofs.Tryz
def vc:EnvOk prog E0:=by refine⟨λf fn h=>rG fnT (λi=>i) f fn VN h,λf s h=>?_⟩;have q:(if f=17 then some (fI prog 1 17 X0) else if f=26 then some (fI prog 1 26 JV) else none)=some s:=h;split at q;{rename_i A;injection q with q;subst q A;exact⟨rD k17,λargs lo H v H' E=>zH E⟩};split at q;{rename_i A;injection q with q;subst q A;exact⟨⟨_,_,Tryz.func26,rfl,by kernel_rfl⟩,λargs lo H v H' E=>zH E⟩};{cases q}
end Go.Iso.Gen
end
