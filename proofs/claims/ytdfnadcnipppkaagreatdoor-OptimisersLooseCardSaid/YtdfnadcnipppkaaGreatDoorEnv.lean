/-
  the environment of the evaluator is right.
-/
import Derived.Test.YtdfnadcnipppkaaGreatDoorEnvK
set_option linter.defProp false
set_option linter.unusedSimpArgs false
set_option linter.unusedVariables false
set_option maxRecDepth 100000
set_option maxHeartbeats 4000000
section
namespace Go.Iso.Gen
open Go.Proofs Go.Proofs.Tryz
def xt:EnvOk prog E0:=by refine⟨λf fn h=>tO fnT (λi=>i) f fn YA h,λf s h=>?_⟩;have E:(if f=58 then some (iA prog 1 58 stC) else if f=26 then some (iA prog 1 26 ML) else none)=some s:=h;split at E;{rename_i F;injection E with E;subst E F;exact⟨tM k58,λargs lo H v H' I=>BG I⟩};split at E;{rename_i F;injection E with E;subst E F;exact⟨⟨_,_,Tryz.func26,rfl,by kernel_rfl⟩,λargs lo H v H' I=>BG I⟩};{cases E}
end Go.Iso.Gen
end
