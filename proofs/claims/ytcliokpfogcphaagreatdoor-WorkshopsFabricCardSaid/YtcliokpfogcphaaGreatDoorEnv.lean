/-
  the environment of the evaluator is right.
-/
import Derived.Test.YtcliokpfogcphaaGreatDoorEnvK
set_option linter.defProp false
set_option linter.unusedSimpArgs false
set_option linter.unusedVariables false
set_option maxRecDepth 100000
set_option maxHeartbeats 4000000
section
namespace Go.Iso.Gen
open Go.Proofs Go.Proofs.Tryz
def Bv:EnvOk prog E0:=by refine⟨λf fn h=>yt fnT (λi=>i) f fn aaV h,λf s h=>?_⟩;have q:(if f=29 then some (pW prog 1 29 stC) else none)=some s:=h;split at q;{rename_i E;injection q with q;subst q E;exact⟨yj k29,λargs lo H v H' F=>QR F⟩};{cases q}
end Go.Iso.Gen
end
