/-
  the environment of the evaluator is right.
-/
import Derived.Test.YtblalpngahiehaaGreatDoorEnvL7
set_option linter.unusedSimpArgs false
set_option linter.unusedVariables false
set_option maxRecDepth 100000
set_option maxHeartbeats 4000000
section
namespace Go.Iso.Gen
open Go.Proofs
theorem wu:EnvOk Go.Proofs.Tryz.prog E0:=by refine⟨λf fn h=>pF fnT (λi=>i) f fn LI h,λf s h=>?_⟩;have q:(if f=7 then some (oQ tabs) else if f=34 then some (mT Go.Proofs.Tryz.prog 1 34 Xh) else none)=some s:=h;split at q;{rename_i u;injection q with q;subst q u;refine⟨pu k7,?_⟩;obtain⟨o,H0,A,E⟩:=GN Hu;have:=Rg E;subst this;exact KR aeq rfl A};split at q;{rename_i u;injection q with q;subst q u;exact⟨pu k34,λargs lo H v H' F=>Kv F⟩};{cases q}
end Go.Iso.Gen
end
