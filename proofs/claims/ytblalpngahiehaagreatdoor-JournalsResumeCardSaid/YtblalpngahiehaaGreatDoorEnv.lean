/-
  the environment of the evaluator is right.
-/
import Derived.Test.YtblalpngahiehaaGreatDoorEnvL7
set_option linter.unusedSimpArgs false
set_option linter.unusedVariables false
set_option maxRecDepth 100000
set_option maxHeartbeats 4000000
namespace Go.Iso.Gen
open Go.Proofs
theorem wY:EnvOk Go.Proofs.Tryz.prog E0:=by refine⟨λf fn h=>pS fnT (λi=>i) f fn Ml h,λf s h=>?_⟩;have q:(if f=7 then some (pc tabs) else if f=34 then some (mV Go.Proofs.Tryz.prog 1 34 XM) else none)=some s:=h;split at q;{rename_i A;injection q with q;subst q A;refine⟨pL k7,?_⟩;obtain⟨o,H0,E,F⟩:=Hh Ic;have:=RJ F;subst this;exact Lo aeJ rfl E};split at q;{rename_i A;injection q with q;subst q A;exact⟨pL k34,λargs lo H v H' I=>K1 I⟩};{cases q}
end Go.Iso.Gen
