/-
  the environment of the evaluator is right.
-/
import Derived.Test.YtblalpngahiehaaGreatDoorEnvL7
set_option linter.unusedSimpArgs false
set_option linter.unusedVariables false
set_option maxRecDepth 100000
set_option maxHeartbeats 4000000
section
namespace Go.Iso.Gen
open Go.Proofs
theorem xh:EnvOk Go.Proofs.Tryz.prog E0:=by refine⟨λf fn h=>p9 fnT (λi=>i) f fn My h,λf s h=>?_⟩;have q:(if f=7 then some (pu tabs) else if f=34 then some (nh Go.Proofs.Tryz.prog 1 34 XN) else none)=some s:=h;split at q;{rename_i A;injection q with q;subst q A;refine⟨pU k7,?_⟩;obtain⟨o,H0,E,F⟩:=Hq Im;have:=RS F;subst this;exact LD aeC rfl E};split at q;{rename_i A;injection q with q;subst q A;exact⟨pU k34,λargs lo H v H' I=>Lc I⟩};{cases q}
end Go.Iso.Gen
end
