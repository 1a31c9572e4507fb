/-
  the environment of the evaluator is right.
-/
import Derived.Test.YtkhgaoeaednggaaGreatDoorEnvL9
import Derived.Test.YtkhgaoeaednggaaGreatDoorEnvL14
set_option linter.unusedSimpArgs false
set_option linter.unusedVariables false
set_option maxRecDepth 100000
set_option maxHeartbeats 4000000
section
namespace Go.Iso.Gen
open Go.Proofs
theorem uC:EnvOk Go.Proofs.Tryz.prog E0:=by refine⟨λf fn h=>ny fnT (λi=>i) f fn KT h,λf s h=>?_⟩;have q:(if f=9 then some (fT tabs) else if f=14 then some (fT tabs) else if f=19 then some (kQ Go.Proofs.Tryz.prog 1 19 VY) else none)=some s:=h;split at q;{rename_i u;injection q with q;subst q u;refine⟨kV k9,?_⟩;obtain⟨o,H0,E,F⟩:=vr Gn;have:=Gy F;subst this;exact Aq Yw rfl E};split at q;{rename_i u;injection q with q;subst q u;refine⟨kV k14,?_⟩;obtain⟨o,H0,E,F⟩:=vr D7;have:=Gy F;subst this;exact Aq Yw rfl E};split at q;{rename_i u;injection q with q;subst q u;exact⟨kV k19,λargs lo H v H' I=>Jr I⟩};{cases q}
end Go.Iso.Gen
end
