/-
  the environment of the evaluator is right.
-/
import Derived.Test.YtiofebdpgbojmaaGreatDoorEnvL16
set_option linter.defProp false
set_option linter.unusedSimpArgs false
set_option linter.unusedVariables false
set_option maxRecDepth 100000
set_option maxHeartbeats 4000000
section
namespace Go.Iso.Gen
open Go.Proofs Go.Proofs.Tryz
def vi:EnvOk prog E0:=by refine⟨λf fn h=>nK fnT (λi=>i) f fn LH h,λf s h=>?_⟩;have q:(if f=16 then some (mM tabs) else if f=44 then some (kw prog 1 44 XZ) else none)=some s:=h;split at q;{rename_i u;injection q with q;subst q u;refine⟨nC k16,?_⟩;obtain⟨o,H0,A,E⟩:=FI DY;have:=RC E;subst this;exact Kj aeE rfl A};split at q;{rename_i u;injection q with q;subst q u;exact⟨nC k44,λargs lo H v H' F=>JS F⟩};{cases q}
end Go.Iso.Gen
end
