/-
  the environment of the evaluator is right.
-/
import Derived.Test.YtiofebdpgbojmaaGreatDoorEnvL16
set_option linter.defProp false
set_option linter.unusedSimpArgs false
set_option linter.unusedVariables false
set_option maxRecDepth 100000
set_option maxHeartbeats 4000000
section
namespace Go.Iso.Gen
open Go.Proofs Go.Proofs.Tryz
def zA:EnvOk prog E0:=by refine⟨λf fn h=>qX fnT (λi=>i) f fn PJ h,λf s h=>?_⟩;have q:(if f=16 then some (qm tabs) else if f=44 then some (nV prog 1 44 stC) else none)=some s:=h;split at q;{rename_i E;injection q with q;subst q E;refine⟨qP k16,?_⟩;obtain⟨o,H0,F,I⟩:=Kj I0;have:=Vv I;subst this;exact OH ake rfl F};split at q;{rename_i E;injection q with q;subst q E;exact⟨qP k44,λargs lo H v H' J=>Of J⟩};{cases q}
end Go.Iso.Gen
end
