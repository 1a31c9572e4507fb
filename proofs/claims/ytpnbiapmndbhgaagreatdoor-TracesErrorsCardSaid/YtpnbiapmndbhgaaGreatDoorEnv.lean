/-
  the environment of the evaluator is right.
-/
import Derived.Test.YtpnbiapmndbhgaaGreatDoorEnvL11
set_option linter.unusedSimpArgs false
set_option linter.unusedVariables false
set_option maxRecDepth 100000
set_option maxHeartbeats 4000000
section
namespace Go.Iso.Gen
open Go.Proofs
theorem tO:EnvOk Go.Proofs.Tryz.prog E0:=by
 refine⟨fun f fn h=>mz fnT (fun i=>i) f fn Iy h,fun f s h=>?_⟩
 have h':(if f=11 then some (lO tabs) else if f=31 then some (jP Go.Proofs.Tryz.prog 1 31 8) else none)=some s:=h;split at h'
 ·rename_i hf;injection h' with h';subst h' hf;refine⟨mm k11,?_⟩;obtain⟨o,H0,h1,h2⟩:=DS Cq
  have:=QW h2
  subst this;exact G7 auM rfl h1
 split at h'
 ·rename_i hf;injection h' with h';subst h' hf;exact⟨mm k31,fun args lo H v H' hh=>Hk hh⟩
 ·cases h'
end Go.Iso.Gen
end
