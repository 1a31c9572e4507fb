/-
  the environment of the evaluator is right.
-/
import Derived.Test.YtpnbiapmndbhgaaGreatDoorEnvL17
set_option linter.unusedSimpArgs false
set_option linter.unusedVariables false
set_option maxRecDepth 100000
set_option maxHeartbeats 4000000
section
namespace Go.Iso.Gen
open Go.Proofs
theorem sb:EnvOk Go.Proofs.Tryz.prog E0:=by
 refine⟨fun f fn h=>mw fnT (fun i=>i) f fn Fg h,fun f s h=>?_⟩
 have h':(if f=17 then some (lK tabs) else if f=31 then some (jJ Go.Proofs.Tryz.prog 1 31 8) else none)=some s:=h;split at h'
 ·rename_i hf;injection h' with h';subst h' hf;refine⟨mi k17,?_⟩;obtain⟨o,H0,h1,h2⟩:=Bb zQ
  have:=Kn h2
  subst this;exact D6 W5 rfl h1
 split at h'
 ·rename_i hf;injection h' with h';subst h' hf;exact⟨mi US,fun args lo H v H' hh=>Eg hh⟩
 ·cases h'
end Go.Iso.Gen
end
