/-
  the environment of the evaluator is right.
-/
import Derived.Test.YtpnbiapmndbhgaaGreatDoorEnvL7
set_option linter.unusedSimpArgs false
set_option linter.unusedVariables false
set_option maxRecDepth 100000
set_option maxHeartbeats 4000000
section
namespace Go.Iso.Gen
open Go.Proofs
theorem tu:EnvOk Go.Proofs.Tryz.prog E0:=by
 refine⟨fun f fn h=>ni fnT (fun i=>i) f fn Hi h,fun f s h=>?_⟩
 have h':(if f=7 then some (mI tabs) else if f=31 then some (ki Go.Proofs.Tryz.prog 1 31 8) else none)=some s:=h;split at h'
 ·rename_i hf;injection h' with h';subst h' hf;refine⟨m7 k7,?_⟩;obtain⟨o,H0,h1,h2⟩:=C7 DH
  have:=PN h2
  subst this;exact Gb aqW rfl h1
 split at h'
 ·rename_i hf;injection h' with h';subst h' hf;exact⟨m7 k31,fun args lo H v H' hh=>Gm hh⟩
 ·cases h'
end Go.Iso.Gen
end
