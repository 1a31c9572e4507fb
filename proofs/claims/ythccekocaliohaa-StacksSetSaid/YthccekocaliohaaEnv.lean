/-
  the code tables are what the compiler of the evaluator makes of the loaded program; the chapter's examples run to true.
-/
import Derived.Test.YthccekocaliohaaGen
import Derived.Test.YthccekocaliohaaIsoP5
set_option linter.unusedSimpArgs false
set_option linter.unusedVariables false

section
set_option maxRecDepth 100000
set_option maxHeartbeats 4000000
namespace Go.Iso.Gen
open Go.Proofs
theorem k2 : compF Try.prog 2 = some F2 := by kernel_rfl
theorem k3 : compF Try.prog 3 = some F3 := by kernel_rfl
theorem k4 : compF Try.prog 4 = some F4 := by kernel_rfl
theorem k5 : compF Try.prog 5 = some F5 := by kernel_rfl
theorem k6 : compF Try.prog 6 = some F6 := by kernel_rfl
theorem k7 : compF Try.prog 7 = some F7 := by kernel_rfl
theorem k8 : compF Try.prog 8 = some F8 := by kernel_rfl
theorem k9 : compF Try.prog 9 = some F9 := by kernel_rfl
theorem k10 : compF Try.prog 10 = some F10 := by kernel_rfl
theorem k11 : compF Try.prog 11 = some F11 := by kernel_rfl
theorem k12 : compF Try.prog 12 = some F12 := by kernel_rfl
theorem k13 : compF Try.prog 13 = some F13 := by kernel_rfl
theorem k14 : compF Try.prog 14 = some F14 := by kernel_rfl
theorem k15 : compF Try.prog 15 = some F15 := by kernel_rfl
theorem k16 : compF Try.prog 16 = some F16 := by kernel_rfl
theorem k17 : compF Try.prog 17 = some F17 := by kernel_rfl
theorem k18 : compF Try.prog 18 = some F18 := by kernel_rfl
theorem k19 : compF Try.prog 19 = some F19 := by kernel_rfl
theorem k20 : compF Try.prog 20 = some F20 := by kernel_rfl
theorem k21 : compF Try.prog 21 = some F21 := by kernel_rfl
theorem k22 : compF Try.prog 22 = some F22 := by kernel_rfl
theorem k23 : compF Try.prog 23 = some F23 := by kernel_rfl
theorem k24 : compF Try.prog 24 = some F24 := by kernel_rfl
theorem k25 : compF Try.prog 25 = some F25 := by kernel_rfl
theorem k26 : compF Try.prog 26 = some F26 := by kernel_rfl
theorem k27 : compF Try.prog 27 = some F27 := by kernel_rfl
theorem k28 : compF Try.prog 28 = some F28 := by kernel_rfl
theorem k29 : compF Try.prog 29 = some F29 := by kernel_rfl
theorem k30 : compF Try.prog 30 = some F30 := by kernel_rfl
theorem k31 : compF Try.prog 31 = some F31 := by kernel_rfl
theorem k32 : compF Try.prog 32 = some F32 := by kernel_rfl
theorem k33 : compF Try.prog 33 = some F33 := by kernel_rfl
theorem k34 : compF Try.prog 34 = some F34 := by kernel_rfl
theorem k35 : compF Try.prog 35 = some F35 := by kernel_rfl
theorem k36 : compF Try.prog 36 = some F36 := by kernel_rfl
theorem k37 : compF Try.prog 37 = some F37 := by kernel_rfl
theorem fnT_all : fnT.All (fun f fn => compF Try.prog f = some fn) (fun i => i) := ⟨(fun x h => by cases h), ⟨(fun x h => by cases h), ⟨(fun x h => by cases h; exact k3), ⟨(fun x h => by cases h; exact k7), ⟨(fun x h => by cases h; exact k15), ⟨(fun x h => by cases h; exact k31), True.intro, True.intro⟩, True.intro⟩, ⟨(fun x h => by cases h; exact k23), True.intro, True.intro⟩⟩, ⟨(fun x h => by cases h; exact k11), ⟨(fun x h => by cases h; exact k19), ⟨(fun x h => by cases h; exact k35), True.intro, True.intro⟩, True.intro⟩, ⟨(fun x h => by cases h; exact k27), True.intro, True.intro⟩⟩⟩, ⟨(fun x h => by cases h; exact k5), ⟨(fun x h => by cases h; exact k9), ⟨(fun x h => by cases h; exact k17), ⟨(fun x h => by cases h; exact k33), True.intro, True.intro⟩, True.intro⟩, ⟨(fun x h => by cases h; exact k25), True.intro, True.intro⟩⟩, ⟨(fun x h => by cases h; exact k13), ⟨(fun x h => by cases h; exact k21), ⟨(fun x h => by cases h; exact k37), True.intro, True.intro⟩, True.intro⟩, ⟨(fun x h => by cases h; exact k29), True.intro, True.intro⟩⟩⟩⟩, ⟨(fun x h => by cases h; exact k2), ⟨(fun x h => by cases h; exact k4), ⟨(fun x h => by cases h; exact k8), ⟨(fun x h => by cases h; exact k16), ⟨(fun x h => by cases h; exact k32), True.intro, True.intro⟩, True.intro⟩, ⟨(fun x h => by cases h; exact k24), True.intro, True.intro⟩⟩, ⟨(fun x h => by cases h; exact k12), ⟨(fun x h => by cases h; exact k20), ⟨(fun x h => by cases h; exact k36), True.intro, True.intro⟩, True.intro⟩, ⟨(fun x h => by cases h; exact k28), True.intro, True.intro⟩⟩⟩, ⟨(fun x h => by cases h; exact k6), ⟨(fun x h => by cases h; exact k10), ⟨(fun x h => by cases h; exact k18), ⟨(fun x h => by cases h; exact k34), True.intro, True.intro⟩, True.intro⟩, ⟨(fun x h => by cases h; exact k26), True.intro, True.intro⟩⟩, ⟨(fun x h => by cases h; exact k14), ⟨(fun x h => by cases h; exact k22), True.intro, True.intro⟩, ⟨(fun x h => by cases h; exact k30), True.intro, True.intro⟩⟩⟩⟩⟩
theorem envN : EnvOk Try.prog En := ⟨fun f fn h => Tr.all_get fnT (fun i => i) f fn fnT_all h, fun f s h => by cases h⟩
def isT : Out → Heap → Bool := fun o _ => match o with
  | .val v => match v with
    | .bool b => b
    | _ => false
  | _ => false
theorem isT_true {o : Out} {H : Heap} (h : isT o H = true) : o = .val (.bool true) := by
  cases o with
  | ex e fr => cases h
  | val v => cases v <;> first | (cases h; done) | (rename_i b; cases b <;> first | rfl | (cases h; done))
theorem lives_true : runS En 200000 (.call 16 []) 0 emptyHeap isT = true := by kernel_rfl
theorem env0 : EnvOk Try.prog E0 := by
  refine ⟨fun f fn h => Tr.all_get fnT (fun i => i) f fn fnT_all h, fun f s h => ?_⟩
  have h' : (if f = 16 then some trueSum else none) = some s := h
  split at h'
  · rename_i hf
    injection h' with h'
    subst h' hf
    refine ⟨compF_body k16, ?_⟩
    obtain ⟨o, H0, h1, h2⟩ := run_of_runS lives_true
    have := isT_true h2
    subst this
    exact closed_sum envN rfl h1 0
  · cases h'
end Go.Iso.Gen
end
