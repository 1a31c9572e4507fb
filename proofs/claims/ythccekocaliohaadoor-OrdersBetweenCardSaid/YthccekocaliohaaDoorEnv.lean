/-
  the code tables are what the compiler of the evaluator makes of the loaded program; the chapter and its examples run to true.
-/
import Derived.Test.YthccekocaliohaaDoorGen
import Derived.Test.YthccekocaliohaaDoorIsoP5
set_option linter.unusedSimpArgs false
set_option linter.unusedVariables false

section
set_option maxRecDepth 100000
set_option maxHeartbeats 4000000
namespace Go.Iso.Gen
open Go.Proofs
theorem k8 : compF Tryd.prog 8 = some F8 := by kernel_rfl
theorem k9 : compF Tryd.prog 9 = some F9 := by kernel_rfl
theorem k10 : compF Tryd.prog 10 = some F10 := by kernel_rfl
theorem k11 : compF Tryd.prog 11 = some F11 := by kernel_rfl
theorem k13 : compF Tryd.prog 13 = some F13 := by kernel_rfl
theorem k14 : compF Tryd.prog 14 = some F14 := by kernel_rfl
theorem k15 : compF Tryd.prog 15 = some F15 := by kernel_rfl
theorem k17 : compF Tryd.prog 17 = some F17 := by kernel_rfl
theorem k18 : compF Tryd.prog 18 = some F18 := by kernel_rfl
theorem k19 : compF Tryd.prog 19 = some F19 := by kernel_rfl
theorem k20 : compF Tryd.prog 20 = some F20 := by kernel_rfl
theorem k21 : compF Tryd.prog 21 = some F21 := by kernel_rfl
theorem k22 : compF Tryd.prog 22 = some F22 := by kernel_rfl
theorem k23 : compF Tryd.prog 23 = some F23 := by kernel_rfl
theorem k24 : compF Tryd.prog 24 = some F24 := by kernel_rfl
theorem k25 : compF Tryd.prog 25 = some F25 := by kernel_rfl
theorem k26 : compF Tryd.prog 26 = some F26 := by kernel_rfl
theorem k27 : compF Tryd.prog 27 = some F27 := by kernel_rfl
theorem k28 : compF Tryd.prog 28 = some F28 := by kernel_rfl
theorem k29 : compF Tryd.prog 29 = some F29 := by kernel_rfl
theorem k30 : compF Tryd.prog 30 = some F30 := by kernel_rfl
theorem k31 : compF Tryd.prog 31 = some F31 := by kernel_rfl
theorem k32 : compF Tryd.prog 32 = some F32 := by kernel_rfl
theorem k34 : compF Tryd.prog 34 = some F34 := by kernel_rfl
theorem k35 : compF Tryd.prog 35 = some F35 := by kernel_rfl
theorem k36 : compF Tryd.prog 36 = some F36 := by kernel_rfl
theorem k37 : compF Tryd.prog 37 = some F37 := by kernel_rfl
theorem k38 : compF Tryd.prog 38 = some F38 := by kernel_rfl
theorem k39 : compF Tryd.prog 39 = some F39 := by kernel_rfl
theorem k40 : compF Tryd.prog 40 = some F40 := by kernel_rfl
theorem k41 : compF Tryd.prog 41 = some F41 := by kernel_rfl
theorem k42 : compF Tryd.prog 42 = some F42 := by kernel_rfl
theorem k43 : compF Tryd.prog 43 = some F43 := by kernel_rfl
theorem k44 : compF Tryd.prog 44 = some F44 := by kernel_rfl
theorem k45 : compF Tryd.prog 45 = some F45 := by kernel_rfl
theorem k46 : compF Tryd.prog 46 = some F46 := by kernel_rfl
theorem k47 : compF Tryd.prog 47 = some F47 := by kernel_rfl
theorem k48 : compF Tryd.prog 48 = some F48 := by kernel_rfl
theorem k49 : compF Tryd.prog 49 = some F49 := by kernel_rfl
theorem k50 : compF Tryd.prog 50 = some F50 := by kernel_rfl
theorem k51 : compF Tryd.prog 51 = some F51 := by kernel_rfl
theorem k52 : compF Tryd.prog 52 = some F52 := by kernel_rfl
theorem k53 : compF Tryd.prog 53 = some F53 := by kernel_rfl
theorem k54 : compF Tryd.prog 54 = some F54 := by kernel_rfl
theorem k55 : compF Tryd.prog 55 = some F55 := by kernel_rfl
theorem k56 : compF Tryd.prog 56 = some F56 := by kernel_rfl
theorem k57 : compF Tryd.prog 57 = some F57 := by kernel_rfl
theorem k58 : compF Tryd.prog 58 = some F58 := by kernel_rfl
theorem k59 : compF Tryd.prog 59 = some F59 := by kernel_rfl
theorem fnT_all : fnT.All (fun f fn => compF Tryd.prog f = some fn) (fun i => i) := ⟨(fun x h => by cases h), ⟨(fun x h => by cases h), ⟨(fun x h => by cases h), ⟨(fun x h => by cases h), ⟨(fun x h => by cases h; exact k15), ⟨(fun x h => by cases h; exact k31), True.intro, True.intro⟩, ⟨(fun x h => by cases h; exact k47), True.intro, True.intro⟩⟩, ⟨(fun x h => by cases h; exact k23), ⟨(fun x h => by cases h; exact k39), True.intro, True.intro⟩, ⟨(fun x h => by cases h; exact k55), True.intro, True.intro⟩⟩⟩, ⟨(fun x h => by cases h; exact k11), ⟨(fun x h => by cases h; exact k19), ⟨(fun x h => by cases h; exact k35), True.intro, True.intro⟩, ⟨(fun x h => by cases h; exact k51), True.intro, True.intro⟩⟩, ⟨(fun x h => by cases h; exact k27), ⟨(fun x h => by cases h; exact k43), True.intro, True.intro⟩, ⟨(fun x h => by cases h; exact k59), True.intro, True.intro⟩⟩⟩⟩, ⟨(fun x h => by cases h), ⟨(fun x h => by cases h; exact k9), ⟨(fun x h => by cases h; exact k17), True.intro, ⟨(fun x h => by cases h; exact k49), True.intro, True.intro⟩⟩, ⟨(fun x h => by cases h; exact k25), ⟨(fun x h => by cases h; exact k41), True.intro, True.intro⟩, ⟨(fun x h => by cases h; exact k57), True.intro, True.intro⟩⟩⟩, ⟨(fun x h => by cases h; exact k13), ⟨(fun x h => by cases h; exact k21), ⟨(fun x h => by cases h; exact k37), True.intro, True.intro⟩, ⟨(fun x h => by cases h; exact k53), True.intro, True.intro⟩⟩, ⟨(fun x h => by cases h; exact k29), ⟨(fun x h => by cases h; exact k45), True.intro, True.intro⟩, True.intro⟩⟩⟩⟩, ⟨(fun x h => by cases h), ⟨(fun x h => by cases h), ⟨(fun x h => by cases h; exact k8), ⟨(fun x h => by cases h), ⟨(fun x h => by cases h; exact k32), True.intro, True.intro⟩, ⟨(fun x h => by cases h; exact k48), True.intro, True.intro⟩⟩, ⟨(fun x h => by cases h; exact k24), ⟨(fun x h => by cases h; exact k40), True.intro, True.intro⟩, ⟨(fun x h => by cases h; exact k56), True.intro, True.intro⟩⟩⟩, ⟨(fun x h => by cases h), ⟨(fun x h => by cases h; exact k20), ⟨(fun x h => by cases h; exact k36), True.intro, True.intro⟩, ⟨(fun x h => by cases h; exact k52), True.intro, True.intro⟩⟩, ⟨(fun x h => by cases h; exact k28), ⟨(fun x h => by cases h; exact k44), True.intro, True.intro⟩, True.intro⟩⟩⟩, ⟨(fun x h => by cases h), ⟨(fun x h => by cases h; exact k10), ⟨(fun x h => by cases h; exact k18), ⟨(fun x h => by cases h; exact k34), True.intro, True.intro⟩, ⟨(fun x h => by cases h; exact k50), True.intro, True.intro⟩⟩, ⟨(fun x h => by cases h; exact k26), ⟨(fun x h => by cases h; exact k42), True.intro, True.intro⟩, ⟨(fun x h => by cases h; exact k58), True.intro, True.intro⟩⟩⟩, ⟨(fun x h => by cases h; exact k14), ⟨(fun x h => by cases h; exact k22), ⟨(fun x h => by cases h; exact k38), True.intro, True.intro⟩, ⟨(fun x h => by cases h; exact k54), True.intro, True.intro⟩⟩, ⟨(fun x h => by cases h; exact k30), ⟨(fun x h => by cases h; exact k46), True.intro, True.intro⟩, True.intro⟩⟩⟩⟩⟩
theorem envN : EnvOk Tryd.prog En := ⟨fun f fn h => Tr.all_get fnT (fun i => i) f fn fnT_all h, fun f s h => by cases h⟩
def isT : Out → Heap → Bool := fun o _ => match o with
  | .val v => match v with
    | .bool b => b
    | _ => false
  | _ => false
theorem isT_true {o : Out} {H : Heap} (h : isT o H = true) : o = .val (.bool true) := by
  cases o with
  | ex e fr => cases h
  | val v => cases v <;> first | (cases h; done) | (rename_i b; cases b <;> first | rfl | (cases h; done))
theorem lives_true : runS En 200000 (.call 11 []) tabs.length (tabHeap tabs emptyHeap) isT = true := by kernel_rfl
theorem env0 : EnvOk Tryd.prog E0 := by
  refine ⟨fun f fn h => Tr.all_get fnT (fun i => i) f fn fnT_all h, fun f s h => ?_⟩
  have h' : (if f = 11 then some (tabSum tabs) else none) = some s := h
  split at h'
  · rename_i hf
    injection h' with h'
    subst h' hf
    refine ⟨compF_body k11, ?_⟩
    obtain ⟨o, H0, h1, h2⟩ := run_of_runS lives_true
    have := isT_true h2
    subst this
    exact closed_tab envN rfl h1
  · cases h'
end Go.Iso.Gen
end
