/-
  the code tables are what the compiler of the evaluator makes of the loaded program; the chapter and its examples run to true.
-/
import Derived.Test.YtnmkopfgfndhaaaGreatDoorGen
import Derived.Test.YtnmkopfgfndhaaaGreatDoorIsoP5
set_option linter.unusedSimpArgs false
set_option linter.unusedVariables false

section
set_option maxRecDepth 100000
set_option maxHeartbeats 4000000
namespace Go.Iso.Gen
open Go.Proofs
theorem k3 : compF Tryz.prog 3 = some F3 := by kernel_rfl
theorem k4 : compF Tryz.prog 4 = some F4 := by kernel_rfl
theorem k5 : compF Tryz.prog 5 = some F5 := by kernel_rfl
theorem k6 : compF Tryz.prog 6 = some F6 := by kernel_rfl
theorem k7 : compF Tryz.prog 7 = some F7 := by kernel_rfl
theorem k8 : compF Tryz.prog 8 = some F8 := by kernel_rfl
theorem k9 : compF Tryz.prog 9 = some F9 := by kernel_rfl
theorem k10 : compF Tryz.prog 10 = some F10 := by kernel_rfl
theorem k11 : compF Tryz.prog 11 = some F11 := by kernel_rfl
theorem k12 : compF Tryz.prog 12 = some F12 := by kernel_rfl
theorem k13 : compF Tryz.prog 13 = some F13 := by kernel_rfl
theorem k14 : compF Tryz.prog 14 = some F14 := by kernel_rfl
theorem k15 : compF Tryz.prog 15 = some F15 := by kernel_rfl
theorem k16 : compF Tryz.prog 16 = some F16 := by kernel_rfl
theorem k17 : compF Tryz.prog 17 = some F17 := by kernel_rfl
theorem k18 : compF Tryz.prog 18 = some F18 := by kernel_rfl
theorem k19 : compF Tryz.prog 19 = some F19 := by kernel_rfl
theorem k20 : compF Tryz.prog 20 = some F20 := by kernel_rfl
theorem k21 : compF Tryz.prog 21 = some F21 := by kernel_rfl
theorem k22 : compF Tryz.prog 22 = some F22 := by kernel_rfl
theorem k23 : compF Tryz.prog 23 = some F23 := by kernel_rfl
theorem k24 : compF Tryz.prog 24 = some F24 := by kernel_rfl
theorem k25 : compF Tryz.prog 25 = some F25 := by kernel_rfl
theorem k26 : compF Tryz.prog 26 = some F26 := by kernel_rfl
theorem k27 : compF Tryz.prog 27 = some F27 := by kernel_rfl
theorem k28 : compF Tryz.prog 28 = some F28 := by kernel_rfl
theorem k29 : compF Tryz.prog 29 = some F29 := by kernel_rfl
theorem k30 : compF Tryz.prog 30 = some F30 := by kernel_rfl
theorem k31 : compF Tryz.prog 31 = some F31 := by kernel_rfl
theorem k32 : compF Tryz.prog 32 = some F32 := by kernel_rfl
theorem k33 : compF Tryz.prog 33 = some F33 := by kernel_rfl
theorem k34 : compF Tryz.prog 34 = some F34 := by kernel_rfl
theorem k35 : compF Tryz.prog 35 = some F35 := by kernel_rfl
theorem k36 : compF Tryz.prog 36 = some F36 := by kernel_rfl
theorem k37 : compF Tryz.prog 37 = some F37 := by kernel_rfl
theorem k38 : compF Tryz.prog 38 = some F38 := by kernel_rfl
theorem k39 : compF Tryz.prog 39 = some F39 := by kernel_rfl
theorem k40 : compF Tryz.prog 40 = some F40 := by kernel_rfl
theorem k41 : compF Tryz.prog 41 = some F41 := by kernel_rfl
theorem k42 : compF Tryz.prog 42 = some F42 := by kernel_rfl
theorem k43 : compF Tryz.prog 43 = some F43 := by kernel_rfl
theorem k44 : compF Tryz.prog 44 = some F44 := by kernel_rfl
theorem k45 : compF Tryz.prog 45 = some F45 := by kernel_rfl
theorem k46 : compF Tryz.prog 46 = some F46 := by kernel_rfl
theorem k47 : compF Tryz.prog 47 = some F47 := by kernel_rfl
theorem k48 : compF Tryz.prog 48 = some F48 := by kernel_rfl
theorem k49 : compF Tryz.prog 49 = some F49 := by kernel_rfl
theorem k50 : compF Tryz.prog 50 = some F50 := by kernel_rfl
theorem k51 : compF Tryz.prog 51 = some F51 := by kernel_rfl
theorem k52 : compF Tryz.prog 52 = some F52 := by kernel_rfl
theorem k53 : compF Tryz.prog 53 = some F53 := by kernel_rfl
theorem k54 : compF Tryz.prog 54 = some F54 := by kernel_rfl
theorem k55 : compF Tryz.prog 55 = some F55 := by kernel_rfl
theorem k56 : compF Tryz.prog 56 = some F56 := by kernel_rfl
theorem k57 : compF Tryz.prog 57 = some F57 := by kernel_rfl
theorem k58 : compF Tryz.prog 58 = some F58 := by kernel_rfl
theorem k59 : compF Tryz.prog 59 = some F59 := by kernel_rfl
theorem k60 : compF Tryz.prog 60 = some F60 := by kernel_rfl
theorem k61 : compF Tryz.prog 61 = some F61 := by kernel_rfl
theorem k62 : compF Tryz.prog 62 = some F62 := by kernel_rfl
theorem k63 : compF Tryz.prog 63 = some F63 := by kernel_rfl
theorem k64 : compF Tryz.prog 64 = some F64 := by kernel_rfl
theorem k65 : compF Tryz.prog 65 = some F65 := by kernel_rfl
theorem k66 : compF Tryz.prog 66 = some F66 := by kernel_rfl
theorem k67 : compF Tryz.prog 67 = some F67 := by kernel_rfl
theorem k68 : compF Tryz.prog 68 = some F68 := by kernel_rfl
theorem k69 : compF Tryz.prog 69 = some F69 := by kernel_rfl
theorem k70 : compF Tryz.prog 70 = some F70 := by kernel_rfl
theorem k71 : compF Tryz.prog 71 = some F71 := by kernel_rfl
theorem k72 : compF Tryz.prog 72 = some F72 := by kernel_rfl
theorem k73 : compF Tryz.prog 73 = some F73 := by kernel_rfl
theorem k74 : compF Tryz.prog 74 = some F74 := by kernel_rfl
theorem k75 : compF Tryz.prog 75 = some F75 := by kernel_rfl
theorem k76 : compF Tryz.prog 76 = some F76 := by kernel_rfl
theorem k77 : compF Tryz.prog 77 = some F77 := by kernel_rfl
theorem k78 : compF Tryz.prog 78 = some F78 := by kernel_rfl
theorem k79 : compF Tryz.prog 79 = some F79 := by kernel_rfl
theorem k80 : compF Tryz.prog 80 = some F80 := by kernel_rfl
theorem k81 : compF Tryz.prog 81 = some F81 := by kernel_rfl
theorem k82 : compF Tryz.prog 82 = some F82 := by kernel_rfl
theorem k83 : compF Tryz.prog 83 = some F83 := by kernel_rfl
theorem k84 : compF Tryz.prog 84 = some F84 := by kernel_rfl
theorem k85 : compF Tryz.prog 85 = some F85 := by kernel_rfl
theorem k86 : compF Tryz.prog 86 = some F86 := by kernel_rfl
theorem k87 : compF Tryz.prog 87 = some F87 := by kernel_rfl
theorem k88 : compF Tryz.prog 88 = some F88 := by kernel_rfl
theorem k89 : compF Tryz.prog 89 = some F89 := by kernel_rfl
theorem k90 : compF Tryz.prog 90 = some F90 := by kernel_rfl
theorem k91 : compF Tryz.prog 91 = some F91 := by kernel_rfl
theorem k92 : compF Tryz.prog 92 = some F92 := by kernel_rfl
theorem k93 : compF Tryz.prog 93 = some F93 := by kernel_rfl
theorem k94 : compF Tryz.prog 94 = some F94 := by kernel_rfl
theorem k95 : compF Tryz.prog 95 = some F95 := by kernel_rfl
theorem k96 : compF Tryz.prog 96 = some F96 := by kernel_rfl
theorem k97 : compF Tryz.prog 97 = some F97 := by kernel_rfl
theorem k98 : compF Tryz.prog 98 = some F98 := by kernel_rfl
theorem k99 : compF Tryz.prog 99 = some F99 := by kernel_rfl
theorem k100 : compF Tryz.prog 100 = some F100 := by kernel_rfl
theorem k101 : compF Tryz.prog 101 = some F101 := by kernel_rfl
theorem k102 : compF Tryz.prog 102 = some F102 := by kernel_rfl
theorem k103 : compF Tryz.prog 103 = some F103 := by kernel_rfl
theorem k104 : compF Tryz.prog 104 = some F104 := by kernel_rfl
theorem k105 : compF Tryz.prog 105 = some F105 := by kernel_rfl
theorem k106 : compF Tryz.prog 106 = some F106 := by kernel_rfl
theorem k107 : compF Tryz.prog 107 = some F107 := by kernel_rfl
theorem k108 : compF Tryz.prog 108 = some F108 := by kernel_rfl
theorem k109 : compF Tryz.prog 109 = some F109 := by kernel_rfl
theorem k110 : compF Tryz.prog 110 = some F110 := by kernel_rfl
theorem k111 : compF Tryz.prog 111 = some F111 := by kernel_rfl
theorem k112 : compF Tryz.prog 112 = some F112 := by kernel_rfl
theorem k113 : compF Tryz.prog 113 = some F113 := by kernel_rfl
theorem k114 : compF Tryz.prog 114 = some F114 := by kernel_rfl
theorem k115 : compF Tryz.prog 115 = some F115 := by kernel_rfl
theorem k116 : compF Tryz.prog 116 = some F116 := by kernel_rfl
theorem k117 : compF Tryz.prog 117 = some F117 := by kernel_rfl
theorem k118 : compF Tryz.prog 118 = some F118 := by kernel_rfl
theorem k119 : compF Tryz.prog 119 = some F119 := by kernel_rfl
theorem k120 : compF Tryz.prog 120 = some F120 := by kernel_rfl
theorem k121 : compF Tryz.prog 121 = some F121 := by kernel_rfl
theorem k122 : compF Tryz.prog 122 = some F122 := by kernel_rfl
theorem k123 : compF Tryz.prog 123 = some F123 := by kernel_rfl
theorem k124 : compF Tryz.prog 124 = some F124 := by kernel_rfl
theorem k125 : compF Tryz.prog 125 = some F125 := by kernel_rfl
theorem k126 : compF Tryz.prog 126 = some F126 := by kernel_rfl
theorem k127 : compF Tryz.prog 127 = some F127 := by kernel_rfl
theorem k128 : compF Tryz.prog 128 = some F128 := by kernel_rfl
theorem k129 : compF Tryz.prog 129 = some F129 := by kernel_rfl
theorem k130 : compF Tryz.prog 130 = some F130 := by kernel_rfl
theorem k131 : compF Tryz.prog 131 = some F131 := by kernel_rfl
theorem k132 : compF Tryz.prog 132 = some F132 := by kernel_rfl
theorem k133 : compF Tryz.prog 133 = some F133 := by kernel_rfl
theorem k134 : compF Tryz.prog 134 = some F134 := by kernel_rfl
theorem k135 : compF Tryz.prog 135 = some F135 := by kernel_rfl
theorem k136 : compF Tryz.prog 136 = some F136 := by kernel_rfl
theorem k137 : compF Tryz.prog 137 = some F137 := by kernel_rfl
theorem k138 : compF Tryz.prog 138 = some F138 := by kernel_rfl
theorem k139 : compF Tryz.prog 139 = some F139 := by kernel_rfl
theorem k140 : compF Tryz.prog 140 = some F140 := by kernel_rfl
theorem k141 : compF Tryz.prog 141 = some F141 := by kernel_rfl
theorem k142 : compF Tryz.prog 142 = some F142 := by kernel_rfl
theorem k143 : compF Tryz.prog 143 = some F143 := by kernel_rfl
theorem k144 : compF Tryz.prog 144 = some F144 := by kernel_rfl
theorem k145 : compF Tryz.prog 145 = some F145 := by kernel_rfl
theorem k146 : compF Tryz.prog 146 = some F146 := by kernel_rfl
theorem k147 : compF Tryz.prog 147 = some F147 := by kernel_rfl
theorem k148 : compF Tryz.prog 148 = some F148 := by kernel_rfl
theorem k149 : compF Tryz.prog 149 = some F149 := by kernel_rfl
theorem k150 : compF Tryz.prog 150 = some F150 := by kernel_rfl
theorem k151 : compF Tryz.prog 151 = some F151 := by kernel_rfl
theorem k152 : compF Tryz.prog 152 = some F152 := by kernel_rfl
theorem k153 : compF Tryz.prog 153 = some F153 := by kernel_rfl
theorem k154 : compF Tryz.prog 154 = some F154 := by kernel_rfl
theorem k155 : compF Tryz.prog 155 = some F155 := by kernel_rfl
theorem k156 : compF Tryz.prog 156 = some F156 := by kernel_rfl
theorem k157 : compF Tryz.prog 157 = some F157 := by kernel_rfl
theorem k158 : compF Tryz.prog 158 = some F158 := by kernel_rfl
theorem k159 : compF Tryz.prog 159 = some F159 := by kernel_rfl
theorem k160 : compF Tryz.prog 160 = some F160 := by kernel_rfl
theorem k161 : compF Tryz.prog 161 = some F161 := by kernel_rfl
theorem k162 : compF Tryz.prog 162 = some F162 := by kernel_rfl
theorem k163 : compF Tryz.prog 163 = some F163 := by kernel_rfl
theorem k164 : compF Tryz.prog 164 = some F164 := by kernel_rfl
theorem k165 : compF Tryz.prog 165 = some F165 := by kernel_rfl
theorem fnT_all : fnT.All (fun f fn => compF Tryz.prog f = some fn) (fun i => i) := ⟨(fun x h => by cases h), ⟨(fun x h => by cases h), ⟨(fun x h => by cases h; exact k3), ⟨(fun x h => by cases h; exact k7), ⟨(fun x h => by cases h; exact k15), ⟨(fun x h => by cases h; exact k31), ⟨(fun x h => by cases h; exact k63), ⟨(fun x h => by cases h; exact k127), True.intro, True.intro⟩, True.intro⟩, ⟨(fun x h => by cases h; exact k95), ⟨(fun x h => by cases h; exact k159), True.intro, True.intro⟩, True.intro⟩⟩, ⟨(fun x h => by cases h; exact k47), ⟨(fun x h => by cases h; exact k79), ⟨(fun x h => by cases h; exact k143), True.intro, True.intro⟩, True.intro⟩, ⟨(fun x h => by cases h; exact k111), True.intro, True.intro⟩⟩⟩, ⟨(fun x h => by cases h; exact k23), ⟨(fun x h => by cases h; exact k39), ⟨(fun x h => by cases h; exact k71), ⟨(fun x h => by cases h; exact k135), True.intro, True.intro⟩, True.intro⟩, ⟨(fun x h => by cases h; exact k103), True.intro, True.intro⟩⟩, ⟨(fun x h => by cases h; exact k55), ⟨(fun x h => by cases h; exact k87), ⟨(fun x h => by cases h; exact k151), True.intro, True.intro⟩, True.intro⟩, ⟨(fun x h => by cases h; exact k119), True.intro, True.intro⟩⟩⟩⟩, ⟨(fun x h => by cases h; exact k11), ⟨(fun x h => by cases h; exact k19), ⟨(fun x h => by cases h; exact k35), ⟨(fun x h => by cases h; exact k67), ⟨(fun x h => by cases h; exact k131), True.intro, True.intro⟩, True.intro⟩, ⟨(fun x h => by cases h; exact k99), ⟨(fun x h => by cases h; exact k163), True.intro, True.intro⟩, True.intro⟩⟩, ⟨(fun x h => by cases h; exact k51), ⟨(fun x h => by cases h; exact k83), ⟨(fun x h => by cases h; exact k147), True.intro, True.intro⟩, True.intro⟩, ⟨(fun x h => by cases h; exact k115), True.intro, True.intro⟩⟩⟩, ⟨(fun x h => by cases h; exact k27), ⟨(fun x h => by cases h; exact k43), ⟨(fun x h => by cases h; exact k75), ⟨(fun x h => by cases h; exact k139), True.intro, True.intro⟩, True.intro⟩, ⟨(fun x h => by cases h; exact k107), True.intro, True.intro⟩⟩, ⟨(fun x h => by cases h; exact k59), ⟨(fun x h => by cases h; exact k91), ⟨(fun x h => by cases h; exact k155), True.intro, True.intro⟩, True.intro⟩, ⟨(fun x h => by cases h; exact k123), True.intro, True.intro⟩⟩⟩⟩⟩, ⟨(fun x h => by cases h; exact k5), ⟨(fun x h => by cases h; exact k9), ⟨(fun x h => by cases h; exact k17), ⟨(fun x h => by cases h; exact k33), ⟨(fun x h => by cases h; exact k65), ⟨(fun x h => by cases h; exact k129), True.intro, True.intro⟩, True.intro⟩, ⟨(fun x h => by cases h; exact k97), ⟨(fun x h => by cases h; exact k161), True.intro, True.intro⟩, True.intro⟩⟩, ⟨(fun x h => by cases h; exact k49), ⟨(fun x h => by cases h; exact k81), ⟨(fun x h => by cases h; exact k145), True.intro, True.intro⟩, True.intro⟩, ⟨(fun x h => by cases h; exact k113), True.intro, True.intro⟩⟩⟩, ⟨(fun x h => by cases h; exact k25), ⟨(fun x h => by cases h; exact k41), ⟨(fun x h => by cases h; exact k73), ⟨(fun x h => by cases h; exact k137), True.intro, True.intro⟩, True.intro⟩, ⟨(fun x h => by cases h; exact k105), True.intro, True.intro⟩⟩, ⟨(fun x h => by cases h; exact k57), ⟨(fun x h => by cases h; exact k89), ⟨(fun x h => by cases h; exact k153), True.intro, True.intro⟩, True.intro⟩, ⟨(fun x h => by cases h; exact k121), True.intro, True.intro⟩⟩⟩⟩, ⟨(fun x h => by cases h; exact k13), ⟨(fun x h => by cases h; exact k21), ⟨(fun x h => by cases h; exact k37), ⟨(fun x h => by cases h; exact k69), ⟨(fun x h => by cases h; exact k133), True.intro, True.intro⟩, True.intro⟩, ⟨(fun x h => by cases h; exact k101), ⟨(fun x h => by cases h; exact k165), True.intro, True.intro⟩, True.intro⟩⟩, ⟨(fun x h => by cases h; exact k53), ⟨(fun x h => by cases h; exact k85), ⟨(fun x h => by cases h; exact k149), True.intro, True.intro⟩, True.intro⟩, ⟨(fun x h => by cases h; exact k117), True.intro, True.intro⟩⟩⟩, ⟨(fun x h => by cases h; exact k29), ⟨(fun x h => by cases h; exact k45), ⟨(fun x h => by cases h; exact k77), ⟨(fun x h => by cases h; exact k141), True.intro, True.intro⟩, True.intro⟩, ⟨(fun x h => by cases h; exact k109), True.intro, True.intro⟩⟩, ⟨(fun x h => by cases h; exact k61), ⟨(fun x h => by cases h; exact k93), ⟨(fun x h => by cases h; exact k157), True.intro, True.intro⟩, True.intro⟩, ⟨(fun x h => by cases h; exact k125), True.intro, True.intro⟩⟩⟩⟩⟩⟩, ⟨(fun x h => by cases h), ⟨(fun x h => by cases h; exact k4), ⟨(fun x h => by cases h; exact k8), ⟨(fun x h => by cases h; exact k16), ⟨(fun x h => by cases h; exact k32), ⟨(fun x h => by cases h; exact k64), ⟨(fun x h => by cases h; exact k128), True.intro, True.intro⟩, True.intro⟩, ⟨(fun x h => by cases h; exact k96), ⟨(fun x h => by cases h; exact k160), True.intro, True.intro⟩, True.intro⟩⟩, ⟨(fun x h => by cases h; exact k48), ⟨(fun x h => by cases h; exact k80), ⟨(fun x h => by cases h; exact k144), True.intro, True.intro⟩, True.intro⟩, ⟨(fun x h => by cases h; exact k112), True.intro, True.intro⟩⟩⟩, ⟨(fun x h => by cases h; exact k24), ⟨(fun x h => by cases h; exact k40), ⟨(fun x h => by cases h; exact k72), ⟨(fun x h => by cases h; exact k136), True.intro, True.intro⟩, True.intro⟩, ⟨(fun x h => by cases h; exact k104), True.intro, True.intro⟩⟩, ⟨(fun x h => by cases h; exact k56), ⟨(fun x h => by cases h; exact k88), ⟨(fun x h => by cases h; exact k152), True.intro, True.intro⟩, True.intro⟩, ⟨(fun x h => by cases h; exact k120), True.intro, True.intro⟩⟩⟩⟩, ⟨(fun x h => by cases h; exact k12), ⟨(fun x h => by cases h; exact k20), ⟨(fun x h => by cases h; exact k36), ⟨(fun x h => by cases h; exact k68), ⟨(fun x h => by cases h; exact k132), True.intro, True.intro⟩, True.intro⟩, ⟨(fun x h => by cases h; exact k100), ⟨(fun x h => by cases h; exact k164), True.intro, True.intro⟩, True.intro⟩⟩, ⟨(fun x h => by cases h; exact k52), ⟨(fun x h => by cases h; exact k84), ⟨(fun x h => by cases h; exact k148), True.intro, True.intro⟩, True.intro⟩, ⟨(fun x h => by cases h; exact k116), True.intro, True.intro⟩⟩⟩, ⟨(fun x h => by cases h; exact k28), ⟨(fun x h => by cases h; exact k44), ⟨(fun x h => by cases h; exact k76), ⟨(fun x h => by cases h; exact k140), True.intro, True.intro⟩, True.intro⟩, ⟨(fun x h => by cases h; exact k108), True.intro, True.intro⟩⟩, ⟨(fun x h => by cases h; exact k60), ⟨(fun x h => by cases h; exact k92), ⟨(fun x h => by cases h; exact k156), True.intro, True.intro⟩, True.intro⟩, ⟨(fun x h => by cases h; exact k124), True.intro, True.intro⟩⟩⟩⟩⟩, ⟨(fun x h => by cases h; exact k6), ⟨(fun x h => by cases h; exact k10), ⟨(fun x h => by cases h; exact k18), ⟨(fun x h => by cases h; exact k34), ⟨(fun x h => by cases h; exact k66), ⟨(fun x h => by cases h; exact k130), True.intro, True.intro⟩, True.intro⟩, ⟨(fun x h => by cases h; exact k98), ⟨(fun x h => by cases h; exact k162), True.intro, True.intro⟩, True.intro⟩⟩, ⟨(fun x h => by cases h; exact k50), ⟨(fun x h => by cases h; exact k82), ⟨(fun x h => by cases h; exact k146), True.intro, True.intro⟩, True.intro⟩, ⟨(fun x h => by cases h; exact k114), True.intro, True.intro⟩⟩⟩, ⟨(fun x h => by cases h; exact k26), ⟨(fun x h => by cases h; exact k42), ⟨(fun x h => by cases h; exact k74), ⟨(fun x h => by cases h; exact k138), True.intro, True.intro⟩, True.intro⟩, ⟨(fun x h => by cases h; exact k106), True.intro, True.intro⟩⟩, ⟨(fun x h => by cases h; exact k58), ⟨(fun x h => by cases h; exact k90), ⟨(fun x h => by cases h; exact k154), True.intro, True.intro⟩, True.intro⟩, ⟨(fun x h => by cases h; exact k122), True.intro, True.intro⟩⟩⟩⟩, ⟨(fun x h => by cases h; exact k14), ⟨(fun x h => by cases h; exact k22), ⟨(fun x h => by cases h; exact k38), ⟨(fun x h => by cases h; exact k70), ⟨(fun x h => by cases h; exact k134), True.intro, True.intro⟩, True.intro⟩, ⟨(fun x h => by cases h; exact k102), True.intro, True.intro⟩⟩, ⟨(fun x h => by cases h; exact k54), ⟨(fun x h => by cases h; exact k86), ⟨(fun x h => by cases h; exact k150), True.intro, True.intro⟩, True.intro⟩, ⟨(fun x h => by cases h; exact k118), True.intro, True.intro⟩⟩⟩, ⟨(fun x h => by cases h; exact k30), ⟨(fun x h => by cases h; exact k46), ⟨(fun x h => by cases h; exact k78), ⟨(fun x h => by cases h; exact k142), True.intro, True.intro⟩, True.intro⟩, ⟨(fun x h => by cases h; exact k110), True.intro, True.intro⟩⟩, ⟨(fun x h => by cases h; exact k62), ⟨(fun x h => by cases h; exact k94), ⟨(fun x h => by cases h; exact k158), True.intro, True.intro⟩, True.intro⟩, ⟨(fun x h => by cases h; exact k126), True.intro, True.intro⟩⟩⟩⟩⟩⟩⟩
theorem envN : EnvOk Tryz.prog En := ⟨fun f fn h => Tr.all_get fnT (fun i => i) f fn fnT_all h, fun f s h => by cases h⟩
def isT : Out → Heap → Bool := fun o _ => match o with
  | .val v => match v with
    | .bool b => b
    | _ => false
  | _ => false
theorem isT_true {o : Out} {H : Heap} (h : isT o H = true) : o = .val (.bool true) := by
  cases o with
  | ex e fr => cases h
  | val v => cases v <;> first | (cases h; done) | (rename_i b; cases b <;> first | rfl | (cases h; done))
theorem lives_true : runS En 200000 (.call 7 []) tabs.length (tabHeap tabs emptyHeap) isT = true := by kernel_rfl
theorem env0 : EnvOk Tryz.prog E0 := by
  refine ⟨fun f fn h => Tr.all_get fnT (fun i => i) f fn fnT_all h, fun f s h => ?_⟩
  have h' : (if f = 7 then some (tabSum tabs) else none) = some s := h
  split at h'
  · rename_i hf
    injection h' with h'
    subst h' hf
    refine ⟨compF_body k7, ?_⟩
    obtain ⟨o, H0, h1, h2⟩ := run_of_runS lives_true
    have := isT_true h2
    subst this
    exact closed_tab envN rfl h1
  · cases h'
end Go.Iso.Gen
end
