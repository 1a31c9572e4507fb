/-
  the code tables are what the compiler of the evaluator makes of the loaded program; the chapter and its examples run to true.
-/
import Derived.Test.YtpmcjiplhekgpaaGreatDoorGen
import Derived.Test.YtpmcjiplhekgpaaGreatDoorIsoP5
set_option linter.unusedSimpArgs false
set_option linter.unusedVariables false

section
set_option maxRecDepth 100000
set_option maxHeartbeats 4000000
namespace Go.Iso.Gen
open Go.Proofs
theorem k3 : compF Tryz.prog 3 = some F3 := by kernel_rfl
theorem k7 : compF Tryz.prog 7 = some F7 := by kernel_rfl
theorem k8 : compF Tryz.prog 8 = some F8 := by kernel_rfl
theorem k9 : compF Tryz.prog 9 = some F9 := by kernel_rfl
theorem k10 : compF Tryz.prog 10 = some F10 := by kernel_rfl
theorem k11 : compF Tryz.prog 11 = some F11 := by kernel_rfl
theorem k30 : compF Tryz.prog 30 = some F30 := by kernel_rfl
theorem k31 : compF Tryz.prog 31 = some F31 := by kernel_rfl
theorem k32 : compF Tryz.prog 32 = some F32 := by kernel_rfl
theorem k33 : compF Tryz.prog 33 = some F33 := by kernel_rfl
theorem k34 : compF Tryz.prog 34 = some F34 := by kernel_rfl
theorem k50 : compF Tryz.prog 50 = some F50 := by kernel_rfl
theorem k55 : compF Tryz.prog 55 = some F55 := by kernel_rfl
theorem k56 : compF Tryz.prog 56 = some F56 := by kernel_rfl
theorem k60 : compF Tryz.prog 60 = some F60 := by kernel_rfl
theorem k61 : compF Tryz.prog 61 = some F61 := by kernel_rfl
theorem k62 : compF Tryz.prog 62 = some F62 := by kernel_rfl
theorem k63 : compF Tryz.prog 63 = some F63 := by kernel_rfl
theorem k64 : compF Tryz.prog 64 = some F64 := by kernel_rfl
theorem k67 : compF Tryz.prog 67 = some F67 := by kernel_rfl
theorem k69 : compF Tryz.prog 69 = some F69 := by kernel_rfl
theorem k78 : compF Tryz.prog 78 = some F78 := by kernel_rfl
theorem k79 : compF Tryz.prog 79 = some F79 := by kernel_rfl
theorem k80 : compF Tryz.prog 80 = some F80 := by kernel_rfl
theorem k81 : compF Tryz.prog 81 = some F81 := by kernel_rfl
theorem k82 : compF Tryz.prog 82 = some F82 := by kernel_rfl
theorem k83 : compF Tryz.prog 83 = some F83 := by kernel_rfl
theorem k84 : compF Tryz.prog 84 = some F84 := by kernel_rfl
theorem k88 : compF Tryz.prog 88 = some F88 := by kernel_rfl
theorem k89 : compF Tryz.prog 89 = some F89 := by kernel_rfl
theorem k90 : compF Tryz.prog 90 = some F90 := by kernel_rfl
theorem k91 : compF Tryz.prog 91 = some F91 := by kernel_rfl
theorem k92 : compF Tryz.prog 92 = some F92 := by kernel_rfl
theorem k93 : compF Tryz.prog 93 = some F93 := by kernel_rfl
theorem k94 : compF Tryz.prog 94 = some F94 := by kernel_rfl
theorem k95 : compF Tryz.prog 95 = some F95 := by kernel_rfl
theorem k96 : compF Tryz.prog 96 = some F96 := by kernel_rfl
theorem k97 : compF Tryz.prog 97 = some F97 := by kernel_rfl
theorem k98 : compF Tryz.prog 98 = some F98 := by kernel_rfl
theorem k99 : compF Tryz.prog 99 = some F99 := by kernel_rfl
theorem k100 : compF Tryz.prog 100 = some F100 := by kernel_rfl
theorem k101 : compF Tryz.prog 101 = some F101 := by kernel_rfl
theorem k102 : compF Tryz.prog 102 = some F102 := by kernel_rfl
theorem k103 : compF Tryz.prog 103 = some F103 := by kernel_rfl
theorem k104 : compF Tryz.prog 104 = some F104 := by kernel_rfl
theorem k105 : compF Tryz.prog 105 = some F105 := by kernel_rfl
theorem k106 : compF Tryz.prog 106 = some F106 := by kernel_rfl
theorem k107 : compF Tryz.prog 107 = some F107 := by kernel_rfl
theorem k108 : compF Tryz.prog 108 = some F108 := by kernel_rfl
theorem k109 : compF Tryz.prog 109 = some F109 := by kernel_rfl
theorem k110 : compF Tryz.prog 110 = some F110 := by kernel_rfl
theorem k111 : compF Tryz.prog 111 = some F111 := by kernel_rfl
theorem k112 : compF Tryz.prog 112 = some F112 := by kernel_rfl
theorem k113 : compF Tryz.prog 113 = some F113 := by kernel_rfl
theorem k116 : compF Tryz.prog 116 = some F116 := by kernel_rfl
theorem k117 : compF Tryz.prog 117 = some F117 := by kernel_rfl
theorem k118 : compF Tryz.prog 118 = some F118 := by kernel_rfl
theorem k119 : compF Tryz.prog 119 = some F119 := by kernel_rfl
theorem k120 : compF Tryz.prog 120 = some F120 := by kernel_rfl
theorem k121 : compF Tryz.prog 121 = some F121 := by kernel_rfl
theorem k122 : compF Tryz.prog 122 = some F122 := by kernel_rfl
theorem k123 : compF Tryz.prog 123 = some F123 := by kernel_rfl
theorem k124 : compF Tryz.prog 124 = some F124 := by kernel_rfl
theorem k125 : compF Tryz.prog 125 = some F125 := by kernel_rfl
theorem k126 : compF Tryz.prog 126 = some F126 := by kernel_rfl
theorem k127 : compF Tryz.prog 127 = some F127 := by kernel_rfl
theorem k128 : compF Tryz.prog 128 = some F128 := by kernel_rfl
theorem k129 : compF Tryz.prog 129 = some F129 := by kernel_rfl
theorem k130 : compF Tryz.prog 130 = some F130 := by kernel_rfl
theorem k131 : compF Tryz.prog 131 = some F131 := by kernel_rfl
theorem k132 : compF Tryz.prog 132 = some F132 := by kernel_rfl
theorem k133 : compF Tryz.prog 133 = some F133 := by kernel_rfl
theorem k134 : compF Tryz.prog 134 = some F134 := by kernel_rfl
theorem k135 : compF Tryz.prog 135 = some F135 := by kernel_rfl
theorem k136 : compF Tryz.prog 136 = some F136 := by kernel_rfl
theorem k137 : compF Tryz.prog 137 = some F137 := by kernel_rfl
theorem k138 : compF Tryz.prog 138 = some F138 := by kernel_rfl
theorem k139 : compF Tryz.prog 139 = some F139 := by kernel_rfl
theorem k140 : compF Tryz.prog 140 = some F140 := by kernel_rfl
theorem k141 : compF Tryz.prog 141 = some F141 := by kernel_rfl
theorem k142 : compF Tryz.prog 142 = some F142 := by kernel_rfl
theorem k143 : compF Tryz.prog 143 = some F143 := by kernel_rfl
theorem k144 : compF Tryz.prog 144 = some F144 := by kernel_rfl
theorem k145 : compF Tryz.prog 145 = some F145 := by kernel_rfl
theorem k146 : compF Tryz.prog 146 = some F146 := by kernel_rfl
theorem k147 : compF Tryz.prog 147 = some F147 := by kernel_rfl
theorem k148 : compF Tryz.prog 148 = some F148 := by kernel_rfl
theorem k149 : compF Tryz.prog 149 = some F149 := by kernel_rfl
theorem k150 : compF Tryz.prog 150 = some F150 := by kernel_rfl
theorem k151 : compF Tryz.prog 151 = some F151 := by kernel_rfl
theorem k152 : compF Tryz.prog 152 = some F152 := by kernel_rfl
theorem k153 : compF Tryz.prog 153 = some F153 := by kernel_rfl
theorem k154 : compF Tryz.prog 154 = some F154 := by kernel_rfl
theorem k155 : compF Tryz.prog 155 = some F155 := by kernel_rfl
theorem k156 : compF Tryz.prog 156 = some F156 := by kernel_rfl
theorem k157 : compF Tryz.prog 157 = some F157 := by kernel_rfl
theorem k158 : compF Tryz.prog 158 = some F158 := by kernel_rfl
theorem k159 : compF Tryz.prog 159 = some F159 := by kernel_rfl
theorem k160 : compF Tryz.prog 160 = some F160 := by kernel_rfl
theorem k161 : compF Tryz.prog 161 = some F161 := by kernel_rfl
theorem k162 : compF Tryz.prog 162 = some F162 := by kernel_rfl
theorem k163 : compF Tryz.prog 163 = some F163 := by kernel_rfl
theorem k164 : compF Tryz.prog 164 = some F164 := by kernel_rfl
theorem k165 : compF Tryz.prog 165 = some F165 := by kernel_rfl
theorem k166 : compF Tryz.prog 166 = some F166 := by kernel_rfl
theorem k167 : compF Tryz.prog 167 = some F167 := by kernel_rfl
theorem k168 : compF Tryz.prog 168 = some F168 := by kernel_rfl
theorem k169 : compF Tryz.prog 169 = some F169 := by kernel_rfl
theorem k170 : compF Tryz.prog 170 = some F170 := by kernel_rfl
theorem k171 : compF Tryz.prog 171 = some F171 := by kernel_rfl
theorem k172 : compF Tryz.prog 172 = some F172 := by kernel_rfl
theorem k173 : compF Tryz.prog 173 = some F173 := by kernel_rfl
theorem k174 : compF Tryz.prog 174 = some F174 := by kernel_rfl
theorem k175 : compF Tryz.prog 175 = some F175 := by kernel_rfl
theorem k176 : compF Tryz.prog 176 = some F176 := by kernel_rfl
theorem k177 : compF Tryz.prog 177 = some F177 := by kernel_rfl
theorem k178 : compF Tryz.prog 178 = some F178 := by kernel_rfl
theorem k179 : compF Tryz.prog 179 = some F179 := by kernel_rfl
theorem k180 : compF Tryz.prog 180 = some F180 := by kernel_rfl
theorem k181 : compF Tryz.prog 181 = some F181 := by kernel_rfl
theorem k182 : compF Tryz.prog 182 = some F182 := by kernel_rfl
theorem k183 : compF Tryz.prog 183 = some F183 := by kernel_rfl
theorem k184 : compF Tryz.prog 184 = some F184 := by kernel_rfl
theorem k185 : compF Tryz.prog 185 = some F185 := by kernel_rfl
theorem k186 : compF Tryz.prog 186 = some F186 := by kernel_rfl
theorem k187 : compF Tryz.prog 187 = some F187 := by kernel_rfl
theorem k188 : compF Tryz.prog 188 = some F188 := by kernel_rfl
theorem k189 : compF Tryz.prog 189 = some F189 := by kernel_rfl
theorem k190 : compF Tryz.prog 190 = some F190 := by kernel_rfl
theorem k191 : compF Tryz.prog 191 = some F191 := by kernel_rfl
theorem k192 : compF Tryz.prog 192 = some F192 := by kernel_rfl
theorem k193 : compF Tryz.prog 193 = some F193 := by kernel_rfl
theorem k194 : compF Tryz.prog 194 = some F194 := by kernel_rfl
theorem k195 : compF Tryz.prog 195 = some F195 := by kernel_rfl
theorem k196 : compF Tryz.prog 196 = some F196 := by kernel_rfl
theorem k197 : compF Tryz.prog 197 = some F197 := by kernel_rfl
theorem k198 : compF Tryz.prog 198 = some F198 := by kernel_rfl
theorem k199 : compF Tryz.prog 199 = some F199 := by kernel_rfl
theorem k200 : compF Tryz.prog 200 = some F200 := by kernel_rfl
theorem k201 : compF Tryz.prog 201 = some F201 := by kernel_rfl
theorem k202 : compF Tryz.prog 202 = some F202 := by kernel_rfl
theorem k203 : compF Tryz.prog 203 = some F203 := by kernel_rfl
theorem k204 : compF Tryz.prog 204 = some F204 := by kernel_rfl
theorem k205 : compF Tryz.prog 205 = some F205 := by kernel_rfl
theorem k206 : compF Tryz.prog 206 = some F206 := by kernel_rfl
theorem k207 : compF Tryz.prog 207 = some F207 := by kernel_rfl
theorem k208 : compF Tryz.prog 208 = some F208 := by kernel_rfl
theorem k209 : compF Tryz.prog 209 = some F209 := by kernel_rfl
theorem k210 : compF Tryz.prog 210 = some F210 := by kernel_rfl
theorem k211 : compF Tryz.prog 211 = some F211 := by kernel_rfl
theorem k212 : compF Tryz.prog 212 = some F212 := by kernel_rfl
theorem k213 : compF Tryz.prog 213 = some F213 := by kernel_rfl
theorem k214 : compF Tryz.prog 214 = some F214 := by kernel_rfl
theorem k215 : compF Tryz.prog 215 = some F215 := by kernel_rfl
theorem k216 : compF Tryz.prog 216 = some F216 := by kernel_rfl
theorem k217 : compF Tryz.prog 217 = some F217 := by kernel_rfl
theorem k218 : compF Tryz.prog 218 = some F218 := by kernel_rfl
theorem k219 : compF Tryz.prog 219 = some F219 := by kernel_rfl
theorem k220 : compF Tryz.prog 220 = some F220 := by kernel_rfl
theorem k221 : compF Tryz.prog 221 = some F221 := by kernel_rfl
theorem k222 : compF Tryz.prog 222 = some F222 := by kernel_rfl
theorem fnT_all : fnT.All (fun f fn => compF Tryz.prog f = some fn) (fun i => i) := ⟨(fun x h => by cases h), ⟨(fun x h => by cases h), ⟨(fun x h => by cases h; exact k3), ⟨(fun x h => by cases h; exact k7), ⟨(fun x h => by cases h), ⟨(fun x h => by cases h; exact k31), ⟨(fun x h => by cases h; exact k63), ⟨(fun x h => by cases h; exact k127), True.intro, True.intro⟩, ⟨(fun x h => by cases h; exact k191), True.intro, True.intro⟩⟩, ⟨(fun x h => by cases h; exact k95), ⟨(fun x h => by cases h; exact k159), True.intro, True.intro⟩, True.intro⟩⟩, ⟨(fun x h => by cases h), ⟨(fun x h => by cases h; exact k79), ⟨(fun x h => by cases h; exact k143), True.intro, True.intro⟩, ⟨(fun x h => by cases h; exact k207), True.intro, True.intro⟩⟩, ⟨(fun x h => by cases h; exact k111), ⟨(fun x h => by cases h; exact k175), True.intro, True.intro⟩, True.intro⟩⟩⟩, ⟨(fun x h => by cases h), ⟨(fun x h => by cases h), ⟨(fun x h => by cases h), ⟨(fun x h => by cases h; exact k135), True.intro, True.intro⟩, ⟨(fun x h => by cases h; exact k199), True.intro, True.intro⟩⟩, ⟨(fun x h => by cases h; exact k103), ⟨(fun x h => by cases h; exact k167), True.intro, True.intro⟩, True.intro⟩⟩, ⟨(fun x h => by cases h; exact k55), ⟨(fun x h => by cases h), ⟨(fun x h => by cases h; exact k151), True.intro, True.intro⟩, ⟨(fun x h => by cases h; exact k215), True.intro, True.intro⟩⟩, ⟨(fun x h => by cases h; exact k119), ⟨(fun x h => by cases h; exact k183), True.intro, True.intro⟩, True.intro⟩⟩⟩⟩, ⟨(fun x h => by cases h; exact k11), ⟨(fun x h => by cases h), ⟨(fun x h => by cases h), ⟨(fun x h => by cases h; exact k67), ⟨(fun x h => by cases h; exact k131), True.intro, True.intro⟩, ⟨(fun x h => by cases h; exact k195), True.intro, True.intro⟩⟩, ⟨(fun x h => by cases h; exact k99), ⟨(fun x h => by cases h; exact k163), True.intro, True.intro⟩, True.intro⟩⟩, ⟨(fun x h => by cases h), ⟨(fun x h => by cases h; exact k83), ⟨(fun x h => by cases h; exact k147), True.intro, True.intro⟩, ⟨(fun x h => by cases h; exact k211), True.intro, True.intro⟩⟩, ⟨(fun x h => by cases h), ⟨(fun x h => by cases h; exact k179), True.intro, True.intro⟩, True.intro⟩⟩⟩, ⟨(fun x h => by cases h), ⟨(fun x h => by cases h), ⟨(fun x h => by cases h), ⟨(fun x h => by cases h; exact k139), True.intro, True.intro⟩, ⟨(fun x h => by cases h; exact k203), True.intro, True.intro⟩⟩, ⟨(fun x h => by cases h; exact k107), ⟨(fun x h => by cases h; exact k171), True.intro, True.intro⟩, True.intro⟩⟩, ⟨(fun x h => by cases h), ⟨(fun x h => by cases h; exact k91), ⟨(fun x h => by cases h; exact k155), True.intro, True.intro⟩, ⟨(fun x h => by cases h; exact k219), True.intro, True.intro⟩⟩, ⟨(fun x h => by cases h; exact k123), ⟨(fun x h => by cases h; exact k187), True.intro, True.intro⟩, True.intro⟩⟩⟩⟩⟩, ⟨(fun x h => by cases h), ⟨(fun x h => by cases h; exact k9), ⟨(fun x h => by cases h), ⟨(fun x h => by cases h; exact k33), ⟨(fun x h => by cases h), ⟨(fun x h => by cases h; exact k129), True.intro, True.intro⟩, ⟨(fun x h => by cases h; exact k193), True.intro, True.intro⟩⟩, ⟨(fun x h => by cases h; exact k97), ⟨(fun x h => by cases h; exact k161), True.intro, True.intro⟩, True.intro⟩⟩, ⟨(fun x h => by cases h), ⟨(fun x h => by cases h; exact k81), ⟨(fun x h => by cases h; exact k145), True.intro, True.intro⟩, ⟨(fun x h => by cases h; exact k209), True.intro, True.intro⟩⟩, ⟨(fun x h => by cases h; exact k113), ⟨(fun x h => by cases h; exact k177), True.intro, True.intro⟩, True.intro⟩⟩⟩, ⟨(fun x h => by cases h), ⟨(fun x h => by cases h), ⟨(fun x h => by cases h), ⟨(fun x h => by cases h; exact k137), True.intro, True.intro⟩, ⟨(fun x h => by cases h; exact k201), True.intro, True.intro⟩⟩, ⟨(fun x h => by cases h; exact k105), ⟨(fun x h => by cases h; exact k169), True.intro, True.intro⟩, True.intro⟩⟩, ⟨(fun x h => by cases h), ⟨(fun x h => by cases h; exact k89), ⟨(fun x h => by cases h; exact k153), True.intro, True.intro⟩, ⟨(fun x h => by cases h; exact k217), True.intro, True.intro⟩⟩, ⟨(fun x h => by cases h; exact k121), ⟨(fun x h => by cases h; exact k185), True.intro, True.intro⟩, True.intro⟩⟩⟩⟩, ⟨(fun x h => by cases h), ⟨(fun x h => by cases h), ⟨(fun x h => by cases h), ⟨(fun x h => by cases h; exact k69), ⟨(fun x h => by cases h; exact k133), True.intro, True.intro⟩, ⟨(fun x h => by cases h; exact k197), True.intro, True.intro⟩⟩, ⟨(fun x h => by cases h; exact k101), ⟨(fun x h => by cases h; exact k165), True.intro, True.intro⟩, True.intro⟩⟩, ⟨(fun x h => by cases h), ⟨(fun x h => by cases h), ⟨(fun x h => by cases h; exact k149), True.intro, True.intro⟩, ⟨(fun x h => by cases h; exact k213), True.intro, True.intro⟩⟩, ⟨(fun x h => by cases h; exact k117), ⟨(fun x h => by cases h; exact k181), True.intro, True.intro⟩, True.intro⟩⟩⟩, ⟨(fun x h => by cases h), ⟨(fun x h => by cases h), ⟨(fun x h => by cases h), ⟨(fun x h => by cases h; exact k141), True.intro, True.intro⟩, ⟨(fun x h => by cases h; exact k205), True.intro, True.intro⟩⟩, ⟨(fun x h => by cases h; exact k109), ⟨(fun x h => by cases h; exact k173), True.intro, True.intro⟩, True.intro⟩⟩, ⟨(fun x h => by cases h; exact k61), ⟨(fun x h => by cases h; exact k93), ⟨(fun x h => by cases h; exact k157), True.intro, True.intro⟩, ⟨(fun x h => by cases h; exact k221), True.intro, True.intro⟩⟩, ⟨(fun x h => by cases h; exact k125), ⟨(fun x h => by cases h; exact k189), True.intro, True.intro⟩, True.intro⟩⟩⟩⟩⟩⟩, ⟨(fun x h => by cases h), ⟨(fun x h => by cases h), ⟨(fun x h => by cases h; exact k8), ⟨(fun x h => by cases h), ⟨(fun x h => by cases h; exact k32), ⟨(fun x h => by cases h; exact k64), ⟨(fun x h => by cases h; exact k128), True.intro, True.intro⟩, ⟨(fun x h => by cases h; exact k192), True.intro, True.intro⟩⟩, ⟨(fun x h => by cases h; exact k96), ⟨(fun x h => by cases h; exact k160), True.intro, True.intro⟩, True.intro⟩⟩, ⟨(fun x h => by cases h), ⟨(fun x h => by cases h; exact k80), ⟨(fun x h => by cases h; exact k144), True.intro, True.intro⟩, ⟨(fun x h => by cases h; exact k208), True.intro, True.intro⟩⟩, ⟨(fun x h => by cases h; exact k112), ⟨(fun x h => by cases h; exact k176), True.intro, True.intro⟩, True.intro⟩⟩⟩, ⟨(fun x h => by cases h), ⟨(fun x h => by cases h), ⟨(fun x h => by cases h), ⟨(fun x h => by cases h; exact k136), True.intro, True.intro⟩, ⟨(fun x h => by cases h; exact k200), True.intro, True.intro⟩⟩, ⟨(fun x h => by cases h; exact k104), ⟨(fun x h => by cases h; exact k168), True.intro, True.intro⟩, True.intro⟩⟩, ⟨(fun x h => by cases h; exact k56), ⟨(fun x h => by cases h; exact k88), ⟨(fun x h => by cases h; exact k152), True.intro, True.intro⟩, ⟨(fun x h => by cases h; exact k216), True.intro, True.intro⟩⟩, ⟨(fun x h => by cases h; exact k120), ⟨(fun x h => by cases h; exact k184), True.intro, True.intro⟩, True.intro⟩⟩⟩⟩, ⟨(fun x h => by cases h), ⟨(fun x h => by cases h), ⟨(fun x h => by cases h), ⟨(fun x h => by cases h), ⟨(fun x h => by cases h; exact k132), True.intro, True.intro⟩, ⟨(fun x h => by cases h; exact k196), True.intro, True.intro⟩⟩, ⟨(fun x h => by cases h; exact k100), ⟨(fun x h => by cases h; exact k164), True.intro, True.intro⟩, True.intro⟩⟩, ⟨(fun x h => by cases h), ⟨(fun x h => by cases h; exact k84), ⟨(fun x h => by cases h; exact k148), True.intro, True.intro⟩, ⟨(fun x h => by cases h; exact k212), True.intro, True.intro⟩⟩, ⟨(fun x h => by cases h; exact k116), ⟨(fun x h => by cases h; exact k180), True.intro, True.intro⟩, True.intro⟩⟩⟩, ⟨(fun x h => by cases h), ⟨(fun x h => by cases h), ⟨(fun x h => by cases h), ⟨(fun x h => by cases h; exact k140), True.intro, True.intro⟩, ⟨(fun x h => by cases h; exact k204), True.intro, True.intro⟩⟩, ⟨(fun x h => by cases h; exact k108), ⟨(fun x h => by cases h; exact k172), True.intro, True.intro⟩, True.intro⟩⟩, ⟨(fun x h => by cases h; exact k60), ⟨(fun x h => by cases h; exact k92), ⟨(fun x h => by cases h; exact k156), True.intro, True.intro⟩, ⟨(fun x h => by cases h; exact k220), True.intro, True.intro⟩⟩, ⟨(fun x h => by cases h; exact k124), ⟨(fun x h => by cases h; exact k188), True.intro, True.intro⟩, True.intro⟩⟩⟩⟩⟩, ⟨(fun x h => by cases h), ⟨(fun x h => by cases h; exact k10), ⟨(fun x h => by cases h), ⟨(fun x h => by cases h; exact k34), ⟨(fun x h => by cases h), ⟨(fun x h => by cases h; exact k130), True.intro, True.intro⟩, ⟨(fun x h => by cases h; exact k194), True.intro, True.intro⟩⟩, ⟨(fun x h => by cases h; exact k98), ⟨(fun x h => by cases h; exact k162), True.intro, True.intro⟩, True.intro⟩⟩, ⟨(fun x h => by cases h; exact k50), ⟨(fun x h => by cases h; exact k82), ⟨(fun x h => by cases h; exact k146), True.intro, True.intro⟩, ⟨(fun x h => by cases h; exact k210), True.intro, True.intro⟩⟩, ⟨(fun x h => by cases h), ⟨(fun x h => by cases h; exact k178), True.intro, True.intro⟩, True.intro⟩⟩⟩, ⟨(fun x h => by cases h), ⟨(fun x h => by cases h), ⟨(fun x h => by cases h), ⟨(fun x h => by cases h; exact k138), True.intro, True.intro⟩, ⟨(fun x h => by cases h; exact k202), True.intro, True.intro⟩⟩, ⟨(fun x h => by cases h; exact k106), ⟨(fun x h => by cases h; exact k170), True.intro, True.intro⟩, True.intro⟩⟩, ⟨(fun x h => by cases h), ⟨(fun x h => by cases h; exact k90), ⟨(fun x h => by cases h; exact k154), True.intro, True.intro⟩, ⟨(fun x h => by cases h; exact k218), True.intro, True.intro⟩⟩, ⟨(fun x h => by cases h; exact k122), ⟨(fun x h => by cases h; exact k186), True.intro, True.intro⟩, True.intro⟩⟩⟩⟩, ⟨(fun x h => by cases h), ⟨(fun x h => by cases h), ⟨(fun x h => by cases h), ⟨(fun x h => by cases h), ⟨(fun x h => by cases h; exact k134), True.intro, True.intro⟩, ⟨(fun x h => by cases h; exact k198), True.intro, True.intro⟩⟩, ⟨(fun x h => by cases h; exact k102), ⟨(fun x h => by cases h; exact k166), True.intro, True.intro⟩, True.intro⟩⟩, ⟨(fun x h => by cases h), ⟨(fun x h => by cases h), ⟨(fun x h => by cases h; exact k150), True.intro, True.intro⟩, ⟨(fun x h => by cases h; exact k214), True.intro, True.intro⟩⟩, ⟨(fun x h => by cases h; exact k118), ⟨(fun x h => by cases h; exact k182), True.intro, True.intro⟩, True.intro⟩⟩⟩, ⟨(fun x h => by cases h; exact k30), ⟨(fun x h => by cases h), ⟨(fun x h => by cases h; exact k78), ⟨(fun x h => by cases h; exact k142), True.intro, True.intro⟩, ⟨(fun x h => by cases h; exact k206), True.intro, True.intro⟩⟩, ⟨(fun x h => by cases h; exact k110), ⟨(fun x h => by cases h; exact k174), True.intro, True.intro⟩, True.intro⟩⟩, ⟨(fun x h => by cases h; exact k62), ⟨(fun x h => by cases h; exact k94), ⟨(fun x h => by cases h; exact k158), True.intro, True.intro⟩, ⟨(fun x h => by cases h; exact k222), True.intro, True.intro⟩⟩, ⟨(fun x h => by cases h; exact k126), ⟨(fun x h => by cases h; exact k190), True.intro, True.intro⟩, True.intro⟩⟩⟩⟩⟩⟩⟩
theorem envN : EnvOk Tryz.prog En := ⟨fun f fn h => Tr.all_get fnT (fun i => i) f fn fnT_all h, fun f s h => by cases h⟩
def isT : Out → Heap → Bool := fun o _ => match o with
  | .val v => match v with
    | .bool b => b
    | _ => false
  | _ => false
theorem isT_true {o : Out} {H : Heap} (h : isT o H = true) : o = .val (.bool true) := by
  cases o with
  | ex e fr => cases h
  | val v => cases v <;> first | (cases h; done) | (rename_i b; cases b <;> first | rfl | (cases h; done))
theorem lives_true : runS En 200000 (.call 7 []) tabs.length (tabHeap tabs emptyHeap) isT = true := by kernel_rfl
theorem env0 : EnvOk Tryz.prog E0 := by
  refine ⟨fun f fn h => Tr.all_get fnT (fun i => i) f fn fnT_all h, fun f s h => ?_⟩
  have h' : (if f = 7 then some (tabSum tabs) else none) = some s := h
  split at h'
  · rename_i hf
    injection h' with h'
    subst h' hf
    refine ⟨compF_body k7, ?_⟩
    obtain ⟨o, H0, h1, h2⟩ := run_of_runS lives_true
    have := isT_true h2
    subst this
    exact closed_tab envN rfl h1
  · cases h'
end Go.Iso.Gen
end
