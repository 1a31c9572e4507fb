/-
  the code that the claim reaches, for the evaluator.
-/
import Derived.Test.YtiofebdpgbojmaaGreatDoorGenH
set_option linter.unusedSimpArgs false
set_option linter.unusedVariables false
set_option maxRecDepth 100000
set_option maxHeartbeats 4000000
set_option linter.defProp false
namespace Go.Iso.Gen
open Go.Proofs Go.Proofs.Tryz
noncomputable section
section
variable {lo:Nat}{rd:Option Nat}{fr:Fr}{H:Heap}{Q:Aq}{args:List IV}
def WH:=ab f9 2
def WG:=ab f9 267
def WF:=ab f9 1099
def WE:=ab f9 2635
def WD:=ab f9 9803
def WC:=ab f9 11851
def WB:=ab f9 24139
def OZ:=ab f9 48715
def O9:=ab f39 2
def O8:=ab f39 5
def O7:=ab f39 11
def XL:=kK f43 5 [(.seq,[⟨some 1,.mkmap,[],none,true,0,0⟩,⟨none,.mapUpd (false,[.int]),[.tmp 1,.val (.int .u8 1),.val (.fn 83 [] [])],none,true,0,0⟩,⟨none,.mapUpd (false,[.int]),[.tmp 1,.val (.int .u8 2),.val (.fn 84 [] [])],none,true,0,0⟩,⟨none,.mapUpd (false,[.int]),[.tmp 1,.val (.int .u8 3),.val (.fn 85 [] [])],none,true,0,0⟩,⟨none,.mapUpd (false,[.int]),[.tmp 1,.val (.int .u8 4),.val (.fn 86 [] [])],none,true,0,0⟩,⟨none,.mapUpd (false,[.int]),[.tmp 1,.val (.int .u8 5),.val (.fn 87 [] [])],none,true,0,0⟩,⟨none,.mapUpd (false,[.int]),[.tmp 1,.val (.int .u8 6),.val (.fn 88 [] [])],none,true,0,0⟩,⟨none,.mapUpd (false,[.int]),[.tmp 1,.val (.int .u8 7),.val (.fn 89 [] [])],none,true,0,0⟩,⟨none,.mapUpd (false,[.int]),[.tmp 1,.val (.int .u8 8),.val (.fn 90 [] [])],none,true,0,0⟩,⟨some 2,.move,[.tmp 1],none,true,0,0⟩,⟨some 0,.move,[.tmp 2],none,true,0,0⟩])] (by kernel_rfl)
def TT:=kK f74 21295 [(.seq,[⟨some 47,.load (some 4),[.tmp 4],none,true,0,0⟩]),(.seq,[⟨some 48,.call,[.val (.fn 127 [] []),.tmp 47],none,true,1,1⟩]),(.seq,[⟨some 49,.un .not,[.tmp 48],none,true,2,3⟩]),(.seq,[⟨some 50,.move,[.tmp 49],none,true,3,7⟩]),(.seq,[⟨some 51,.move,[.tmp 3],some (50,false),true,4,15⟩]),(.seq,[⟨some 52,.bin .gtr,[.tmp 51,.val (.int .i64 0)],some (50,false),true,5,31⟩]),(.seq,[⟨some 53,.move,[.tmp 52],some (50,false),true,6,63⟩]),(.free,[⟨some 54,.fieldAddr 4,[.tmp 1],some (53,true),false,7,127⟩,⟨some 55,.load none,[.tmp 54],some (53,true),false,8,255⟩,⟨some 56,.move,[.tmp 3],some (53,true),false,9,127⟩,⟨some 57,.bin .sub,[.tmp 56,.val (.int .i64 1)],some (53,true),false,10,639⟩,⟨some 58,.idxSl 4,[.tmp 55,.tmp 57],some (53,true),false,11,2047⟩,⟨some 59,.load (some 4),[.tmp 58],some (53,true),false,12,4095⟩,⟨some 60,.load (some 4),[.tmp 4],some (53,true),false,13,127⟩]),(.seq,[⟨some 61,.call,[.val (.fn 128 [] []),.tmp 59,.tmp 60],some (53,true),true,14,16383⟩]),(.seq,[⟨some 62,.pick,[.tmp 53,.tmp 61,.val (.bool false)],some (50,false),true,15,32767⟩]),(.seq,[⟨some 63,.pick,[.tmp 50,.val (.bool true),.tmp 62],none,true,16,65535⟩])] (by kernel_rfl)
def XJ:=kK f83 5 [(.free,[⟨some 8,.move,[.tmp 0],none,false,0,0⟩,⟨some 9,.nilCheck,[.tmp 8],none,false,1,1⟩,⟨some 10,.fieldAddr 3,[.tmp 9],none,false,2,3⟩,⟨some 11,.load none,[.tmp 10],none,false,3,7⟩,⟨some 12,.fieldAddr 4,[.tmp 3],none,false,4,0⟩,⟨some 13,.load none,[.tmp 12],none,false,5,16⟩,⟨some 14,.bin .sub,[.tmp 13,.val (.int .u8 1)],none,false,6,48⟩,⟨some 15,.idxSl 5,[.tmp 11,.tmp 14],none,false,7,127⟩,⟨some 16,.load (some 5),[.tmp 15],none,false,8,255⟩,⟨some 17,.fieldAddr 1,[.tmp 3],none,false,9,0⟩,⟨some 18,.load none,[.tmp 17],none,false,10,512⟩,⟨some 19,.call,[.val (.fn 136 [] []),.tmp 16,.tmp 18],none,false,11,2047⟩,⟨some 7,.move,[.tmp 19],none,false,12,4095⟩,⟨some 20,.extract 0,[.tmp 7],none,false,13,8191⟩,⟨some 21,.extract 1,[.tmp 7],none,false,14,8191⟩,⟨some 5,.alloc 122 5 [.bool false,.int .i64 0,.int .i64 0,.bool false,.nilSlice],[],none,false,15,0⟩,⟨none,.store 5,[.tmp 5,.tmp 20],none,true,16,49151⟩]),(.seq,[⟨some 6,.move,[.tmp 21],none,true,17,131071⟩])] (by kernel_rfl)
def K5:=ab f111 139
def K4:=ab f111 2251
def K3:=ab f111 5323
def Uo:=kK f113 5323 [(.free,[⟨some 16,.move,[.tmp 0],none,false,0,0⟩,⟨some 17,.move,[.tmp 5],none,false,1,0⟩,⟨some 18,.idxSl 5,[.tmp 16,.tmp 17],none,false,2,3⟩,⟨some 19,.load (some 5),[.tmp 18],none,false,3,7⟩,⟨some 20,.move,[.tmp 1],none,false,4,0⟩,⟨some 21,.move,[.tmp 5],none,false,5,0⟩,⟨some 22,.idxSl 5,[.tmp 20,.tmp 21],none,false,6,48⟩,⟨some 23,.load (some 5),[.tmp 22],none,false,7,112⟩]),(.seq,[⟨some 24,.eqFlat true [.int,.int,.int,.int,.int],[.tmp 19,.tmp 23],none,true,8,255⟩])] (by kernel_rfl)
def Pz:=kK f118 8767 [(.free,[⟨some 72,.move,[.tmp 0],none,true,0,0⟩,⟨some 73,.move,[.tmp 8],none,true,1,0⟩,⟨some 74,.idxSl 6,[.tmp 72,.tmp 73],none,true,2,3⟩,⟨some 75,.fieldAddr 4,[.tmp 74],none,true,3,7⟩,⟨some 76,.load none,[.tmp 75],none,true,4,15⟩,⟨some 77,.move,[.tmp 7],none,false,5,0⟩]),(.seq,[⟨some 78,.bin .eql,[.tmp 76,.tmp 77],none,true,6,63⟩]),(.seq,[⟨some 79,.move,[.tmp 78],none,true,7,127⟩]),(.free,[⟨some 80,.move,[.tmp 0],some (79,true),false,8,255⟩,⟨some 81,.move,[.tmp 8],some (79,true),false,9,255⟩,⟨some 82,.idxSl 6,[.tmp 80,.tmp 81],some (79,true),false,10,1023⟩,⟨some 83,.load (some 6),[.tmp 82],some (79,true),false,11,2047⟩,⟨some 84,.move,[.tmp 1],some (79,true),false,12,255⟩,⟨some 85,.move,[.tmp 2],some (79,true),false,13,255⟩,⟨some 86,.idxSl 3,[.tmp 84,.tmp 85],some (79,true),false,14,12543⟩,⟨some 87,.load (some 3),[.tmp 86],some (79,true),false,15,28927⟩]),(.seq,[⟨some 88,.call,[.val (.fn 156 [] []),.tmp 83,.tmp 87],some (79,true),true,16,65535⟩]),(.seq,[⟨some 89,.pick,[.tmp 79,.tmp 88,.val (.bool false)],none,true,17,131071⟩])] (by kernel_rfl)
def Py:=kK f131 87241471 [(.seq,[⟨some 103,.load none,[.tmp 9],none,true,0,0⟩,⟨some 104,.move,[.tmp 15],none,true,0,0⟩,⟨some 105,.bin .add,[.tmp 104,.val (.int .i64 1)],none,true,0,0⟩,⟨some 106,.conv .u8,[.tmp 105],none,true,0,0⟩,⟨some 107,.move,[.tmp 17],none,true,0,0⟩,⟨some 108,.build [.int .u8 0,.int .i64 0] [(0,1),(1,1)],[.tmp 106,.tmp 107],none,true,0,0⟩,⟨some 109,.lookup 251 (true,[.int,.int]) (.int .i64 0) false,[.tmp 103,.tmp 108],none,true,0,0⟩,⟨some 110,.bin .neq,[.tmp 109,.val (.int .i64 1)],none,true,0,0⟩])] (by kernel_rfl)
def Ue:=kK f141 5 [(.free,[⟨some 16,.move,[.tmp 0],none,false,0,0⟩,⟨some 17,.nilCheck,[.tmp 16],none,false,1,1⟩,⟨some 18,.fieldAddr 3,[.tmp 17],none,false,2,3⟩,⟨some 19,.load none,[.tmp 18],none,false,3,7⟩,⟨some 20,.fieldAddr 4,[.tmp 5],none,false,4,0⟩,⟨some 21,.load none,[.tmp 20],none,false,5,16⟩,⟨some 22,.bin .sub,[.tmp 21,.val (.int .u8 1)],none,false,6,48⟩,⟨some 23,.idxSl 5,[.tmp 19,.tmp 22],none,false,7,127⟩,⟨some 24,.load (some 5),[.tmp 23],none,false,8,255⟩,⟨some 25,.call,[.val (.fn 175 [] []),.tmp 24],none,false,9,511⟩,⟨some 15,.move,[.tmp 25],none,false,10,1023⟩,⟨some 26,.extract 0,[.tmp 15],none,false,11,2047⟩,⟨some 27,.extract 1,[.tmp 15],none,false,12,2047⟩,⟨some 28,.extract 2,[.tmp 15],none,false,13,2047⟩,⟨some 9,.alloc 122 5 [.bool false,.int .i64 0,.int .i64 0,.bool false,.nilSlice],[],none,false,14,0⟩,⟨some 10,.alloc 274 3 [.int .i64 0,.bool false,.nilSlice],[],none,false,15,0⟩,⟨none,.store 5,[.tmp 9,.tmp 26],none,true,16,53247⟩,⟨none,.store 3,[.tmp 10,.tmp 27],none,true,17,122879⟩]),(.seq,[⟨some 11,.move,[.tmp 28],none,true,18,262143⟩])] (by kernel_rfl)
def Ud:=kK f141 191 [(.free,[⟨some 53,.move,[.tmp 0],none,false,0,0⟩,⟨some 54,.nilCheck,[.tmp 53],none,false,1,1⟩,⟨some 55,.fieldAddr 1,[.tmp 54],none,false,2,3⟩,⟨some 56,.load (some 2),[.tmp 55],none,false,3,7⟩,⟨some 57,.fieldAddr 2,[.tmp 5],none,false,4,0⟩,⟨some 58,.load (some 2),[.tmp 57],none,false,5,16⟩,⟨some 59,.move,[.tmp 3],none,false,6,0⟩,⟨some 60,.call,[.val (.fn 81 [] []),.tmp 59],none,false,7,64⟩,⟨some 61,.load (some 2),[.tmp 12],none,false,8,0⟩,⟨some 62,.buildSl 149 2 1 [.int .u8 0,.int .i64 0] [(0,2)],[.tmp 61],none,false,9,256⟩,⟨some 63,.append 149 2 16,[.tmp 60,.tmp 62],none,false,10,960⟩,⟨some 64,.call,[.val (.fn 144 [] []),.tmp 56,.tmp 58,.tmp 63],none,false,11,2047⟩,⟨some 52,.move,[.tmp 64],none,false,12,4095⟩,⟨some 65,.extract 0,[.tmp 52],none,false,13,8191⟩,⟨some 66,.extract 1,[.tmp 52],none,false,14,8191⟩,⟨some 14,.alloc 36 2 [.nilSlice,.nilSlice],[],none,false,15,0⟩,⟨none,.store 2,[.tmp 14,.tmp 65],none,true,16,49151⟩]),(.seq,[⟨some 11,.move,[.tmp 66],none,true,17,131071⟩])] (by kernel_rfl)
def Pr:=kK f141 3071 [(.free,[⟨some 83,.move,[.tmp 0],none,false,0,0⟩,⟨some 84,.nilCheck,[.tmp 83],none,false,1,1⟩,⟨some 85,.fieldAddr 4,[.tmp 84],none,false,2,3⟩,⟨some 86,.load none,[.tmp 85],none,false,3,7⟩,⟨some 87,.fieldAddr 4,[.tmp 5],none,false,4,0⟩,⟨some 88,.load none,[.tmp 87],none,false,5,16⟩,⟨some 89,.bin .sub,[.tmp 88,.val (.int .u8 1)],none,false,6,48⟩,⟨some 90,.move,[.tmp 0],none,false,7,0⟩,⟨some 91,.nilCheck,[.tmp 90],none,false,8,128⟩,⟨some 92,.fieldAddr 4,[.tmp 91],none,false,9,384⟩,⟨some 93,.load none,[.tmp 92],none,false,10,896⟩,⟨some 94,.fieldAddr 4,[.tmp 5],none,false,11,0⟩,⟨some 95,.load none,[.tmp 94],none,false,12,2048⟩,⟨some 96,.bin .sub,[.tmp 95,.val (.int .u8 1)],none,false,13,6144⟩,⟨some 97,.idxSl 1,[.tmp 93,.tmp 96],none,false,14,16256⟩,⟨some 98,.load none,[.tmp 97],none,false,15,32640⟩,⟨some 99,.load (some 4),[.tmp 13],none,false,16,0⟩,⟨some 100,.buildSl 168 4 1 [.int .u8 0,.bool false,.nilSlice,.nilSlice] [(0,4)],[.tmp 99],none,false,17,65536⟩,⟨some 101,.append 168 4 56,[.tmp 98,.tmp 100],none,true,18,262016⟩]),(.seq,[⟨some 102,.idxSl 1,[.tmp 86,.tmp 89],none,true,19,524287⟩]),(.seq,[⟨none,.store 1,[.tmp 102,.tmp 101],none,true,20,1048575⟩])] (by kernel_rfl)
def wF:=ab f172 279
def CZ:=ab f172 4503
def CY:=ab f172 10647
def CW:=ab f172 39319
def Fb:=ab f172 88471
def xw:=ab f172 47511
def xv:=ab f172 96663
def xu:=ab f172 194967
def xt:=ab f172 1178007
def Fa:=ab f172 18479511
def E9:=ab f172 43645335
def E8:=ab f172 7993751
def E7:=ab f172 1943
def CV:=ab f206 271
def KR:=ab f206 591
def xr:=ab f206 4943
def xq:=ab f206 11087
def E6:=ab f206 23375
def xp:=ab f206 3919
def CU:=ab f215 2
def CT:=ab f215 5
def CR:=ab f215 11
def CQ:=ab f215 39
def KQ:=ab f215 87
def CO:=ab f227 33
def KP:=ab f227 137
def T6:=kK f227 2121 [(.free,[⟨some 18,.move,[.tmp 9],none,true,0,0⟩,⟨some 19,.move,[.tmp 1],none,true,1,0⟩]),(.seq,[⟨some 20,.bin .gtr,[.tmp 18,.tmp 19],none,true,2,3⟩]),(.seq,[⟨some 21,.move,[.tmp 20],none,true,3,7⟩]),(.free,[⟨some 22,.move,[.tmp 3],some (21,true),false,4,15⟩,⟨some 23,.move,[.tmp 0],some (21,true),false,5,15⟩,⟨some 24,.move,[.tmp 9],some (21,true),false,6,15⟩,⟨some 25,.idxSl 5,[.tmp 23,.tmp 24],some (21,true),false,7,111⟩,⟨some 26,.load (some 5),[.tmp 25],some (21,true),false,8,239⟩,⟨some 27,.move,[.tmp 0],some (21,true),false,9,15⟩,⟨some 28,.move,[.tmp 9],some (21,true),false,10,15⟩,⟨some 29,.bin .sub,[.tmp 28,.val (.int .i64 1)],some (21,true),false,11,1039⟩,⟨some 30,.idxSl 5,[.tmp 27,.tmp 29],some (21,true),false,12,3599⟩,⟨some 31,.load (some 5),[.tmp 30],some (21,true),false,13,7695⟩]),(.seq,[⟨some 32,.call,[.tmp 22,.tmp 26,.tmp 31],some (21,true),true,14,16383⟩]),(.seq,[⟨some 33,.bin .lss,[.tmp 32,.val (.int .i64 0)],some (21,true),true,15,32767⟩]),(.seq,[⟨some 34,.pick,[.tmp 21,.tmp 33,.val (.bool false)],none,true,16,65535⟩])] (by kernel_rfl)
def T4:=kK f227 4681 [(.free,[⟨some 37,.move,[.tmp 0],none,false,0,0⟩,⟨some 38,.move,[.tmp 9],none,false,1,0⟩,⟨some 39,.move,[.tmp 0],none,false,2,0⟩,⟨some 40,.move,[.tmp 9],none,false,3,0⟩,⟨some 41,.bin .sub,[.tmp 40,.val (.int .i64 1)],none,false,4,8⟩,⟨some 42,.move,[.tmp 0],none,false,5,0⟩,⟨some 43,.move,[.tmp 9],none,false,6,0⟩,⟨some 44,.bin .sub,[.tmp 43,.val (.int .i64 1)],none,false,7,64⟩,⟨some 45,.idxSl 5,[.tmp 42,.tmp 44],none,false,8,224⟩,⟨some 46,.load (some 5),[.tmp 45],none,false,9,480⟩,⟨some 47,.move,[.tmp 0],none,false,10,0⟩,⟨some 48,.move,[.tmp 9],none,false,11,0⟩,⟨some 49,.idxSl 5,[.tmp 47,.tmp 48],none,false,12,3072⟩,⟨some 50,.load (some 5),[.tmp 49],none,false,13,7168⟩,⟨some 51,.idxSl 5,[.tmp 37,.tmp 38],none,true,14,16355⟩,⟨none,.store 5,[.tmp 51,.tmp 46],none,true,15,32739⟩]),(.seq,[⟨some 52,.idxSl 5,[.tmp 39,.tmp 41],none,true,16,65535⟩]),(.seq,[⟨none,.store 5,[.tmp 52,.tmp 50],none,true,17,131071⟩])] (by kernel_rfl)
def KO:=ab f227 57
def B9:=J0 @WH<|j_ f9 5<|j_ f9 19<|J0 @WG<|J0 @WF<|J0 @WE<|J0 @WD<|j_ f9 38475<|J0 @WC<|J0 @WB<|J0 @OZ<|j_ f9 97867<|j_ f9 196171<|j_ f9 459<|j_ f9 23<|J0 (a7 f9 1) (F9.eq_1)
def BL9:=J0 B9 ((cZ f9 75))
def B21:=j_ f21 2<|j_ f21 5<|j_ f21 11<|J0 (a7 f21 1) (F21.eq_1)
def B32:=j_ f32 2<|j_ f32 9<|j_ f32 37<|j_ f32 19<|j_ f32 43<|j_ f32 155<|j_ f32 23<|j_ f32 79<|j_ f32 559<|j_ f32 9007<|j_ f32 21295<|j_ f32 45871<|j_ f32 160559<|j_ f32 3887<|j_ f32 95<|J0 (a7 f32 1) (F32.eq_1)
def Wr:=J0 B32 ((cZ f32 303))
def B39:=J0 @O9<|J0 @O8<|J0 @O7<|j_ f39 263<|j_ f39 583<|j_ f39 1351<|j_ f39 2887<|j_ f39 3911<|j_ f39 47<|J0 (a7 f39 1) (F39.eq_1)
def aaU:=J0 B39 ((cZ f39 71))
def B43:=j_ f43 2<|J0 @XL<|J0 (a7 f43 1) (F43.eq_1)
def B46:=j_ f46 2<|j_ f46 9<|j_ f46 37<|j_ f46 19<|j_ f46 139<|j_ f46 2251<|j_ f46 5323<|j_ f46 19659<|j_ f46 971<|j_ f46 23<|J0 (a7 f46 1) (F46.eq_1)
def aaT:=J0 B46 ((cZ f46 75))
def B67:=j_ f67 2<|j_ f67 5<|j_ f67 19<|j_ f67 75<|j_ f67 107<|j_ f67 23<|J0 (a7 f67 1) (F67.eq_1)
def B69:=j_ f69 2<|j_ f69 5<|J0 (a7 f69 1) (F69.eq_1)
def B71:=j_ f71 2<|j_ f71 5<|J0 (a7 f71 1) (F71.eq_1)
def B72:=j_ f72 2<|j_ f72 5<|J0 (a7 f72 1) (F72.eq_1)
def B74:=j_ f74 2<|j_ f74 9<|j_ f74 37<|j_ f74 19<|j_ f74 139<|j_ f74 587<|j_ f74 171<|j_ f74 39<|j_ f74 151<|j_ f74 79<|j_ f74 559<|j_ f74 9007<|J0 @TT<|j_ f74 78639<|j_ f74 3887<|j_ f74 95<|J0 (a7 f74 1) (F74.eq_1)
def Wp:=J0 B74 ((cZ f74 303))
def B78:=j_ f78 2<|j_ f78 5<|j_ f78 131<|j_ f78 163<|j_ f78 23<|j_ f78 79<|j_ f78 559<|j_ f78 9007<|j_ f78 13103<|j_ f78 3887<|j_ f78 95<|J0 (a7 f78 1) (F78.eq_1)
def KA:=J0 B78<|J0 (cZ f78 35) ((cZ f78 303))
def B81:=j_ f81 2<|j_ f81 5<|j_ f81 11<|j_ f81 23<|J0 (a7 f81 1) (F81.eq_1)
def B83:=j_ f83 2<|J0 @XJ<|j_ f83 19<|j_ f83 43<|j_ f83 23<|J0 (a7 f83 1) (F83.eq_1)
def B85:=j_ f85 2<|j_ f85 65<|j_ f85 145<|j_ f85 593<|j_ f85 1361<|j_ f85 1233<|j_ f85 2769<|j_ f85 9937<|j_ f85 977<|j_ f85 11<|J0 (a7 f85 1) (F85.eq_1)
def Kz:=J0 B85 ((cZ f85 17))
def B92:=j_ f92 2<|j_ f92 9<|j_ f92 21<|j_ f92 77<|j_ f92 11<|J0 (a7 f92 1) (F92.eq_1)
def B93:=j_ f93 2<|j_ f93 5<|J0 (a7 f93 1) (F93.eq_1)
def B96:=j_ f96 2<|j_ f96 5<|j_ f96 11<|j_ f96 23<|J0 (a7 f96 1) (F96.eq_1)
def ON:=j_ f100 2<|j_ f100 5<|j_ f100 19<|j_ f100 75<|j_ f100 39<|j_ f100 151<|j_ f100 599<|j_ f100 2391<|j_ f100 9559<|j_ f100 2903<|j_ f100 727<|j_ f100 2519<|j_ f100 47<|J0 (a7 f100 1) (aaO.eq_1)
def ado:=j_ f111 2<|j_ f111 9<|j_ f111 37<|j_ f111 19<|J0 @K5<|J0 @K4<|J0 @K3<|j_ f111 11467<|j_ f111 40139<|j_ f111 971<|j_ f111 23<|J0 (a7 f111 1) (aaL.eq_1)
def Tz:=J0 ado ((cZ f111 75))
def adm:=j_ f113 2<|j_ f113 9<|j_ f113 37<|j_ f113 19<|j_ f113 139<|j_ f113 2251<|J0 @Uo<|j_ f113 19659<|j_ f113 971<|j_ f113 23<|J0 (a7 f113 1) (aaJ.eq_1)
def Xy:=J0 adm ((cZ f113 75))
def It:=j_ f118 2<|j_ f118 5<|j_ f118 19<|j_ f118 75<|j_ f118 23<|j_ f118 527<|j_ f118 655<|j_ f118 159<|j_ f118 607<|j_ f118 2111<|J0 @Pz<|j_ f118 37439<|j_ f118 3647<|j_ f118 383<|J0 (a7 f118 1) (aaE.eq_1)
def uh:=J0 It<|J0 (cZ f118 143) ((cZ f118 575))
def adj:=j_ f131 2<|j_ f131 9<|j_ f131 69<|j_ f131 1125<|j_ f131 2661<|j_ f131 18021<|j_ f131 288357<|j_ f131 681573<|j_ f131 2516581<|j_ f131 124517<|j_ f131 485<|j_ f131 19<|j_ f131 139<|j_ f131 2251<|j_ f131 5323<|j_ f131 19659<|j_ f131 971<|j_ f131 23<|j_ f131 47<|j_ f131 95<|j_ f131 191<|j_ f131 639<|j_ f131 4479<|j_ f131 72063<|j_ f131 170367<|j_ f131 1153407<|j_ f131 18454911<|j_ f131 26843519<|j_ f131 7969151<|j_ f131 31103<|j_ f131 1279<|j_ f131 8959<|j_ f131 144127<|j_ f131 340735<|j_ f131 2306815<|j_ f131 36909823<|J0 @Py<|j_ f131 322122495<|j_ f131 15938303<|j_ f131 62207<|j_ f131 1535<|J0 (a7 f131 1) (aau.eq_1)
def dW:=J0 adj<|J0 (EV f131 9829)<|J0 (cZ f131 37)<|J0 (cZ f131 75)<|J0 (EV f131 629119)<|J0 (cZ f131 2431)<|J0 (EV f131 1258239) ((cZ f131 4863))
def KE:=j_ f141 2<|J0 @Ue<|j_ f141 19<|j_ f141 75<|j_ f141 39<|j_ f141 151<|j_ f141 47<|j_ f141 95<|J0 @Ud<|j_ f141 639<|j_ f141 2431<|j_ f141 767<|j_ f141 1535<|J0 @Pr<|j_ f141 6143<|J0 (a7 f141 1) (aak.eq_1)
def aht:=j_ f166 1<|J0 (a7 f166 1) (Z5.eq_1)
def ahs:=j_ f167 2<|j_ f167 5<|J0 (a7 f167 1) (Z4.eq_1)
def ahr:=j_ f168 2<|j_ f168 5<|j_ f168 11<|j_ f168 23<|J0 (a7 f168 1) (Z3.eq_1)
def Is:=j_ f171 2<|j_ f171 9<|j_ f171 21<|j_ f171 77<|j_ f171 19<|j_ f171 75<|j_ f171 39<|j_ f171 279<|j_ f171 4503<|j_ f171 10647<|j_ f171 39319<|j_ f171 1943<|j_ f171 79<|j_ f171 303<|j_ f171 95<|j_ f171 191<|j_ f171 639<|j_ f171 2431<|j_ f171 767<|j_ f171 1535<|j_ f171 3071<|J0 (a7 f171 1) (Z1.eq_1)
def Mo:=J0 Is ((cZ f171 151))
def KC:=j_ f172 2<|j_ f172 9<|j_ f172 21<|j_ f172 77<|j_ f172 11<|j_ f172 39<|J0 @wF<|J0 @CZ<|J0 @CY<|J0 @CW<|J0 @Fb<|J0 @xw<|J0 @xv<|J0 @xu<|J0 @xt<|J0 @Fa<|J0 @E9<|j_ f172 295303575<|j_ f172 4724488599<|j_ f172 11166939543<|j_ f172 24051841431<|j_ f172 32641776023<|j_ f172 2040134039<|J0 @E8<|J0 @E7<|j_ f172 79<|j_ f172 175<|j_ f172 95<|J0 (a7 f172 1) (F172.eq_1)
def Tv:=J0 KC<|J0 (ru3 f172 161085847)<|J0 (EV f172 653719) ((cZ f172 151))
def ahm:=j_ f205 2<|j_ f205 5<|J0 (a7 f205 1) (ZO.eq_1)
def aa2:=j_ f206 2<|j_ f206 5<|j_ f206 131<|j_ f206 291<|j_ f206 675<|j_ f206 931<|j_ f206 23<|J0 @CV<|J0 @KR<|j_ f206 16719<|j_ f206 37199<|j_ f206 86351<|j_ f206 119119<|J0 @xr<|J0 @xq<|J0 @E6<|J0 @xp<|J0 (a7 f206 1) (ZN.eq_1)
def Cz:=J0 aa2<|J0 (cZ f206 35)<|J0 (EV f206 4431) ((cZ f206 79))
def aa0:=j_ f210 2<|j_ f210 9<|j_ f210 69<|j_ f210 1125<|j_ f210 2661<|j_ f210 5733<|j_ f210 11877<|j_ f210 15973<|j_ f210 485<|j_ f210 11<|J0 (a7 f210 1) (ZJ.eq_1)
def qO:=J0 aa0 ((cZ f210 37))
def Wu:=J0 @CU<|J0 @CT<|J0 @CR<|J0 @CQ<|J0 @KQ<|j_ f215 47<|j_ f215 159<|j_ f215 1119<|j_ f215 18015<|j_ f215 26207<|j_ f215 7775<|j_ f215 191<|J0 (a7 f215 1) (F215.eq_1)
def Tq:=J0 Wu ((cZ f215 607))
def ac4:=j_ f227 2<|J0 @CO<|J0 @KP<|J0 @T6<|J0 @T4<|j_ f227 3657<|J0 @KO<|J0 (a7 f227 1) (ZD.eq_1)
def Tp:=J0 ac4<|J0 (EV f227 585) ((cZ f227 9))
theorem c9:Wc 9 F9 (aB f9 1):=am rfl rfl
theorem c21:Wc 21 F21 (aB f21 1):=am rfl rfl
theorem c32:Wc 32 F32 (aB f32 1):=am rfl rfl
theorem c39:Wc 39 F39 (aB f39 1):=am rfl rfl
theorem c43:Wc 43 F43 (aB f43 1):=am rfl rfl
theorem c46:Wc 46 F46 (aB f46 1):=am rfl rfl
theorem c67:Wc 67 F67 (aB f67 1):=am rfl rfl
theorem c69:Wc 69 F69 (aB f69 1):=am rfl rfl
theorem c71:Wc 71 F71 (aB f71 1):=am rfl rfl
theorem c72:Wc 72 F72 (aB f72 1):=am rfl rfl
theorem c74:Wc 74 F74 (aB f74 1):=am rfl rfl
theorem c78:Wc 78 F78 (aB f78 1):=am rfl rfl
theorem c81:Wc 81 F81 (aB f81 1):=am rfl rfl
theorem c83:Wc 83 F83 (aB f83 1):=am rfl rfl
theorem c85:Wc 85 F85 (aB f85 1):=am rfl rfl
theorem c92:Wc 92 F92 (aB f92 1):=am rfl rfl
theorem c93:Wc 93 F93 (aB f93 1):=am rfl rfl
theorem c96:Wc 96 F96 (aB f96 1):=am rfl rfl
theorem af5:Wc 100 aaO (aB f100 1):=am rfl rfl
theorem af1:Wc 111 aaL (aB f111 1):=am rfl rfl
theorem afZ:Wc 113 aaJ (aB f113 1):=am rfl rfl
theorem afU:Wc 118 aaE (aB f118 1):=am rfl rfl
theorem afL:Wc 131 aau (aB f131 1):=am rfl rfl
theorem afB:Wc 141 aak (aB f141 1):=am rfl rfl
theorem afo:Wc 166 Z5 (aB f166 1):=am rfl rfl
theorem afn:Wc 167 Z4 (aB f167 1):=am rfl rfl
theorem afm:Wc 168 Z3 (aB f168 1):=am rfl rfl
theorem afj:Wc 171 Z1 (aB f171 1):=am rfl rfl
theorem afi:Wc 172 F172 (aB f172 1):=am rfl rfl
theorem ae5:Wc 205 ZO (aB f205 1):=am rfl rfl
theorem ae4:Wc 206 ZN (aB f206 1):=am rfl rfl
theorem acw:Wc 210 ZJ (aB f210 1):=am rfl rfl
theorem aeZ:Wc 215 F215 (aB f215 1):=am rfl rfl
theorem aeW:Wc 227 ZD (aB f227 1):=am rfl rfl
end
end
end Go.Iso.Gen
