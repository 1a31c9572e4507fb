/-
  the code that the claim reaches, for the evaluator.
-/
import Derived.Test.YtiofebdpgbojmaaGreatDoorGenH
set_option linter.unusedSimpArgs false
set_option linter.unusedVariables false
set_option maxRecDepth 100000
set_option maxHeartbeats 4000000
set_option linter.defProp false
namespace Go.Iso.Gen
open Go.Proofs Go.Proofs.Tryz
noncomputable section
section
variable {lo:Nat}{rd:Option Nat}{fr:Fr}{H:Heap}{Q:Ah}{args:List IV}
def V5:=lQ f22 95 [(.seq,[⟨some 27,.move,[.tmp 4],none,true,0,0⟩,⟨some 28,.bin .eql,[.tmp 27,.val (.int .i64 0)],none,true,0,0⟩,⟨some 29,.move,[.tmp 28],none,true,0,0⟩,⟨some 30,.fieldAddr 0,[.tmp 3],some (29,true),true,0,0⟩,⟨some 31,.idxArrAddr 6 3,[.tmp 30,.val (.int .i64 0)],some (29,true),true,0,0⟩,⟨some 32,.load (some 3),[.tmp 31],some (29,true),true,0,0⟩,⟨some 33,.build [.int .i64 0,.int .i64 0,.int .i64 0] [(0,1),(1,1),(2,1)],[.val (.int .i64 3),.val (.int .i64 12),.val (.int .i64 2)],some (29,true),true,0,0⟩,⟨some 34,.eqFlat false [.int,.int,.int],[.tmp 32,.tmp 33],some (29,true),true,0,0⟩,⟨some 35,.pick,[.tmp 29,.tmp 34,.val (.bool false)],none,true,0,0⟩,⟨some 36,.move,[.tmp 35],none,true,0,0⟩,⟨some 37,.fieldAddr 0,[.tmp 3],some (36,true),true,0,0⟩,⟨some 38,.idxArrAddr 6 3,[.tmp 37,.val (.int .i64 0)],some (36,true),true,0,0⟩,⟨some 39,.load (some 3),[.tmp 38],some (36,true),true,0,0⟩,⟨some 40,.call,[.val (.fn 51 [] []),.tmp 39],some (36,true),true,0,0⟩,⟨some 41,.bin .eql,[.tmp 40,.val (.int .i64 3426)],some (36,true),true,0,0⟩,⟨some 42,.pick,[.tmp 36,.tmp 41,.val (.bool false)],none,true,0,0⟩,⟨some 43,.move,[.tmp 42],none,true,0,0⟩,⟨some 44,.move,[.tmp 6],some (43,true),true,0,0⟩,⟨some 45,.bin .eql,[.tmp 44,.val (.int .i64 0)],some (43,true),true,0,0⟩,⟨some 46,.pick,[.tmp 43,.tmp 45,.val (.bool false)],none,true,0,0⟩,⟨some 47,.move,[.tmp 46],none,true,0,0⟩,⟨some 48,.move,[.tmp 5],some (47,true),true,0,0⟩,⟨some 49,.bin .eql,[.tmp 48,.val (.int .i64 3598)],some (47,true),true,0,0⟩,⟨some 50,.pick,[.tmp 47,.tmp 49,.val (.bool false)],none,true,0,0⟩,⟨some 0,.move,[.tmp 50],none,true,0,0⟩])] (by kernel_rfl)
def V4:=lQ f41 5 [(.free,[⟨some 6,.fieldAddr 0,[.tmp 1],none,false,0,0⟩,⟨some 7,.load none,[.tmp 6],none,false,1,1⟩,⟨some 8,.fieldAddr 1,[.tmp 1],none,false,2,0⟩,⟨some 9,.fieldAddr 0,[.tmp 8],none,false,3,4⟩,⟨some 10,.load none,[.tmp 9],none,false,4,12⟩,⟨some 11,.call,[.val (.fn 78 [] []),.tmp 10],none,false,5,28⟩,⟨some 12,.fieldAddr 1,[.tmp 1],none,false,6,0⟩,⟨some 13,.fieldAddr 1,[.tmp 12],none,false,7,64⟩,⟨some 14,.load none,[.tmp 13],none,false,8,192⟩,⟨some 15,.call,[.val (.fn 78 [] []),.tmp 14],none,false,9,508⟩,⟨some 16,.build [.nilSlice,.nilSlice] [(0,1),(1,1)],[.tmp 11,.tmp 15],none,false,10,1020⟩,⟨some 17,.fieldAddr 3,[.tmp 1],none,false,11,0⟩,⟨some 18,.load none,[.tmp 17],none,false,12,2048⟩,⟨some 19,.call,[.val (.fn 79 [] []),.tmp 18],none,false,13,7164⟩,⟨some 20,.fieldAddr 4,[.tmp 1],none,false,14,0⟩,⟨some 21,.fieldAddr 0,[.tmp 20],none,false,15,16384⟩,⟨some 22,.load none,[.tmp 21],none,false,16,49152⟩,⟨some 23,.call,[.val (.fn 80 [] []),.tmp 22],none,false,17,130044⟩,⟨some 24,.fieldAddr 4,[.tmp 1],none,false,18,0⟩,⟨some 25,.fieldAddr 1,[.tmp 24],none,false,19,262144⟩,⟨some 26,.load none,[.tmp 25],none,false,20,786432⟩,⟨some 27,.lenSl,[.tmp 26],none,false,21,1835008⟩,⟨some 28,.mkmap,[.tmp 27],none,false,22,3932160⟩,⟨some 29,.fieldAddr 4,[.tmp 1],none,false,23,0⟩,⟨some 30,.fieldAddr 3,[.tmp 29],none,false,24,8388608⟩,⟨some 31,.load none,[.tmp 30],none,false,25,25165824⟩,⟨some 32,.call,[.val (.fn 81 [] []),.tmp 31],none,false,26,58981372⟩]),(.seq,[⟨some 33,.build [.int .i64 0,.nilSlice,.nilSlice,.nilSlice,.nilSlice,.nilMap,.nilSlice] [(0,1),(1,2),(3,1),(4,1),(5,1),(6,1)],[.tmp 7,.tmp 16,.tmp 19,.tmp 23,.tmp 28,.tmp 32],none,true,27,134217727⟩]),(.seq,[⟨some 34,.box 157 7,[.tmp 33],none,true,28,268435455⟩]),(.seq,[⟨some 3,.move,[.tmp 34],none,true,29,536870911⟩])] (by kernel_rfl)
def V3:=lQ f41 3275 [(.free,[⟨some 43,.move,[.tmp 3],none,false,0,0⟩,⟨some 44,.nilCheck,[.tmp 43],none,false,1,1⟩,⟨some 45,.fieldAddr 5,[.tmp 44],none,false,2,3⟩,⟨some 46,.load none,[.tmp 45],none,false,3,7⟩,⟨some 47,.fieldAddr 0,[.tmp 5],none,false,4,0⟩,⟨some 48,.load (some 2),[.tmp 47],none,false,5,16⟩,⟨some 49,.fieldAddr 2,[.tmp 5],none,false,6,0⟩,⟨some 50,.load (some 2),[.tmp 49],none,false,7,64⟩,⟨some 51,.build [.int .u8 0,.int .i64 0,.int .u8 0,.int .i64 0] [(0,2),(2,2)],[.tmp 48,.tmp 50],none,false,8,240⟩,⟨some 52,.fieldAddr 4,[.tmp 5],none,false,9,0⟩,⟨some 53,.load none,[.tmp 52],none,false,10,512⟩]),(.seq,[⟨none,.mapUpd (true,[.int,.int,.int,.int]),[.tmp 46,.tmp 51,.tmp 53],none,true,11,2047⟩])] (by kernel_rfl)
def V2:=lQ f42 11 [(.seq,[⟨some 13,.move,[.tmp 1],none,true,0,0⟩,⟨some 14,.fieldAddr 0,[.tmp 5],none,true,0,0⟩,⟨some 15,.load none,[.tmp 14],none,true,0,0⟩,⟨some 16,.lookup 100 (false,[.int]) (.nilFunc) false,[.tmp 13,.tmp 15],none,true,0,0⟩,⟨some 17,.move,[.tmp 0],none,true,0,0⟩,⟨some 18,.load (some 6),[.tmp 5],none,true,0,0⟩,⟨some 19,.call,[.tmp 16,.tmp 17,.tmp 18],none,true,0,0⟩,⟨some 6,.move,[.tmp 19],none,true,0,0⟩])] (by kernel_rfl)
def V1:=lQ f43 5 [(.seq,[⟨some 1,.mkmap,[],none,true,0,0⟩,⟨none,.mapUpd (false,[.int]),[.tmp 1,.val (.int .u8 1),.val (.fn 83 [] [])],none,true,0,0⟩,⟨none,.mapUpd (false,[.int]),[.tmp 1,.val (.int .u8 2),.val (.fn 84 [] [])],none,true,0,0⟩,⟨none,.mapUpd (false,[.int]),[.tmp 1,.val (.int .u8 3),.val (.fn 85 [] [])],none,true,0,0⟩,⟨none,.mapUpd (false,[.int]),[.tmp 1,.val (.int .u8 4),.val (.fn 86 [] [])],none,true,0,0⟩,⟨none,.mapUpd (false,[.int]),[.tmp 1,.val (.int .u8 5),.val (.fn 87 [] [])],none,true,0,0⟩,⟨none,.mapUpd (false,[.int]),[.tmp 1,.val (.int .u8 6),.val (.fn 88 [] [])],none,true,0,0⟩,⟨none,.mapUpd (false,[.int]),[.tmp 1,.val (.int .u8 7),.val (.fn 89 [] [])],none,true,0,0⟩,⟨none,.mapUpd (false,[.int]),[.tmp 1,.val (.int .u8 8),.val (.fn 90 [] [])],none,true,0,0⟩,⟨some 2,.move,[.tmp 1],none,true,0,0⟩,⟨some 0,.move,[.tmp 2],none,true,0,0⟩])] (by kernel_rfl)
def V0:=lQ f56 7371 [(.free,[⟨some 35,.move,[.tmp 8],none,false,0,0⟩,⟨some 36,.move,[.tmp 2],none,false,1,0⟩,⟨some 37,.fieldAddr 0,[.tmp 9],none,false,2,0⟩,⟨some 38,.load none,[.tmp 37],none,false,3,4⟩,⟨some 39,.fieldAddr 0,[.tmp 10],none,false,4,0⟩,⟨some 40,.load none,[.tmp 39],none,false,5,16⟩,⟨some 41,.call,[.tmp 36,.tmp 38,.tmp 40],none,false,6,62⟩,⟨some 42,.move,[.tmp 2],none,false,7,0⟩,⟨some 43,.fieldAddr 1,[.tmp 9],none,false,8,0⟩,⟨some 44,.load none,[.tmp 43],none,false,9,256⟩,⟨some 45,.fieldAddr 1,[.tmp 10],none,false,10,0⟩,⟨some 46,.load none,[.tmp 45],none,false,11,1024⟩,⟨some 47,.call,[.tmp 42,.tmp 44,.tmp 46],none,false,12,4094⟩,⟨some 48,.move,[.tmp 2],none,false,13,0⟩,⟨some 49,.fieldAddr 2,[.tmp 9],none,false,14,0⟩,⟨some 50,.load none,[.tmp 49],none,false,15,16384⟩,⟨some 51,.fieldAddr 2,[.tmp 10],none,false,16,0⟩,⟨some 52,.load none,[.tmp 51],none,false,17,65536⟩,⟨some 53,.call,[.tmp 48,.tmp 50,.tmp 52],none,true,18,262142⟩,⟨some 54,.build [.int .i64 0,.int .i64 0,.int .i64 0] [(0,1),(1,1),(2,1)],[.tmp 41,.tmp 47,.tmp 53],none,true,19,524286⟩,⟨some 55,.fieldAddr 0,[.tmp 7],none,false,20,0⟩]),(.seq,[⟨some 56,.idxArrAddr 6 3,[.tmp 55,.tmp 35],none,true,21,2097151⟩]),(.seq,[⟨none,.store 3,[.tmp 56,.tmp 54],none,true,22,4194303⟩])] (by kernel_rfl)
def Sr:=lQ f74 21295 [(.seq,[⟨some 47,.load (some 4),[.tmp 4],none,true,0,0⟩]),(.seq,[⟨some 48,.call,[.val (.fn 127 [] []),.tmp 47],none,true,1,1⟩]),(.seq,[⟨some 49,.un .not,[.tmp 48],none,true,2,3⟩]),(.seq,[⟨some 50,.move,[.tmp 49],none,true,3,7⟩]),(.seq,[⟨some 51,.move,[.tmp 3],some (50,false),true,4,15⟩]),(.seq,[⟨some 52,.bin .gtr,[.tmp 51,.val (.int .i64 0)],some (50,false),true,5,31⟩]),(.seq,[⟨some 53,.move,[.tmp 52],some (50,false),true,6,63⟩]),(.free,[⟨some 54,.fieldAddr 4,[.tmp 1],some (53,true),false,7,127⟩,⟨some 55,.load none,[.tmp 54],some (53,true),false,8,255⟩,⟨some 56,.move,[.tmp 3],some (53,true),false,9,127⟩,⟨some 57,.bin .sub,[.tmp 56,.val (.int .i64 1)],some (53,true),false,10,639⟩,⟨some 58,.idxSl 4,[.tmp 55,.tmp 57],some (53,true),false,11,2047⟩,⟨some 59,.load (some 4),[.tmp 58],some (53,true),false,12,4095⟩,⟨some 60,.load (some 4),[.tmp 4],some (53,true),false,13,127⟩]),(.seq,[⟨some 61,.call,[.val (.fn 128 [] []),.tmp 59,.tmp 60],some (53,true),true,14,16383⟩]),(.seq,[⟨some 62,.pick,[.tmp 53,.tmp 61,.val (.bool false)],some (50,false),true,15,32767⟩]),(.seq,[⟨some 63,.pick,[.tmp 50,.val (.bool true),.tmp 62],none,true,16,65535⟩])] (by kernel_rfl)
def VZ:=lQ f76 5323 [(.free,[⟨some 16,.move,[.tmp 0],none,false,0,0⟩,⟨some 17,.move,[.tmp 5],none,false,1,0⟩,⟨some 18,.idxSl 2,[.tmp 16,.tmp 17],none,false,2,3⟩,⟨some 19,.load (some 2),[.tmp 18],none,false,3,7⟩,⟨some 20,.move,[.tmp 1],none,false,4,0⟩,⟨some 21,.move,[.tmp 5],none,false,5,0⟩,⟨some 22,.idxSl 2,[.tmp 20,.tmp 21],none,false,6,48⟩,⟨some 23,.load (some 2),[.tmp 22],none,false,7,112⟩]),(.seq,[⟨some 24,.eqFlat true [.int,.int],[.tmp 19,.tmp 23],none,true,8,255⟩])] (by kernel_rfl)
def SL:=lQ f128 23 [(.seq,[⟨some 25,.load (some 4),[.tmp 2],none,true,0,0⟩,⟨some 26,.load (some 4),[.tmp 3],none,true,0,0⟩,⟨some 27,.eqFlat false [.int,.int,.bool,.int],[.tmp 25,.tmp 26],none,true,0,0⟩,⟨some 4,.move,[.tmp 27],none,true,0,0⟩])] (by kernel_rfl)
def SK:=lQ f135 5 [(.free,[⟨some 6,.call,[.val (.fn 169 [] [])],none,false,0,0⟩,⟨some 7,.fieldAddr 0,[.tmp 1],none,false,1,0⟩,⟨some 8,.load none,[.tmp 7],none,false,2,2⟩,⟨some 9,.lookup 261 (false,[.int]) (.agg [.bool false,.bool false,.bool false,.bool false]) true,[.tmp 6,.tmp 8],none,false,3,7⟩,⟨some 5,.move,[.tmp 9],none,false,4,15⟩,⟨some 10,.extract 0,[.tmp 5],none,false,5,31⟩,⟨some 11,.extract 1,[.tmp 5],none,false,6,31⟩,⟨some 3,.alloc 259 4 [.bool false,.bool false,.bool false,.bool false],[],none,false,7,0⟩,⟨none,.store 4,[.tmp 3,.tmp 10],none,true,8,191⟩]),(.seq,[⟨some 4,.move,[.tmp 11],none,true,9,511⟩])] (by kernel_rfl)
def SJ:=lQ f135 79 [(.seq,[⟨some 36,.fieldAddr 1,[.tmp 3],none,true,0,0⟩,⟨some 37,.load none,[.tmp 36],none,true,0,0⟩,⟨some 38,.move,[.tmp 37],none,true,0,0⟩,⟨some 39,.fieldAddr 2,[.tmp 1],some (38,true),true,0,0⟩,⟨some 40,.load (some 2),[.tmp 39],some (38,true),true,0,0⟩,⟨some 41,.call,[.val (.fn 97 [] []),.tmp 40],some (38,true),true,0,0⟩,⟨some 42,.bin .neq,[.tmp 41,.val (.int .i64 0)],some (38,true),true,0,0⟩,⟨some 43,.pick,[.tmp 38,.tmp 42,.val (.bool false)],none,true,0,0⟩,⟨some 44,.move,[.tmp 43],none,true,0,0⟩,⟨some 45,.fieldAddr 1,[.tmp 3],some (44,false),true,0,0⟩,⟨some 46,.load none,[.tmp 45],some (44,false),true,0,0⟩,⟨some 47,.un .not,[.tmp 46],some (44,false),true,0,0⟩,⟨some 48,.move,[.tmp 47],some (44,false),true,0,0⟩,⟨some 49,.fieldAddr 2,[.tmp 1],some (48,true),true,0,0⟩,⟨some 50,.load (some 2),[.tmp 49],some (48,true),true,0,0⟩,⟨some 51,.build [.int .u8 0,.int .i64 0] [],[],some (48,true),true,0,0⟩,⟨some 52,.eqFlat true [.int,.int],[.tmp 50,.tmp 51],some (48,true),true,0,0⟩,⟨some 53,.pick,[.tmp 48,.tmp 52,.val (.bool false)],some (44,false),true,0,0⟩,⟨some 54,.pick,[.tmp 44,.val (.bool true),.tmp 53],none,true,0,0⟩])] (by kernel_rfl)
def SG:=lQ f139 5 [(.free,[⟨some 8,.move,[.tmp 0],none,false,0,0⟩,⟨some 9,.nilCheck,[.tmp 8],none,false,1,1⟩,⟨some 10,.fieldAddr 3,[.tmp 9],none,false,2,3⟩,⟨some 11,.load none,[.tmp 10],none,false,3,7⟩,⟨some 12,.fieldAddr 4,[.tmp 3],none,false,4,0⟩,⟨some 13,.load none,[.tmp 12],none,false,5,16⟩,⟨some 14,.bin .sub,[.tmp 13,.val (.int .u8 1)],none,false,6,48⟩,⟨some 15,.idxSl 5,[.tmp 11,.tmp 14],none,false,7,127⟩,⟨some 16,.load (some 5),[.tmp 15],none,false,8,255⟩,⟨some 17,.fieldAddr 2,[.tmp 3],none,false,9,0⟩,⟨some 18,.load (some 2),[.tmp 17],none,false,10,512⟩,⟨some 19,.move,[.tmp 0],none,false,11,0⟩,⟨some 20,.nilCheck,[.tmp 19],none,false,12,2048⟩,⟨some 21,.fieldAddr 0,[.tmp 20],none,false,13,6144⟩,⟨some 22,.load none,[.tmp 21],none,false,14,14336⟩,⟨some 23,.call,[.val (.fn 45 [] []),.tmp 18,.tmp 22],none,false,15,32256⟩,⟨some 7,.alloc 122 5 [.bool false,.int .i64 0,.int .i64 0,.bool false,.nilSlice],[],none,false,16,0⟩]),(.seq,[⟨none,.store 5,[.tmp 7,.tmp 16],none,true,17,131071⟩]),(.seq,[⟨some 5,.move,[.tmp 23],none,true,18,262143⟩])] (by kernel_rfl)
def SF:=lQ f141 5 [(.free,[⟨some 16,.move,[.tmp 0],none,false,0,0⟩,⟨some 17,.nilCheck,[.tmp 16],none,false,1,1⟩,⟨some 18,.fieldAddr 3,[.tmp 17],none,false,2,3⟩,⟨some 19,.load none,[.tmp 18],none,false,3,7⟩,⟨some 20,.fieldAddr 4,[.tmp 5],none,false,4,0⟩,⟨some 21,.load none,[.tmp 20],none,false,5,16⟩,⟨some 22,.bin .sub,[.tmp 21,.val (.int .u8 1)],none,false,6,48⟩,⟨some 23,.idxSl 5,[.tmp 19,.tmp 22],none,false,7,127⟩,⟨some 24,.load (some 5),[.tmp 23],none,false,8,255⟩,⟨some 25,.call,[.val (.fn 175 [] []),.tmp 24],none,false,9,511⟩,⟨some 15,.move,[.tmp 25],none,false,10,1023⟩,⟨some 26,.extract 0,[.tmp 15],none,false,11,2047⟩,⟨some 27,.extract 1,[.tmp 15],none,false,12,2047⟩,⟨some 28,.extract 2,[.tmp 15],none,false,13,2047⟩,⟨some 9,.alloc 122 5 [.bool false,.int .i64 0,.int .i64 0,.bool false,.nilSlice],[],none,false,14,0⟩,⟨some 10,.alloc 274 3 [.int .i64 0,.bool false,.nilSlice],[],none,false,15,0⟩,⟨none,.store 5,[.tmp 9,.tmp 26],none,true,16,53247⟩,⟨none,.store 3,[.tmp 10,.tmp 27],none,true,17,122879⟩]),(.seq,[⟨some 11,.move,[.tmp 28],none,true,18,262143⟩])] (by kernel_rfl)
def SE:=lQ f141 191 [(.free,[⟨some 53,.move,[.tmp 0],none,false,0,0⟩,⟨some 54,.nilCheck,[.tmp 53],none,false,1,1⟩,⟨some 55,.fieldAddr 1,[.tmp 54],none,false,2,3⟩,⟨some 56,.load (some 2),[.tmp 55],none,false,3,7⟩,⟨some 57,.fieldAddr 2,[.tmp 5],none,false,4,0⟩,⟨some 58,.load (some 2),[.tmp 57],none,false,5,16⟩,⟨some 59,.move,[.tmp 3],none,false,6,0⟩,⟨some 60,.call,[.val (.fn 81 [] []),.tmp 59],none,false,7,64⟩,⟨some 61,.load (some 2),[.tmp 12],none,false,8,0⟩,⟨some 62,.buildSl 149 2 1 [.int .u8 0,.int .i64 0] [(0,2)],[.tmp 61],none,false,9,256⟩,⟨some 63,.append 149 2 16,[.tmp 60,.tmp 62],none,false,10,960⟩,⟨some 64,.call,[.val (.fn 144 [] []),.tmp 56,.tmp 58,.tmp 63],none,false,11,2047⟩,⟨some 52,.move,[.tmp 64],none,false,12,4095⟩,⟨some 65,.extract 0,[.tmp 52],none,false,13,8191⟩,⟨some 66,.extract 1,[.tmp 52],none,false,14,8191⟩,⟨some 14,.alloc 36 2 [.nilSlice,.nilSlice],[],none,false,15,0⟩,⟨none,.store 2,[.tmp 14,.tmp 65],none,true,16,49151⟩]),(.seq,[⟨some 11,.move,[.tmp 66],none,true,17,131071⟩])] (by kernel_rfl)
def OD:=lQ f141 3071 [(.free,[⟨some 83,.move,[.tmp 0],none,false,0,0⟩,⟨some 84,.nilCheck,[.tmp 83],none,false,1,1⟩,⟨some 85,.fieldAddr 4,[.tmp 84],none,false,2,3⟩,⟨some 86,.load none,[.tmp 85],none,false,3,7⟩,⟨some 87,.fieldAddr 4,[.tmp 5],none,false,4,0⟩,⟨some 88,.load none,[.tmp 87],none,false,5,16⟩,⟨some 89,.bin .sub,[.tmp 88,.val (.int .u8 1)],none,false,6,48⟩,⟨some 90,.move,[.tmp 0],none,false,7,0⟩,⟨some 91,.nilCheck,[.tmp 90],none,false,8,128⟩,⟨some 92,.fieldAddr 4,[.tmp 91],none,false,9,384⟩,⟨some 93,.load none,[.tmp 92],none,false,10,896⟩,⟨some 94,.fieldAddr 4,[.tmp 5],none,false,11,0⟩,⟨some 95,.load none,[.tmp 94],none,false,12,2048⟩,⟨some 96,.bin .sub,[.tmp 95,.val (.int .u8 1)],none,false,13,6144⟩,⟨some 97,.idxSl 1,[.tmp 93,.tmp 96],none,false,14,16256⟩,⟨some 98,.load none,[.tmp 97],none,false,15,32640⟩,⟨some 99,.load (some 4),[.tmp 13],none,false,16,0⟩,⟨some 100,.buildSl 168 4 1 [.int .u8 0,.bool false,.nilSlice,.nilSlice] [(0,4)],[.tmp 99],none,false,17,65536⟩,⟨some 101,.append 168 4 56,[.tmp 98,.tmp 100],none,true,18,262016⟩]),(.seq,[⟨some 102,.idxSl 1,[.tmp 86,.tmp 89],none,true,19,524287⟩]),(.seq,[⟨none,.store 1,[.tmp 102,.tmp 101],none,true,20,1048575⟩])] (by kernel_rfl)
def SD:=lQ f161 5 [(.seq,[⟨some 5,.fieldAddr 0,[.tmp 3],none,true,0,0⟩]),(.seq,[⟨some 6,.load none,[.tmp 5],none,true,1,1⟩]),(.seq,[⟨some 7,.bin .geq,[.tmp 6,.val (.int .u8 1)],none,true,2,3⟩]),(.seq,[⟨some 8,.move,[.tmp 7],none,true,3,7⟩]),(.free,[⟨some 9,.fieldAddr 0,[.tmp 3],some (8,true),true,4,15⟩,⟨some 10,.load none,[.tmp 9],some (8,true),true,5,31⟩,⟨some 11,.conv .i64,[.tmp 10],some (8,true),true,6,63⟩,⟨some 12,.move,[.tmp 0],some (8,true),false,7,15⟩,⟨some 13,.lenSl,[.tmp 12],some (8,true),false,8,143⟩]),(.seq,[⟨some 14,.bin .leq,[.tmp 11,.tmp 13],some (8,true),true,9,511⟩]),(.seq,[⟨some 15,.pick,[.tmp 8,.tmp 14,.val (.bool false)],none,true,10,1023⟩]),(.seq,[⟨some 16,.move,[.tmp 15],none,true,11,2047⟩]),(.seq,[⟨some 17,.fieldAddr 1,[.tmp 3],some (16,true),true,12,4095⟩]),(.seq,[⟨some 18,.load none,[.tmp 17],some (16,true),true,13,8191⟩]),(.seq,[⟨some 19,.bin .geq,[.tmp 18,.val (.int .i64 0)],some (16,true),true,14,16383⟩]),(.seq,[⟨some 20,.pick,[.tmp 16,.tmp 19,.val (.bool false)],none,true,15,32767⟩]),(.seq,[⟨some 21,.move,[.tmp 20],none,true,16,65535⟩]),(.free,[⟨some 22,.fieldAddr 1,[.tmp 3],some (21,true),false,17,131071⟩,⟨some 23,.load none,[.tmp 22],some (21,true),false,18,262143⟩,⟨some 24,.move,[.tmp 0],some (21,true),false,19,131071⟩,⟨some 25,.fieldAddr 0,[.tmp 3],some (21,true),false,20,131071⟩,⟨some 26,.load none,[.tmp 25],some (21,true),false,21,1179647⟩,⟨some 27,.bin .sub,[.tmp 26,.val (.int .u8 1)],some (21,true),false,22,3276799⟩,⟨some 28,.idxSl 1,[.tmp 24,.tmp 27],some (21,true),false,23,7995391⟩,⟨some 29,.load none,[.tmp 28],some (21,true),false,24,16383999⟩,⟨some 30,.lenSl,[.tmp 29],some (21,true),false,25,33161215⟩]),(.seq,[⟨some 31,.bin .lss,[.tmp 23,.tmp 30],some (21,true),true,26,67108863⟩]),(.seq,[⟨some 32,.pick,[.tmp 21,.tmp 31,.val (.bool false)],none,true,27,134217727⟩]),(.seq,[⟨some 4,.move,[.tmp 32],none,true,28,268435455⟩])] (by kernel_rfl)
def SC:=lQ f163 409 [(.free,[⟨some 11,.load none,[.tmp 1],none,false,0,0⟩,⟨some 12,.load (some 2),[.tmp 4],none,false,1,0⟩]),(.free,[⟨some 13,.lookup 251 (true,[.int,.int]) (.int .i64 0) false,[.tmp 11,.tmp 12],none,false,2,3⟩,⟨some 14,.bin .add,[.tmp 13,.val (.int .i64 1)],none,false,3,7⟩,⟨some 15,.mapEntry 251 (true,[.int,.int]) (.int .i64 0),[.tmp 11,.tmp 12],none,true,4,3⟩,⟨some 16,.extract 1,[.tmp 15],none,false,5,19⟩]),(.seq,[⟨none,.entryStore,[.tmp 11,.tmp 16,.tmp 14],none,true,6,63⟩])] (by kernel_rfl)
def CQ:=ab f165 17
def KA:=ab f165 281
def Kz:=ab f165 665
def Ky:=ab f165 1433
def Fc:=ab f165 121
def SA:=lQ f173 23 [(.free,[⟨some 23,.move,[.tmp 0],none,false,0,0⟩,⟨some 24,.nilCheck,[.tmp 23],none,false,1,1⟩,⟨some 25,.fieldAddr 5,[.tmp 24],none,false,2,3⟩,⟨some 26,.load none,[.tmp 25],none,false,3,7⟩,⟨some 27,.load (some 4),[.tmp 5],none,false,4,0⟩,⟨some 28,.lookup 154 (true,[.int,.int,.int,.int]) (.int .i64 0) false,[.tmp 26,.tmp 27],none,false,5,31⟩,⟨some 29,.fieldAddr 4,[.tmp 3],none,false,6,0⟩,⟨some 30,.load none,[.tmp 29],none,false,7,64⟩]),(.seq,[⟨some 31,.bin .add,[.tmp 28,.tmp 30],none,true,8,255⟩]),(.seq,[⟨some 6,.move,[.tmp 31],none,true,9,511⟩])] (by kernel_rfl)
def Sz:=lQ f173 351 [(.free,[⟨some 40,.move,[.tmp 0],none,false,0,0⟩,⟨some 41,.nilCheck,[.tmp 40],none,false,1,1⟩,⟨some 42,.fieldAddr 5,[.tmp 41],none,false,2,3⟩,⟨some 43,.load none,[.tmp 42],none,false,3,7⟩,⟨some 44,.load (some 4),[.tmp 5],none,false,4,0⟩]),(.seq,[⟨none,.delete (true,[.int,.int,.int,.int]),[.tmp 43,.tmp 44],none,true,5,31⟩])] (by kernel_rfl)
def Sy:=lQ f173 479 [(.free,[⟨some 45,.move,[.tmp 0],none,false,0,0⟩,⟨some 46,.nilCheck,[.tmp 45],none,false,1,1⟩,⟨some 47,.fieldAddr 5,[.tmp 46],none,false,2,3⟩,⟨some 48,.load none,[.tmp 47],none,false,3,7⟩,⟨some 49,.load (some 4),[.tmp 5],none,false,4,0⟩,⟨some 50,.move,[.tmp 6],none,false,5,0⟩]),(.seq,[⟨none,.mapUpd (true,[.int,.int,.int,.int]),[.tmp 48,.tmp 49,.tmp 50],none,true,6,63⟩])] (by kernel_rfl)
def Oy:=lQ f202 348966091 [(.free,[⟨some 30,.move,[.tmp 3],none,false,0,0⟩,⟨some 31,.load (some 2),[.tmp 9],none,true,1,0⟩]),(.free,[⟨some 32,.lookup 251 (true,[.int,.int]) (.int .i64 0) false,[.tmp 30,.tmp 31],none,false,2,3⟩,⟨some 33,.bin .add,[.tmp 32,.val (.int .i64 1)],none,false,3,7⟩,⟨some 34,.mapEntry 251 (true,[.int,.int]) (.int .i64 0),[.tmp 30,.tmp 31],none,true,4,3⟩,⟨some 35,.extract 1,[.tmp 34],none,false,5,19⟩]),(.seq,[⟨none,.entryStore,[.tmp 30,.tmp 35,.tmp 33],none,true,6,63⟩])] (by kernel_rfl)
def Ox:=lQ f202 751619275 [(.seq,[⟨some 36,.move,[.tmp 3],none,true,0,0⟩,⟨some 37,.load (some 2),[.tmp 9],none,true,0,0⟩,⟨some 38,.lookup 251 (true,[.int,.int]) (.int .i64 0) false,[.tmp 36,.tmp 37],none,true,0,0⟩,⟨some 39,.bin .gtr,[.tmp 38,.val (.int .i64 1)],none,true,0,0⟩])] (by kernel_rfl)
def CF:=ab f206 271
def Kw:=ab f206 591
def xk:=ab f206 4943
def xj:=ab f206 11087
def E4:=ab f206 23375
def xi:=ab f206 3919
def Cy:=ab f228 4
def Ow:=lQ f228 9402 [(.free,[⟨some 61,.move,[.tmp 0],none,false,0,0⟩,⟨some 62,.move,[.tmp 13],none,false,1,0⟩,⟨some 63,.move,[.tmp 0],none,false,2,0⟩,⟨some 64,.move,[.tmp 13],none,false,3,0⟩,⟨some 65,.bin .add,[.tmp 64,.val (.int .i64 1)],none,false,4,8⟩,⟨some 66,.move,[.tmp 0],none,false,5,0⟩,⟨some 67,.move,[.tmp 13],none,false,6,0⟩,⟨some 68,.bin .add,[.tmp 67,.val (.int .i64 1)],none,false,7,64⟩,⟨some 69,.idxSl 5,[.tmp 66,.tmp 68],none,false,8,224⟩,⟨some 70,.load (some 5),[.tmp 69],none,false,9,480⟩,⟨some 71,.move,[.tmp 0],none,false,10,0⟩,⟨some 72,.move,[.tmp 13],none,false,11,0⟩,⟨some 73,.idxSl 5,[.tmp 71,.tmp 72],none,false,12,3072⟩,⟨some 74,.load (some 5),[.tmp 73],none,false,13,7168⟩,⟨some 75,.idxSl 5,[.tmp 61,.tmp 62],none,true,14,16355⟩,⟨none,.store 5,[.tmp 75,.tmp 70],none,true,15,32739⟩]),(.seq,[⟨some 76,.idxSl 5,[.tmp 63,.tmp 65],none,true,16,65535⟩]),(.seq,[⟨none,.store 5,[.tmp 76,.tmp 74],none,true,17,131071⟩])] (by kernel_rfl)
def xh:=ab f228 9
def Ov:=lQ f228 18805 [(.free,[⟨some 113,.move,[.tmp 0],none,false,0,0⟩,⟨some 114,.move,[.tmp 17],none,false,1,0⟩,⟨some 115,.move,[.tmp 0],none,false,2,0⟩,⟨some 116,.move,[.tmp 17],none,false,3,0⟩,⟨some 117,.bin .sub,[.tmp 116,.val (.int .i64 1)],none,false,4,8⟩,⟨some 118,.move,[.tmp 0],none,false,5,0⟩,⟨some 119,.move,[.tmp 17],none,false,6,0⟩,⟨some 120,.bin .sub,[.tmp 119,.val (.int .i64 1)],none,false,7,64⟩,⟨some 121,.idxSl 5,[.tmp 118,.tmp 120],none,false,8,224⟩,⟨some 122,.load (some 5),[.tmp 121],none,false,9,480⟩,⟨some 123,.move,[.tmp 0],none,false,10,0⟩,⟨some 124,.move,[.tmp 17],none,false,11,0⟩,⟨some 125,.idxSl 5,[.tmp 123,.tmp 124],none,false,12,3072⟩,⟨some 126,.load (some 5),[.tmp 125],none,false,13,7168⟩,⟨some 127,.idxSl 5,[.tmp 113,.tmp 114],none,true,14,16355⟩,⟨none,.store 5,[.tmp 127,.tmp 122],none,true,15,32739⟩]),(.seq,[⟨some 128,.idxSl 5,[.tmp 115,.tmp 117],none,true,16,65535⟩]),(.seq,[⟨none,.store 5,[.tmp 128,.tmp 126],none,true,17,131071⟩])] (by kernel_rfl)
def xg:=ab f228 11
def xe:=ab f228 23
def xd:=ab f228 47
def xc:=ab f228 159
def E3:=ab f228 607
def E2:=ab f228 863
def E1:=ab f228 735
def EZ:=ab f228 991
def wZ:=ab f228 191
def rV:=ab f228 767
def rU:=ab f228 2559
def EY:=ab f228 5631
def rS:=ab f228 5119
def EX:=ab f228 11263
def B19:=j_ f19 2<|j_ f19 9<|j_ f19 37<|j_ f19 11<|j_ f19 39<|j_ f19 151<|j_ f19 599<|j_ f19 2391<|j_ f19 17751<|j_ f19 288087<|j_ f19 1205591<|j_ f19 4875607<|j_ f19 6972759<|j_ f19 2516311<|j_ f19 3040599<|j_ f19 10380631<|j_ f19 22963543<|j_ f19 8283479<|j_ f19 124247<|j_ f19 2903<|j_ f19 5975<|j_ f19 47<|J0 (bm f19 1) (F19.eq_1)
def EL:=J0 B19 ((cZ f19 9559))
def B22:=j_ f22 2<|j_ f22 5<|j_ f22 11<|j_ f22 23<|j_ f22 47<|J0 @V5<|J0 (bm f22 1) (F22.eq_1)
def B41:=j_ f41 2<|J0 @V4<|j_ f41 19<|j_ f41 139<|j_ f41 2251<|J0 @V3<|j_ f41 971<|j_ f41 23<|J0 (bm f41 1) (F41.eq_1)
def abA:=J0 B41 ((cZ f41 75))
def Sn:=j_ f42 2<|j_ f42 9<|j_ f42 21<|j_ f42 77<|J0 @V2<|J0 (bm f42 1) (F42.eq_1)
def B43:=j_ f43 2<|J0 @V1<|J0 (bm f43 1) (F43.eq_1)
def B50:=j_ f50 2<|j_ f50 9<|j_ f50 37<|j_ f50 11<|J0 (bm f50 1) (F50.eq_1)
def B56:=j_ f56 2<|j_ f56 5<|j_ f56 19<|j_ f56 139<|j_ f56 2251<|j_ f56 5323<|J0 @V0<|j_ f56 971<|j_ f56 23<|J0 (bm f56 1) (F56.eq_1)
def R5:=J0 B56 ((cZ f56 75))
def B69:=j_ f69 2<|j_ f69 5<|J0 (bm f69 1) (F69.eq_1)
def B74:=j_ f74 2<|j_ f74 9<|j_ f74 37<|j_ f74 19<|j_ f74 139<|j_ f74 587<|j_ f74 171<|j_ f74 39<|j_ f74 151<|j_ f74 79<|j_ f74 559<|j_ f74 9007<|J0 @Sr<|j_ f74 78639<|j_ f74 3887<|j_ f74 95<|J0 (bm f74 1) (F74.eq_1)
def UT:=J0 B74 ((cZ f74 303))
def B76:=j_ f76 2<|j_ f76 9<|j_ f76 37<|j_ f76 19<|j_ f76 139<|j_ f76 2251<|J0 @VZ<|j_ f76 19659<|j_ f76 971<|j_ f76 23<|J0 (bm f76 1) (F76.eq_1)
def Zw:=J0 B76 ((cZ f76 75))
def B81:=j_ f81 2<|j_ f81 5<|j_ f81 11<|j_ f81 23<|J0 (bm f81 1) (F81.eq_1)
def B84:=j_ f84 2<|j_ f84 5<|j_ f84 19<|j_ f84 43<|j_ f84 23<|J0 (bm f84 1) (F84.eq_1)
def B86:=j_ f86 2<|j_ f86 5<|j_ f86 19<|j_ f86 75<|j_ f86 39<|j_ f86 87<|j_ f86 311<|j_ f86 47<|J0 (bm f86 1) (F86.eq_1)
def B90:=j_ f90 2<|j_ f90 5<|j_ f90 19<|j_ f90 75<|j_ f90 23<|j_ f90 79<|j_ f90 303<|j_ f90 95<|j_ f90 191<|j_ f90 383<|J0 (bm f90 1) (F90.eq_1)
def ZR:=j_ f97 2<|j_ f97 9<|j_ f97 37<|j_ f97 19<|j_ f97 75<|j_ f97 23<|J0 (bm f97 1) (F97.eq_1)
def Ij:=j_ f114 2<|j_ f114 9<|j_ f114 37<|j_ f114 19<|j_ f114 75<|j_ f114 23<|j_ f114 79<|j_ f114 175<|j_ f114 159<|j_ f114 607<|j_ f114 191<|J0 (bm f114 1) (Zr.eq_1)
def af4:=j_ f128 2<|j_ f128 9<|j_ f128 37<|j_ f128 11<|J0 @SL<|J0 (bm f128 1) (Y4.eq_1)
def af3:=j_ f133 2<|j_ f133 5<|j_ f133 11<|j_ f133 23<|J0 (bm f133 1) (YZ.eq_1)
def af2:=j_ f134 2<|j_ f134 5<|j_ f134 11<|j_ f134 23<|J0 (bm f134 1) (YY.eq_1)
def cU:=j_ f135 2<|J0 @SK<|j_ f135 19<|j_ f135 75<|j_ f135 39<|j_ f135 151<|J0 @SJ<|j_ f135 303<|j_ f135 159<|j_ f135 607<|j_ f135 191<|J0 (bm f135 1) (YX.eq_1)
def N7:=j_ f139 2<|J0 @SG<|j_ f139 19<|j_ f139 75<|j_ f139 39<|j_ f139 279<|j_ f139 1175<|j_ f139 343<|j_ f139 79<|j_ f139 303<|j_ f139 95<|J0 (bm f139 1) (YT.eq_1)
def Kk:=j_ f141 2<|J0 @SF<|j_ f141 19<|j_ f141 75<|j_ f141 39<|j_ f141 151<|j_ f141 47<|j_ f141 95<|J0 @SE<|j_ f141 639<|j_ f141 2431<|j_ f141 767<|j_ f141 1535<|J0 @OD<|j_ f141 6143<|J0 (bm f141 1) (YR.eq_1)
def AU:=j_ f157 2<|j_ f157 5<|J0 (bm f157 1) (YL.eq_1)
def abW:=j_ f158 2<|j_ f158 5<|J0 (bm f158 1) (YK.eq_1)
def N4:=j_ f160 2<|j_ f160 9<|j_ f160 37<|j_ f160 19<|j_ f160 75<|j_ f160 39<|j_ f160 87<|j_ f160 311<|j_ f160 79<|j_ f160 175<|j_ f160 623<|j_ f160 95<|j_ f160 319<|j_ f160 1215<|j_ f160 383<|J0 (bm f160 1) (YI.eq_1)
def af1:=j_ f161 2<|J0 @SD<|J0 (bm f161 1) (YH.eq_1)
def abU:=j_ f163 2<|j_ f163 17<|j_ f163 281<|J0 @SC<|j_ f163 121<|J0 (bm f163 1) (YF.eq_1)
def VT:=J0 abU ((cZ f163 9))
def abT:=j_ f165 2<|J0 @CQ<|J0 @KA<|J0 @Kz<|J0 @Ky<|j_ f165 9113<|j_ f165 144281<|j_ f165 209817<|j_ f165 62361<|J0 @Fc<|J0 (bm f165 1) (YD.eq_1)
def Se:=J0 abT<|J0 (Ik f165 5017) ((cZ f165 9))
def EN:=j_ f173 2<|j_ f173 5<|j_ f173 19<|j_ f173 43<|J0 @SA<|j_ f173 79<|j_ f173 303<|j_ f173 159<|J0 @Sz<|J0 @Sy<|j_ f173 191<|J0 (bm f173 1) (Yx.eq_1)
def abS:=j_ f176 2<|j_ f176 5<|j_ f176 19<|j_ f176 139<|j_ f176 2251<|j_ f176 3275<|j_ f176 971<|j_ f176 23<|J0 (bm f176 1) (Yt.eq_1)
def VQ:=J0 abS ((cZ f176 75))
def afU:=j_ f189 2<|j_ f189 5<|J0 (bm f189 1) (Yq.eq_1)
def abO:=j_ f201 2<|j_ f201 9<|j_ f201 69<|j_ f201 1125<|j_ f201 2661<|j_ f201 18021<|j_ f201 288357<|j_ f201 681573<|j_ f201 2516581<|j_ f201 124517<|j_ f201 485<|j_ f201 11<|J0 (bm f201 1) (Yo.eq_1)
def Cn:=J0 abO<|J0 (Ik f201 9829) ((cZ f201 37))
def abN:=j_ f202 2<|j_ f202 5<|j_ f202 19<|j_ f202 139<|j_ f202 2251<|j_ f202 5323<|j_ f202 36043<|j_ f202 576715<|j_ f202 1363147<|j_ f202 9227467<|j_ f202 147639499<|J0 @Oy<|J0 @Ox<|j_ f202 2630667467<|j_ f202 63753419<|j_ f202 249035<|j_ f202 971<|j_ f202 23<|J0 (bm f202 1) (Ym.eq_1)
def Cm:=J0 abN<|J0 (ru3 f202 5033163)<|J0 (Ik f202 19659) ((cZ f202 75))
def ZE:=j_ f206 2<|j_ f206 5<|j_ f206 131<|j_ f206 291<|j_ f206 675<|j_ f206 931<|j_ f206 23<|J0 @CF<|J0 @Kw<|j_ f206 16719<|j_ f206 37199<|j_ f206 86351<|j_ f206 119119<|J0 @xk<|J0 @xj<|J0 @E4<|J0 @xi<|J0 (bm f206 1) (Yi.eq_1)
def Ck:=J0 ZE<|J0 (cZ f206 35)<|J0 (Ik f206 4431) ((cZ f206 79))
def Ih:=J0 @Cy<|j_ f228 18<|j_ f228 42<|j_ f228 1050<|j_ f228 2330<|j_ f228 5402<|j_ f228 11546<|j_ f228 15642<|j_ f228 314<|j_ f228 4282<|J0 @Ow<|j_ f228 7354<|J0 @xh<|j_ f228 37<|j_ f228 85<|j_ f228 2101<|j_ f228 4661<|j_ f228 10805<|j_ f228 23093<|j_ f228 31285<|j_ f228 629<|j_ f228 8565<|J0 @Ov<|j_ f228 14709<|J0 @xg<|J0 @xe<|J0 @xd<|J0 @xc<|J0 @E3<|J0 @E2<|J0 @E1<|J0 @EZ<|J0 @wZ<|j_ f228 4223<|j_ f228 9343<|j_ f228 21631<|j_ f228 46207<|j_ f228 62591<|J0 @rV<|J0 @rU<|J0 @EY<|J0 @rS<|J0 @EX<|j_ f228 6143<|j_ f228 12287<|J0 (bm f228 1) (R2.eq_1)
def jo:=J0 Ih<|J0 (cZ f228 282)<|J0 (cZ f228 1210)<|J0 (cZ f228 565)<|J0 (cZ f228 2421) ((cZ f228 1151))
theorem c19:Wc 19 F19 (aC f19 1):=am rfl rfl
theorem c22:Wc 22 F22 (aC f22 1):=am rfl rfl
theorem c41:Wc 41 F41 (aC f41 1):=am rfl rfl
theorem c42:Wc 42 F42 (aC f42 1):=am rfl rfl
theorem c43:Wc 43 F43 (aC f43 1):=am rfl rfl
theorem c50:Wc 50 F50 (aC f50 1):=am rfl rfl
theorem c56:Wc 56 F56 (aC f56 1):=am rfl rfl
theorem c69:Wc 69 F69 (aC f69 1):=am rfl rfl
theorem c74:Wc 74 F74 (aC f74 1):=am rfl rfl
theorem c76:Wc 76 F76 (aC f76 1):=am rfl rfl
theorem c81:Wc 81 F81 (aC f81 1):=am rfl rfl
theorem c84:Wc 84 F84 (aC f84 1):=am rfl rfl
theorem c86:Wc 86 F86 (aC f86 1):=am rfl rfl
theorem c90:Wc 90 F90 (aC f90 1):=am rfl rfl
theorem c97:Wc 97 F97 (aC f97 1):=am rfl rfl
theorem aeC:Wc 114 Zr (aC f114 1):=am rfl rfl
theorem aex:Wc 128 Y4 (aC f128 1):=am rfl rfl
theorem aes:Wc 133 YZ (aC f133 1):=am rfl rfl
theorem aer:Wc 134 YY (aC f134 1):=am rfl rfl
theorem aeq:Wc 135 YX (aC f135 1):=am rfl rfl
theorem aem:Wc 139 YT (aC f139 1):=am rfl rfl
theorem aek:Wc 141 YR (aC f141 1):=am rfl rfl
theorem Rx:Wc 157 YL (aC f157 1):=am rfl rfl
theorem abe:Wc 158 YK (aC f158 1):=am rfl rfl
theorem aee:Wc 160 YI (aC f160 1):=am rfl rfl
theorem aed:Wc 161 YH (aC f161 1):=am rfl rfl
theorem aeb:Wc 163 YF (aC f163 1):=am rfl rfl
theorem ad9:Wc 165 YD (aC f165 1):=am rfl rfl
theorem ad1:Wc 173 Yx (aC f173 1):=am rfl rfl
theorem adY:Wc 176 Yt (aC f176 1):=am rfl rfl
theorem adV:Wc 189 Yq (aC f189 1):=am rfl rfl
theorem adT:Wc 201 Yo (aC f201 1):=am rfl rfl
theorem adS:Wc 202 Ym (aC f202 1):=am rfl rfl
theorem adO:Wc 206 Yi (aC f206 1):=am rfl rfl
theorem adF:Wc 228 R2 (aC f228 1):=am rfl rfl
end
end
end Go.Iso.Gen
