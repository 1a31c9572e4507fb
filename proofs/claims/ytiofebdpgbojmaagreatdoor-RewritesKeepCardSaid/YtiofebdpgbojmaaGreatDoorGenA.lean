/-
  the code that the claim reaches, for the evaluator.
-/
import Derived.Test.YtiofebdpgbojmaaGreatDoorGenH
set_option linter.unusedSimpArgs false
set_option linter.unusedVariables false
set_option maxRecDepth 100000
set_option maxHeartbeats 4000000
set_option linter.defProp false
namespace Go.Iso.Gen
open Go.Proofs Go.Proofs.Tryz
noncomputable section
section
variable {lo:Nat}{rd:Option Nat}{fr:Fr}{H:Heap}{Q:Aq}{args:List IV}
def WP:=ab f7 2
def WO:=ab f7 5
def WN:=ab f7 19
def O1:=ab f7 267
def WM:=ab f7 1099
def WL:=ab f7 4683
def WK:=ab f7 5707
def WJ:=ab f7 69195
def WI:=ab f7 282187
def O2:=ab f7 23
def XM:=kK f42 11 [(.seq,[⟨some 13,.move,[.tmp 1],none,true,0,0⟩,⟨some 14,.fieldAddr 0,[.tmp 5],none,true,0,0⟩,⟨some 15,.load none,[.tmp 14],none,true,0,0⟩,⟨some 16,.lookup 100 (false,[.int]) (.nilFunc) false,[.tmp 13,.tmp 15],none,true,0,0⟩,⟨some 17,.move,[.tmp 0],none,true,0,0⟩,⟨some 18,.load (some 6),[.tmp 5],none,true,0,0⟩,⟨some 19,.call,[.tmp 16,.tmp 17,.tmp 18],none,true,0,0⟩,⟨some 6,.move,[.tmp 19],none,true,0,0⟩])] (by kernel_rfl)
def TV:=kK f73 154350255 [(.seq,[⟨some 77,.load none,[.tmp 13],none,true,0,0⟩,⟨some 78,.load (some 2),[.tmp 19],none,true,0,0⟩,⟨some 79,.lookup 206 (true,[.int,.int]) (.bool false) false,[.tmp 77,.tmp 78],none,true,0,0⟩])] (by kernel_rfl)
def TU:=kK f73 120795823 [(.seq,[⟨some 80,.load none,[.tmp 13],none,true,0,0⟩,⟨some 81,.load (some 2),[.tmp 19],none,true,0,0⟩,⟨none,.mapUpd (true,[.int,.int]),[.tmp 80,.tmp 81,.val (.bool true)],none,true,0,0⟩])] (by kernel_rfl)
def K6:=ab f108 2
def Up:=kK f109 5323 [(.free,[⟨some 16,.move,[.tmp 0],none,false,0,0⟩,⟨some 17,.move,[.tmp 5],none,false,1,0⟩,⟨some 18,.idxSl 4,[.tmp 16,.tmp 17],none,false,2,3⟩,⟨some 19,.load (some 4),[.tmp 18],none,false,3,7⟩,⟨some 20,.move,[.tmp 1],none,false,4,0⟩,⟨some 21,.move,[.tmp 5],none,false,5,0⟩,⟨some 22,.idxSl 4,[.tmp 20,.tmp 21],none,false,6,48⟩,⟨some 23,.load (some 4),[.tmp 22],none,false,7,112⟩]),(.seq,[⟨some 24,.eqFlat true [.int,.int,.bool,.int],[.tmp 19,.tmp 23],none,true,8,255⟩])] (by kernel_rfl)
def Ul:=kK f117 19 [(.free,[⟨some 40,.move,[.tmp 0],none,false,0,0⟩,⟨some 41,.move,[.tmp 2],none,false,1,0⟩,⟨some 42,.idxSl 6,[.tmp 40,.tmp 41],none,false,2,3⟩,⟨some 43,.fieldAddr 2,[.tmp 42],none,false,3,7⟩,⟨some 44,.load (some 2),[.tmp 43],none,false,4,15⟩,⟨some 45,.move,[.tmp 1],none,false,5,0⟩,⟨some 46,.move,[.tmp 2],none,false,6,0⟩,⟨some 47,.idxSl 3,[.tmp 45,.tmp 46],none,false,7,96⟩,⟨some 48,.fieldAddr 0,[.tmp 47],none,false,8,224⟩,⟨some 49,.load none,[.tmp 48],none,false,9,480⟩,⟨some 50,.call,[.val (.fn 114 [] []),.tmp 44,.tmp 49],none,false,10,1023⟩,⟨some 39,.move,[.tmp 50],none,false,11,2047⟩,⟨some 51,.extract 0,[.tmp 39],none,false,12,4095⟩,⟨some 52,.extract 1,[.tmp 39],none,false,13,4095⟩,⟨some 7,.alloc 57 2 [.int .u8 0,.int .i64 0],[],none,false,14,0⟩,⟨none,.store 2,[.tmp 7,.tmp 51],none,true,15,24575⟩]),(.seq,[⟨some 8,.move,[.tmp 52],none,true,16,65535⟩])] (by kernel_rfl)
def Uk:=kK f117 43 [(.seq,[⟨some 53,.move,[.tmp 8],none,true,0,0⟩]),(.seq,[⟨some 54,.bin .neq,[.tmp 53,.val (.int .i64 0)],none,true,1,1⟩]),(.seq,[⟨some 55,.move,[.tmp 54],none,true,2,3⟩]),(.free,[⟨some 56,.move,[.tmp 0],some (55,false),false,3,7⟩,⟨some 57,.move,[.tmp 2],some (55,false),false,4,7⟩,⟨some 58,.bin .add,[.tmp 57,.val (.int .i64 1)],some (55,false),false,5,23⟩,⟨some 59,.idxSl 6,[.tmp 56,.tmp 58],some (55,false),false,6,63⟩,⟨some 60,.fieldAddr 2,[.tmp 59],some (55,false),false,7,127⟩,⟨some 61,.load (some 2),[.tmp 60],some (55,false),false,8,255⟩,⟨some 62,.load (some 2),[.tmp 7],some (55,false),false,9,7⟩]),(.seq,[⟨some 63,.eqFlat true [.int,.int],[.tmp 61,.tmp 62],some (55,false),true,10,1023⟩]),(.seq,[⟨some 64,.pick,[.tmp 55,.val (.bool true),.tmp 63],none,true,11,2047⟩])] (by kernel_rfl)
def Uf:=kK f139 5 [(.free,[⟨some 8,.move,[.tmp 0],none,false,0,0⟩,⟨some 9,.nilCheck,[.tmp 8],none,false,1,1⟩,⟨some 10,.fieldAddr 3,[.tmp 9],none,false,2,3⟩,⟨some 11,.load none,[.tmp 10],none,false,3,7⟩,⟨some 12,.fieldAddr 4,[.tmp 3],none,false,4,0⟩,⟨some 13,.load none,[.tmp 12],none,false,5,16⟩,⟨some 14,.bin .sub,[.tmp 13,.val (.int .u8 1)],none,false,6,48⟩,⟨some 15,.idxSl 5,[.tmp 11,.tmp 14],none,false,7,127⟩,⟨some 16,.load (some 5),[.tmp 15],none,false,8,255⟩,⟨some 17,.fieldAddr 2,[.tmp 3],none,false,9,0⟩,⟨some 18,.load (some 2),[.tmp 17],none,false,10,512⟩,⟨some 19,.move,[.tmp 0],none,false,11,0⟩,⟨some 20,.nilCheck,[.tmp 19],none,false,12,2048⟩,⟨some 21,.fieldAddr 0,[.tmp 20],none,false,13,6144⟩,⟨some 22,.load none,[.tmp 21],none,false,14,14336⟩,⟨some 23,.call,[.val (.fn 45 [] []),.tmp 18,.tmp 22],none,false,15,32256⟩,⟨some 7,.alloc 122 5 [.bool false,.int .i64 0,.int .i64 0,.bool false,.nilSlice],[],none,false,16,0⟩]),(.seq,[⟨none,.store 5,[.tmp 7,.tmp 16],none,true,17,131071⟩]),(.seq,[⟨some 5,.move,[.tmp 23],none,true,18,262143⟩])] (by kernel_rfl)
def KY:=ab f156 2
def KX:=ab f156 9
def wG:=ab f156 69
def C8:=ab f156 357
def KW:=ab f156 997
def Uc:=kK f161 5 [(.seq,[⟨some 5,.fieldAddr 0,[.tmp 3],none,true,0,0⟩]),(.seq,[⟨some 6,.load none,[.tmp 5],none,true,1,1⟩]),(.seq,[⟨some 7,.bin .geq,[.tmp 6,.val (.int .u8 1)],none,true,2,3⟩]),(.seq,[⟨some 8,.move,[.tmp 7],none,true,3,7⟩]),(.free,[⟨some 9,.fieldAddr 0,[.tmp 3],some (8,true),true,4,15⟩,⟨some 10,.load none,[.tmp 9],some (8,true),true,5,31⟩,⟨some 11,.conv .i64,[.tmp 10],some (8,true),true,6,63⟩,⟨some 12,.move,[.tmp 0],some (8,true),false,7,15⟩,⟨some 13,.lenSl,[.tmp 12],some (8,true),false,8,143⟩]),(.seq,[⟨some 14,.bin .leq,[.tmp 11,.tmp 13],some (8,true),true,9,511⟩]),(.seq,[⟨some 15,.pick,[.tmp 8,.tmp 14,.val (.bool false)],none,true,10,1023⟩]),(.seq,[⟨some 16,.move,[.tmp 15],none,true,11,2047⟩]),(.seq,[⟨some 17,.fieldAddr 1,[.tmp 3],some (16,true),true,12,4095⟩]),(.seq,[⟨some 18,.load none,[.tmp 17],some (16,true),true,13,8191⟩]),(.seq,[⟨some 19,.bin .geq,[.tmp 18,.val (.int .i64 0)],some (16,true),true,14,16383⟩]),(.seq,[⟨some 20,.pick,[.tmp 16,.tmp 19,.val (.bool false)],none,true,15,32767⟩]),(.seq,[⟨some 21,.move,[.tmp 20],none,true,16,65535⟩]),(.free,[⟨some 22,.fieldAddr 1,[.tmp 3],some (21,true),false,17,131071⟩,⟨some 23,.load none,[.tmp 22],some (21,true),false,18,262143⟩,⟨some 24,.move,[.tmp 0],some (21,true),false,19,131071⟩,⟨some 25,.fieldAddr 0,[.tmp 3],some (21,true),false,20,131071⟩,⟨some 26,.load none,[.tmp 25],some (21,true),false,21,1179647⟩,⟨some 27,.bin .sub,[.tmp 26,.val (.int .u8 1)],some (21,true),false,22,3276799⟩,⟨some 28,.idxSl 1,[.tmp 24,.tmp 27],some (21,true),false,23,7995391⟩,⟨some 29,.load none,[.tmp 28],some (21,true),false,24,16383999⟩,⟨some 30,.lenSl,[.tmp 29],some (21,true),false,25,33161215⟩]),(.seq,[⟨some 31,.bin .lss,[.tmp 23,.tmp 30],some (21,true),true,26,67108863⟩]),(.seq,[⟨some 32,.pick,[.tmp 21,.tmp 31,.val (.bool false)],none,true,27,134217727⟩]),(.seq,[⟨some 4,.move,[.tmp 32],none,true,28,268435455⟩])] (by kernel_rfl)
def C7:=ab f165 17
def KV:=ab f165 281
def KU:=ab f165 665
def KT:=ab f165 1433
def Fe:=ab f165 121
def Ua:=kK f169 5 [(.seq,[⟨some 1,.mkmap,[],none,true,0,0⟩,⟨some 2,.build [.bool false,.bool false,.bool false,.bool false] [(0,1),(2,1)],[.val (.bool true),.val (.bool true)],none,true,0,0⟩,⟨none,.mapUpd (false,[.int]),[.tmp 1,.val (.int .u8 1),.tmp 2],none,true,0,0⟩,⟨some 3,.build [.bool false,.bool false,.bool false,.bool false] [(2,1)],[.val (.bool true)],none,true,0,0⟩,⟨none,.mapUpd (false,[.int]),[.tmp 1,.val (.int .u8 2),.tmp 3],none,true,0,0⟩,⟨some 4,.build [.bool false,.bool false,.bool false,.bool false] [(3,1)],[.val (.bool true)],none,true,0,0⟩,⟨none,.mapUpd (false,[.int]),[.tmp 1,.val (.int .u8 3),.tmp 4],none,true,0,0⟩,⟨some 5,.build [.bool false,.bool false,.bool false,.bool false] [(0,1),(1,1),(2,1)],[.val (.bool true),.val (.bool true),.val (.bool true)],none,true,0,0⟩,⟨none,.mapUpd (false,[.int]),[.tmp 1,.val (.int .u8 4),.tmp 5],none,true,0,0⟩,⟨some 6,.build [.bool false,.bool false,.bool false,.bool false] [(0,1),(1,1),(2,1)],[.val (.bool true),.val (.bool true),.val (.bool true)],none,true,0,0⟩,⟨none,.mapUpd (false,[.int]),[.tmp 1,.val (.int .u8 5),.tmp 6],none,true,0,0⟩,⟨some 7,.build [.bool false,.bool false,.bool false,.bool false] [(0,1),(1,1),(2,1)],[.val (.bool true),.val (.bool true),.val (.bool true)],none,true,0,0⟩,⟨none,.mapUpd (false,[.int]),[.tmp 1,.val (.int .u8 6),.tmp 7],none,true,0,0⟩,⟨some 8,.build [.bool false,.bool false,.bool false,.bool false] [(1,1)],[.val (.bool true)],none,true,0,0⟩,⟨none,.mapUpd (false,[.int]),[.tmp 1,.val (.int .u8 7),.tmp 8],none,true,0,0⟩,⟨some 9,.build [.bool false,.bool false,.bool false,.bool false] [(1,1)],[.val (.bool true)],none,true,0,0⟩,⟨none,.mapUpd (false,[.int]),[.tmp 1,.val (.int .u8 8),.tmp 9],none,true,0,0⟩,⟨some 10,.move,[.tmp 1],none,true,0,0⟩,⟨some 0,.move,[.tmp 10],none,true,0,0⟩])] (by kernel_rfl)
def Pm:=kK f202 348966091 [(.free,[⟨some 30,.move,[.tmp 3],none,false,0,0⟩,⟨some 31,.load (some 2),[.tmp 9],none,true,1,0⟩]),(.free,[⟨some 32,.lookup 251 (true,[.int,.int]) (.int .i64 0) false,[.tmp 30,.tmp 31],none,false,2,3⟩,⟨some 33,.bin .add,[.tmp 32,.val (.int .i64 1)],none,false,3,7⟩,⟨some 34,.mapEntry 251 (true,[.int,.int]) (.int .i64 0),[.tmp 30,.tmp 31],none,true,4,3⟩,⟨some 35,.extract 1,[.tmp 34],none,false,5,19⟩]),(.seq,[⟨none,.entryStore,[.tmp 30,.tmp 35,.tmp 33],none,true,6,63⟩])] (by kernel_rfl)
def Pl:=kK f202 751619275 [(.seq,[⟨some 36,.move,[.tmp 3],none,true,0,0⟩,⟨some 37,.load (some 2),[.tmp 9],none,true,0,0⟩,⟨some 38,.lookup 251 (true,[.int,.int]) (.int .i64 0) false,[.tmp 36,.tmp 37],none,true,0,0⟩,⟨some 39,.bin .gtr,[.tmp 38,.val (.int .i64 1)],none,true,0,0⟩])] (by kernel_rfl)
def T3:=kK f233 5 [(.seq,[⟨some 5,.fieldAddr 0,[.tmp 3],none,true,0,0⟩]),(.seq,[⟨some 6,.load none,[.tmp 5],none,true,1,1⟩]),(.seq,[⟨some 7,.bin .geq,[.tmp 6,.val (.int .u8 1)],none,true,2,3⟩]),(.seq,[⟨some 8,.move,[.tmp 7],none,true,3,7⟩]),(.free,[⟨some 9,.fieldAddr 0,[.tmp 3],some (8,true),true,4,15⟩,⟨some 10,.load none,[.tmp 9],some (8,true),true,5,31⟩,⟨some 11,.conv .i64,[.tmp 10],some (8,true),true,6,63⟩,⟨some 12,.move,[.tmp 0],some (8,true),false,7,15⟩,⟨some 13,.lenSl,[.tmp 12],some (8,true),false,8,143⟩]),(.seq,[⟨some 14,.bin .leq,[.tmp 11,.tmp 13],some (8,true),true,9,511⟩]),(.seq,[⟨some 15,.pick,[.tmp 8,.tmp 14,.val (.bool false)],none,true,10,1023⟩]),(.seq,[⟨some 16,.move,[.tmp 15],none,true,11,2047⟩]),(.seq,[⟨some 17,.fieldAddr 1,[.tmp 3],some (16,true),true,12,4095⟩]),(.seq,[⟨some 18,.load none,[.tmp 17],some (16,true),true,13,8191⟩]),(.seq,[⟨some 19,.bin .geq,[.tmp 18,.val (.int .i64 0)],some (16,true),true,14,16383⟩]),(.seq,[⟨some 20,.pick,[.tmp 16,.tmp 19,.val (.bool false)],none,true,15,32767⟩]),(.seq,[⟨some 21,.move,[.tmp 20],none,true,16,65535⟩]),(.free,[⟨some 22,.fieldAddr 1,[.tmp 3],some (21,true),false,17,131071⟩,⟨some 23,.load none,[.tmp 22],some (21,true),false,18,262143⟩,⟨some 24,.move,[.tmp 0],some (21,true),false,19,131071⟩,⟨some 25,.fieldAddr 0,[.tmp 3],some (21,true),false,20,131071⟩,⟨some 26,.load none,[.tmp 25],some (21,true),false,21,1179647⟩,⟨some 27,.bin .sub,[.tmp 26,.val (.int .u8 1)],some (21,true),false,22,3276799⟩,⟨some 28,.idxSl 1,[.tmp 24,.tmp 27],some (21,true),false,23,7995391⟩,⟨some 29,.load none,[.tmp 28],some (21,true),false,24,16383999⟩,⟨some 30,.lenSl,[.tmp 29],some (21,true),false,25,33161215⟩]),(.seq,[⟨some 31,.bin .lss,[.tmp 23,.tmp 30],some (21,true),true,26,67108863⟩]),(.seq,[⟨some 32,.pick,[.tmp 21,.tmp 31,.val (.bool false)],none,true,27,134217727⟩]),(.seq,[⟨some 4,.move,[.tmp 32],none,true,28,268435455⟩])] (by kernel_rfl)
def B7:=J0 @WP<|J0 @WO<|J0 @WN<|J0 @O1<|J0 @WM<|J0 @WL<|j_ f7 19019<|J0 @WK<|J0 @WJ<|J0 @WI<|j_ f7 675403<|j_ f7 2510411<|j_ f7 118347<|j_ f7 459<|J0 @O2<|J0 (a7 f7 1) (F7.eq_1)
def BL7:=J0 B7<|J0 (EV f7 20043) ((cZ f7 75))
def B18:=j_ f18 2<|j_ f18 9<|j_ f18 37<|j_ f18 11<|j_ f18 39<|j_ f18 151<|j_ f18 599<|j_ f18 4439<|j_ f18 72023<|j_ f18 170327<|j_ f18 629079<|j_ f18 31063<|j_ f18 47<|J0 (a7 f18 1) (F18.eq_1)
def Ws:=J0 B18 ((cZ f18 2391))
def B35:=j_ f35 2<|j_ f35 5<|J0 (a7 f35 1) (F35.eq_1)
def B36:=j_ f36 2<|j_ f36 5<|J0 (a7 f36 1) (F36.eq_1)
def B40:=j_ f40 2<|j_ f40 9<|j_ f40 37<|j_ f40 19<|j_ f40 43<|j_ f40 155<|j_ f40 39<|j_ f40 151<|j_ f40 79<|j_ f40 559<|j_ f40 9007<|j_ f40 21295<|j_ f40 45871<|j_ f40 160559<|j_ f40 3887<|j_ f40 159<|j_ f40 351<|j_ f40 1247<|j_ f40 319<|j_ f40 1215<|j_ f40 639<|j_ f40 4479<|j_ f40 72063<|j_ f40 170367<|j_ f40 629119<|j_ f40 31103<|j_ f40 767<|J0 (a7 f40 1) (F40.eq_1)
def KB:=J0 B40<|J0 (cZ f40 303) ((cZ f40 2431))
def TI:=j_ f42 2<|j_ f42 9<|j_ f42 21<|j_ f42 77<|J0 @XM<|J0 (a7 f42 1) (F42.eq_1)
def TA:=j_ f73 2<|j_ f73 9<|j_ f73 37<|j_ f73 277<|j_ f73 1173<|j_ f73 341<|j_ f73 2261<|j_ f73 36053<|j_ f73 85205<|j_ f73 314581<|j_ f73 15573<|j_ f73 19<|j_ f73 75<|j_ f73 299<|j_ f73 2219<|j_ f73 36011<|j_ f73 85163<|j_ f73 576683<|j_ f73 9227435<|j_ f73 21810347<|j_ f73 80530603<|j_ f73 3984555<|j_ f73 15531<|j_ f73 23<|j_ f73 79<|j_ f73 303<|j_ f73 1199<|j_ f73 8879<|j_ f73 144047<|j_ f73 340655<|j_ f73 2306735<|j_ f73 36909743<|J0 @TV<|j_ f73 624112303<|J0 @TU<|j_ f73 15938223<|j_ f73 62127<|j_ f73 95<|J0 (a7 f73 1) (F73.eq_1)
def qD:=J0 TA<|J0 (cZ f73 1237)<|J0 (EV f73 314539)<|J0 (cZ f73 1195)<|J0 (EV f73 1258159) ((cZ f73 4783))
def B86:=j_ f86 2<|j_ f86 5<|j_ f86 19<|j_ f86 75<|j_ f86 39<|j_ f86 87<|j_ f86 311<|j_ f86 47<|J0 (a7 f86 1) (F86.eq_1)
def Wt:=j_ f89 2<|j_ f89 9<|j_ f89 37<|j_ f89 11<|j_ f89 39<|j_ f89 151<|j_ f89 47<|j_ f89 159<|j_ f89 1119<|j_ f89 18015<|j_ f89 42591<|j_ f89 157279<|j_ f89 7775<|j_ f89 191<|j_ f89 639<|j_ f89 1407<|j_ f89 767<|J0 (a7 f89 1) (F89.eq_1)
def Wo:=J0 Wt ((cZ f89 607))
def ahD:=J0 @K6<|j_ f108 5<|J0 (a7 f108 1) (Wn.eq_1)
def adp:=j_ f109 2<|j_ f109 9<|j_ f109 37<|j_ f109 19<|j_ f109 139<|j_ f109 2251<|J0 @Up<|j_ f109 19659<|j_ f109 971<|j_ f109 23<|J0 (a7 f109 1) (aaN.eq_1)
def Xz:=J0 adp ((cZ f109 75))
def Wz:=j_ f116 2<|j_ f116 9<|j_ f116 37<|j_ f116 11<|J0 (a7 f116 1) (aaG.eq_1)
def Iu:=j_ f117 2<|j_ f117 9<|j_ f117 37<|J0 @Ul<|J0 @Uk<|j_ f117 155<|j_ f117 23<|J0 (a7 f117 1) (aaF.eq_1)
def ahA:=j_ f126 2<|j_ f126 5<|J0 (a7 f126 1) (aaz.eq_1)
def ahz:=j_ f127 2<|j_ f127 5<|J0 (a7 f127 1) (aay.eq_1)
def adl:=j_ f129 2<|j_ f129 5<|j_ f129 11<|J0 (a7 f129 1) (aaw.eq_1)
def ahx:=j_ f133 2<|j_ f133 5<|j_ f133 11<|j_ f133 23<|J0 (a7 f133 1) (aas.eq_1)
def ahw:=j_ f134 2<|j_ f134 5<|j_ f134 11<|j_ f134 23<|J0 (a7 f134 1) (aar.eq_1)
def Wx:=j_ f136 2<|j_ f136 9<|j_ f136 21<|j_ f136 77<|j_ f136 19<|j_ f136 75<|j_ f136 39<|j_ f136 151<|j_ f136 47<|j_ f136 159<|j_ f136 351<|j_ f136 191<|J0 (a7 f136 1) (aap.eq_1)
def OM:=j_ f139 2<|J0 @Uf<|j_ f139 19<|j_ f139 75<|j_ f139 39<|j_ f139 279<|j_ f139 1175<|j_ f139 343<|j_ f139 79<|j_ f139 303<|j_ f139 95<|J0 (a7 f139 1) (aam.eq_1)
def adi:=j_ f147 2<|j_ f147 5<|j_ f147 19<|j_ f147 139<|j_ f147 2251<|j_ f147 5323<|j_ f147 19659<|j_ f147 971<|j_ f147 23<|J0 (a7 f147 1) (aah.eq_1)
def Ip:=J0 adi ((cZ f147 75))
def OK:=j_ f149 2<|j_ f149 5<|j_ f149 11<|j_ f149 39<|j_ f149 279<|j_ f149 1175<|j_ f149 343<|j_ f149 79<|j_ f149 303<|j_ f149 159<|j_ f149 607<|j_ f149 319<|j_ f149 1215<|j_ f149 383<|J0 (a7 f149 1) (aaf.eq_1)
def Wv:=J0 @KY<|J0 @KX<|J0 @wG<|J0 @C8<|J0 @KW<|j_ f156 149<|j_ f156 597<|j_ f156 2389<|j_ f156 725<|j_ f156 11<|J0 (a7 f156 1) (Wl.eq_1)
def ahv:=j_ f161 2<|J0 @Uc<|J0 (a7 f161 1) (aaa.eq_1)
def ahu:=j_ f162 2<|j_ f162 5<|J0 (a7 f162 1) (Z9.eq_1)
def TD:=j_ f164 2<|j_ f164 9<|j_ f164 21<|j_ f164 77<|j_ f164 19<|j_ f164 75<|j_ f164 23<|J0 (a7 f164 1) (Z7.eq_1)
def adc:=j_ f165 2<|J0 @C7<|J0 @KV<|J0 @KU<|J0 @KT<|j_ f165 9113<|j_ f165 144281<|j_ f165 209817<|j_ f165 62361<|J0 @Fe<|J0 (a7 f165 1) (Z6.eq_1)
def Tw:=J0 adc<|J0 (EV f165 5017) ((cZ f165 9))
def ahq:=j_ f169 2<|J0 @Ua<|J0 (a7 f169 1) (Z2.eq_1)
def OI:=j_ f174 2<|j_ f174 5<|j_ f174 19<|j_ f174 43<|j_ f174 23<|j_ f174 79<|j_ f174 559<|j_ f174 9007<|j_ f174 21295<|j_ f174 45871<|j_ f174 3887<|j_ f174 159<|j_ f174 351<|j_ f174 191<|J0 (a7 f174 1) (ZZ.eq_1)
def Mn:=J0 OI ((cZ f174 303))
def ahp:=j_ f177 2<|j_ f177 5<|j_ f177 11<|j_ f177 23<|J0 (a7 f177 1) (ZW.eq_1)
def ada:=j_ f178 2<|j_ f178 9<|j_ f178 37<|j_ f178 11<|J0 (a7 f178 1) (ZV.eq_1)
def ac8:=j_ f201 2<|j_ f201 9<|j_ f201 69<|j_ f201 1125<|j_ f201 2661<|j_ f201 18021<|j_ f201 288357<|j_ f201 681573<|j_ f201 2516581<|j_ f201 124517<|j_ f201 485<|j_ f201 11<|J0 (a7 f201 1) (ZS.eq_1)
def CC:=J0 ac8<|J0 (EV f201 9829) ((cZ f201 37))
def ac7:=j_ f202 2<|j_ f202 5<|j_ f202 19<|j_ f202 139<|j_ f202 2251<|j_ f202 5323<|j_ f202 36043<|j_ f202 576715<|j_ f202 1363147<|j_ f202 9227467<|j_ f202 147639499<|J0 @Pm<|J0 @Pl<|j_ f202 2630667467<|j_ f202 63753419<|j_ f202 249035<|j_ f202 971<|j_ f202 23<|J0 (a7 f202 1) (ZR.eq_1)
def CA:=J0 ac7<|J0 (ru3 f202 5033163)<|J0 (EV f202 19659) ((cZ f202 75))
def aaY:=j_ f213 2<|j_ f213 33<|j_ f213 73<|j_ f213 57<|J0 (a7 f213 1) (ZG.eq_1)
def Ts:=J0 aaY ((cZ f213 9))
def ac5:=j_ f226 2<|j_ f226 9<|j_ f226 37<|j_ f226 11<|J0 (a7 f226 1) (ZE.eq_1)
def ac3:=j_ f230 2<|j_ f230 5<|j_ f230 131<|j_ f230 163<|j_ f230 23<|J0 (a7 f230 1) (ZB.eq_1)
def To:=J0 ac3 ((cZ f230 35))
def ahh:=j_ f233 2<|J0 @T3<|J0 (a7 f233 1) (ZA.eq_1)
theorem c7:Wc 7 F7 (aB f7 1):=am rfl rfl
theorem c18:Wc 18 F18 (aB f18 1):=am rfl rfl
theorem c35:Wc 35 F35 (aB f35 1):=am rfl rfl
theorem c36:Wc 36 F36 (aB f36 1):=am rfl rfl
theorem c40:Wc 40 F40 (aB f40 1):=am rfl rfl
theorem c42:Wc 42 F42 (aB f42 1):=am rfl rfl
theorem c73:Wc 73 F73 (aB f73 1):=am rfl rfl
theorem c86:Wc 86 F86 (aB f86 1):=am rfl rfl
theorem c89:Wc 89 F89 (aB f89 1):=am rfl rfl
theorem af4:Wc 108 Wn (aB f108 1):=am rfl rfl
theorem af3:Wc 109 aaN (aB f109 1):=am rfl rfl
theorem afW:Wc 116 aaG (aB f116 1):=am rfl rfl
theorem afV:Wc 117 aaF (aB f117 1):=am rfl rfl
theorem afQ:Wc 126 aaz (aB f126 1):=am rfl rfl
theorem afP:Wc 127 aay (aB f127 1):=am rfl rfl
theorem afN:Wc 129 aaw (aB f129 1):=am rfl rfl
theorem afJ:Wc 133 aas (aB f133 1):=am rfl rfl
theorem afI:Wc 134 aar (aB f134 1):=am rfl rfl
theorem afG:Wc 136 aap (aB f136 1):=am rfl rfl
theorem afD:Wc 139 aam (aB f139 1):=am rfl rfl
theorem afx:Wc 147 aah (aB f147 1):=am rfl rfl
theorem acA:Wc 149 aaf (aB f149 1):=am rfl rfl
theorem afv:Wc 156 Wl (aB f156 1):=am rfl rfl
theorem aft:Wc 161 aaa (aB f161 1):=am rfl rfl
theorem afs:Wc 162 Z9 (aB f162 1):=am rfl rfl
theorem afq:Wc 164 Z7 (aB f164 1):=am rfl rfl
theorem afp:Wc 165 Z6 (aB f165 1):=am rfl rfl
theorem afl:Wc 169 Z2 (aB f169 1):=am rfl rfl
theorem afg:Wc 174 ZZ (aB f174 1):=am rfl rfl
theorem afd:Wc 177 ZW (aB f177 1):=am rfl rfl
theorem afc:Wc 178 ZV (aB f178 1):=am rfl rfl
theorem ae9:Wc 201 ZS (aB f201 1):=am rfl rfl
theorem ae8:Wc 202 ZR (aB f202 1):=am rfl rfl
theorem acu:Wc 213 ZG (aB f213 1):=am rfl rfl
theorem aeX:Wc 226 ZE (aB f226 1):=am rfl rfl
theorem aeT:Wc 230 ZB (aB f230 1):=am rfl rfl
theorem aeS:Wc 233 ZA (aB f233 1):=am rfl rfl
end
end
end Go.Iso.Gen
