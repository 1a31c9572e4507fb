/-
  the code that the claim reaches, for the evaluator.
-/
import Derived.Test.YtiofebdpgbojmaaGreatDoorGenH
set_option linter.unusedSimpArgs false
set_option linter.unusedVariables false
set_option maxRecDepth 100000
set_option maxHeartbeats 4000000
set_option linter.defProp false
namespace Go.Iso.Gen
open Go.Proofs Go.Proofs.Tryz
noncomputable section
section
variable {lo:Nat}{rd:Option Nat}{fr:Fr}{H:Heap}{Q:Aq}{args:List IV}
def Px:=ab f13 79
def Pw:=ab f13 95
def Pu:=ab f13 191
def IK:=ab f33 2
def IJ:=ab f33 5
def II:=ab f33 11
def IG:=ab f33 23
def IF:=ab f33 79
def Pc:=ab f33 175
def XO:=kK f41 5 [(.free,[⟨some 6,.fieldAddr 0,[.tmp 1],none,false,0,0⟩,⟨some 7,.load none,[.tmp 6],none,false,1,1⟩,⟨some 8,.fieldAddr 1,[.tmp 1],none,false,2,0⟩,⟨some 9,.fieldAddr 0,[.tmp 8],none,false,3,4⟩,⟨some 10,.load none,[.tmp 9],none,false,4,12⟩,⟨some 11,.call,[.val (.fn 78 [] []),.tmp 10],none,false,5,28⟩,⟨some 12,.fieldAddr 1,[.tmp 1],none,false,6,0⟩,⟨some 13,.fieldAddr 1,[.tmp 12],none,false,7,64⟩,⟨some 14,.load none,[.tmp 13],none,false,8,192⟩,⟨some 15,.call,[.val (.fn 78 [] []),.tmp 14],none,false,9,508⟩,⟨some 16,.build [.nilSlice,.nilSlice] [(0,1),(1,1)],[.tmp 11,.tmp 15],none,false,10,1020⟩,⟨some 17,.fieldAddr 3,[.tmp 1],none,false,11,0⟩,⟨some 18,.load none,[.tmp 17],none,false,12,2048⟩,⟨some 19,.call,[.val (.fn 79 [] []),.tmp 18],none,false,13,7164⟩,⟨some 20,.fieldAddr 4,[.tmp 1],none,false,14,0⟩,⟨some 21,.fieldAddr 0,[.tmp 20],none,false,15,16384⟩,⟨some 22,.load none,[.tmp 21],none,false,16,49152⟩,⟨some 23,.call,[.val (.fn 80 [] []),.tmp 22],none,false,17,130044⟩,⟨some 24,.fieldAddr 4,[.tmp 1],none,false,18,0⟩,⟨some 25,.fieldAddr 1,[.tmp 24],none,false,19,262144⟩,⟨some 26,.load none,[.tmp 25],none,false,20,786432⟩,⟨some 27,.lenSl,[.tmp 26],none,false,21,1835008⟩,⟨some 28,.mkmap,[.tmp 27],none,false,22,3932160⟩,⟨some 29,.fieldAddr 4,[.tmp 1],none,false,23,0⟩,⟨some 30,.fieldAddr 3,[.tmp 29],none,false,24,8388608⟩,⟨some 31,.load none,[.tmp 30],none,false,25,25165824⟩,⟨some 32,.call,[.val (.fn 81 [] []),.tmp 31],none,false,26,58981372⟩]),(.seq,[⟨some 33,.build [.int .i64 0,.nilSlice,.nilSlice,.nilSlice,.nilSlice,.nilMap,.nilSlice] [(0,1),(1,2),(3,1),(4,1),(5,1),(6,1)],[.tmp 7,.tmp 16,.tmp 19,.tmp 23,.tmp 28,.tmp 32],none,true,27,134217727⟩]),(.seq,[⟨some 34,.box 157 7,[.tmp 33],none,true,28,268435455⟩]),(.seq,[⟨some 3,.move,[.tmp 34],none,true,29,536870911⟩])] (by kernel_rfl)
def XN:=kK f41 3275 [(.free,[⟨some 43,.move,[.tmp 3],none,false,0,0⟩,⟨some 44,.nilCheck,[.tmp 43],none,false,1,1⟩,⟨some 45,.fieldAddr 5,[.tmp 44],none,false,2,3⟩,⟨some 46,.load none,[.tmp 45],none,false,3,7⟩,⟨some 47,.fieldAddr 0,[.tmp 5],none,false,4,0⟩,⟨some 48,.load (some 2),[.tmp 47],none,false,5,16⟩,⟨some 49,.fieldAddr 2,[.tmp 5],none,false,6,0⟩,⟨some 50,.load (some 2),[.tmp 49],none,false,7,64⟩,⟨some 51,.build [.int .u8 0,.int .i64 0,.int .u8 0,.int .i64 0] [(0,2),(2,2)],[.tmp 48,.tmp 50],none,false,8,240⟩,⟨some 52,.fieldAddr 4,[.tmp 5],none,false,9,0⟩,⟨some 53,.load none,[.tmp 52],none,false,10,512⟩]),(.seq,[⟨none,.mapUpd (true,[.int,.int,.int,.int]),[.tmp 46,.tmp 51,.tmp 53],none,true,11,2047⟩])] (by kernel_rfl)
def XK:=kK f76 5323 [(.free,[⟨some 16,.move,[.tmp 0],none,false,0,0⟩,⟨some 17,.move,[.tmp 5],none,false,1,0⟩,⟨some 18,.idxSl 2,[.tmp 16,.tmp 17],none,false,2,3⟩,⟨some 19,.load (some 2),[.tmp 18],none,false,3,7⟩,⟨some 20,.move,[.tmp 1],none,false,4,0⟩,⟨some 21,.move,[.tmp 5],none,false,5,0⟩,⟨some 22,.idxSl 2,[.tmp 20,.tmp 21],none,false,6,48⟩,⟨some 23,.load (some 2),[.tmp 22],none,false,7,112⟩]),(.seq,[⟨some 24,.eqFlat true [.int,.int],[.tmp 19,.tmp 23],none,true,8,255⟩])] (by kernel_rfl)
def uj:=ab f99 139
def CH:=ab f99 2251
def CG:=ab f99 5323
def CF:=ab f99 36043
def IE:=ab f99 150731
def ID:=ab f99 216267
def O0:=ab f99 183499
def CK:=ab f99 380107
def mJ:=ab f99 971
def CI:=ab f99 23
def KH:=ab f99 47
def Um:=kK f115 9 [(.free,[⟨some 7,.move,[.tmp 0],none,true,0,0⟩,⟨some 8,.move,[.tmp 2],none,true,1,0⟩]),(.seq,[⟨some 9,.idxSl 6,[.tmp 7,.tmp 8],none,true,2,3⟩]),(.seq,[⟨some 10,.fieldAddr 0,[.tmp 9],none,true,3,7⟩]),(.seq,[⟨some 11,.load none,[.tmp 10],none,true,4,15⟩]),(.seq,[⟨some 12,.bin .eql,[.tmp 11,.val (.int .u8 3)],none,true,5,31⟩]),(.seq,[⟨some 13,.move,[.tmp 12],none,true,6,63⟩]),(.free,[⟨some 14,.move,[.tmp 0],some (13,true),false,7,127⟩,⟨some 15,.move,[.tmp 2],some (13,true),false,8,127⟩,⟨some 16,.idxSl 6,[.tmp 14,.tmp 15],some (13,true),false,9,511⟩,⟨some 17,.fieldAddr 5,[.tmp 16],some (13,true),false,10,1023⟩,⟨some 18,.load none,[.tmp 17],some (13,true),false,11,2047⟩,⟨some 19,.move,[.tmp 1],some (13,true),false,12,127⟩,⟨some 20,.move,[.tmp 2],some (13,true),false,13,127⟩,⟨some 21,.idxSl 3,[.tmp 19,.tmp 20],some (13,true),false,14,12415⟩,⟨some 22,.fieldAddr 0,[.tmp 21],some (13,true),false,15,28799⟩,⟨some 23,.load none,[.tmp 22],some (13,true),false,16,61567⟩]),(.seq,[⟨some 24,.bin .eql,[.tmp 18,.tmp 23],some (13,true),true,17,131071⟩]),(.seq,[⟨some 25,.pick,[.tmp 13,.tmp 24,.val (.bool false)],none,true,18,262143⟩])] (by kernel_rfl)
def K2:=ab f119 2
def K1:=ab f119 9
def K0:=ab f119 19
def Uj:=kK f128 23 [(.seq,[⟨some 25,.load (some 4),[.tmp 2],none,true,0,0⟩,⟨some 26,.load (some 4),[.tmp 3],none,true,0,0⟩,⟨some 27,.eqFlat false [.int,.int,.bool,.int],[.tmp 25,.tmp 26],none,true,0,0⟩,⟨some 4,.move,[.tmp 27],none,true,0,0⟩])] (by kernel_rfl)
def Ui:=kK f135 5 [(.free,[⟨some 6,.call,[.val (.fn 169 [] [])],none,false,0,0⟩,⟨some 7,.fieldAddr 0,[.tmp 1],none,false,1,0⟩,⟨some 8,.load none,[.tmp 7],none,false,2,2⟩,⟨some 9,.lookup 261 (false,[.int]) (.agg [.bool false,.bool false,.bool false,.bool false]) true,[.tmp 6,.tmp 8],none,false,3,7⟩,⟨some 5,.move,[.tmp 9],none,false,4,15⟩,⟨some 10,.extract 0,[.tmp 5],none,false,5,31⟩,⟨some 11,.extract 1,[.tmp 5],none,false,6,31⟩,⟨some 3,.alloc 259 4 [.bool false,.bool false,.bool false,.bool false],[],none,false,7,0⟩,⟨none,.store 4,[.tmp 3,.tmp 10],none,true,8,191⟩]),(.seq,[⟨some 4,.move,[.tmp 11],none,true,9,511⟩])] (by kernel_rfl)
def Uh:=kK f135 79 [(.seq,[⟨some 36,.fieldAddr 1,[.tmp 3],none,true,0,0⟩,⟨some 37,.load none,[.tmp 36],none,true,0,0⟩,⟨some 38,.move,[.tmp 37],none,true,0,0⟩,⟨some 39,.fieldAddr 2,[.tmp 1],some (38,true),true,0,0⟩,⟨some 40,.load (some 2),[.tmp 39],some (38,true),true,0,0⟩,⟨some 41,.call,[.val (.fn 97 [] []),.tmp 40],some (38,true),true,0,0⟩,⟨some 42,.bin .neq,[.tmp 41,.val (.int .i64 0)],some (38,true),true,0,0⟩,⟨some 43,.pick,[.tmp 38,.tmp 42,.val (.bool false)],none,true,0,0⟩,⟨some 44,.move,[.tmp 43],none,true,0,0⟩,⟨some 45,.fieldAddr 1,[.tmp 3],some (44,false),true,0,0⟩,⟨some 46,.load none,[.tmp 45],some (44,false),true,0,0⟩,⟨some 47,.un .not,[.tmp 46],some (44,false),true,0,0⟩,⟨some 48,.move,[.tmp 47],some (44,false),true,0,0⟩,⟨some 49,.fieldAddr 2,[.tmp 1],some (48,true),true,0,0⟩,⟨some 50,.load (some 2),[.tmp 49],some (48,true),true,0,0⟩,⟨some 51,.build [.int .u8 0,.int .i64 0] [],[],some (48,true),true,0,0⟩,⟨some 52,.eqFlat true [.int,.int],[.tmp 50,.tmp 51],some (48,true),true,0,0⟩,⟨some 53,.pick,[.tmp 48,.tmp 52,.val (.bool false)],some (44,false),true,0,0⟩,⟨some 54,.pick,[.tmp 44,.val (.bool true),.tmp 53],none,true,0,0⟩])] (by kernel_rfl)
def Ub:=kK f163 409 [(.free,[⟨some 11,.load none,[.tmp 1],none,false,0,0⟩,⟨some 12,.load (some 2),[.tmp 4],none,false,1,0⟩]),(.free,[⟨some 13,.lookup 251 (true,[.int,.int]) (.int .i64 0) false,[.tmp 11,.tmp 12],none,false,2,3⟩,⟨some 14,.bin .add,[.tmp 13,.val (.int .i64 1)],none,false,3,7⟩,⟨some 15,.mapEntry 251 (true,[.int,.int]) (.int .i64 0),[.tmp 11,.tmp 12],none,true,4,3⟩,⟨some 16,.extract 1,[.tmp 15],none,false,5,19⟩]),(.seq,[⟨none,.entryStore,[.tmp 11,.tmp 16,.tmp 14],none,true,6,63⟩])] (by kernel_rfl)
def C6:=ab f170 21
def C5:=ab f170 19
def C4:=ab f170 23
def C3:=ab f170 79
def KS:=ab f170 175
def C0:=ab f170 95
def xy:=ab f170 319
def xx:=ab f170 2239
def Fd:=ab f170 36031
def Fc:=ab f170 85183
def jU:=ab f170 314559
def oq:=ab f170 380095
def se:=ab f170 15551
def T9:=kK f173 23 [(.free,[⟨some 23,.move,[.tmp 0],none,false,0,0⟩,⟨some 24,.nilCheck,[.tmp 23],none,false,1,1⟩,⟨some 25,.fieldAddr 5,[.tmp 24],none,false,2,3⟩,⟨some 26,.load none,[.tmp 25],none,false,3,7⟩,⟨some 27,.load (some 4),[.tmp 5],none,false,4,0⟩,⟨some 28,.lookup 154 (true,[.int,.int,.int,.int]) (.int .i64 0) false,[.tmp 26,.tmp 27],none,false,5,31⟩,⟨some 29,.fieldAddr 4,[.tmp 3],none,false,6,0⟩,⟨some 30,.load none,[.tmp 29],none,false,7,64⟩]),(.seq,[⟨some 31,.bin .add,[.tmp 28,.tmp 30],none,true,8,255⟩]),(.seq,[⟨some 6,.move,[.tmp 31],none,true,9,511⟩])] (by kernel_rfl)
def T8:=kK f173 351 [(.free,[⟨some 40,.move,[.tmp 0],none,false,0,0⟩,⟨some 41,.nilCheck,[.tmp 40],none,false,1,1⟩,⟨some 42,.fieldAddr 5,[.tmp 41],none,false,2,3⟩,⟨some 43,.load none,[.tmp 42],none,false,3,7⟩,⟨some 44,.load (some 4),[.tmp 5],none,false,4,0⟩]),(.seq,[⟨none,.delete (true,[.int,.int,.int,.int]),[.tmp 43,.tmp 44],none,true,5,31⟩])] (by kernel_rfl)
def T7:=kK f173 479 [(.free,[⟨some 45,.move,[.tmp 0],none,false,0,0⟩,⟨some 46,.nilCheck,[.tmp 45],none,false,1,1⟩,⟨some 47,.fieldAddr 5,[.tmp 46],none,false,2,3⟩,⟨some 48,.load none,[.tmp 47],none,false,3,7⟩,⟨some 49,.load (some 4),[.tmp 5],none,false,4,0⟩,⟨some 50,.move,[.tmp 6],none,false,5,0⟩]),(.seq,[⟨none,.mapUpd (true,[.int,.int,.int,.int]),[.tmp 48,.tmp 49,.tmp 50],none,true,6,63⟩])] (by kernel_rfl)
def T2:=kK f236 73 [(.free,[⟨some 16,.move,[.tmp 0],none,false,0,0⟩,⟨some 17,.move,[.tmp 1],none,false,1,0⟩,⟨some 18,.move,[.tmp 10],none,false,2,0⟩,⟨some 19,.bin .add,[.tmp 17,.tmp 18],none,false,3,6⟩,⟨some 20,.move,[.tmp 0],none,false,4,0⟩,⟨some 21,.move,[.tmp 2],none,false,5,0⟩,⟨some 22,.move,[.tmp 10],none,false,6,0⟩,⟨some 23,.bin .add,[.tmp 21,.tmp 22],none,false,7,96⟩,⟨some 24,.move,[.tmp 0],none,false,8,0⟩,⟨some 25,.move,[.tmp 2],none,false,9,0⟩,⟨some 26,.move,[.tmp 10],none,false,10,0⟩,⟨some 27,.bin .add,[.tmp 25,.tmp 26],none,false,11,1536⟩,⟨some 28,.idxSl 5,[.tmp 24,.tmp 27],none,false,12,3840⟩,⟨some 29,.load (some 5),[.tmp 28],none,false,13,7936⟩,⟨some 30,.move,[.tmp 0],none,false,14,0⟩,⟨some 31,.move,[.tmp 1],none,false,15,0⟩,⟨some 32,.move,[.tmp 10],none,false,16,0⟩,⟨some 33,.bin .add,[.tmp 31,.tmp 32],none,false,17,98304⟩,⟨some 34,.idxSl 5,[.tmp 30,.tmp 33],none,false,18,245760⟩,⟨some 35,.load (some 5),[.tmp 34],none,false,19,507904⟩,⟨some 36,.idxSl 5,[.tmp 16,.tmp 19],none,true,20,1048335⟩,⟨none,.store 5,[.tmp 36,.tmp 29],none,true,21,2096911⟩]),(.seq,[⟨some 37,.idxSl 5,[.tmp 20,.tmp 23],none,true,22,4194303⟩]),(.seq,[⟨none,.store 5,[.tmp 37,.tmp 35],none,true,23,8388607⟩])] (by kernel_rfl)
def B10:=j_ f10 2<|j_ f10 5<|j_ f10 11<|J0 (a7 f10 1) (F10.eq_1)
def B13:=j_ f13 2<|j_ f13 5<|j_ f13 19<|j_ f13 75<|j_ f13 23<|J0 @Px<|j_ f13 303<|J0 @Pw<|J0 @Pu<|j_ f13 383<|J0 (a7 f13 1) (F13.eq_1)
def XB:=J0 @IK<|J0 @IJ<|J0 @II<|J0 @IG<|J0 @IF<|J0 @Pc<|j_ f33 159<|j_ f33 607<|j_ f33 2399<|j_ f33 4959<|j_ f33 15199<|j_ f33 10079<|j_ f33 20319<|j_ f33 61279<|j_ f33 40799<|j_ f33 48991<|j_ f33 163679<|j_ f33 191<|J0 (a7 f33 1) (F33.eq_1)
def B41:=j_ f41 2<|J0 @XO<|j_ f41 19<|j_ f41 139<|j_ f41 2251<|J0 @XN<|j_ f41 971<|j_ f41 23<|J0 (a7 f41 1) (F41.eq_1)
def acV:=J0 B41 ((cZ f41 75))
def B45:=j_ f45 2<|j_ f45 9<|j_ f45 37<|j_ f45 19<|j_ f45 75<|j_ f45 23<|J0 (a7 f45 1) (F45.eq_1)
def B47:=j_ f47 2<|j_ f47 5<|J0 (a7 f47 1) (F47.eq_1)
def B60:=j_ f60 2<|j_ f60 5<|j_ f60 11<|j_ f60 23<|J0 (a7 f60 1) (F60.eq_1)
def B63:=j_ f63 2<|j_ f63 5<|J0 (a7 f63 1) (F63.eq_1)
def B68:=j_ f68 2<|j_ f68 5<|j_ f68 11<|j_ f68 39<|j_ f68 151<|j_ f68 599<|j_ f68 727<|j_ f68 2519<|j_ f68 3031<|j_ f68 10199<|j_ f68 12247<|j_ f68 40919<|j_ f68 49111<|j_ f68 163799<|j_ f68 196567<|j_ f68 655319<|j_ f68 786391<|j_ f68 2621399<|j_ f68 47<|J0 (a7 f68 1) (F68.eq_1)
def B75:=j_ f75 2<|j_ f75 9<|j_ f75 21<|j_ f75 77<|j_ f75 19<|j_ f75 43<|j_ f75 155<|j_ f75 23<|J0 (a7 f75 1) (F75.eq_1)
def B76:=j_ f76 2<|j_ f76 9<|j_ f76 37<|j_ f76 19<|j_ f76 139<|j_ f76 2251<|J0 @XK<|j_ f76 19659<|j_ f76 971<|j_ f76 23<|J0 (a7 f76 1) (F76.eq_1)
def aaS:=J0 B76 ((cZ f76 75))
def B80:=j_ f80 2<|j_ f80 5<|j_ f80 19<|j_ f80 139<|j_ f80 2251<|j_ f80 5323<|j_ f80 11467<|j_ f80 72907<|j_ f80 1154251<|j_ f80 2727115<|j_ f80 3775691<|j_ f80 498891<|j_ f80 971<|j_ f80 23<|J0 (a7 f80 1) (F80.eq_1)
def Im:=J0 B80<|J0 (EV f80 40139) ((cZ f80 75))
def B88:=j_ f88 2<|j_ f88 5<|j_ f88 19<|j_ f88 75<|j_ f88 23<|J0 (a7 f88 1) (F88.eq_1)
def B90:=j_ f90 2<|j_ f90 5<|j_ f90 19<|j_ f90 75<|j_ f90 23<|j_ f90 79<|j_ f90 303<|j_ f90 95<|j_ f90 191<|j_ f90 383<|J0 (a7 f90 1) (F90.eq_1)
def B98:=j_ f98 2<|j_ f98 5<|J0 (a7 f98 1) (F98.eq_1)
def B99:=j_ f99 2<|j_ f99 5<|j_ f99 19<|J0 @uj<|J0 @CH<|J0 @CG<|J0 @CF<|J0 @IE<|J0 @ID<|J0 @O0<|J0 @CK<|j_ f99 40139<|j_ f99 285899<|j_ f99 220363<|j_ f99 48331<|j_ f99 97483<|J0 @mJ<|J0 @CI<|J0 @KH<|J0 (a7 f99 1) (F99.eq_1)
def Iv:=j_ f114 2<|j_ f114 9<|j_ f114 37<|j_ f114 19<|j_ f114 75<|j_ f114 23<|j_ f114 79<|j_ f114 175<|j_ f114 159<|j_ f114 607<|j_ f114 191<|J0 (a7 f114 1) (aaI.eq_1)
def aa9:=j_ f115 2<|J0 @Um<|j_ f115 37<|j_ f115 11<|J0 (a7 f115 1) (aaH.eq_1)
def TF:=J0 @K2<|J0 @K1<|j_ f119 37<|J0 @K0<|j_ f119 43<|j_ f119 155<|j_ f119 23<|J0 (a7 f119 1) (Wm.eq_1)
def ahy:=j_ f128 2<|j_ f128 9<|j_ f128 37<|j_ f128 11<|J0 @Uj<|J0 (a7 f128 1) (aax.eq_1)
def KF:=j_ f132 2<|j_ f132 9<|j_ f132 21<|j_ f132 77<|j_ f132 11<|j_ f132 23<|j_ f132 47<|j_ f132 95<|j_ f132 191<|j_ f132 383<|J0 (a7 f132 1) (aat.eq_1)
def dc:=j_ f135 2<|J0 @Ui<|j_ f135 19<|j_ f135 75<|j_ f135 39<|j_ f135 151<|J0 @Uh<|j_ f135 303<|j_ f135 159<|j_ f135 607<|j_ f135 191<|J0 (a7 f135 1) (aaq.eq_1)
def Ww:=j_ f140 2<|j_ f140 5<|j_ f140 19<|j_ f140 75<|j_ f140 23<|j_ f140 47<|j_ f140 159<|j_ f140 351<|j_ f140 191<|J0 (a7 f140 1) (aal.eq_1)
def OL:=j_ f142 2<|j_ f142 9<|j_ f142 37<|j_ f142 11<|j_ f142 39<|j_ f142 87<|j_ f142 79<|j_ f142 303<|j_ f142 95<|J0 (a7 f142 1) (aaj.eq_1)
def aa5:=j_ f148 2<|j_ f148 5<|j_ f148 11<|j_ f148 39<|j_ f148 279<|j_ f148 1175<|j_ f148 343<|j_ f148 79<|j_ f148 303<|j_ f148 159<|j_ f148 607<|j_ f148 319<|j_ f148 1215<|j_ f148 383<|J0 (a7 f148 1) (aag.eq_1)
def A5:=j_ f157 2<|j_ f157 5<|J0 (a7 f157 1) (aae.eq_1)
def adg:=j_ f158 2<|j_ f158 5<|J0 (a7 f158 1) (aad.eq_1)
def adf:=j_ f159 2<|j_ f159 5<|J0 (a7 f159 1) (aac.eq_1)
def OJ:=j_ f160 2<|j_ f160 9<|j_ f160 37<|j_ f160 19<|j_ f160 75<|j_ f160 39<|j_ f160 87<|j_ f160 311<|j_ f160 79<|j_ f160 175<|j_ f160 623<|j_ f160 95<|j_ f160 319<|j_ f160 1215<|j_ f160 383<|J0 (a7 f160 1) (aab.eq_1)
def ade:=j_ f163 2<|j_ f163 17<|j_ f163 281<|J0 @Ub<|j_ f163 121<|J0 (a7 f163 1) (Z8.eq_1)
def Xx:=J0 ade ((cZ f163 9))
def KD:=j_ f170 2<|j_ f170 9<|J0 @C6<|j_ f170 77<|J0 @C5<|j_ f170 75<|J0 @C4<|J0 @C3<|J0 @KS<|J0 @C0<|J0 @xy<|J0 @xx<|J0 @Fd<|J0 @Fc<|J0 @jU<|J0 @oq<|j_ f170 2346175<|j_ f170 36949183<|j_ f170 53726399<|j_ f170 15977663<|J0 @se<|j_ f170 639<|j_ f170 1407<|j_ f170 767<|J0 (a7 f170 1) (F170.eq_1)
def Xw:=J0 KD<|J0 (EV f170 1297599) ((cZ f170 1215))
def ET:=j_ f173 2<|j_ f173 5<|j_ f173 19<|j_ f173 43<|J0 @T9<|j_ f173 79<|j_ f173 303<|j_ f173 159<|J0 @T8<|J0 @T7<|j_ f173 191<|J0 (a7 f173 1) (Z0.eq_1)
def aa4:=j_ f200 2<|j_ f200 5<|j_ f200 35<|j_ f200 51<|j_ f200 75<|j_ f200 555<|j_ f200 9003<|j_ f200 37675<|j_ f200 45867<|j_ f200 3883<|J0 (a7 f200 1) (ZT.eq_1)
def Mm:=J0 aa4 ((cZ f200 299))
def ahn:=j_ f204 2<|j_ f204 5<|j_ f204 11<|j_ f204 23<|J0 (a7 f204 1) (ZP.eq_1)
def ES:=j_ f207 2<|j_ f207 9<|j_ f207 21<|j_ f207 77<|j_ f207 19<|j_ f207 75<|j_ f207 39<|j_ f207 151<|j_ f207 47<|J0 (a7 f207 1) (ZM.eq_1)
def aa1:=j_ f208 2<|j_ f208 33<|j_ f208 73<|j_ f208 57<|J0 (a7 f208 1) (ZL.eq_1)
def Tu:=J0 aa1 ((cZ f208 9))
def ahk:=j_ f211 2<|j_ f211 5<|j_ f211 11<|j_ f211 23<|J0 (a7 f211 1) (ZI.eq_1)
def ahj:=j_ f214 2<|j_ f214 5<|j_ f214 11<|j_ f214 23<|J0 (a7 f214 1) (ZF.eq_1)
def ahi:=j_ f229 2<|j_ f229 5<|j_ f229 11<|j_ f229 23<|J0 (a7 f229 1) (ZC.eq_1)
def ahg:=j_ f234 2<|j_ f234 5<|J0 (a7 f234 1) (Zz.eq_1)
def ac2:=j_ f235 2<|j_ f235 5<|j_ f235 131<|j_ f235 291<|j_ f235 1187<|j_ f235 1699<|j_ f235 1443<|j_ f235 1955<|j_ f235 15<|J0 (a7 f235 1) (Zy.eq_1)
def In:=J0 ac2 ((cZ f235 35))
def ac1:=j_ f236 2<|j_ f236 33<|J0 @T2<|j_ f236 57<|J0 (a7 f236 1) (Zx.eq_1)
def Xu:=J0 ac1 ((cZ f236 9))
theorem c10:Wc 10 F10 (aB f10 1):=am rfl rfl
theorem c13:Wc 13 F13 (aB f13 1):=am rfl rfl
theorem c33:Wc 33 F33 (aB f33 1):=am rfl rfl
theorem c41:Wc 41 F41 (aB f41 1):=am rfl rfl
theorem c45:Wc 45 F45 (aB f45 1):=am rfl rfl
theorem c47:Wc 47 F47 (aB f47 1):=am rfl rfl
theorem c60:Wc 60 F60 (aB f60 1):=am rfl rfl
theorem c63:Wc 63 F63 (aB f63 1):=am rfl rfl
theorem c68:Wc 68 F68 (aB f68 1):=am rfl rfl
theorem c75:Wc 75 F75 (aB f75 1):=am rfl rfl
theorem c76:Wc 76 F76 (aB f76 1):=am rfl rfl
theorem c80:Wc 80 F80 (aB f80 1):=am rfl rfl
theorem c88:Wc 88 F88 (aB f88 1):=am rfl rfl
theorem c90:Wc 90 F90 (aB f90 1):=am rfl rfl
theorem c98:Wc 98 F98 (aB f98 1):=am rfl rfl
theorem c99:Wc 99 F99 (aB f99 1):=am rfl rfl
theorem afY:Wc 114 aaI (aB f114 1):=am rfl rfl
theorem afX:Wc 115 aaH (aB f115 1):=am rfl rfl
theorem afT:Wc 119 Wm (aB f119 1):=am rfl rfl
theorem afO:Wc 128 aax (aB f128 1):=am rfl rfl
theorem afK:Wc 132 aat (aB f132 1):=am rfl rfl
theorem afH:Wc 135 aaq (aB f135 1):=am rfl rfl
theorem afC:Wc 140 aal (aB f140 1):=am rfl rfl
theorem afA:Wc 142 aaj (aB f142 1):=am rfl rfl
theorem afw:Wc 148 aag (aB f148 1):=am rfl rfl
theorem SG:Wc 157 aae (aB f157 1):=am rfl rfl
theorem acz:Wc 158 aad (aB f158 1):=am rfl rfl
theorem acy:Wc 159 aac (aB f159 1):=am rfl rfl
theorem afu:Wc 160 aab (aB f160 1):=am rfl rfl
theorem afr:Wc 163 Z8 (aB f163 1):=am rfl rfl
theorem afk:Wc 170 F170 (aB f170 1):=am rfl rfl
theorem afh:Wc 173 Z0 (aB f173 1):=am rfl rfl
theorem afa:Wc 200 ZT (aB f200 1):=am rfl rfl
theorem ae6:Wc 204 ZP (aB f204 1):=am rfl rfl
theorem ae3:Wc 207 ZM (aB f207 1):=am rfl rfl
theorem acx:Wc 208 ZL (aB f208 1):=am rfl rfl
theorem ae1:Wc 211 ZI (aB f211 1):=am rfl rfl
theorem ae0:Wc 214 ZF (aB f214 1):=am rfl rfl
theorem aeU:Wc 229 ZC (aB f229 1):=am rfl rfl
theorem aeR:Wc 234 Zz (aB f234 1):=am rfl rfl
theorem aeQ:Wc 235 Zy (aB f235 1):=am rfl rfl
theorem aeP:Wc 236 Zx (aB f236 1):=am rfl rfl
end
end
end Go.Iso.Gen
