/-
  the code that the claim reaches, for the evaluator.
-/
import Derived.Test.YtiofebdpgbojmaaGreatDoorGenH
set_option linter.unusedSimpArgs false
set_option linter.unusedVariables false
set_option maxRecDepth 100000
set_option maxHeartbeats 4000000
set_option linter.defProp false
namespace Go.Iso.Gen
open Go.Proofs Go.Proofs.Tryz
noncomputable section
section
variable {lo:Nat}{rd:Option Nat}{fr:Fr}{H:Heap}{Q:Ah}{args:List IV}
def Ou:=ab f31 1071
def Ot:=ab f31 4399
def Oq:=ab f31 10543
def Cx:=ab f31 39215
def Oo:=ab f31 88367
def St:=lQ f73 154350255 [(.seq,[⟨some 77,.load none,[.tmp 13],none,true,0,0⟩,⟨some 78,.load (some 2),[.tmp 19],none,true,0,0⟩,⟨some 79,.lookup 206 (true,[.int,.int]) (.bool false) false,[.tmp 77,.tmp 78],none,true,0,0⟩])] (by kernel_rfl)
def Ss:=lQ f73 120795823 [(.seq,[⟨some 80,.load none,[.tmp 13],none,true,0,0⟩,⟨some 81,.load (some 2),[.tmp 19],none,true,0,0⟩,⟨none,.mapUpd (true,[.int,.int]),[.tmp 80,.tmp 81,.val (.bool true)],none,true,0,0⟩])] (by kernel_rfl)
def VY:=lQ f83 5 [(.free,[⟨some 8,.move,[.tmp 0],none,false,0,0⟩,⟨some 9,.nilCheck,[.tmp 8],none,false,1,1⟩,⟨some 10,.fieldAddr 3,[.tmp 9],none,false,2,3⟩,⟨some 11,.load none,[.tmp 10],none,false,3,7⟩,⟨some 12,.fieldAddr 4,[.tmp 3],none,false,4,0⟩,⟨some 13,.load none,[.tmp 12],none,false,5,16⟩,⟨some 14,.bin .sub,[.tmp 13,.val (.int .u8 1)],none,false,6,48⟩,⟨some 15,.idxSl 5,[.tmp 11,.tmp 14],none,false,7,127⟩,⟨some 16,.load (some 5),[.tmp 15],none,false,8,255⟩,⟨some 17,.fieldAddr 1,[.tmp 3],none,false,9,0⟩,⟨some 18,.load none,[.tmp 17],none,false,10,512⟩,⟨some 19,.call,[.val (.fn 136 [] []),.tmp 16,.tmp 18],none,false,11,2047⟩,⟨some 7,.move,[.tmp 19],none,false,12,4095⟩,⟨some 20,.extract 0,[.tmp 7],none,false,13,8191⟩,⟨some 21,.extract 1,[.tmp 7],none,false,14,8191⟩,⟨some 5,.alloc 122 5 [.bool false,.int .i64 0,.int .i64 0,.bool false,.nilSlice],[],none,false,15,0⟩,⟨none,.store 5,[.tmp 5,.tmp 20],none,true,16,49151⟩]),(.seq,[⟨some 6,.move,[.tmp 21],none,true,17,131071⟩])] (by kernel_rfl)
def OE:=lQ f131 87241471 [(.seq,[⟨some 103,.load none,[.tmp 9],none,true,0,0⟩,⟨some 104,.move,[.tmp 15],none,true,0,0⟩,⟨some 105,.bin .add,[.tmp 104,.val (.int .i64 1)],none,true,0,0⟩,⟨some 106,.conv .u8,[.tmp 105],none,true,0,0⟩,⟨some 107,.move,[.tmp 17],none,true,0,0⟩,⟨some 108,.build [.int .u8 0,.int .i64 0] [(0,1),(1,1)],[.tmp 106,.tmp 107],none,true,0,0⟩,⟨some 109,.lookup 251 (true,[.int,.int]) (.int .i64 0) false,[.tmp 103,.tmp 108],none,true,0,0⟩,⟨some 110,.bin .neq,[.tmp 109,.val (.int .i64 1)],none,true,0,0⟩])] (by kernel_rfl)
def SH:=lQ f138 5733 [(.free,[⟨some 28,.move,[.tmp 0],none,false,0,0⟩,⟨some 29,.nilCheck,[.tmp 28],none,false,1,1⟩,⟨some 30,.fieldAddr 1,[.tmp 29],none,false,2,3⟩,⟨some 31,.load (some 2),[.tmp 30],none,false,3,7⟩,⟨some 32,.move,[.tmp 0],none,false,4,0⟩,⟨some 33,.nilCheck,[.tmp 32],none,false,5,16⟩,⟨some 34,.fieldAddr 0,[.tmp 33],none,false,6,48⟩,⟨some 35,.load none,[.tmp 34],none,false,7,112⟩,⟨some 36,.move,[.tmp 1],none,false,8,0⟩,⟨some 37,.fieldAddr 1,[.tmp 6],none,false,9,0⟩,⟨some 38,.load none,[.tmp 37],none,false,10,512⟩]),(.seq,[⟨some 39,.call,[.val (.fn 170 [] []),.tmp 31,.tmp 35,.tmp 36,.tmp 38],none,true,11,2047⟩]),(.seq,[⟨some 27,.move,[.tmp 39],none,true,12,4095⟩]),(.free,[⟨some 40,.extract 0,[.tmp 27],none,true,13,8191⟩,⟨some 41,.extract 1,[.tmp 27],none,true,14,8191⟩,⟨some 7,.move,[.tmp 40],none,true,15,16383⟩]),(.seq,[⟨some 8,.move,[.tmp 41],none,true,16,65535⟩])] (by kernel_rfl)
def Fh:=ab f138 39
def Fg:=ab f138 79
def Ff:=ab f138 95
def Fe:=ab f143 639
def KB:=ab f144 39
def OC:=lQ f144 4799 [(.seq,[⟨some 48,.load (some 2),[.tmp 12],none,true,0,0⟩,⟨some 49,.load (some 2),[.tmp 4],none,true,0,0⟩,⟨some 50,.eqFlat true [.int,.int],[.tmp 48,.tmp 49],none,true,0,0⟩])] (by kernel_rfl)
def OB:=lQ f144 3353279 [(.seq,[⟨some 57,.load none,[.tmp 11],none,true,0,0⟩,⟨some 58,.load (some 2),[.tmp 15],none,true,0,0⟩,⟨none,.mapUpd (true,[.int,.int]),[.tmp 57,.tmp 58,.val (.bool true)],none,true,0,0⟩])] (by kernel_rfl)
def Fd:=ab f144 639
def OA:=lQ f144 301439 [(.seq,[⟨some 66,.load none,[.tmp 11],none,true,0,0⟩,⟨some 67,.load (some 2),[.tmp 17],none,true,0,0⟩,⟨some 68,.lookup 206 (true,[.int,.int]) (.bool false) false,[.tmp 66,.tmp 67],none,true,0,0⟩])] (by kernel_rfl)
def Oz:=lQ f144 235903 [(.seq,[⟨some 70,.load none,[.tmp 11],none,true,0,0⟩,⟨some 71,.load (some 2),[.tmp 17],none,true,0,0⟩,⟨none,.mapUpd (true,[.int,.int]),[.tmp 70,.tmp 71,.val (.bool true)],none,true,0,0⟩])] (by kernel_rfl)
def wC:=ab f172 279
def CI:=ab f172 4503
def CH:=ab f172 10647
def CG:=ab f172 39319
def E9:=ab f172 88471
def xp:=ab f172 47511
def xo:=ab f172 96663
def xm:=ab f172 194967
def xl:=ab f172 1178007
def E8:=ab f172 18479511
def E7:=ab f172 43645335
def E6:=ab f172 7993751
def E5:=ab f172 1943
def Sv:=lQ f233 5 [(.seq,[⟨some 5,.fieldAddr 0,[.tmp 3],none,true,0,0⟩]),(.seq,[⟨some 6,.load none,[.tmp 5],none,true,1,1⟩]),(.seq,[⟨some 7,.bin .geq,[.tmp 6,.val (.int .u8 1)],none,true,2,3⟩]),(.seq,[⟨some 8,.move,[.tmp 7],none,true,3,7⟩]),(.free,[⟨some 9,.fieldAddr 0,[.tmp 3],some (8,true),true,4,15⟩,⟨some 10,.load none,[.tmp 9],some (8,true),true,5,31⟩,⟨some 11,.conv .i64,[.tmp 10],some (8,true),true,6,63⟩,⟨some 12,.move,[.tmp 0],some (8,true),false,7,15⟩,⟨some 13,.lenSl,[.tmp 12],some (8,true),false,8,143⟩]),(.seq,[⟨some 14,.bin .leq,[.tmp 11,.tmp 13],some (8,true),true,9,511⟩]),(.seq,[⟨some 15,.pick,[.tmp 8,.tmp 14,.val (.bool false)],none,true,10,1023⟩]),(.seq,[⟨some 16,.move,[.tmp 15],none,true,11,2047⟩]),(.seq,[⟨some 17,.fieldAddr 1,[.tmp 3],some (16,true),true,12,4095⟩]),(.seq,[⟨some 18,.load none,[.tmp 17],some (16,true),true,13,8191⟩]),(.seq,[⟨some 19,.bin .geq,[.tmp 18,.val (.int .i64 0)],some (16,true),true,14,16383⟩]),(.seq,[⟨some 20,.pick,[.tmp 16,.tmp 19,.val (.bool false)],none,true,15,32767⟩]),(.seq,[⟨some 21,.move,[.tmp 20],none,true,16,65535⟩]),(.free,[⟨some 22,.fieldAddr 1,[.tmp 3],some (21,true),false,17,131071⟩,⟨some 23,.load none,[.tmp 22],some (21,true),false,18,262143⟩,⟨some 24,.move,[.tmp 0],some (21,true),false,19,131071⟩,⟨some 25,.fieldAddr 0,[.tmp 3],some (21,true),false,20,131071⟩,⟨some 26,.load none,[.tmp 25],some (21,true),false,21,1179647⟩,⟨some 27,.bin .sub,[.tmp 26,.val (.int .u8 1)],some (21,true),false,22,3276799⟩,⟨some 28,.idxSl 1,[.tmp 24,.tmp 27],some (21,true),false,23,7995391⟩,⟨some 29,.load none,[.tmp 28],some (21,true),false,24,16383999⟩,⟨some 30,.lenSl,[.tmp 29],some (21,true),false,25,33161215⟩]),(.seq,[⟨some 31,.bin .lss,[.tmp 23,.tmp 30],some (21,true),true,26,67108863⟩]),(.seq,[⟨some 32,.pick,[.tmp 21,.tmp 31,.val (.bool false)],none,true,27,134217727⟩]),(.seq,[⟨some 4,.move,[.tmp 32],none,true,28,268435455⟩])] (by kernel_rfl)
def Su:=lQ f236 73 [(.free,[⟨some 16,.move,[.tmp 0],none,false,0,0⟩,⟨some 17,.move,[.tmp 1],none,false,1,0⟩,⟨some 18,.move,[.tmp 10],none,false,2,0⟩,⟨some 19,.bin .add,[.tmp 17,.tmp 18],none,false,3,6⟩,⟨some 20,.move,[.tmp 0],none,false,4,0⟩,⟨some 21,.move,[.tmp 2],none,false,5,0⟩,⟨some 22,.move,[.tmp 10],none,false,6,0⟩,⟨some 23,.bin .add,[.tmp 21,.tmp 22],none,false,7,96⟩,⟨some 24,.move,[.tmp 0],none,false,8,0⟩,⟨some 25,.move,[.tmp 2],none,false,9,0⟩,⟨some 26,.move,[.tmp 10],none,false,10,0⟩,⟨some 27,.bin .add,[.tmp 25,.tmp 26],none,false,11,1536⟩,⟨some 28,.idxSl 5,[.tmp 24,.tmp 27],none,false,12,3840⟩,⟨some 29,.load (some 5),[.tmp 28],none,false,13,7936⟩,⟨some 30,.move,[.tmp 0],none,false,14,0⟩,⟨some 31,.move,[.tmp 1],none,false,15,0⟩,⟨some 32,.move,[.tmp 10],none,false,16,0⟩,⟨some 33,.bin .add,[.tmp 31,.tmp 32],none,false,17,98304⟩,⟨some 34,.idxSl 5,[.tmp 30,.tmp 33],none,false,18,245760⟩,⟨some 35,.load (some 5),[.tmp 34],none,false,19,507904⟩,⟨some 36,.idxSl 5,[.tmp 16,.tmp 19],none,true,20,1048335⟩,⟨none,.store 5,[.tmp 36,.tmp 29],none,true,21,2096911⟩]),(.seq,[⟨some 37,.idxSl 5,[.tmp 20,.tmp 23],none,true,22,4194303⟩]),(.seq,[⟨none,.store 5,[.tmp 37,.tmp 35],none,true,23,8388607⟩])] (by kernel_rfl)
def B15:=j_ f15 2<|j_ f15 9<|j_ f15 21<|j_ f15 77<|j_ f15 11<|j_ f15 39<|j_ f15 87<|j_ f15 311<|j_ f15 47<|J0 (bm f15 1) (F15.eq_1)
def B27:=j_ f27 2<|j_ f27 9<|j_ f27 37<|j_ f27 11<|J0 (bm f27 1) (F27.eq_1)
def B28:=j_ f28 2<|j_ f28 5<|J0 (bm f28 1) (F28.eq_1)
def B31:=j_ f31 2<|j_ f31 5<|j_ f31 11<|j_ f31 23<|j_ f31 79<|J0 @Ou<|J0 @Ot<|J0 @Oq<|J0 @Cx<|J0 @Oo<|j_ f31 47407<|j_ f31 96559<|j_ f31 1839<|j_ f31 95<|J0 (bm f31 1) (F31.eq_1)
def Zy:=J0 B31 ((cZ f31 303))
def B40:=j_ f40 2<|j_ f40 9<|j_ f40 37<|j_ f40 19<|j_ f40 43<|j_ f40 155<|j_ f40 39<|j_ f40 151<|j_ f40 79<|j_ f40 559<|j_ f40 9007<|j_ f40 21295<|j_ f40 45871<|j_ f40 160559<|j_ f40 3887<|j_ f40 159<|j_ f40 351<|j_ f40 1247<|j_ f40 319<|j_ f40 1215<|j_ f40 639<|j_ f40 4479<|j_ f40 72063<|j_ f40 170367<|j_ f40 629119<|j_ f40 31103<|j_ f40 767<|J0 (bm f40 1) (F40.eq_1)
def Kh:=J0 B40<|J0 (cZ f40 303) ((cZ f40 2431))
def Sf:=j_ f73 2<|j_ f73 9<|j_ f73 37<|j_ f73 277<|j_ f73 1173<|j_ f73 341<|j_ f73 2261<|j_ f73 36053<|j_ f73 85205<|j_ f73 314581<|j_ f73 15573<|j_ f73 19<|j_ f73 75<|j_ f73 299<|j_ f73 2219<|j_ f73 36011<|j_ f73 85163<|j_ f73 576683<|j_ f73 9227435<|j_ f73 21810347<|j_ f73 80530603<|j_ f73 3984555<|j_ f73 15531<|j_ f73 23<|j_ f73 79<|j_ f73 303<|j_ f73 1199<|j_ f73 8879<|j_ f73 144047<|j_ f73 340655<|j_ f73 2306735<|j_ f73 36909743<|J0 @St<|j_ f73 624112303<|J0 @Ss<|j_ f73 15938223<|j_ f73 62127<|j_ f73 95<|J0 (bm f73 1) (F73.eq_1)
def qA:=J0 Sf<|J0 (cZ f73 1237)<|J0 (Ik f73 314539)<|J0 (cZ f73 1195)<|J0 (Ik f73 1258159) ((cZ f73 4783))
def B83:=j_ f83 2<|J0 @VY<|j_ f83 19<|j_ f83 43<|j_ f83 23<|J0 (bm f83 1) (F83.eq_1)
def B88:=j_ f88 2<|j_ f88 5<|j_ f88 19<|j_ f88 75<|j_ f88 23<|J0 (bm f88 1) (F88.eq_1)
def B93:=j_ f93 2<|j_ f93 5<|J0 (bm f93 1) (F93.eq_1)
def B94:=j_ f94 2<|j_ f94 5<|j_ f94 11<|j_ f94 23<|J0 (bm f94 1) (F94.eq_1)
def B92:=j_ f92 2<|j_ f92 9<|j_ f92 21<|j_ f92 77<|j_ f92 11<|J0 (bm f92 1) (F92.eq_1)
def N9:=j_ f100 2<|j_ f100 5<|j_ f100 19<|j_ f100 75<|j_ f100 39<|j_ f100 151<|j_ f100 599<|j_ f100 2391<|j_ f100 9559<|j_ f100 2903<|j_ f100 727<|j_ f100 2519<|j_ f100 47<|J0 (bm f100 1) (Zs.eq_1)
def ab1:=j_ f129 2<|j_ f129 5<|j_ f129 11<|J0 (bm f129 1) (Y3.eq_1)
def abZ:=j_ f131 2<|j_ f131 9<|j_ f131 69<|j_ f131 1125<|j_ f131 2661<|j_ f131 18021<|j_ f131 288357<|j_ f131 681573<|j_ f131 2516581<|j_ f131 124517<|j_ f131 485<|j_ f131 19<|j_ f131 139<|j_ f131 2251<|j_ f131 5323<|j_ f131 19659<|j_ f131 971<|j_ f131 23<|j_ f131 47<|j_ f131 95<|j_ f131 191<|j_ f131 639<|j_ f131 4479<|j_ f131 72063<|j_ f131 170367<|j_ f131 1153407<|j_ f131 18454911<|j_ f131 26843519<|j_ f131 7969151<|j_ f131 31103<|j_ f131 1279<|j_ f131 8959<|j_ f131 144127<|j_ f131 340735<|j_ f131 2306815<|j_ f131 36909823<|J0 @OE<|j_ f131 322122495<|j_ f131 15938303<|j_ f131 62207<|j_ f131 1535<|J0 (bm f131 1) (Y1.eq_1)
def dN:=J0 abZ<|J0 (Ik f131 9829)<|J0 (cZ f131 37)<|J0 (cZ f131 75)<|J0 (Ik f131 629119)<|J0 (cZ f131 2431)<|J0 (Ik f131 1258239) ((cZ f131 4863))
def ZI:=j_ f138 2<|j_ f138 9<|j_ f138 69<|j_ f138 1125<|j_ f138 4709<|J0 @SH<|j_ f138 20069<|j_ f138 77413<|j_ f138 24165<|j_ f138 48741<|j_ f138 163429<|j_ f138 485<|j_ f138 11<|J0 @Fh<|j_ f138 151<|J0 @Fg<|j_ f138 559<|j_ f138 9007<|j_ f138 21295<|j_ f138 45871<|j_ f138 160559<|j_ f138 3887<|J0 @Ff<|J0 (bm f138 1) (YU.eq_1)
def pR:=J0 ZI<|J0 (cZ f138 37) ((cZ f138 303))
def wB:=j_ f143 2<|j_ f143 9<|j_ f143 21<|j_ f143 77<|j_ f143 19<|j_ f143 75<|j_ f143 23<|j_ f143 79<|j_ f143 303<|j_ f143 159<|j_ f143 607<|j_ f143 191<|J0 @Fe<|j_ f143 1407<|j_ f143 767<|J0 (bm f143 1) (F143.eq_1)
def EO:=j_ f144 2<|j_ f144 9<|j_ f144 21<|j_ f144 77<|j_ f144 19<|j_ f144 75<|J0 @KB<|j_ f144 279<|j_ f144 4503<|j_ f144 10647<|j_ f144 39319<|j_ f144 1943<|j_ f144 79<|j_ f144 303<|j_ f144 95<|j_ f144 319<|j_ f144 2239<|j_ f144 3263<|J0 @OC<|j_ f144 19135<|j_ f144 142015<|j_ f144 2304703<|J0 @OB<|j_ f144 993983<|J0 @Fd<|j_ f144 4479<|j_ f144 72063<|J0 @OA<|j_ f144 1218943<|J0 @Oz<|j_ f144 31103<|j_ f144 767<|J0 (bm f144 1) (YP.eq_1)
def uj:=J0 EO<|J0 (cZ f144 151)<|J0 (cZ f144 76479) ((cZ f144 2431))
def Ki:=j_ f172 2<|j_ f172 9<|j_ f172 21<|j_ f172 77<|j_ f172 11<|j_ f172 39<|J0 @wC<|J0 @CI<|J0 @CH<|J0 @CG<|J0 @E9<|J0 @xp<|J0 @xo<|J0 @xm<|J0 @xl<|J0 @E8<|J0 @E7<|j_ f172 295303575<|j_ f172 4724488599<|j_ f172 11166939543<|j_ f172 24051841431<|j_ f172 32641776023<|j_ f172 2040134039<|J0 @E6<|J0 @E5<|j_ f172 79<|j_ f172 175<|j_ f172 95<|J0 (bm f172 1) (F172.eq_1)
def Sc:=J0 Ki<|J0 (ru3 f172 161085847)<|J0 (Ik f172 653719) ((cZ f172 151))
def ZC:=j_ f210 2<|j_ f210 9<|j_ f210 69<|j_ f210 1125<|j_ f210 2661<|j_ f210 5733<|j_ f210 11877<|j_ f210 15973<|j_ f210 485<|j_ f210 11<|J0 (bm f210 1) (Ye.eq_1)
def qP:=J0 ZC ((cZ f210 37))
def abL:=j_ f226 2<|j_ f226 9<|j_ f226 37<|j_ f226 11<|J0 (bm f226 1) (X9.eq_1)
def afN:=j_ f229 2<|j_ f229 5<|j_ f229 11<|j_ f229 23<|J0 (bm f229 1) (X7.eq_1)
def afM:=j_ f233 2<|J0 @Sv<|J0 (bm f233 1) (X5.eq_1)
def afL:=j_ f234 2<|j_ f234 5<|J0 (bm f234 1) (X4.eq_1)
def abI:=j_ f235 2<|j_ f235 5<|j_ f235 131<|j_ f235 291<|j_ f235 1187<|j_ f235 1699<|j_ f235 1443<|j_ f235 1955<|j_ f235 15<|J0 (bm f235 1) (X3.eq_1)
def Ic:=J0 abI ((cZ f235 35))
def abH:=j_ f236 2<|j_ f236 33<|J0 @Su<|j_ f236 57<|J0 (bm f236 1) (X2.eq_1)
def VP:=J0 abH ((cZ f236 9))
theorem c15:Wc 15 F15 (aC f15 1):=am rfl rfl
theorem c27:Wc 27 F27 (aC f27 1):=am rfl rfl
theorem c28:Wc 28 F28 (aC f28 1):=am rfl rfl
theorem c31:Wc 31 F31 (aC f31 1):=am rfl rfl
theorem c40:Wc 40 F40 (aC f40 1):=am rfl rfl
theorem c73:Wc 73 F73 (aC f73 1):=am rfl rfl
theorem c83:Wc 83 F83 (aC f83 1):=am rfl rfl
theorem c88:Wc 88 F88 (aC f88 1):=am rfl rfl
theorem c93:Wc 93 F93 (aC f93 1):=am rfl rfl
theorem c94:Wc 94 F94 (aC f94 1):=am rfl rfl
theorem c92:Wc 92 F92 (aC f92 1):=am rfl rfl
theorem aeD:Wc 100 Zs (aC f100 1):=am rfl rfl
theorem aew:Wc 129 Y3 (aC f129 1):=am rfl rfl
theorem aeu:Wc 131 Y1 (aC f131 1):=am rfl rfl
theorem aen:Wc 138 YU (aC f138 1):=am rfl rfl
theorem aei:Wc 143 F143 (aC f143 1):=am rfl rfl
theorem aeh:Wc 144 YP (aC f144 1):=am rfl rfl
theorem ad2:Wc 172 F172 (aC f172 1):=am rfl rfl
theorem abb:Wc 210 Ye (aC f210 1):=am rfl rfl
theorem adH:Wc 226 X9 (aC f226 1):=am rfl rfl
theorem adE:Wc 229 X7 (aC f229 1):=am rfl rfl
theorem adC:Wc 233 X5 (aC f233 1):=am rfl rfl
theorem adB:Wc 234 X4 (aC f234 1):=am rfl rfl
theorem adA:Wc 235 X3 (aC f235 1):=am rfl rfl
theorem adz:Wc 236 X2 (aC f236 1):=am rfl rfl
end
end
end Go.Iso.Gen
