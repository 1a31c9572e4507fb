/-
  the code that the claim reaches, for the evaluator.
-/
import Derived.Test.YtiofebdpgbojmaaGreatDoorGenH
set_option linter.unusedSimpArgs false
set_option linter.unusedVariables false
set_option maxRecDepth 100000
set_option maxHeartbeats 4000000
set_option linter.defProp false
namespace Go.Iso.Gen
open Go.Proofs Go.Proofs.Tryz
noncomputable section
section
variable {lo:Nat}{rd:Option Nat}{fr:Fr}{H:Heap}{Q:Ah}{args:List IV}
def EW:=ab f6 2
def EV:=ab f6 5
def EU:=ab f6 11
def ET:=ab f6 23
def Ks:=ab f6 47
def Kr:=ab f6 95
def Kq:=ab f6 191
def Kp:=lQ f6 383 [(.seq,[⟨some 47,.move,[.tmp 8],none,true,0,0⟩]),(.seq,[⟨some 48,.bin .eql,[.tmp 47,.val (.int .i64 0)],none,true,1,1⟩]),(.seq,[⟨some 49,.move,[.tmp 48],none,true,2,3⟩]),(.seq,[⟨some 50,.move,[.tmp 10],some (49,true),true,3,7⟩]),(.seq,[⟨some 51,.bin .eql,[.tmp 50,.val (.int .i64 0)],some (49,true),true,4,15⟩]),(.seq,[⟨some 52,.pick,[.tmp 49,.tmp 51,.val (.bool false)],none,true,5,31⟩]),(.seq,[⟨some 53,.move,[.tmp 52],none,true,6,63⟩]),(.seq,[⟨some 54,.move,[.tmp 12],some (53,true),true,7,127⟩]),(.seq,[⟨some 55,.bin .eql,[.tmp 54,.val (.int .i64 0)],some (53,true),true,8,255⟩]),(.seq,[⟨some 56,.pick,[.tmp 53,.tmp 55,.val (.bool false)],none,true,9,511⟩]),(.seq,[⟨some 57,.move,[.tmp 56],none,true,10,1023⟩]),(.seq,[⟨some 58,.move,[.tmp 14],some (57,true),true,11,2047⟩]),(.seq,[⟨some 59,.bin .eql,[.tmp 58,.val (.int .i64 0)],some (57,true),true,12,4095⟩]),(.seq,[⟨some 60,.pick,[.tmp 57,.tmp 59,.val (.bool false)],none,true,13,8191⟩]),(.seq,[⟨some 61,.move,[.tmp 60],none,true,14,16383⟩]),(.free,[⟨some 62,.fieldAddr 0,[.tmp 11],some (61,true),false,15,32767⟩,⟨some 63,.load (some 18),[.tmp 62],some (61,true),false,16,65535⟩,⟨some 64,.fieldAddr 0,[.tmp 15],some (61,true),false,17,32767⟩,⟨some 65,.load (some 18),[.tmp 64],some (61,true),false,18,163839⟩]),(.seq,[⟨some 66,.eqFlat false [.int,.int,.int,.int,.int,.int,.int,.int,.int,.int,.int,.int,.int,.int,.int,.int,.int,.int],[.tmp 63,.tmp 65],some (61,true),true,19,524287⟩]),(.seq,[⟨some 67,.pick,[.tmp 61,.tmp 66,.val (.bool false)],none,true,20,1048575⟩]),(.seq,[⟨some 68,.move,[.tmp 67],none,true,21,2097151⟩]),(.free,[⟨some 69,.load (some 20),[.tmp 13],some (68,true),false,22,4194303⟩,⟨some 70,.load (some 20),[.tmp 7],some (68,true),false,23,4194303⟩,⟨some 71,.load (some 20),[.tmp 7],some (68,true),false,24,4194303⟩,⟨some 72,.call,[.val (.fn 28 [] []),.tmp 70,.tmp 71],some (68,true),false,25,29360127⟩]),(.seq,[⟨some 73,.eqFlat false [.int,.int,.int,.int,.int,.int,.int,.int,.int,.int,.int,.int,.int,.int,.int,.int,.int,.int,.int,.int],[.tmp 69,.tmp 72],some (68,true),true,26,67108863⟩]),(.seq,[⟨some 74,.pick,[.tmp 68,.tmp 73,.val (.bool false)],none,true,27,134217727⟩]),(.seq,[⟨some 75,.move,[.tmp 74],none,true,28,268435455⟩]),(.free,[⟨some 76,.load (some 20),[.tmp 15],some (75,true),false,29,536870911⟩,⟨some 77,.load (some 20),[.tmp 9],some (75,true),false,30,536870911⟩,⟨some 78,.load (some 20),[.tmp 7],some (75,true),false,31,536870911⟩,⟨some 79,.call,[.val (.fn 28 [] []),.tmp 77,.tmp 78],some (75,true),false,32,3758096383⟩]),(.seq,[⟨some 80,.eqFlat false [.int,.int,.int,.int,.int,.int,.int,.int,.int,.int,.int,.int,.int,.int,.int,.int,.int,.int,.int,.int],[.tmp 76,.tmp 79],some (75,true),true,33,8589934591⟩]),(.seq,[⟨some 81,.pick,[.tmp 75,.tmp 80,.val (.bool false)],none,true,34,17179869183⟩]),(.seq,[⟨some 82,.move,[.tmp 81],none,true,35,34359738367⟩]),(.seq,[⟨some 83,.call,[.val (.fn 22 [] [])],some (82,true),true,36,68719476735⟩]),(.seq,[⟨some 84,.pick,[.tmp 82,.tmp 83,.val (.bool false)],none,true,37,137438953471⟩]),(.seq,[⟨some 4,.move,[.tmp 84],none,true,38,274877906943⟩])] (by kernel_rfl)
def uk:=ab f99 139
def Cu:=ab f99 2251
def Ct:=ab f99 5323
def Cs:=ab f99 36043
def Iq:=ab f99 150731
def Ip:=ab f99 216267
def On:=ab f99 183499
def Cw:=ab f99 380107
def mH:=ab f99 971
def Cv:=ab f99 23
def Ko:=ab f99 47
def SB:=lQ f169 5 [(.seq,[⟨some 1,.mkmap,[],none,true,0,0⟩,⟨some 2,.build [.bool false,.bool false,.bool false,.bool false] [(0,1),(2,1)],[.val (.bool true),.val (.bool true)],none,true,0,0⟩,⟨none,.mapUpd (false,[.int]),[.tmp 1,.val (.int .u8 1),.tmp 2],none,true,0,0⟩,⟨some 3,.build [.bool false,.bool false,.bool false,.bool false] [(2,1)],[.val (.bool true)],none,true,0,0⟩,⟨none,.mapUpd (false,[.int]),[.tmp 1,.val (.int .u8 2),.tmp 3],none,true,0,0⟩,⟨some 4,.build [.bool false,.bool false,.bool false,.bool false] [(3,1)],[.val (.bool true)],none,true,0,0⟩,⟨none,.mapUpd (false,[.int]),[.tmp 1,.val (.int .u8 3),.tmp 4],none,true,0,0⟩,⟨some 5,.build [.bool false,.bool false,.bool false,.bool false] [(0,1),(1,1),(2,1)],[.val (.bool true),.val (.bool true),.val (.bool true)],none,true,0,0⟩,⟨none,.mapUpd (false,[.int]),[.tmp 1,.val (.int .u8 4),.tmp 5],none,true,0,0⟩,⟨some 6,.build [.bool false,.bool false,.bool false,.bool false] [(0,1),(1,1),(2,1)],[.val (.bool true),.val (.bool true),.val (.bool true)],none,true,0,0⟩,⟨none,.mapUpd (false,[.int]),[.tmp 1,.val (.int .u8 5),.tmp 6],none,true,0,0⟩,⟨some 7,.build [.bool false,.bool false,.bool false,.bool false] [(0,1),(1,1),(2,1)],[.val (.bool true),.val (.bool true),.val (.bool true)],none,true,0,0⟩,⟨none,.mapUpd (false,[.int]),[.tmp 1,.val (.int .u8 6),.tmp 7],none,true,0,0⟩,⟨some 8,.build [.bool false,.bool false,.bool false,.bool false] [(1,1)],[.val (.bool true)],none,true,0,0⟩,⟨none,.mapUpd (false,[.int]),[.tmp 1,.val (.int .u8 7),.tmp 8],none,true,0,0⟩,⟨some 9,.build [.bool false,.bool false,.bool false,.bool false] [(1,1)],[.val (.bool true)],none,true,0,0⟩,⟨none,.mapUpd (false,[.int]),[.tmp 1,.val (.int .u8 8),.tmp 9],none,true,0,0⟩,⟨some 10,.move,[.tmp 1],none,true,0,0⟩,⟨some 0,.move,[.tmp 10],none,true,0,0⟩])] (by kernel_rfl)
def CO:=ab f170 21
def CN:=ab f170 19
def CM:=ab f170 23
def CL:=ab f170 79
def Kx:=ab f170 175
def CK:=ab f170 95
def xr:=ab f170 319
def xq:=ab f170 2239
def Fb:=ab f170 36031
def Fa:=ab f170 85183
def jV:=ab f170 314559
def ov:=ab f170 380095
def rW:=ab f170 15551
def Cz:=ab f227 33
def Ku:=ab f227 137
def Sx:=lQ f227 2121 [(.free,[⟨some 18,.move,[.tmp 9],none,true,0,0⟩,⟨some 19,.move,[.tmp 1],none,true,1,0⟩]),(.seq,[⟨some 20,.bin .gtr,[.tmp 18,.tmp 19],none,true,2,3⟩]),(.seq,[⟨some 21,.move,[.tmp 20],none,true,3,7⟩]),(.free,[⟨some 22,.move,[.tmp 3],some (21,true),false,4,15⟩,⟨some 23,.move,[.tmp 0],some (21,true),false,5,15⟩,⟨some 24,.move,[.tmp 9],some (21,true),false,6,15⟩,⟨some 25,.idxSl 5,[.tmp 23,.tmp 24],some (21,true),false,7,111⟩,⟨some 26,.load (some 5),[.tmp 25],some (21,true),false,8,239⟩,⟨some 27,.move,[.tmp 0],some (21,true),false,9,15⟩,⟨some 28,.move,[.tmp 9],some (21,true),false,10,15⟩,⟨some 29,.bin .sub,[.tmp 28,.val (.int .i64 1)],some (21,true),false,11,1039⟩,⟨some 30,.idxSl 5,[.tmp 27,.tmp 29],some (21,true),false,12,3599⟩,⟨some 31,.load (some 5),[.tmp 30],some (21,true),false,13,7695⟩]),(.seq,[⟨some 32,.call,[.tmp 22,.tmp 26,.tmp 31],some (21,true),true,14,16383⟩]),(.seq,[⟨some 33,.bin .lss,[.tmp 32,.val (.int .i64 0)],some (21,true),true,15,32767⟩]),(.seq,[⟨some 34,.pick,[.tmp 21,.tmp 33,.val (.bool false)],none,true,16,65535⟩])] (by kernel_rfl)
def Sw:=lQ f227 4681 [(.free,[⟨some 37,.move,[.tmp 0],none,false,0,0⟩,⟨some 38,.move,[.tmp 9],none,false,1,0⟩,⟨some 39,.move,[.tmp 0],none,false,2,0⟩,⟨some 40,.move,[.tmp 9],none,false,3,0⟩,⟨some 41,.bin .sub,[.tmp 40,.val (.int .i64 1)],none,false,4,8⟩,⟨some 42,.move,[.tmp 0],none,false,5,0⟩,⟨some 43,.move,[.tmp 9],none,false,6,0⟩,⟨some 44,.bin .sub,[.tmp 43,.val (.int .i64 1)],none,false,7,64⟩,⟨some 45,.idxSl 5,[.tmp 42,.tmp 44],none,false,8,224⟩,⟨some 46,.load (some 5),[.tmp 45],none,false,9,480⟩,⟨some 47,.move,[.tmp 0],none,false,10,0⟩,⟨some 48,.move,[.tmp 9],none,false,11,0⟩,⟨some 49,.idxSl 5,[.tmp 47,.tmp 48],none,false,12,3072⟩,⟨some 50,.load (some 5),[.tmp 49],none,false,13,7168⟩,⟨some 51,.idxSl 5,[.tmp 37,.tmp 38],none,true,14,16355⟩,⟨none,.store 5,[.tmp 51,.tmp 46],none,true,15,32739⟩]),(.seq,[⟨some 52,.idxSl 5,[.tmp 39,.tmp 41],none,true,16,65535⟩]),(.seq,[⟨none,.store 5,[.tmp 52,.tmp 50],none,true,17,131071⟩])] (by kernel_rfl)
def Kt:=ab f227 57
def B6:=J0 @EW<|J0 @EV<|J0 @EU<|J0 @ET<|J0 @Ks<|J0 @Kr<|J0 @Kq<|J0 @Kp<|J0 (bm f6 1) (F6.eq_1)
def B18:=j_ f18 2<|j_ f18 9<|j_ f18 37<|j_ f18 11<|j_ f18 39<|j_ f18 151<|j_ f18 599<|j_ f18 4439<|j_ f18 72023<|j_ f18 170327<|j_ f18 629079<|j_ f18 31063<|j_ f18 47<|J0 (bm f18 1) (F18.eq_1)
def UW:=J0 B18 ((cZ f18 2391))
def ZS:=j_ f32 2<|j_ f32 9<|j_ f32 37<|j_ f32 19<|j_ f32 43<|j_ f32 155<|j_ f32 23<|j_ f32 79<|j_ f32 559<|j_ f32 9007<|j_ f32 21295<|j_ f32 45871<|j_ f32 160559<|j_ f32 3887<|j_ f32 95<|J0 (bm f32 1) (F32.eq_1)
def UV:=J0 ZS ((cZ f32 303))
def B46:=j_ f46 2<|j_ f46 9<|j_ f46 37<|j_ f46 19<|j_ f46 139<|j_ f46 2251<|j_ f46 5323<|j_ f46 19659<|j_ f46 971<|j_ f46 23<|J0 (bm f46 1) (F46.eq_1)
def Zx:=J0 B46 ((cZ f46 75))
def B49:=j_ f49 2<|j_ f49 5<|J0 (bm f49 1) (F49.eq_1)
def B51:=j_ f51 2<|j_ f51 5<|J0 (bm f51 1) (F51.eq_1)
def B57:=j_ f57 2<|j_ f57 5<|J0 (bm f57 1) (F57.eq_1)
def B59:=j_ f59 2<|j_ f59 5<|J0 (bm f59 1) (F59.eq_1)
def B68:=j_ f68 2<|j_ f68 5<|j_ f68 11<|j_ f68 39<|j_ f68 151<|j_ f68 599<|j_ f68 727<|j_ f68 2519<|j_ f68 3031<|j_ f68 10199<|j_ f68 12247<|j_ f68 40919<|j_ f68 49111<|j_ f68 163799<|j_ f68 196567<|j_ f68 655319<|j_ f68 786391<|j_ f68 2621399<|j_ f68 47<|J0 (bm f68 1) (F68.eq_1)
def B78:=j_ f78 2<|j_ f78 5<|j_ f78 131<|j_ f78 163<|j_ f78 23<|j_ f78 79<|j_ f78 559<|j_ f78 9007<|j_ f78 13103<|j_ f78 3887<|j_ f78 95<|J0 (bm f78 1) (F78.eq_1)
def Kg:=J0 B78<|J0 (cZ f78 35) ((cZ f78 303))
def B80:=j_ f80 2<|j_ f80 5<|j_ f80 19<|j_ f80 139<|j_ f80 2251<|j_ f80 5323<|j_ f80 11467<|j_ f80 72907<|j_ f80 1154251<|j_ f80 2727115<|j_ f80 3775691<|j_ f80 498891<|j_ f80 971<|j_ f80 23<|J0 (bm f80 1) (F80.eq_1)
def Ib:=J0 B80<|J0 (Ik f80 40139) ((cZ f80 75))
def Zz:=j_ f87 2<|j_ f87 5<|j_ f87 19<|j_ f87 75<|j_ f87 39<|j_ f87 87<|j_ f87 311<|j_ f87 47<|j_ f87 159<|j_ f87 607<|j_ f87 191<|J0 (bm f87 1) (F87.eq_1)
def B96:=j_ f96 2<|j_ f96 5<|j_ f96 11<|j_ f96 23<|J0 (bm f96 1) (F96.eq_1)
def B98:=j_ f98 2<|j_ f98 5<|J0 (bm f98 1) (F98.eq_1)
def ZQ:=j_ f99 2<|j_ f99 5<|j_ f99 19<|J0 @uk<|J0 @Cu<|J0 @Ct<|J0 @Cs<|J0 @Iq<|J0 @Ip<|J0 @On<|J0 @Cw<|j_ f99 40139<|j_ f99 285899<|j_ f99 220363<|j_ f99 48331<|j_ f99 97483<|J0 @mH<|J0 @Cv<|J0 @Ko<|J0 (bm f99 1) (F99.eq_1)
def ZK:=j_ f125 2<|j_ f125 5<|j_ f125 19<|j_ f125 75<|j_ f125 171<|j_ f125 23<|J0 (bm f125 1) (Y7.eq_1)
def Kl:=j_ f132 2<|j_ f132 9<|j_ f132 21<|j_ f132 77<|j_ f132 11<|j_ f132 23<|j_ f132 47<|j_ f132 95<|j_ f132 191<|j_ f132 383<|J0 (bm f132 1) (Y0.eq_1)
def U0:=j_ f136 2<|j_ f136 9<|j_ f136 21<|j_ f136 77<|j_ f136 19<|j_ f136 75<|j_ f136 39<|j_ f136 151<|j_ f136 47<|j_ f136 159<|j_ f136 351<|j_ f136 191<|J0 (bm f136 1) (YW.eq_1)
def N6:=j_ f142 2<|j_ f142 9<|j_ f142 37<|j_ f142 11<|j_ f142 39<|j_ f142 87<|j_ f142 79<|j_ f142 303<|j_ f142 95<|J0 (bm f142 1) (YQ.eq_1)
def ZH:=j_ f148 2<|j_ f148 5<|j_ f148 11<|j_ f148 39<|j_ f148 279<|j_ f148 1175<|j_ f148 343<|j_ f148 79<|j_ f148 303<|j_ f148 159<|j_ f148 607<|j_ f148 319<|j_ f148 1215<|j_ f148 383<|J0 (bm f148 1) (YN.eq_1)
def abV:=j_ f159 2<|j_ f159 5<|J0 (bm f159 1) (YJ.eq_1)
def af0:=j_ f162 2<|j_ f162 5<|J0 (bm f162 1) (YG.eq_1)
def Si:=j_ f164 2<|j_ f164 9<|j_ f164 21<|j_ f164 77<|j_ f164 19<|j_ f164 75<|j_ f164 23<|J0 (bm f164 1) (YE.eq_1)
def afW:=j_ f169 2<|J0 @SB<|J0 (bm f169 1) (Yz.eq_1)
def Kj:=j_ f170 2<|j_ f170 9<|J0 @CO<|j_ f170 77<|J0 @CN<|j_ f170 75<|J0 @CM<|J0 @CL<|J0 @Kx<|J0 @CK<|J0 @xr<|J0 @xq<|J0 @Fb<|J0 @Fa<|J0 @jV<|J0 @ov<|j_ f170 2346175<|j_ f170 36949183<|j_ f170 53726399<|j_ f170 15977663<|J0 @rW<|j_ f170 639<|j_ f170 1407<|j_ f170 767<|J0 (bm f170 1) (F170.eq_1)
def VS:=J0 Kj<|J0 (Ik f170 1297599) ((cZ f170 1215))
def N0:=j_ f174 2<|j_ f174 5<|j_ f174 19<|j_ f174 43<|j_ f174 23<|j_ f174 79<|j_ f174 559<|j_ f174 9007<|j_ f174 21295<|j_ f174 45871<|j_ f174 3887<|j_ f174 159<|j_ f174 351<|j_ f174 191<|J0 (bm f174 1) (Yw.eq_1)
def LL:=J0 N0 ((cZ f174 303))
def afV:=j_ f177 2<|j_ f177 5<|j_ f177 11<|j_ f177 23<|J0 (bm f177 1) (Ys.eq_1)
def abR:=j_ f178 2<|j_ f178 9<|j_ f178 37<|j_ f178 11<|J0 (bm f178 1) (Yr.eq_1)
def ZF:=j_ f203 2<|j_ f203 5<|j_ f203 11<|j_ f203 23<|j_ f203 47<|j_ f203 1055<|j_ f203 4383<|j_ f203 39199<|j_ f203 284959<|j_ f203 4610335<|j_ f203 19290399<|j_ f203 23484703<|j_ f203 551967007<|j_ f203 2296797471<|j_ f203 5518022943<|j_ f203 1759926559<|j_ f203 98982175<|j_ f203 199645471<|j_ f203 400972063<|j_ f203 1988895<|j_ f203 47391<|j_ f203 191<|J0 (bm f203 1) (Yl.eq_1)
def pQ:=J0 ZF<|J0 (ru3 f203 149313823)<|J0 (Ik f203 153887) ((cZ f203 287))
def ZD:=j_ f208 2<|j_ f208 33<|j_ f208 73<|j_ f208 57<|J0 (bm f208 1) (Yg.eq_1)
def Sb:=J0 ZD ((cZ f208 9))
def afQ:=j_ f211 2<|j_ f211 5<|j_ f211 11<|j_ f211 23<|J0 (bm f211 1) (Yd.eq_1)
def ZA:=j_ f213 2<|j_ f213 33<|j_ f213 73<|j_ f213 57<|J0 (bm f213 1) (Yb.eq_1)
def R9:=J0 ZA ((cZ f213 9))
def abM:=j_ f225 2<|j_ f225 9<|j_ f225 37<|j_ f225 19<|j_ f225 75<|j_ f225 39<|j_ f225 279<|j_ f225 4503<|j_ f225 10647<|j_ f225 39319<|j_ f225 1943<|j_ f225 79<|j_ f225 559<|j_ f225 9007<|j_ f225 21295<|j_ f225 78639<|j_ f225 3887<|j_ f225 95<|J0 (bm f225 1) (F225.eq_1)
def Cj:=J0 abM<|J0 (cZ f225 151) ((cZ f225 303))
def abK:=j_ f227 2<|J0 @Cz<|J0 @Ku<|J0 @Sx<|J0 @Sw<|j_ f227 3657<|J0 @Kt<|J0 (bm f227 1) (X8.eq_1)
def R7:=J0 abK<|J0 (Ik f227 585) ((cZ f227 9))
theorem c6:Wc 6 F6 (aC f6 1):=am rfl rfl
theorem c18:Wc 18 F18 (aC f18 1):=am rfl rfl
theorem c32:Wc 32 F32 (aC f32 1):=am rfl rfl
theorem c46:Wc 46 F46 (aC f46 1):=am rfl rfl
theorem c49:Wc 49 F49 (aC f49 1):=am rfl rfl
theorem c51:Wc 51 F51 (aC f51 1):=am rfl rfl
theorem c57:Wc 57 F57 (aC f57 1):=am rfl rfl
theorem c59:Wc 59 F59 (aC f59 1):=am rfl rfl
theorem c68:Wc 68 F68 (aC f68 1):=am rfl rfl
theorem c78:Wc 78 F78 (aC f78 1):=am rfl rfl
theorem c80:Wc 80 F80 (aC f80 1):=am rfl rfl
theorem c87:Wc 87 F87 (aC f87 1):=am rfl rfl
theorem c96:Wc 96 F96 (aC f96 1):=am rfl rfl
theorem c98:Wc 98 F98 (aC f98 1):=am rfl rfl
theorem c99:Wc 99 F99 (aC f99 1):=am rfl rfl
theorem aeA:Wc 125 Y7 (aC f125 1):=am rfl rfl
theorem aet:Wc 132 Y0 (aC f132 1):=am rfl rfl
theorem aep:Wc 136 YW (aC f136 1):=am rfl rfl
theorem aej:Wc 142 YQ (aC f142 1):=am rfl rfl
theorem aef:Wc 148 YN (aC f148 1):=am rfl rfl
theorem abd:Wc 159 YJ (aC f159 1):=am rfl rfl
theorem aec:Wc 162 YG (aC f162 1):=am rfl rfl
theorem aea:Wc 164 YE (aC f164 1):=am rfl rfl
theorem ad5:Wc 169 Yz (aC f169 1):=am rfl rfl
theorem ad4:Wc 170 F170 (aC f170 1):=am rfl rfl
theorem ad0:Wc 174 Yw (aC f174 1):=am rfl rfl
theorem adX:Wc 177 Ys (aC f177 1):=am rfl rfl
theorem adW:Wc 178 Yr (aC f178 1):=am rfl rfl
theorem adR:Wc 203 Yl (aC f203 1):=am rfl rfl
theorem abc:Wc 208 Yg (aC f208 1):=am rfl rfl
theorem adL:Wc 211 Yd (aC f211 1):=am rfl rfl
theorem aa9:Wc 213 Yb (aC f213 1):=am rfl rfl
theorem adI:Wc 225 F225 (aC f225 1):=am rfl rfl
theorem adG:Wc 227 X8 (aC f227 1):=am rfl rfl
end
end
end Go.Iso.Gen
