/-
  the code that the claim reaches, for the evaluator.
-/
import Derived.Test.YtiofebdpgbojmaaGreatDoorGenH
set_option linter.unusedSimpArgs false
set_option linter.unusedVariables false
set_option maxRecDepth 100000
set_option maxHeartbeats 4000000
set_option linter.defProp false
namespace Go.Iso.Gen
open Go.Proofs Go.Proofs.Tryz
noncomputable section
section
variable {lo:Nat}{rd:Option Nat}{fr:Fr}{H:Heap}{Q:Aq}{args:List IV}
def Ph:=ab f29 11
def Pg:=ab f31 1071
def Pf:=ab f31 4399
def Pe:=ab f31 10543
def CM:=ab f31 39215
def Pd:=ab f31 88367
def Pb:=ab f34 159
def Pa:=ab f34 1119
def KN:=ab f34 18015
def KM:=ab f34 42591
def KL:=ab f34 91743
def KK:=ab f34 321119
def O6:=ab f62 1119
def O5:=ab f62 18015
def O4:=ab f62 42591
def O3:=ab f62 91743
def rX:=ab f62 190047
def rW:=ab f62 648799
def rV:=ab f62 3008095
def rU:=ab f62 12445279
def rS:=ab f62 83748447
def wE:=ab f62 385738335
def CL:=ab f62 1056826975
def wD:=ab f62 167634527
def T1:=kK f62 1576920671 [(.seq,[⟨some 81,.move,[.tmp 6],none,true,0,0⟩,⟨some 82,.fieldAddr 2,[.tmp 8],none,true,0,0⟩,⟨some 83,.load (some 2),[.tmp 82],none,true,0,0⟩,⟨none,.mapUpd (true,[.int,.int]),[.tmp 81,.tmp 83,.val (.bool true)],none,true,0,0⟩])] (by kernel_rfl)
def KJ:=ab f62 201188959
def KI:=ab f62 1207821919
def T0:=kK f62 10334627423 [(.seq,[⟨some 95,.move,[.tmp 3],none,true,0,0⟩,⟨some 96,.move,[.tmp 7],none,true,0,0⟩,⟨some 97,.move,[.tmp 6],none,true,0,0⟩,⟨some 98,.load (some 2),[.tmp 9],none,true,0,0⟩,⟨some 99,.lookup 195 (true,[.int,.int]) (.bool false) false,[.tmp 97,.tmp 98],none,true,0,0⟩,⟨some 100,.un .not,[.tmp 99],none,true,0,0⟩,⟨some 101,.idxSl 3,[.tmp 95,.tmp 96],none,true,0,0⟩,⟨some 102,.fieldAddr 2,[.tmp 101],none,true,0,0⟩,⟨none,.store 1,[.tmp 102,.tmp 100],none,true,0,0⟩])] (by kernel_rfl)
def TZ:=kK f62 14629594719 [(.seq,[⟨some 103,.move,[.tmp 6],none,true,0,0⟩,⟨some 104,.load (some 2),[.tmp 9],none,true,0,0⟩,⟨none,.mapUpd (true,[.int,.int]),[.tmp 103,.tmp 104,.val (.bool true)],none,true,0,0⟩])] (by kernel_rfl)
def TY:=kK f62 939386463 [(.seq,[⟨some 105,.move,[.tmp 6],none,true,0,0⟩,⟨some 106,.fieldAddr 2,[.tmp 8],none,true,0,0⟩,⟨some 107,.load (some 2),[.tmp 106],none,true,0,0⟩,⟨none,.delete (true,[.int,.int]),[.tmp 105,.tmp 107],none,true,0,0⟩])] (by kernel_rfl)
def TW:=kK f62 1610475103 [(.seq,[⟨some 110,.move,[.tmp 6],none,true,0,0⟩,⟨some 111,.fieldAddr 2,[.tmp 8],none,true,0,0⟩,⟨some 112,.load (some 2),[.tmp 111],none,true,0,0⟩,⟨none,.delete (true,[.int,.int]),[.tmp 110,.tmp 112],none,true,0,0⟩])] (by kernel_rfl)
def Ug:=kK f138 5733 [(.free,[⟨some 28,.move,[.tmp 0],none,false,0,0⟩,⟨some 29,.nilCheck,[.tmp 28],none,false,1,1⟩,⟨some 30,.fieldAddr 1,[.tmp 29],none,false,2,3⟩,⟨some 31,.load (some 2),[.tmp 30],none,false,3,7⟩,⟨some 32,.move,[.tmp 0],none,false,4,0⟩,⟨some 33,.nilCheck,[.tmp 32],none,false,5,16⟩,⟨some 34,.fieldAddr 0,[.tmp 33],none,false,6,48⟩,⟨some 35,.load none,[.tmp 34],none,false,7,112⟩,⟨some 36,.move,[.tmp 1],none,false,8,0⟩,⟨some 37,.fieldAddr 1,[.tmp 6],none,false,9,0⟩,⟨some 38,.load none,[.tmp 37],none,false,10,512⟩]),(.seq,[⟨some 39,.call,[.val (.fn 170 [] []),.tmp 31,.tmp 35,.tmp 36,.tmp 38],none,true,11,2047⟩]),(.seq,[⟨some 27,.move,[.tmp 39],none,true,12,4095⟩]),(.free,[⟨some 40,.extract 0,[.tmp 27],none,true,13,8191⟩,⟨some 41,.extract 1,[.tmp 27],none,true,14,8191⟩,⟨some 7,.move,[.tmp 40],none,true,15,16383⟩]),(.seq,[⟨some 8,.move,[.tmp 41],none,true,16,65535⟩])] (by kernel_rfl)
def Fj:=ab f138 39
def Fi:=ab f138 79
def Fh:=ab f138 95
def Fg:=ab f143 639
def KZ:=ab f144 39
def Pq:=kK f144 4799 [(.seq,[⟨some 48,.load (some 2),[.tmp 12],none,true,0,0⟩,⟨some 49,.load (some 2),[.tmp 4],none,true,0,0⟩,⟨some 50,.eqFlat true [.int,.int],[.tmp 48,.tmp 49],none,true,0,0⟩])] (by kernel_rfl)
def Pp:=kK f144 3353279 [(.seq,[⟨some 57,.load none,[.tmp 11],none,true,0,0⟩,⟨some 58,.load (some 2),[.tmp 15],none,true,0,0⟩,⟨none,.mapUpd (true,[.int,.int]),[.tmp 57,.tmp 58,.val (.bool true)],none,true,0,0⟩])] (by kernel_rfl)
def Ff:=ab f144 639
def Po:=kK f144 301439 [(.seq,[⟨some 66,.load none,[.tmp 11],none,true,0,0⟩,⟨some 67,.load (some 2),[.tmp 17],none,true,0,0⟩,⟨some 68,.lookup 206 (true,[.int,.int]) (.bool false) false,[.tmp 66,.tmp 67],none,true,0,0⟩])] (by kernel_rfl)
def Pn:=kK f144 235903 [(.seq,[⟨some 70,.load none,[.tmp 11],none,true,0,0⟩,⟨some 71,.load (some 2),[.tmp 17],none,true,0,0⟩,⟨none,.mapUpd (true,[.int,.int]),[.tmp 70,.tmp 71,.val (.bool true)],none,true,0,0⟩])] (by kernel_rfl)
def CN:=ab f228 4
def Pj:=kK f228 9402 [(.free,[⟨some 61,.move,[.tmp 0],none,false,0,0⟩,⟨some 62,.move,[.tmp 13],none,false,1,0⟩,⟨some 63,.move,[.tmp 0],none,false,2,0⟩,⟨some 64,.move,[.tmp 13],none,false,3,0⟩,⟨some 65,.bin .add,[.tmp 64,.val (.int .i64 1)],none,false,4,8⟩,⟨some 66,.move,[.tmp 0],none,false,5,0⟩,⟨some 67,.move,[.tmp 13],none,false,6,0⟩,⟨some 68,.bin .add,[.tmp 67,.val (.int .i64 1)],none,false,7,64⟩,⟨some 69,.idxSl 5,[.tmp 66,.tmp 68],none,false,8,224⟩,⟨some 70,.load (some 5),[.tmp 69],none,false,9,480⟩,⟨some 71,.move,[.tmp 0],none,false,10,0⟩,⟨some 72,.move,[.tmp 13],none,false,11,0⟩,⟨some 73,.idxSl 5,[.tmp 71,.tmp 72],none,false,12,3072⟩,⟨some 74,.load (some 5),[.tmp 73],none,false,13,7168⟩,⟨some 75,.idxSl 5,[.tmp 61,.tmp 62],none,true,14,16355⟩,⟨none,.store 5,[.tmp 75,.tmp 70],none,true,15,32739⟩]),(.seq,[⟨some 76,.idxSl 5,[.tmp 63,.tmp 65],none,true,16,65535⟩]),(.seq,[⟨none,.store 5,[.tmp 76,.tmp 74],none,true,17,131071⟩])] (by kernel_rfl)
def xo:=ab f228 9
def Pi:=kK f228 18805 [(.free,[⟨some 113,.move,[.tmp 0],none,false,0,0⟩,⟨some 114,.move,[.tmp 17],none,false,1,0⟩,⟨some 115,.move,[.tmp 0],none,false,2,0⟩,⟨some 116,.move,[.tmp 17],none,false,3,0⟩,⟨some 117,.bin .sub,[.tmp 116,.val (.int .i64 1)],none,false,4,8⟩,⟨some 118,.move,[.tmp 0],none,false,5,0⟩,⟨some 119,.move,[.tmp 17],none,false,6,0⟩,⟨some 120,.bin .sub,[.tmp 119,.val (.int .i64 1)],none,false,7,64⟩,⟨some 121,.idxSl 5,[.tmp 118,.tmp 120],none,false,8,224⟩,⟨some 122,.load (some 5),[.tmp 121],none,false,9,480⟩,⟨some 123,.move,[.tmp 0],none,false,10,0⟩,⟨some 124,.move,[.tmp 17],none,false,11,0⟩,⟨some 125,.idxSl 5,[.tmp 123,.tmp 124],none,false,12,3072⟩,⟨some 126,.load (some 5),[.tmp 125],none,false,13,7168⟩,⟨some 127,.idxSl 5,[.tmp 113,.tmp 114],none,true,14,16355⟩,⟨none,.store 5,[.tmp 127,.tmp 122],none,true,15,32739⟩]),(.seq,[⟨some 128,.idxSl 5,[.tmp 115,.tmp 117],none,true,16,65535⟩]),(.seq,[⟨none,.store 5,[.tmp 128,.tmp 126],none,true,17,131071⟩])] (by kernel_rfl)
def xm:=ab f228 11
def xl:=ab f228 23
def xk:=ab f228 47
def xj:=ab f228 159
def E5:=ab f228 607
def E4:=ab f228 863
def E3:=ab f228 735
def E2:=ab f228 991
def xi:=ab f228 191
def sa:=ab f228 767
def rZ:=ab f228 2559
def E1:=ab f228 5631
def rY:=ab f228 5119
def EZ:=ab f228 11263
def B11:=j_ f11 2<|j_ f11 5<|J0 (a7 f11 1) (F11.eq_1)
def B15:=j_ f15 2<|j_ f15 9<|j_ f15 21<|j_ f15 77<|j_ f15 11<|j_ f15 39<|j_ f15 87<|j_ f15 311<|j_ f15 47<|J0 (a7 f15 1) (F15.eq_1)
def B29:=j_ f29 2<|j_ f29 5<|J0 @Ph<|j_ f29 23<|J0 (a7 f29 1) (F29.eq_1)
def B31:=j_ f31 2<|j_ f31 5<|j_ f31 11<|j_ f31 23<|j_ f31 79<|J0 @Pg<|J0 @Pf<|J0 @Pe<|J0 @CM<|J0 @Pd<|j_ f31 47407<|j_ f31 96559<|j_ f31 1839<|j_ f31 95<|J0 (a7 f31 1) (F31.eq_1)
def aaW:=J0 B31 ((cZ f31 303))
def B34:=j_ f34 2<|j_ f34 5<|j_ f34 19<|j_ f34 75<|j_ f34 39<|j_ f34 87<|j_ f34 311<|j_ f34 47<|J0 @Pb<|J0 @Pa<|J0 @KN<|J0 @KM<|J0 @KL<|J0 @KK<|j_ f34 452191<|j_ f34 7775<|j_ f34 191<|J0 (a7 f34 1) (F34.eq_1)
def aaV:=J0 B34 ((cZ f34 607))
def B48:=j_ f48 2<|j_ f48 9<|j_ f48 32773<|j_ f48 73733<|j_ f48 155653<|j_ f48 319493<|j_ f48 385029<|j_ f48 2309<|j_ f48 581<|j_ f48 149<|j_ f48 11<|J0 (a7 f48 1) (F48.eq_1)
def B62:=j_ f62 2<|j_ f62 5<|j_ f62 11<|j_ f62 23<|j_ f62 47<|j_ f62 159<|J0 @O6<|J0 @O5<|J0 @O4<|J0 @O3<|J0 @rX<|J0 @rW<|j_ f62 2483807<|j_ f62 5629535<|j_ f62 11920991<|J0 @rV<|j_ f62 6153823<|J0 @rU<|j_ f62 25028191<|J0 @rS<|J0 @wE<|J0 @CL<|J0 @wD<|j_ f62 637396575<|j_ f62 1442702943<|j_ f62 771614303<|J0 @T1<|J0 @KJ<|J0 @KI<|j_ f62 2818434655<|J0 @T0<|J0 @TZ<|J0 @TY<|j_ f62 805168735<|J0 @TW<|j_ f62 7775<|j_ f62 191<|J0 (a7 f62 1) (F62.eq_1)
def AB:=J0 B62 ((cZ f62 607))
def B77:=j_ f77 2<|j_ f77 5<|j_ f77 11<|j_ f77 39<|j_ f77 279<|j_ f77 4503<|j_ f77 6551<|j_ f77 1943<|j_ f77 47<|J0 (a7 f77 1) (F77.eq_1)
def acU:=J0 B77 ((cZ f77 151))
def B79:=j_ f79 2<|j_ f79 5<|j_ f79 19<|j_ f79 139<|j_ f79 2251<|j_ f79 3275<|j_ f79 971<|j_ f79 23<|J0 (a7 f79 1) (F79.eq_1)
def aaR:=J0 B79 ((cZ f79 75))
def B82:=j_ f82 2<|j_ f82 9<|j_ f82 37<|j_ f82 19<|j_ f82 75<|j_ f82 23<|J0 (a7 f82 1) (F82.eq_1)
def B84:=j_ f84 2<|j_ f84 5<|j_ f84 19<|j_ f84 43<|j_ f84 23<|J0 (a7 f84 1) (F84.eq_1)
def B87:=j_ f87 2<|j_ f87 5<|j_ f87 19<|j_ f87 75<|j_ f87 39<|j_ f87 87<|j_ f87 311<|j_ f87 47<|j_ f87 159<|j_ f87 607<|j_ f87 191<|J0 (a7 f87 1) (F87.eq_1)
def B94:=j_ f94 2<|j_ f94 5<|j_ f94 11<|j_ f94 23<|J0 (a7 f94 1) (F94.eq_1)
def B97:=j_ f97 2<|j_ f97 9<|j_ f97 37<|j_ f97 19<|j_ f97 75<|j_ f97 23<|J0 (a7 f97 1) (F97.eq_1)
def ahC:=j_ f110 2<|j_ f110 5<|J0 (a7 f110 1) (aaM.eq_1)
def adn:=j_ f112 2<|j_ f112 9<|j_ f112 37<|j_ f112 19<|j_ f112 139<|j_ f112 2251<|j_ f112 5323<|j_ f112 11467<|j_ f112 40139<|j_ f112 971<|j_ f112 23<|J0 (a7 f112 1) (aaK.eq_1)
def Tx:=J0 adn ((cZ f112 75))
def Wy:=j_ f122 2<|j_ f122 5<|J0 (a7 f122 1) (aaD.eq_1)
def TE:=j_ f123 2<|j_ f123 5<|J0 (a7 f123 1) (aaC.eq_1)
def ahB:=j_ f124 2<|j_ f124 5<|J0 (a7 f124 1) (aaB.eq_1)
def aa8:=j_ f125 2<|j_ f125 5<|j_ f125 19<|j_ f125 75<|j_ f125 171<|j_ f125 23<|J0 (a7 f125 1) (aaA.eq_1)
def adk:=j_ f130 2<|j_ f130 9<|j_ f130 69<|j_ f130 1125<|j_ f130 4709<|j_ f130 19045<|j_ f130 9829<|j_ f130 38501<|j_ f130 11877<|j_ f130 40549<|j_ f130 485<|j_ f130 11<|J0 (a7 f130 1) (aav.eq_1)
def Iq:=J0 adk ((cZ f130 37))
def aa7:=j_ f137 2<|j_ f137 9<|j_ f137 21<|j_ f137 77<|j_ f137 19<|j_ f137 75<|j_ f137 23<|J0 (a7 f137 1) (aao.eq_1)
def aa6:=j_ f138 2<|j_ f138 9<|j_ f138 69<|j_ f138 1125<|j_ f138 4709<|J0 @Ug<|j_ f138 20069<|j_ f138 77413<|j_ f138 24165<|j_ f138 48741<|j_ f138 163429<|j_ f138 485<|j_ f138 11<|J0 @Fj<|j_ f138 151<|J0 @Fi<|j_ f138 559<|j_ f138 9007<|j_ f138 21295<|j_ f138 45871<|j_ f138 160559<|j_ f138 3887<|J0 @Fh<|J0 (a7 f138 1) (aan.eq_1)
def pS:=J0 aa6<|J0 (cZ f138 37) ((cZ f138 303))
def wC:=j_ f143 2<|j_ f143 9<|j_ f143 21<|j_ f143 77<|j_ f143 19<|j_ f143 75<|j_ f143 23<|j_ f143 79<|j_ f143 303<|j_ f143 159<|j_ f143 607<|j_ f143 191<|J0 @Fg<|j_ f143 1407<|j_ f143 767<|J0 (a7 f143 1) (F143.eq_1)
def EU:=j_ f144 2<|j_ f144 9<|j_ f144 21<|j_ f144 77<|j_ f144 19<|j_ f144 75<|J0 @KZ<|j_ f144 279<|j_ f144 4503<|j_ f144 10647<|j_ f144 39319<|j_ f144 1943<|j_ f144 79<|j_ f144 303<|j_ f144 95<|j_ f144 319<|j_ f144 2239<|j_ f144 3263<|J0 @Pq<|j_ f144 19135<|j_ f144 142015<|j_ f144 2304703<|J0 @Pp<|j_ f144 993983<|J0 @Ff<|j_ f144 4479<|j_ f144 72063<|J0 @Po<|j_ f144 1218943<|J0 @Pn<|j_ f144 31103<|j_ f144 767<|J0 (a7 f144 1) (aai.eq_1)
def ug:=J0 EU<|J0 (cZ f144 151)<|J0 (cZ f144 76479) ((cZ f144 2431))
def TB:=j_ f175 2<|j_ f175 9<|j_ f175 21<|j_ f175 77<|j_ f175 19<|j_ f175 75<|j_ f175 39<|j_ f175 151<|j_ f175 47<|j_ f175 95<|J0 (a7 f175 1) (ZY.eq_1)
def adb:=j_ f176 2<|j_ f176 5<|j_ f176 19<|j_ f176 139<|j_ f176 2251<|j_ f176 3275<|j_ f176 971<|j_ f176 23<|J0 (a7 f176 1) (ZX.eq_1)
def Xv:=J0 adb ((cZ f176 75))
def aho:=j_ f189 2<|j_ f189 5<|J0 (a7 f189 1) (ZU.eq_1)
def aa3:=j_ f203 2<|j_ f203 5<|j_ f203 11<|j_ f203 23<|j_ f203 47<|j_ f203 1055<|j_ f203 4383<|j_ f203 39199<|j_ f203 284959<|j_ f203 4610335<|j_ f203 19290399<|j_ f203 23484703<|j_ f203 551967007<|j_ f203 2296797471<|j_ f203 5518022943<|j_ f203 1759926559<|j_ f203 98982175<|j_ f203 199645471<|j_ f203 400972063<|j_ f203 1988895<|j_ f203 47391<|j_ f203 191<|J0 (a7 f203 1) (ZQ.eq_1)
def pR:=J0 aa3<|J0 (ru3 f203 149313823)<|J0 (EV f203 153887) ((cZ f203 287))
def ahl:=j_ f209 2<|j_ f209 5<|j_ f209 11<|j_ f209 23<|J0 (a7 f209 1) (ZK.eq_1)
def aaZ:=j_ f212 2<|j_ f212 33<|j_ f212 73<|j_ f212 57<|J0 (a7 f212 1) (ZH.eq_1)
def Tt:=J0 aaZ ((cZ f212 9))
def ac6:=j_ f225 2<|j_ f225 9<|j_ f225 37<|j_ f225 19<|j_ f225 75<|j_ f225 39<|j_ f225 279<|j_ f225 4503<|j_ f225 10647<|j_ f225 39319<|j_ f225 1943<|j_ f225 79<|j_ f225 559<|j_ f225 9007<|j_ f225 21295<|j_ f225 78639<|j_ f225 3887<|j_ f225 95<|J0 (a7 f225 1) (F225.eq_1)
def Cy:=J0 ac6<|J0 (cZ f225 151) ((cZ f225 303))
def Ir:=J0 @CN<|j_ f228 18<|j_ f228 42<|j_ f228 1050<|j_ f228 2330<|j_ f228 5402<|j_ f228 11546<|j_ f228 15642<|j_ f228 314<|j_ f228 4282<|J0 @Pj<|j_ f228 7354<|J0 @xo<|j_ f228 37<|j_ f228 85<|j_ f228 2101<|j_ f228 4661<|j_ f228 10805<|j_ f228 23093<|j_ f228 31285<|j_ f228 629<|j_ f228 8565<|J0 @Pi<|j_ f228 14709<|J0 @xm<|J0 @xl<|J0 @xk<|J0 @xj<|J0 @E5<|J0 @E4<|J0 @E3<|J0 @E2<|J0 @xi<|j_ f228 4223<|j_ f228 9343<|j_ f228 21631<|j_ f228 46207<|j_ f228 62591<|J0 @sa<|J0 @rZ<|J0 @E1<|J0 @rY<|J0 @EZ<|j_ f228 6143<|j_ f228 12287<|J0 (a7 f228 1) (Tm.eq_1)
def jG:=J0 Ir<|J0 (cZ f228 282)<|J0 (cZ f228 1210)<|J0 (cZ f228 565)<|J0 (cZ f228 2421) ((cZ f228 1151))
theorem c11:Wc 11 F11 (aB f11 1):=am rfl rfl
theorem c15:Wc 15 F15 (aB f15 1):=am rfl rfl
theorem c29:Wc 29 F29 (aB f29 1):=am rfl rfl
theorem c31:Wc 31 F31 (aB f31 1):=am rfl rfl
theorem c34:Wc 34 F34 (aB f34 1):=am rfl rfl
theorem c48:Wc 48 F48 (aB f48 1):=am rfl rfl
theorem c62:Wc 62 F62 (aB f62 1):=am rfl rfl
theorem c77:Wc 77 F77 (aB f77 1):=am rfl rfl
theorem c79:Wc 79 F79 (aB f79 1):=am rfl rfl
theorem c82:Wc 82 F82 (aB f82 1):=am rfl rfl
theorem c84:Wc 84 F84 (aB f84 1):=am rfl rfl
theorem c87:Wc 87 F87 (aB f87 1):=am rfl rfl
theorem c94:Wc 94 F94 (aB f94 1):=am rfl rfl
theorem c97:Wc 97 F97 (aB f97 1):=am rfl rfl
theorem af2:Wc 110 aaM (aB f110 1):=am rfl rfl
theorem af0:Wc 112 aaK (aB f112 1):=am rfl rfl
theorem V0:Wc 122 aaD (aB f122 1):=am rfl rfl
theorem SH:Wc 123 aaC (aB f123 1):=am rfl rfl
theorem afS:Wc 124 aaB (aB f124 1):=am rfl rfl
theorem afR:Wc 125 aaA (aB f125 1):=am rfl rfl
theorem afM:Wc 130 aav (aB f130 1):=am rfl rfl
theorem afF:Wc 137 aao (aB f137 1):=am rfl rfl
theorem afE:Wc 138 aan (aB f138 1):=am rfl rfl
theorem afz:Wc 143 F143 (aB f143 1):=am rfl rfl
theorem afy:Wc 144 aai (aB f144 1):=am rfl rfl
theorem aff:Wc 175 ZY (aB f175 1):=am rfl rfl
theorem afe:Wc 176 ZX (aB f176 1):=am rfl rfl
theorem afb:Wc 189 ZU (aB f189 1):=am rfl rfl
theorem ae7:Wc 203 ZQ (aB f203 1):=am rfl rfl
theorem ae2:Wc 209 ZK (aB f209 1):=am rfl rfl
theorem acv:Wc 212 ZH (aB f212 1):=am rfl rfl
theorem aeY:Wc 225 F225 (aB f225 1):=am rfl rfl
theorem aeV:Wc 228 Tm (aB f228 1):=am rfl rfl
end
end
end Go.Iso.Gen
