/-
  the code that the claim reaches, for the evaluator.
-/
import Derived.Test.YtdfnadcnipppkaaGreatDoorGenH
set_option linter.unusedSimpArgs false
set_option linter.unusedVariables false
set_option maxRecDepth 100000
set_option maxHeartbeats 4000000
set_option linter.defProp false
namespace Go.Iso.Gen
open Go.Proofs Go.Proofs.Tryz
noncomputable section
section
variable {lo:Nat}{rd:Option Nat}{fr:Fr}{H:Heap}{Q:A1}{args:List IV}
def NT:=ab f7 2
def NS:=ab f7 5
def Sh:=ab f7 11
def Zu:=ab f7 23
def lA:=ab f9 2
def mz:=ab f9 5
def lz:=ab f9 19
def ly:=ab f9 75
def lx:=ab f9 23
def lu:=ab f9 47
def lr:=ab f9 159
def lq:=ab f9 1119
def lm:=ab f9 18015
def ll:=ab f9 75359
def ip:=ab f9 566879
def im:=ab f9 9217631
def il:=ab f9 21800543
def ik:=ab f9 46966367
def ij:=ab f9 3974751
def ii:=ab f9 91743
def ig:=ab f9 190047
def ie:=ab f9 7775
def hZ:=ab f9 191
def hU:=ab f9 383
def gZ:=ab f9 767
def gV:=ab f9 16895
def gU:=ab f9 37375
def gS:=ab f9 86527
def gO:=ab f9 184831
def iV:=ab f9 381439
def iU:=ab f9 774655
def gM:=ab f9 1561087
def gK:=ab f9 17814015
def gJ:=ab f9 139448831
def gI:=ab f9 173003263
def iT:=ab f9 374329855
def gH:=ab f9 1313853951
def gG:=ab f9 1850724863
def gE:=ab f9 30396927
def gC:=ab f9 3071
def K5:=ab f48 2
def K4:=ab f48 9
def K3:=ab f48 37
def K2:=ab f48 11
def K1:=ab f48 39
def K0:=ab f48 151
def Sr:=ab f48 343
def KZ:=ab f48 47
def Sq:=ab f48 95
def KY:=ab f48 191
def Ic:=ab f114 39
def Ib:=ab f114 79
def Ia:=ab f114 95
def y5:=ab f141 279
def Fa:=ab f141 4503
def E9:=ab f141 10647
def E8:=ab f141 39319
def HS:=ab f141 88471
def zZ:=ab f141 47511
def zY:=ab f141 96663
def zX:=ab f141 194967
def zW:=ab f141 1178007
def HR:=ab f141 18479511
def HO:=ab f141 43645335
def HM:=ab f141 7993751
def HL:=ab f141 1943
def B5:=j_ f5 2<|j_ f5 5<|J0 (aM f5 1) (F5.eq_1)
def B7:=J0 @NT<|J0 @NS<|J0 @Sh<|J0 @Zu<|J0 (aM f7 1) (F7.eq_1)
def B9:=J0 @lA<|J0 @mz<|J0 @lz<|J0 @ly<|J0 @lx<|J0 @lu<|J0 @lr<|J0 @lq<|J0 @lm<|J0 @ll<|J0 @ip<|J0 @im<|J0 @il<|J0 @ik<|J0 @ij<|J0 @ii<|J0 @ig<|J0 @ie<|J0 @hZ<|J0 @hU<|J0 @gZ<|J0 @gV<|J0 @gU<|J0 @gS<|J0 @gO<|J0 @iV<|J0 @iU<|J0 @gM<|J0 @gK<|J0 @gJ<|J0 @gI<|J0 @iT<|J0 @gH<|J0 @gG<|J0 @gE<|J0 @gC<|J0 (aM f9 1) (F9.eq_1)
def RZ:=J0 B9<|J0 (sT f9 304735)<|J0 (bX f9 607)<|J0 (sT f9 5231103) ((bX f9 4607))
def B14:=j_ f14 2<|j_ f14 5<|j_ f14 11<|J0 (aM f14 1) (F14.eq_1)
def B15:=j_ f15 2<|j_ f15 5<|j_ f15 11<|j_ f15 23<|J0 (aM f15 1) (F15.eq_1)
def B18:=j_ f18 2<|j_ f18 9<|j_ f18 32773<|j_ f18 73733<|j_ f18 155653<|j_ f18 319493<|j_ f18 385029<|j_ f18 2309<|j_ f18 581<|j_ f18 149<|j_ f18 11<|J0 (aM f18 1) (F18.eq_1)
def B27:=j_ f27 2<|j_ f27 9<|j_ f27 37<|j_ f27 11<|j_ f27 39<|j_ f27 151<|j_ f27 599<|j_ f27 2391<|j_ f27 17751<|j_ f27 288087<|j_ f27 1205591<|j_ f27 4875607<|j_ f27 6972759<|j_ f27 2516311<|j_ f27 3040599<|j_ f27 10380631<|j_ f27 22963543<|j_ f27 8283479<|j_ f27 124247<|j_ f27 2903<|j_ f27 5975<|j_ f27 47<|J0 (aM f27 1) (F27.eq_1)
def Hk:=J0 B27 ((bX f27 9559))
def B37:=j_ f37 2<|j_ f37 9<|j_ f37 37<|j_ f37 19<|j_ f37 139<|j_ f37 2251<|j_ f37 5323<|j_ f37 19659<|j_ f37 971<|j_ f37 23<|J0 (aM f37 1) (F37.eq_1)
def adL:=J0 B37 ((bX f37 75))
def B42:=j_ f42 2<|j_ f42 9<|j_ f42 37<|j_ f42 19<|j_ f42 139<|j_ f42 2251<|j_ f42 5323<|j_ f42 19659<|j_ f42 971<|j_ f42 23<|J0 (aM f42 1) (F42.eq_1)
def afT:=J0 B42 ((bX f42 75))
def B48:=J0 @K5<|J0 @K4<|J0 @K3<|J0 @K2<|J0 @K1<|J0 @K0<|J0 @Sr<|J0 @KZ<|J0 @Sq<|J0 @KY<|J0 (aM f48 1) (F48.eq_1)
def B49:=j_ f49 2<|j_ f49 5<|J0 (aM f49 1) (F49.eq_1)
def B50:=j_ f50 2<|j_ f50 5<|J0 (aM f50 1) (F50.eq_1)
def B54:=j_ f54 2<|j_ f54 9<|j_ f54 37<|j_ f54 19<|j_ f54 43<|j_ f54 155<|j_ f54 39<|j_ f54 151<|j_ f54 79<|j_ f54 559<|j_ f54 9007<|j_ f54 21295<|j_ f54 45871<|j_ f54 160559<|j_ f54 3887<|j_ f54 159<|j_ f54 351<|j_ f54 1247<|j_ f54 319<|j_ f54 1215<|j_ f54 639<|j_ f54 4479<|j_ f54 72063<|j_ f54 170367<|j_ f54 629119<|j_ f54 31103<|j_ f54 767<|J0 (aM f54 1) (F54.eq_1)
def NL:=J0 B54<|J0 (bX f54 303) ((bX f54 2431))
def mw:=j_ f68 2<|j_ f68 5<|j_ f68 19<|j_ f68 75<|j_ f68 39<|j_ f68 151<|j_ f68 79<|j_ f68 303<|j_ f68 159<|j_ f68 607<|j_ f68 191<|J0 (aM f68 1) (F68.eq_1)
def B77:=j_ f77 2<|j_ f77 5<|j_ f77 11<|j_ f77 39<|j_ f77 279<|j_ f77 4503<|j_ f77 6551<|j_ f77 1943<|j_ f77 47<|J0 (aM f77 1) (F77.eq_1)
def afQ:=J0 B77 ((bX f77 151))
def B79:=j_ f79 2<|j_ f79 5<|j_ f79 19<|j_ f79 139<|j_ f79 2251<|j_ f79 3275<|j_ f79 971<|j_ f79 23<|J0 (aM f79 1) (F79.eq_1)
def adI:=J0 B79 ((bX f79 75))
def B82:=j_ f82 2<|j_ f82 5<|j_ f82 19<|j_ f82 43<|j_ f82 23<|J0 (aM f82 1) (F82.eq_1)
def B84:=j_ f84 2<|j_ f84 65<|j_ f84 145<|j_ f84 593<|j_ f84 1361<|j_ f84 1233<|j_ f84 2769<|j_ f84 9937<|j_ f84 977<|j_ f84 11<|J0 (aM f84 1) (F84.eq_1)
def NJ:=J0 B84 ((bX f84 17))
def Zo:=j_ f88 2<|j_ f88 9<|j_ f88 37<|j_ f88 11<|j_ f88 39<|j_ f88 151<|j_ f88 47<|j_ f88 159<|j_ f88 1119<|j_ f88 18015<|j_ f88 42591<|j_ f88 157279<|j_ f88 7775<|j_ f88 191<|j_ f88 639<|j_ f88 1407<|j_ f88 767<|J0 (aM f88 1) (F88.eq_1)
def Zh:=J0 Zo ((bX f88 607))
def akT:=j_ f104 2<|j_ f104 5<|J0 (aM f104 1) (adB.eq_1)
def agn:=j_ f107 2<|j_ f107 9<|j_ f107 69<|j_ f107 1125<|j_ f107 4709<|j_ f107 19045<|j_ f107 9829<|j_ f107 38501<|j_ f107 11877<|j_ f107 40549<|j_ f107 485<|j_ f107 11<|J0 (aM f107 1) (ady.eq_1)
def KN:=J0 agn ((bX f107 37))
def adZ:=j_ f113 2<|j_ f113 9<|j_ f113 21<|j_ f113 77<|j_ f113 19<|j_ f113 75<|j_ f113 23<|J0 (aM f113 1) (ads.eq_1)
def adY:=j_ f114 2<|j_ f114 9<|j_ f114 69<|j_ f114 1125<|j_ f114 4709<|j_ f114 5733<|j_ f114 20069<|j_ f114 77413<|j_ f114 24165<|j_ f114 48741<|j_ f114 163429<|j_ f114 485<|j_ f114 11<|J0 @Ic<|j_ f114 151<|J0 @Ib<|j_ f114 559<|j_ f114 9007<|j_ f114 21295<|j_ f114 45871<|j_ f114 160559<|j_ f114 3887<|J0 @Ia<|J0 (aM f114 1) (adr.eq_1)
def rq:=J0 adY<|J0 (bX f114 37) ((bX f114 303))
def agk:=j_ f123 2<|j_ f123 5<|j_ f123 19<|j_ f123 139<|j_ f123 2251<|j_ f123 5323<|j_ f123 19659<|j_ f123 971<|j_ f123 23<|J0 (aM f123 1) (adl.eq_1)
def KM:=J0 agk ((bX f123 75))
def R2:=j_ f125 2<|j_ f125 5<|j_ f125 11<|j_ f125 39<|j_ f125 279<|j_ f125 1175<|j_ f125 343<|j_ f125 79<|j_ f125 303<|j_ f125 159<|j_ f125 607<|j_ f125 319<|j_ f125 1215<|j_ f125 383<|J0 (aM f125 1) (adj.eq_1)
def agh:=j_ f133 2<|j_ f133 17<|j_ f133 281<|j_ f133 409<|j_ f133 121<|J0 (aM f133 1) (adb.eq_1)
def aan:=J0 agh ((bX f133 9))
def akN:=j_ f136 1<|J0 (aM f136 1) (ac8.eq_1)
def akL:=j_ f138 2<|j_ f138 5<|j_ f138 11<|j_ f138 23<|J0 (aM f138 1) (ac6.eq_1)
def NM:=j_ f141 2<|j_ f141 9<|j_ f141 21<|j_ f141 77<|j_ f141 11<|j_ f141 39<|J0 @y5<|J0 @Fa<|J0 @E9<|J0 @E8<|J0 @HS<|J0 @zZ<|J0 @zY<|J0 @zX<|J0 @zW<|J0 @HR<|J0 @HO<|j_ f141 295303575<|j_ f141 4724488599<|j_ f141 11166939543<|j_ f141 24051841431<|j_ f141 32641776023<|j_ f141 2040134039<|J0 @HM<|J0 @HL<|j_ f141 79<|j_ f141 175<|j_ f141 95<|J0 (aM f141 1) (F141.eq_1)
def WX:=J0 NM<|J0 (ru3 f141 161085847)<|J0 (sT f141 653719) ((bX f141 151))
def W0:=j_ f144 2<|j_ f144 9<|j_ f144 21<|j_ f144 77<|j_ f144 19<|j_ f144 75<|j_ f144 39<|j_ f144 151<|j_ f144 47<|j_ f144 95<|J0 (aM f144 1) (ac2.eq_1)
def adW:=j_ f167 2<|j_ f167 5<|j_ f167 35<|j_ f167 51<|j_ f167 75<|j_ f167 555<|j_ f167 9003<|j_ f167 37675<|j_ f167 45867<|j_ f167 3883<|J0 (aM f167 1) (acX.eq_1)
def PM:=J0 adW ((bX f167 299))
def akH:=j_ f171 2<|j_ f171 5<|j_ f171 11<|j_ f171 23<|J0 (aM f171 1) (acT.eq_1)
def Hl:=j_ f174 2<|j_ f174 9<|j_ f174 21<|j_ f174 77<|j_ f174 19<|j_ f174 75<|j_ f174 39<|j_ f174 151<|j_ f174 47<|J0 (aM f174 1) (acQ.eq_1)
def akE:=j_ f178 2<|j_ f178 5<|j_ f178 11<|j_ f178 23<|J0 (aM f178 1) (acM.eq_1)
def adQ:=j_ f180 2<|j_ f180 33<|j_ f180 73<|j_ f180 57<|J0 (aM f180 1) (acK.eq_1)
def WU:=J0 adQ ((bX f180 9))
def af8:=j_ f192 2<|j_ f192 9<|j_ f192 37<|j_ f192 11<|J0 (aM f192 1) (acI.eq_1)
def af6:=j_ f196 2<|j_ f196 5<|j_ f196 131<|j_ f196 163<|j_ f196 23<|J0 (aM f196 1) (acF.eq_1)
def WR:=J0 af6 ((bX f196 35))
theorem c5:Wc 5 F5 (ay f5 1):=am rfl rfl
theorem c7:Wc 7 F7 (ay f7 1):=am rfl rfl
theorem c9:Wc 9 F9 (ay f9 1):=am rfl rfl
theorem c14:Wc 14 F14 (ay f14 1):=am rfl rfl
theorem c15:Wc 15 F15 (ay f15 1):=am rfl rfl
theorem c18:Wc 18 F18 (ay f18 1):=am rfl rfl
theorem c27:Wc 27 F27 (ay f27 1):=am rfl rfl
theorem c37:Wc 37 F37 (ay f37 1):=am rfl rfl
theorem c42:Wc 42 F42 (ay f42 1):=am rfl rfl
theorem c48:Wc 48 F48 (ay f48 1):=am rfl rfl
theorem c49:Wc 49 F49 (ay f49 1):=am rfl rfl
theorem c50:Wc 50 F50 (ay f50 1):=am rfl rfl
theorem c54:Wc 54 F54 (ay f54 1):=am rfl rfl
theorem c68:Wc 68 F68 (ay f68 1):=am rfl rfl
theorem c77:Wc 77 F77 (ay f77 1):=am rfl rfl
theorem c79:Wc 79 F79 (ay f79 1):=am rfl rfl
theorem c82:Wc 82 F82 (ay f82 1):=am rfl rfl
theorem c84:Wc 84 F84 (ay f84 1):=am rfl rfl
theorem c88:Wc 88 F88 (ay f88 1):=am rfl rfl
theorem ai4:Wc 104 adB (ay f104 1):=am rfl rfl
theorem ai1:Wc 107 ady (ay f107 1):=am rfl rfl
theorem aiV:Wc 113 ads (ay f113 1):=am rfl rfl
theorem aiU:Wc 114 adr (ay f114 1):=am rfl rfl
theorem aiN:Wc 123 adl (ay f123 1):=am rfl rfl
theorem afx:Wc 125 adj (ay f125 1):=am rfl rfl
theorem aiI:Wc 133 adb (ay f133 1):=am rfl rfl
theorem aiF:Wc 136 ac8 (ay f136 1):=am rfl rfl
theorem aiD:Wc 138 ac6 (ay f138 1):=am rfl rfl
theorem aiz:Wc 141 F141 (ay f141 1):=am rfl rfl
theorem aiw:Wc 144 ac2 (ay f144 1):=am rfl rfl
theorem air:Wc 167 acX (ay f167 1):=am rfl rfl
theorem aim:Wc 171 acT (ay f171 1):=am rfl rfl
theorem aij:Wc 174 acQ (ay f174 1):=am rfl rfl
theorem aih:Wc 178 acM (ay f178 1):=am rfl rfl
theorem afr:Wc 180 acK (ay f180 1):=am rfl rfl
theorem aid:Wc 192 acI (ay f192 1):=am rfl rfl
theorem ah9:Wc 196 acF (ay f196 1):=am rfl rfl
end
end
end Go.Iso.Gen
