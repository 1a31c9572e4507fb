/-
  the code that the claim reaches, for the evaluator.
-/
import Derived.Test.YtbgdblhggjonaaaGreatDoorGenH
set_option linter.unusedSimpArgs false
set_option linter.unusedVariables false
set_option maxRecDepth 100000
set_option maxHeartbeats 4000000
set_option linter.defProp false
namespace Go.Iso.Gen
open Go.Proofs Go.Proofs.Tryz
noncomputable section
section
variable {lo:Nat}{rd:Option Nat}{fr:Fr}{H:Heap}{Q:At}{args:List IV}
def PV:=ab f7 2
def PM:=ab f7 19
def WV:=ab f7 75
def PE:=ab f7 23
def PC:=ab f7 47
def PB:=ab f7 159
def KX:=ab f7 1119
def PA:=ab f7 18015
def Pz:=ab f7 75359
def PU:=ab f7 566879
def PT:=ab f7 9217631
def PS:=ab f7 21800543
def PR:=ab f7 46966367
def PQ:=ab f7 3974751
def PP:=ab f7 91743
def PO:=ab f7 190047
def PN:=ab f7 7775
def II:=ab f7 191
def IG:=ab f7 383
def IF:=ab f7 767
def CA:=ab f7 16895
def IE:=ab f7 37375
def ID:=ab f7 86527
def IB:=ab f7 184831
def Iz:=ab f7 381439
def Iy:=ab f7 774655
def Ix:=ab f7 1561087
def PL:=ab f7 17814015
def PK:=ab f7 139448831
def Iw:=ab f7 173003263
def PJ:=ab f7 374329855
def PI:=ab f7 1313853951
def PH:=ab f7 1850724863
def PG:=ab f7 30396927
def PF:=ab f7 3071
def Lf:=ab f157 2
def Le:=ab f157 9
def wH:=ab f157 69
def CN:=ab f157 357
def Ld:=ab f157 997
def CL:=ab f173 2
def CK:=ab f173 5
def CI:=ab f173 11
def CH:=ab f173 39
def Lb:=ab f173 87
def CF:=ab f185 4
def xu:=ab f185 9
def xt:=ab f185 11
def xr:=ab f185 23
def xq:=ab f185 47
def xp:=ab f185 159
def E7:=ab f185 607
def E6:=ab f185 863
def E5:=ab f185 735
def E4:=ab f185 991
def xo:=ab f185 191
def rU:=ab f185 767
def rS:=ab f185 2559
def E3:=ab f185 5631
def rR:=ab f185 5119
def E2:=ab f185 11263
def B6:=j_ f6 2<|j_ f6 5<|J0 (aX f6 1) (F6.eq_1)
def B7:=J0 @PV<|j_ f7 5<|J0 @PM<|J0 @WV<|J0 @PE<|J0 @PC<|J0 @PB<|J0 @KX<|J0 @PA<|J0 @Pz<|J0 @PU<|J0 @PT<|J0 @PS<|J0 @PR<|J0 @PQ<|J0 @PP<|J0 @PO<|J0 @PN<|J0 @II<|J0 @IG<|J0 @IF<|J0 @CA<|J0 @IE<|J0 @ID<|J0 @IB<|J0 @Iz<|J0 @Iy<|J0 @Ix<|J0 @PL<|J0 @PK<|J0 @Iw<|J0 @PJ<|J0 @PI<|J0 @PH<|J0 @PG<|J0 @PF<|J0 (aX f7 1) (F7.eq_1)
def O8:=J0 B7<|J0 (Di f7 304735)<|J0 (cJ f7 607)<|J0 (Di f7 5231103) ((cJ f7 4607))
def B9:=j_ f9 2<|j_ f9 5<|J0 (aX f9 1) (F9.eq_1)
def B10:=j_ f10 2<|j_ f10 9<|j_ f10 37<|j_ f10 19<|j_ f10 267<|j_ f10 1099<|j_ f10 4683<|j_ f10 459<|j_ f10 23<|J0 (aX f10 1) (F10.eq_1)
def acC:=J0 B10 ((cJ f10 75))
def mq151:=ab f15 5
def B15:=j_ f15 2<|J0 @mq151<|J0 (aX f15 1) (F15.eq_1)
def B18:=j_ f18 2<|j_ f18 5<|J0 (aX f18 1) (F18.eq_1)
def B19:=j_ f19 2<|j_ f19 9<|j_ f19 21<|j_ f19 77<|j_ f19 11<|j_ f19 23<|j_ f19 79<|j_ f19 559<|j_ f19 9007<|j_ f19 13103<|j_ f19 3887<|j_ f19 95<|J0 (aX f19 1) (F19.eq_1)
def aaD:=J0 B19 ((cJ f19 303))
def B29:=j_ f29 2<|j_ f29 9<|j_ f29 37<|j_ f29 11<|j_ f29 39<|j_ f29 151<|j_ f29 599<|j_ f29 2391<|j_ f29 17751<|j_ f29 288087<|j_ f29 1205591<|j_ f29 4875607<|j_ f29 6972759<|j_ f29 2516311<|j_ f29 3040599<|j_ f29 10380631<|j_ f29 22963543<|j_ f29 8283479<|j_ f29 124247<|j_ f29 2903<|j_ f29 5975<|j_ f29 47<|J0 (aX f29 1) (F29.eq_1)
def ET:=J0 B29 ((cJ f29 9559))
def B33:=j_ f33 2<|j_ f33 9<|j_ f33 37<|j_ f33 19<|j_ f33 139<|j_ f33 2251<|j_ f33 5323<|j_ f33 19659<|j_ f33 971<|j_ f33 23<|J0 (aX f33 1) (F33.eq_1)
def aaB:=J0 B33 ((cJ f33 75))
def B36:=j_ f36 2<|j_ f36 5<|j_ f36 19<|j_ f36 139<|j_ f36 2251<|j_ f36 3275<|j_ f36 971<|j_ f36 23<|J0 (aX f36 1) (F36.eq_1)
def aaA:=J0 B36 ((cJ f36 75))
def B39:=j_ f39 2<|j_ f39 5<|j_ f39 19<|j_ f39 43<|j_ f39 23<|J0 (aX f39 1) (F39.eq_1)
def B41:=j_ f41 2<|j_ f41 65<|j_ f41 145<|j_ f41 593<|j_ f41 1361<|j_ f41 1233<|j_ f41 2769<|j_ f41 9937<|j_ f41 977<|j_ f41 11<|J0 (aX f41 1) (F41.eq_1)
def KL:=J0 B41 ((cJ f41 17))
def WG:=j_ f45 2<|j_ f45 9<|j_ f45 37<|j_ f45 11<|j_ f45 39<|j_ f45 151<|j_ f45 47<|j_ f45 159<|j_ f45 1119<|j_ f45 18015<|j_ f45 42591<|j_ f45 157279<|j_ f45 7775<|j_ f45 191<|j_ f45 639<|j_ f45 1407<|j_ f45 767<|J0 (aX f45 1) (F45.eq_1)
def Wz:=J0 WG ((cJ f45 607))
def B58:=j_ f58 2<|j_ f58 5<|J0 (aX f58 1) (F58.eq_1)
def B62:=j_ f62 2<|j_ f62 9<|j_ f62 37<|j_ f62 11<|J0 (aX f62 1) (F62.eq_1)
def B68:=j_ f68 2<|j_ f68 9<|j_ f68 37<|j_ f68 19<|j_ f68 139<|j_ f68 2251<|j_ f68 5323<|j_ f68 19659<|j_ f68 971<|j_ f68 23<|J0 (aX f68 1) (F68.eq_1)
def aaz:=J0 B68 ((cJ f68 75))
def B72:=j_ f72 2<|j_ f72 5<|J0 (aX f72 1) (F72.eq_1)
def B74:=j_ f74 2<|j_ f74 5<|j_ f74 19<|j_ f74 75<|j_ f74 171<|j_ f74 23<|J0 (aX f74 1) (F74.eq_1)
def B79:=j_ f79 2<|j_ f79 9<|j_ f79 69<|j_ f79 1125<|j_ f79 4709<|j_ f79 19045<|j_ f79 9829<|j_ f79 38501<|j_ f79 11877<|j_ f79 40549<|j_ f79 485<|j_ f79 11<|J0 (aX f79 1) (F79.eq_1)
def T9:=J0 B79 ((cJ f79 37))
def B87:=j_ f87 2<|j_ f87 5<|j_ f87 19<|j_ f87 75<|j_ f87 39<|j_ f87 279<|j_ f87 1175<|j_ f87 343<|j_ f87 79<|j_ f87 303<|j_ f87 95<|J0 (aX f87 1) (F87.eq_1)
def B89:=j_ f89 2<|j_ f89 5<|j_ f89 19<|j_ f89 75<|j_ f89 39<|j_ f89 151<|j_ f89 47<|j_ f89 95<|j_ f89 191<|j_ f89 639<|j_ f89 2431<|j_ f89 767<|j_ f89 1535<|j_ f89 3071<|j_ f89 6143<|J0 (aX f89 1) (F89.eq_1)
def XF:=j_ f91 2<|j_ f91 9<|j_ f91 37<|j_ f91 19<|j_ f91 75<|j_ f91 23<|j_ f91 79<|j_ f91 175<|j_ f91 159<|j_ f91 607<|j_ f91 191<|J0 (aX f91 1) (F91.eq_1)
def B98:=j_ f98 2<|j_ f98 5<|j_ f98 11<|j_ f98 39<|j_ f98 279<|j_ f98 1175<|j_ f98 343<|j_ f98 79<|j_ f98 303<|j_ f98 159<|j_ f98 607<|j_ f98 319<|j_ f98 1215<|j_ f98 383<|J0 (aX f98 1) (F98.eq_1)
def Ip:=j_ f107 2<|j_ f107 5<|j_ f107 19<|j_ f107 75<|j_ f107 23<|j_ f107 527<|j_ f107 655<|j_ f107 159<|j_ f107 607<|j_ f107 2111<|j_ f107 8767<|j_ f107 37439<|j_ f107 3647<|j_ f107 383<|J0 (aX f107 1) (aas.eq_1)
def ue:=J0 Ip<|J0 (cJ f107 143) ((cJ f107 575))
def Pc:=j_ f112 2<|j_ f112 5<|j_ f112 19<|j_ f112 75<|j_ f112 39<|j_ f112 151<|j_ f112 599<|j_ f112 2391<|j_ f112 9559<|j_ f112 2903<|j_ f112 727<|j_ f112 2519<|j_ f112 47<|J0 (aX f112 1) (aao.eq_1)
def ahi:=j_ f120 2<|j_ f120 5<|J0 (aX f120 1) (aag.eq_1)
def ahh:=j_ f124 1<|J0 (aX f124 1) (aac.eq_1)
def ahg:=j_ f125 2<|j_ f125 5<|J0 (aX f125 1) (aab.eq_1)
def ahf:=j_ f126 2<|j_ f126 5<|j_ f126 11<|j_ f126 23<|J0 (aX f126 1) (aaa.eq_1)
def EV:=j_ f130 2<|j_ f130 5<|j_ f130 19<|j_ f130 43<|j_ f130 23<|j_ f130 79<|j_ f130 303<|j_ f130 159<|j_ f130 351<|j_ f130 479<|j_ f130 191<|J0 (aX f130 1) (Z8.eq_1)
def Uk:=j_ f132 2<|j_ f132 9<|j_ f132 21<|j_ f132 77<|j_ f132 19<|j_ f132 75<|j_ f132 39<|j_ f132 151<|j_ f132 47<|j_ f132 95<|J0 (aX f132 1) (Z6.eq_1)
def ahd:=j_ f134 2<|j_ f134 5<|j_ f134 11<|j_ f134 23<|J0 (aX f134 1) (Z4.eq_1)
def aha:=j_ f147 2<|j_ f147 5<|J0 (aX f147 1) (Z1.eq_1)
def WJ:=J0 @Lf<|J0 @Le<|J0 @wH<|J0 @CN<|J0 @Ld<|j_ f157 149<|j_ f157 597<|j_ f157 2389<|j_ f157 725<|j_ f157 11<|J0 (aX f157 1) (Ww.eq_1)
def aaM:=j_ f161 2<|j_ f161 5<|j_ f161 11<|j_ f161 23<|j_ f161 47<|j_ f161 1055<|j_ f161 4383<|j_ f161 39199<|j_ f161 284959<|j_ f161 4610335<|j_ f161 19290399<|j_ f161 23484703<|j_ f161 551967007<|j_ f161 2296797471<|j_ f161 5518022943<|j_ f161 1759926559<|j_ f161 98982175<|j_ f161 199645471<|j_ f161 400972063<|j_ f161 1988895<|j_ f161 47391<|j_ f161 191<|J0 (aX f161 1) (ZX.eq_1)
def pJ:=J0 aaM<|J0 (ru3 f161 149313823)<|J0 (Di f161 153887) ((cJ f161 287))
def aaH:=j_ f171 2<|j_ f171 33<|j_ f171 73<|j_ f171 57<|J0 (aX f171 1) (ZN.eq_1)
def Ue:=J0 aaH ((cJ f171 9))
def WI:=J0 @CL<|J0 @CK<|J0 @CI<|J0 @CH<|J0 @Lb<|j_ f173 47<|j_ f173 159<|j_ f173 1119<|j_ f173 18015<|j_ f173 26207<|j_ f173 7775<|j_ f173 191<|J0 (aX f173 1) (F173.eq_1)
def Ud:=J0 WI ((cJ f173 607))
def Im:=J0 @CF<|j_ f185 18<|j_ f185 42<|j_ f185 1050<|j_ f185 2330<|j_ f185 5402<|j_ f185 11546<|j_ f185 15642<|j_ f185 314<|j_ f185 4282<|j_ f185 9402<|j_ f185 7354<|J0 @xu<|j_ f185 37<|j_ f185 85<|j_ f185 2101<|j_ f185 4661<|j_ f185 10805<|j_ f185 23093<|j_ f185 31285<|j_ f185 629<|j_ f185 8565<|j_ f185 18805<|j_ f185 14709<|J0 @xt<|J0 @xr<|J0 @xq<|J0 @xp<|J0 @E7<|J0 @E6<|J0 @E5<|J0 @E4<|J0 @xo<|j_ f185 4223<|j_ f185 9343<|j_ f185 21631<|j_ f185 46207<|j_ f185 62591<|J0 @rU<|J0 @rS<|J0 @E3<|J0 @rR<|J0 @E2<|j_ f185 6143<|j_ f185 12287<|J0 (aX f185 1) (T0.eq_1)
def jy:=J0 Im<|J0 (cJ f185 282)<|J0 (cJ f185 1210)<|J0 (cJ f185 565)<|J0 (cJ f185 2421) ((cJ f185 1151))
theorem c6:Wc 6 F6 (az f6 1):=am rfl rfl
theorem c7:Wc 7 F7 (az f7 1):=am rfl rfl
theorem c9:Wc 9 F9 (az f9 1):=am rfl rfl
theorem c10:Wc 10 F10 (az f10 1):=am rfl rfl
theorem c15:Wc 15 F15 (az f15 1):=am rfl rfl
theorem c18:Wc 18 F18 (az f18 1):=am rfl rfl
theorem c19:Wc 19 F19 (az f19 1):=am rfl rfl
theorem c29:Wc 29 F29 (az f29 1):=am rfl rfl
theorem c33:Wc 33 F33 (az f33 1):=am rfl rfl
theorem c36:Wc 36 F36 (az f36 1):=am rfl rfl
theorem c39:Wc 39 F39 (az f39 1):=am rfl rfl
theorem c41:Wc 41 F41 (az f41 1):=am rfl rfl
theorem c45:Wc 45 F45 (az f45 1):=am rfl rfl
theorem c58:Wc 58 F58 (az f58 1):=am rfl rfl
theorem c62:Wc 62 F62 (az f62 1):=am rfl rfl
theorem c68:Wc 68 F68 (az f68 1):=am rfl rfl
theorem c72:Wc 72 F72 (az f72 1):=am rfl rfl
theorem c74:Wc 74 F74 (az f74 1):=am rfl rfl
theorem c79:Wc 79 F79 (az f79 1):=am rfl rfl
theorem c87:Wc 87 F87 (az f87 1):=am rfl rfl
theorem c89:Wc 89 F89 (az f89 1):=am rfl rfl
theorem c91:Wc 91 F91 (az f91 1):=am rfl rfl
theorem c98:Wc 98 F98 (az f98 1):=am rfl rfl
theorem afo:Wc 107 aas (az f107 1):=am rfl rfl
theorem afj:Wc 112 aao (az f112 1):=am rfl rfl
theorem afe:Wc 120 aag (az f120 1):=am rfl rfl
theorem afa:Wc 124 aac (az f124 1):=am rfl rfl
theorem ae9:Wc 125 aab (az f125 1):=am rfl rfl
theorem ae8:Wc 126 aaa (az f126 1):=am rfl rfl
theorem ae4:Wc 130 Z8 (az f130 1):=am rfl rfl
theorem ae2:Wc 132 Z6 (az f132 1):=am rfl rfl
theorem ae0:Wc 134 Z4 (az f134 1):=am rfl rfl
theorem aeX:Wc 147 Z1 (az f147 1):=am rfl rfl
theorem aeW:Wc 157 Ww (az f157 1):=am rfl rfl
theorem aeS:Wc 161 ZX (az f161 1):=am rfl rfl
theorem acf:Wc 171 ZN (az f171 1):=am rfl rfl
theorem aeK:Wc 173 F173 (az f173 1):=am rfl rfl
theorem aeG:Wc 185 T0 (az f185 1):=am rfl rfl
end
end
end Go.Iso.Gen
