/-
  the code that the claim reaches, for the evaluator.
-/
import Derived.Test.YtbgdblhggjonaaaGreatDoorGenH
set_option linter.unusedSimpArgs false
set_option linter.unusedVariables false
set_option maxRecDepth 100000
set_option maxHeartbeats 4000000
set_option linter.defProp false
namespace Go.Iso.Gen
open Go.Proofs Go.Proofs.Tryz
noncomputable section
section
variable {lo:Nat}{rd:Option Nat}{fr:Fr}{H:Heap}{Q:At}{args:List IV}
def Qo:=ab f11 2
def Ql:=ab f21 2
def Qk:=ab f21 9
def Qj:=ab f22 2
def Qi:=ab f22 9
def Qh:=ab f22 11
def Qe:=ab f25 2
def Qd:=ab f25 5
def Qc:=ab f25 11
def P9:=ab f55 2
def IN:=ab f55 9
def IM:=ab f55 37
def P8:=ab f55 149
def P7:=ab f55 597
def P6:=ab f55 1365
def P5:=ab f55 181
def K1:=ab f55 757
def K0:=ab f55 2549
def IL:=ab f65 2
def IK:=ab f65 9
def PY:=ab f65 37
def IJ:=ab f65 85
def PW:=ab f65 181
def Lq:=ab f101 2
def Lo:=ab f101 5
def C4:=ab f101 19
def C3:=ab f101 75
def C2:=ab f101 363
def xI:=ab f101 23
def xH:=ab f101 79
def Fj:=ab f101 175
def Fi:=ab f101 95
def CY:=ab f127 21
def CW:=ab f127 19
def CV:=ab f127 23
def CU:=ab f127 79
def Lg:=ab f127 175
def CT:=ab f127 95
def xE:=ab f127 319
def xD:=ab f127 2239
def Ff:=ab f127 36031
def Fe:=ab f127 85183
def jL:=ab f127 314559
def nr:=ab f127 380095
def rV:=ab f127 15551
def B3:=j_ f3 2<|j_ f3 9<|j_ f3 37<|j_ f3 11<|j_ f3 23<|j_ f3 47<|j_ f3 95<|J0 (aX f3 1) (F3.eq_1)
def B11:=J0 @Qo<|j_ f11 5<|J0 (aX f11 1) (F11.eq_1)
def B13:=j_ f13 2<|j_ f13 9<|j_ f13 37<|j_ f13 19<|j_ f13 43<|j_ f13 155<|j_ f13 39<|j_ f13 151<|j_ f13 79<|j_ f13 559<|j_ f13 9007<|j_ f13 21295<|j_ f13 45871<|j_ f13 160559<|j_ f13 3887<|j_ f13 159<|j_ f13 351<|j_ f13 1247<|j_ f13 319<|j_ f13 1215<|j_ f13 639<|j_ f13 4479<|j_ f13 72063<|j_ f13 170367<|j_ f13 629119<|j_ f13 31103<|j_ f13 767<|J0 (aX f13 1) (F13.eq_1)
def KN:=J0 B13<|J0 (cJ f13 303) ((cJ f13 2431))
def B21:=J0 @Ql<|J0 @Qk<|j_ f21 69<|j_ f21 1125<|j_ f21 2661<|j_ f21 9829<|j_ f21 485<|j_ f21 11<|J0 (aX f21 1) (F21.eq_1)
def WD:=J0 B21 ((cJ f21 37))
def B22:=J0 @Qj<|J0 @Qi<|j_ f22 37<|J0 @Qh<|j_ f22 23<|j_ f22 47<|J0 (aX f22 1) (F22.eq_1)
def B25:=J0 @Qe<|J0 @Qd<|J0 @Qc<|j_ f25 263<|j_ f25 583<|j_ f25 1351<|j_ f25 2887<|j_ f25 3911<|j_ f25 47<|J0 (aX f25 1) (F25.eq_1)
def aaC:=J0 B25 ((cJ f25 71))
def B32:=j_ f32 2<|j_ f32 9<|j_ f32 21<|j_ f32 77<|j_ f32 19<|j_ f32 43<|j_ f32 155<|j_ f32 23<|J0 (aX f32 1) (F32.eq_1)
def B34:=j_ f34 2<|j_ f34 5<|j_ f34 11<|j_ f34 39<|j_ f34 279<|j_ f34 4503<|j_ f34 6551<|j_ f34 1943<|j_ f34 47<|J0 (aX f34 1) (F34.eq_1)
def acA:=J0 B34 ((cJ f34 151))
def B37:=j_ f37 2<|j_ f37 5<|j_ f37 19<|j_ f37 139<|j_ f37 2251<|j_ f37 5323<|j_ f37 11467<|j_ f37 72907<|j_ f37 1154251<|j_ f37 2727115<|j_ f37 3775691<|j_ f37 498891<|j_ f37 971<|j_ f37 23<|J0 (aX f37 1) (F37.eq_1)
def Ik:=J0 B37<|J0 (Di f37 40139) ((cJ f37 75))
def B44:=j_ f44 2<|j_ f44 5<|j_ f44 19<|j_ f44 75<|j_ f44 23<|J0 (aX f44 1) (F44.eq_1)
def B46:=j_ f46 2<|j_ f46 5<|j_ f46 19<|j_ f46 75<|j_ f46 23<|j_ f46 79<|j_ f46 303<|j_ f46 95<|j_ f46 191<|j_ f46 383<|J0 (aX f46 1) (F46.eq_1)
def B54:=j_ f54 2<|j_ f54 5<|J0 (aX f54 1) (F54.eq_1)
def B55:=J0 @P9<|J0 @IN<|J0 @IM<|J0 @P8<|J0 @P7<|J0 @P6<|j_ f55 725<|J0 @P5<|j_ f55 629<|j_ f55 1397<|J0 @K1<|J0 @K0<|j_ f55 5621<|j_ f55 11<|J0 (aX f55 1) (F55.eq_1)
def B59:=j_ f59 2<|j_ f59 5<|J0 (aX f59 1) (F59.eq_1)
def B64:=j_ f64 2<|j_ f64 5<|J0 (aX f64 1) (F64.eq_1)
def B65:=J0 @IL<|J0 @IK<|J0 @PY<|J0 @IJ<|J0 @PW<|j_ f65 11<|J0 (aX f65 1) (F65.eq_1)
def B67:=j_ f67 2<|j_ f67 5<|J0 (aX f67 1) (F67.eq_1)
def B69:=j_ f69 2<|j_ f69 5<|J0 (aX f69 1) (F69.eq_1)
def B70:=j_ f70 2<|j_ f70 9<|j_ f70 32773<|j_ f70 73733<|j_ f70 155653<|j_ f70 319493<|j_ f70 385029<|j_ f70 2309<|j_ f70 581<|j_ f70 149<|j_ f70 11<|J0 (aX f70 1) (F70.eq_1)
def B76:=j_ f76 2<|j_ f76 5<|J0 (aX f76 1) (F76.eq_1)
def B78:=j_ f78 2<|j_ f78 5<|j_ f78 11<|J0 (aX f78 1) (F78.eq_1)
def mq8041:=ab f80 87241471
def B80:=j_ f80 2<|j_ f80 9<|j_ f80 69<|j_ f80 1125<|j_ f80 2661<|j_ f80 18021<|j_ f80 288357<|j_ f80 681573<|j_ f80 2516581<|j_ f80 124517<|j_ f80 485<|j_ f80 19<|j_ f80 139<|j_ f80 2251<|j_ f80 5323<|j_ f80 19659<|j_ f80 971<|j_ f80 23<|j_ f80 47<|j_ f80 95<|j_ f80 191<|j_ f80 639<|j_ f80 4479<|j_ f80 72063<|j_ f80 170367<|j_ f80 1153407<|j_ f80 18454911<|j_ f80 26843519<|j_ f80 7969151<|j_ f80 31103<|j_ f80 1279<|j_ f80 8959<|j_ f80 144127<|j_ f80 340735<|j_ f80 2306815<|j_ f80 36909823<|J0 @mq8041<|j_ f80 322122495<|j_ f80 15938303<|j_ f80 62207<|j_ f80 1535<|J0 (aX f80 1) (F80.eq_1)
def jf:=J0 B80<|J0 (Di f80 9829)<|J0 (cJ f80 37)<|J0 (cJ f80 75)<|J0 (Di f80 629119)<|J0 (cJ f80 2431)<|J0 (Di f80 1258239) ((cJ f80 4863))
def B97:=j_ f97 2<|j_ f97 5<|j_ f97 19<|j_ f97 139<|j_ f97 2251<|j_ f97 5323<|j_ f97 19659<|j_ f97 971<|j_ f97 23<|J0 (aX f97 1) (F97.eq_1)
def T8:=J0 B97 ((cJ f97 75))
def B99:=j_ f99 2<|j_ f99 5<|j_ f99 11<|j_ f99 39<|j_ f99 279<|j_ f99 1175<|j_ f99 343<|j_ f99 79<|j_ f99 303<|j_ f99 159<|j_ f99 607<|j_ f99 319<|j_ f99 1215<|j_ f99 383<|J0 (aX f99 1) (F99.eq_1)
def Uo:=J0 @Lq<|J0 @Lo<|J0 @C4<|J0 @C3<|j_ f101 299<|j_ f101 1195<|j_ f101 2731<|j_ f101 1451<|J0 @C2<|j_ f101 1259<|J0 @xI<|J0 @xH<|J0 @Fj<|J0 @Fi<|j_ f101 191<|j_ f101 639<|j_ f101 1407<|j_ f101 767<|J0 (aX f101 1) (F101.eq_1)
def ahl:=j_ f110 2<|j_ f110 5<|j_ f110 19<|j_ f110 75<|j_ f110 23<|j_ f110 47<|j_ f110 95<|j_ f110 191<|J0 (aX f110 1) (aaq.eq_1)
def Pb:=j_ f113 2<|j_ f113 9<|j_ f113 37<|j_ f113 19<|j_ f113 75<|j_ f113 23<|J0 (aX f113 1) (aan.eq_1)
def acX:=j_ f117 2<|j_ f117 5<|J0 (aX f117 1) (aaj.eq_1)
def acW:=j_ f121 2<|j_ f121 17<|j_ f121 281<|j_ f121 409<|j_ f121 121<|J0 (aX f121 1) (aaf.eq_1)
def XE:=J0 acW ((cJ f121 9))
def KP:=j_ f127 2<|j_ f127 9<|J0 @CY<|j_ f127 77<|J0 @CW<|j_ f127 75<|J0 @CV<|J0 @CU<|J0 @Lg<|J0 @CT<|J0 @xE<|J0 @xD<|J0 @Ff<|J0 @Fe<|J0 @jL<|J0 @nr<|j_ f127 2346175<|j_ f127 36949183<|j_ f127 53726399<|j_ f127 15977663<|J0 @rV<|j_ f127 639<|j_ f127 1407<|j_ f127 767<|J0 (aX f127 1) (F127.eq_1)
def XD:=J0 KP<|J0 (Di f127 1297599) ((cJ f127 1215))
def O9:=j_ f131 2<|j_ f131 5<|j_ f131 19<|j_ f131 43<|j_ f131 23<|j_ f131 79<|j_ f131 559<|j_ f131 9007<|j_ f131 21295<|j_ f131 45871<|j_ f131 3887<|j_ f131 159<|j_ f131 351<|j_ f131 191<|J0 (aX f131 1) (Z7.eq_1)
def MN:=J0 O9 ((cJ f131 303))
def acT:=j_ f135 2<|j_ f135 9<|j_ f135 37<|j_ f135 11<|J0 (aX f135 1) (Z3.eq_1)
def aaN:=j_ f158 2<|j_ f158 5<|j_ f158 35<|j_ f158 51<|j_ f158 75<|j_ f158 555<|j_ f158 9003<|j_ f158 37675<|j_ f158 45867<|j_ f158 3883<|J0 (aX f158 1) (Z0.eq_1)
def MM:=J0 aaN ((cJ f158 299))
def ag9:=j_ f162 2<|j_ f162 5<|j_ f162 11<|j_ f162 23<|J0 (aX f162 1) (ZW.eq_1)
def EU:=j_ f165 2<|j_ f165 9<|j_ f165 21<|j_ f165 77<|j_ f165 19<|j_ f165 75<|j_ f165 39<|j_ f165 151<|j_ f165 47<|J0 (aX f165 1) (ZT.eq_1)
def aaJ:=j_ f168 2<|j_ f168 9<|j_ f168 69<|j_ f168 1125<|j_ f168 2661<|j_ f168 5733<|j_ f168 11877<|j_ f168 15973<|j_ f168 485<|j_ f168 11<|J0 (aX f168 1) (ZQ.eq_1)
def qH:=J0 aaJ ((cJ f168 37))
def acP:=j_ f183 2<|j_ f183 9<|j_ f183 37<|j_ f183 11<|J0 (aX f183 1) (ZK.eq_1)
def acN:=j_ f187 2<|j_ f187 5<|j_ f187 131<|j_ f187 163<|j_ f187 23<|J0 (aX f187 1) (ZH.eq_1)
def Ub:=J0 acN ((cJ f187 35))
def acM:=j_ f192 2<|j_ f192 5<|j_ f192 131<|j_ f192 291<|j_ f192 1187<|j_ f192 1699<|j_ f192 1443<|j_ f192 1955<|j_ f192 15<|J0 (aX f192 1) (ZE.eq_1)
def Il:=J0 acM ((cJ f192 35))
theorem c3:Wc 3 F3 (az f3 1):=am rfl rfl
theorem c11:Wc 11 F11 (az f11 1):=am rfl rfl
theorem c13:Wc 13 F13 (az f13 1):=am rfl rfl
theorem c21:Wc 21 F21 (az f21 1):=am rfl rfl
theorem c22:Wc 22 F22 (az f22 1):=am rfl rfl
theorem c25:Wc 25 F25 (az f25 1):=am rfl rfl
theorem c32:Wc 32 F32 (az f32 1):=am rfl rfl
theorem c34:Wc 34 F34 (az f34 1):=am rfl rfl
theorem c37:Wc 37 F37 (az f37 1):=am rfl rfl
theorem c44:Wc 44 F44 (az f44 1):=am rfl rfl
theorem c46:Wc 46 F46 (az f46 1):=am rfl rfl
theorem c54:Wc 54 F54 (az f54 1):=am rfl rfl
theorem c55:Wc 55 F55 (az f55 1):=am rfl rfl
theorem c59:Wc 59 F59 (az f59 1):=am rfl rfl
theorem c64:Wc 64 F64 (az f64 1):=am rfl rfl
theorem c65:Wc 65 F65 (az f65 1):=am rfl rfl
theorem c67:Wc 67 F67 (az f67 1):=am rfl rfl
theorem c69:Wc 69 F69 (az f69 1):=am rfl rfl
theorem c70:Wc 70 F70 (az f70 1):=am rfl rfl
theorem c76:Wc 76 F76 (az f76 1):=am rfl rfl
theorem c78:Wc 78 F78 (az f78 1):=am rfl rfl
theorem c80:Wc 80 F80 (az f80 1):=am rfl rfl
theorem c97:Wc 97 F97 (az f97 1):=am rfl rfl
theorem c99:Wc 99 F99 (az f99 1):=am rfl rfl
theorem afs:Wc 101 F101 (az f101 1):=am rfl rfl
theorem afl:Wc 110 aaq (az f110 1):=am rfl rfl
theorem afi:Wc 113 aan (az f113 1):=am rfl rfl
theorem acj:Wc 117 aaj (az f117 1):=am rfl rfl
theorem afd:Wc 121 aaf (az f121 1):=am rfl rfl
theorem ae7:Wc 127 F127 (az f127 1):=am rfl rfl
theorem ae3:Wc 131 Z7 (az f131 1):=am rfl rfl
theorem aeZ:Wc 135 Z3 (az f135 1):=am rfl rfl
theorem aeV:Wc 158 Z0 (az f158 1):=am rfl rfl
theorem aeR:Wc 162 ZW (az f162 1):=am rfl rfl
theorem aeO:Wc 165 ZT (az f165 1):=am rfl rfl
theorem ach:Wc 168 ZQ (az f168 1):=am rfl rfl
theorem aeI:Wc 183 ZK (az f183 1):=am rfl rfl
theorem aeE:Wc 187 ZH (az f187 1):=am rfl rfl
theorem aeB:Wc 192 ZE (az f192 1):=am rfl rfl
end
end
end Go.Iso.Gen
