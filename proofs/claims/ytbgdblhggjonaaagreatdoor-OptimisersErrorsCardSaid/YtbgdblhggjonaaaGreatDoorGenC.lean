/-
  the code that the claim reaches, for the evaluator.
-/
import Derived.Test.YtbgdblhggjonaaaGreatDoorGenH
set_option linter.unusedSimpArgs false
set_option linter.unusedVariables false
set_option maxRecDepth 100000
set_option maxHeartbeats 4000000
set_option linter.defProp false
namespace Go.Iso.Gen
open Go.Proofs Go.Proofs.Tryz
noncomputable section
section
variable {lo:Nat}{rd:Option Nat}{fr:Fr}{H:Heap}{Q:At}{args:List IV}
def WU:=ab f8 2
def WT:=ab f8 9
def Px:=ab f8 37
def WS:=ab f8 149
def WR:=ab f8 1053
def WQ:=ab f8 4637
def WP:=ab f8 5661
def WO:=ab f8 69149
def WN:=ab f8 232989
def WM:=ab f8 15901
def Py:=ab f8 189
def P4:=ab f57 151
def P3:=ab f57 47
def P2:=ab f63 1119
def P1:=ab f63 18015
def P0:=ab f63 42591
def PZ:=ab f63 91743
def rQ:=ab f63 190047
def rO:=ab f63 648799
def rN:=ab f63 3008095
def rL:=ab f63 12445279
def rK:=ab f63 83748447
def wG:=ab f63 385738335
def CC:=ab f63 1056826975
def wE:=ab f63 167634527
def KZ:=ab f63 201188959
def KY:=ab f63 1207821919
def pM:=ab f111 139
def wL:=ab f111 2251
def wK:=ab f111 5323
def wJ:=ab f111 36043
def C1:=ab f111 150731
def C0:=ab f111 216267
def Lk:=ab f111 183499
def xG:=ab f111 380107
def jM:=ab f111 971
def xF:=ab f111 23
def Fh:=ab f111 47
def CM:=ab f164 271
def Lc:=ab f164 591
def xy:=ab f164 4943
def xx:=ab f164 11087
def E8:=ab f164 23375
def xv:=ab f164 3919
def CG:=ab f184 33
def La:=ab f184 137
def K9:=ab f184 57
def B5:=j_ f5 2<|j_ f5 9<|j_ f5 37<|j_ f5 19<|j_ f5 43<|j_ f5 155<|j_ f5 23<|j_ f5 79<|j_ f5 559<|j_ f5 9007<|j_ f5 21295<|j_ f5 45871<|j_ f5 160559<|j_ f5 3887<|j_ f5 95<|J0 (aX f5 1) (F5.eq_1)
def BL5:=J0 B5 ((cJ f5 303))
def B8:=J0 @WU<|J0 @WT<|J0 @Px<|J0 @WS<|J0 @WR<|J0 @WQ<|J0 @WP<|J0 @WO<|J0 @WN<|J0 @WM<|J0 @Py<|J0 (aX f8 1) (F8.eq_1)
def Pl:=J0 B8 ((cJ f8 285))
def Ur:=j_ f16 2<|j_ f16 9<|j_ f16 21<|j_ f16 77<|j_ f16 11<|J0 (aX f16 1) (F16.eq_1)
def B23:=j_ f23 2<|j_ f23 5<|j_ f23 19<|j_ f23 75<|j_ f23 23<|j_ f23 47<|j_ f23 95<|j_ f23 191<|J0 (aX f23 1) (F23.eq_1)
def B28:=j_ f28 2<|j_ f28 9<|j_ f28 37<|j_ f28 11<|j_ f28 39<|j_ f28 151<|j_ f28 599<|j_ f28 4439<|j_ f28 72023<|j_ f28 170327<|j_ f28 629079<|j_ f28 31063<|j_ f28 47<|J0 (aX f28 1) (F28.eq_1)
def WB:=J0 B28 ((cJ f28 2391))
def Uj:=j_ f30 2<|j_ f30 9<|j_ f30 37<|j_ f30 277<|j_ f30 1173<|j_ f30 341<|j_ f30 2261<|j_ f30 36053<|j_ f30 85205<|j_ f30 314581<|j_ f30 15573<|j_ f30 19<|j_ f30 75<|j_ f30 299<|j_ f30 2219<|j_ f30 36011<|j_ f30 85163<|j_ f30 576683<|j_ f30 9227435<|j_ f30 21810347<|j_ f30 80530603<|j_ f30 3984555<|j_ f30 15531<|j_ f30 23<|j_ f30 79<|j_ f30 303<|j_ f30 1199<|j_ f30 8879<|j_ f30 144047<|j_ f30 340655<|j_ f30 2306735<|j_ f30 36909743<|j_ f30 154350255<|j_ f30 624112303<|j_ f30 120795823<|j_ f30 15938223<|j_ f30 62127<|j_ f30 95<|J0 (aX f30 1) (F30.eq_1)
def qp:=J0 Uj<|J0 (cJ f30 1237)<|J0 (Di f30 314539)<|J0 (cJ f30 1195)<|J0 (Di f30 1258159) ((cJ f30 4783))
def B43:=j_ f43 2<|j_ f43 5<|j_ f43 19<|j_ f43 75<|j_ f43 39<|j_ f43 87<|j_ f43 311<|j_ f43 47<|j_ f43 159<|j_ f43 607<|j_ f43 191<|J0 (aX f43 1) (F43.eq_1)
def B49:=j_ f49 2<|j_ f49 9<|j_ f49 21<|j_ f49 77<|j_ f49 11<|J0 (aX f49 1) (F49.eq_1)
def B53:=j_ f53 2<|j_ f53 5<|j_ f53 11<|j_ f53 23<|J0 (aX f53 1) (F53.eq_1)
def B57:=j_ f57 2<|j_ f57 9<|j_ f57 37<|j_ f57 11<|j_ f57 39<|J0 @P4<|j_ f57 343<|J0 @P3<|j_ f57 95<|j_ f57 191<|J0 (aX f57 1) (F57.eq_1)
def mq6326:=ab f63 1576920671
def mq6330:=ab f63 10334627423
def mq6331:=ab f63 14629594719
def mq6332:=ab f63 939386463
def mq6334:=ab f63 1610475103
def B63:=j_ f63 2<|j_ f63 5<|j_ f63 11<|j_ f63 23<|j_ f63 47<|j_ f63 159<|J0 @P2<|J0 @P1<|J0 @P0<|J0 @PZ<|J0 @rQ<|J0 @rO<|j_ f63 2483807<|j_ f63 5629535<|j_ f63 11920991<|J0 @rN<|j_ f63 6153823<|J0 @rL<|j_ f63 25028191<|J0 @rK<|J0 @wG<|J0 @CC<|J0 @wE<|j_ f63 637396575<|j_ f63 1442702943<|j_ f63 771614303<|J0 @mq6326<|J0 @KZ<|J0 @KY<|j_ f63 2818434655<|J0 @mq6330<|J0 @mq6331<|J0 @mq6332<|j_ f63 805168735<|J0 @mq6334<|j_ f63 7775<|j_ f63 191<|J0 (aX f63 1) (F63.eq_1)
def AG:=J0 B63 ((cJ f63 607))
def B82:=j_ f82 2<|j_ f82 5<|j_ f82 11<|j_ f82 23<|J0 (aX f82 1) (F82.eq_1)
def B83:=j_ f83 2<|j_ f83 5<|j_ f83 11<|j_ f83 23<|J0 (aX f83 1) (F83.eq_1)
def B84:=j_ f84 2<|j_ f84 9<|j_ f84 21<|j_ f84 77<|j_ f84 19<|j_ f84 75<|j_ f84 39<|j_ f84 151<|j_ f84 47<|j_ f84 159<|j_ f84 351<|j_ f84 191<|J0 (aX f84 1) (F84.eq_1)
def B88:=j_ f88 2<|j_ f88 5<|j_ f88 19<|j_ f88 75<|j_ f88 23<|j_ f88 47<|j_ f88 159<|j_ f88 351<|j_ f88 191<|J0 (aX f88 1) (F88.eq_1)
def B90:=j_ f90 2<|j_ f90 9<|j_ f90 37<|j_ f90 11<|j_ f90 39<|j_ f90 87<|j_ f90 79<|j_ f90 303<|j_ f90 95<|J0 (aX f90 1) (F90.eq_1)
def kp:=j_ f94 2<|j_ f94 5<|j_ f94 19<|j_ f94 75<|j_ f94 39<|j_ f94 151<|j_ f94 79<|j_ f94 303<|j_ f94 159<|j_ f94 607<|j_ f94 191<|J0 (aX f94 1) (F94.eq_1)
def WL:=j_ f102 2<|j_ f102 5<|J0 (aX f102 1) (aaw.eq_1)
def aaO:=j_ f104 2<|j_ f104 9<|j_ f104 37<|j_ f104 11<|J0 (aX f104 1) (aav.eq_1)
def WK:=j_ f105 2<|j_ f105 9<|j_ f105 37<|j_ f105 11<|J0 (aX f105 1) (aau.eq_1)
def Iq:=j_ f106 2<|j_ f106 9<|j_ f106 37<|j_ f106 19<|j_ f106 43<|j_ f106 155<|j_ f106 23<|J0 (aX f106 1) (aat.eq_1)
def ahm:=j_ f109 2<|j_ f109 5<|j_ f109 19<|j_ f109 75<|j_ f109 23<|j_ f109 47<|j_ f109 95<|j_ f109 191<|J0 (aX f109 1) (aar.eq_1)
def Pd:=j_ f111 2<|j_ f111 5<|j_ f111 19<|J0 @pM<|J0 @wL<|J0 @wK<|J0 @wJ<|J0 @C1<|J0 @C0<|J0 @Lk<|J0 @xG<|j_ f111 40139<|j_ f111 285899<|j_ f111 220363<|j_ f111 48331<|j_ f111 97483<|J0 @jM<|J0 @xF<|J0 @Fh<|J0 (aX f111 1) (aap.eq_1)
def ahk:=j_ f114 2<|j_ f114 5<|J0 (aX f114 1) (aam.eq_1)
def acY:=j_ f116 2<|j_ f116 5<|J0 (aX f116 1) (aak.eq_1)
def ahj:=j_ f119 2<|j_ f119 5<|J0 (aX f119 1) (aah.eq_1)
def Ul:=j_ f122 2<|j_ f122 9<|j_ f122 21<|j_ f122 77<|j_ f122 19<|j_ f122 75<|j_ f122 23<|J0 (aX f122 1) (aae.eq_1)
def In:=j_ f128 2<|j_ f128 9<|j_ f128 21<|j_ f128 77<|j_ f128 19<|j_ f128 75<|j_ f128 39<|j_ f128 279<|j_ f128 4503<|j_ f128 10647<|j_ f128 39319<|j_ f128 1943<|j_ f128 79<|j_ f128 303<|j_ f128 95<|j_ f128 191<|j_ f128 639<|j_ f128 2431<|j_ f128 767<|j_ f128 1535<|j_ f128 3071<|J0 (aX f128 1) (Z9.eq_1)
def MO:=J0 In ((cJ f128 151))
def acU:=j_ f133 2<|j_ f133 5<|j_ f133 19<|j_ f133 139<|j_ f133 2251<|j_ f133 3275<|j_ f133 971<|j_ f133 23<|J0 (aX f133 1) (Z5.eq_1)
def XC:=J0 acU ((cJ f133 75))
def acR:=j_ f160 2<|j_ f160 5<|j_ f160 19<|j_ f160 139<|j_ f160 2251<|j_ f160 5323<|j_ f160 36043<|j_ f160 576715<|j_ f160 1363147<|j_ f160 9227467<|j_ f160 147639499<|j_ f160 348966091<|j_ f160 751619275<|j_ f160 2630667467<|j_ f160 63753419<|j_ f160 249035<|j_ f160 971<|j_ f160 23<|J0 (aX f160 1) (ZY.eq_1)
def Cw:=J0 acR<|J0 (ru3 f160 5033163)<|J0 (Di f160 19659) ((cJ f160 75))
def aaL:=j_ f164 2<|j_ f164 5<|j_ f164 131<|j_ f164 291<|j_ f164 675<|j_ f164 931<|j_ f164 23<|J0 @CM<|J0 @Lc<|j_ f164 16719<|j_ f164 37199<|j_ f164 86351<|j_ f164 119119<|J0 @xy<|J0 @xx<|J0 @E8<|J0 @xv<|J0 (aX f164 1) (ZU.eq_1)
def Cv:=J0 aaL<|J0 (cJ f164 35)<|J0 (Di f164 4431) ((cJ f164 79))
def acQ:=j_ f182 2<|j_ f182 9<|j_ f182 37<|j_ f182 19<|j_ f182 75<|j_ f182 39<|j_ f182 279<|j_ f182 4503<|j_ f182 10647<|j_ f182 39319<|j_ f182 1943<|j_ f182 79<|j_ f182 559<|j_ f182 9007<|j_ f182 21295<|j_ f182 78639<|j_ f182 3887<|j_ f182 95<|J0 (aX f182 1) (F182.eq_1)
def Cu:=J0 acQ<|J0 (cJ f182 151) ((cJ f182 303))
def acO:=j_ f184 2<|J0 @CG<|J0 @La<|j_ f184 2121<|j_ f184 4681<|j_ f184 3657<|J0 @K9<|J0 (aX f184 1) (ZJ.eq_1)
def Uc:=J0 acO<|J0 (Di f184 585) ((cJ f184 9))
theorem c5:Wc 5 F5 (az f5 1):=am rfl rfl
theorem c8:Wc 8 F8 (az f8 1):=am rfl rfl
theorem c16:Wc 16 F16 (az f16 1):=am rfl rfl
theorem c23:Wc 23 F23 (az f23 1):=am rfl rfl
theorem c28:Wc 28 F28 (az f28 1):=am rfl rfl
theorem c30:Wc 30 F30 (az f30 1):=am rfl rfl
theorem c43:Wc 43 F43 (az f43 1):=am rfl rfl
theorem c49:Wc 49 F49 (az f49 1):=am rfl rfl
theorem c53:Wc 53 F53 (az f53 1):=am rfl rfl
theorem c57:Wc 57 F57 (az f57 1):=am rfl rfl
theorem c63:Wc 63 F63 (az f63 1):=am rfl rfl
theorem c82:Wc 82 F82 (az f82 1):=am rfl rfl
theorem c83:Wc 83 F83 (az f83 1):=am rfl rfl
theorem c84:Wc 84 F84 (az f84 1):=am rfl rfl
theorem c88:Wc 88 F88 (az f88 1):=am rfl rfl
theorem c90:Wc 90 F90 (az f90 1):=am rfl rfl
theorem c94:Wc 94 F94 (az f94 1):=am rfl rfl
theorem Wb:Wc 102 aaw (az f102 1):=am rfl rfl
theorem afr:Wc 104 aav (az f104 1):=am rfl rfl
theorem afq:Wc 105 aau (az f105 1):=am rfl rfl
theorem afp:Wc 106 aat (az f106 1):=am rfl rfl
theorem afm:Wc 109 aar (az f109 1):=am rfl rfl
theorem afk:Wc 111 aap (az f111 1):=am rfl rfl
theorem afh:Wc 114 aam (az f114 1):=am rfl rfl
theorem ack:Wc 116 aak (az f116 1):=am rfl rfl
theorem aff:Wc 119 aah (az f119 1):=am rfl rfl
theorem afc:Wc 122 aae (az f122 1):=am rfl rfl
theorem ae6:Wc 128 Z9 (az f128 1):=am rfl rfl
theorem ae1:Wc 133 Z5 (az f133 1):=am rfl rfl
theorem aeT:Wc 160 ZY (az f160 1):=am rfl rfl
theorem aeP:Wc 164 ZU (az f164 1):=am rfl rfl
theorem aeJ:Wc 182 F182 (az f182 1):=am rfl rfl
theorem aeH:Wc 184 ZJ (az f184 1):=am rfl rfl
end
end
end Go.Iso.Gen
