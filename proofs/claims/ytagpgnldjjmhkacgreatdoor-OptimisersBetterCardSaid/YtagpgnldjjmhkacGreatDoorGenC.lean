/-
  the code that the claim reaches, for the evaluator.
-/
import Derived.Test.YtagpgnldjjmhkacGreatDoorGenH
set_option linter.unusedSimpArgs false
set_option linter.unusedVariables false
set_option maxRecDepth 100000
set_option maxHeartbeats 4000000
set_option linter.defProp false
namespace Go.Iso.Gen
open Go.Proofs Go.Proofs.Tryz
noncomputable section
section
variable {lo:Nat}{rd:Option Nat}{fr:Fr}{H:Heap}{Q:AP}{args:List IV}
def Xn:=ab f8 2
def QT:=ab f10 1071
def QS:=ab f10 4399
def QR:=ab f10 10543
def DA:=ab f10 39215
def QQ:=ab f10 88367
def QG:=ab f20 37
def uA:=ab f32 139
def Db:=ab f32 2251
def Da:=ab f32 5323
def C9:=ab f32 36043
def Jh:=ab f32 150731
def Jg:=ab f32 216267
def QF:=ab f32 183499
def Dd:=ab f32 380107
def mw:=ab f32 971
def Dc:=ab f32 23
def LF:=ab f32 47
def Qk:=ab f72 151
def Qj:=ab f72 47
def Qi:=ab f78 1119
def Qh:=ab f78 18015
def Qg:=ab f78 42591
def Qf:=ab f78 91743
def sq:=ab f78 190047
def so:=ab f78 648799
def sm:=ab f78 3008095
def sk:=ab f78 12445279
def sj:=ab f78 83748447
def xe:=ab f78 385738335
def C6:=ab f78 1056826975
def xd:=ab f78 167634527
def Lr:=ab f78 201188959
def Lq:=ab f78 1207821919
def LX:=ab f163 2
def LW:=ab f163 9
def xg:=ab f163 69
def Dn:=ab f163 357
def LV:=ab f163 997
def Dk:=ab f179 2
def Dj:=ab f179 5
def Di:=ab f179 11
def Dh:=ab f179 39
def LT:=ab f179 87
def B5:=j_ f5 2<|j_ f5 9<|j_ f5 37<|j_ f5 11<|j_ f5 39<|j_ f5 151<|j_ f5 599<|j_ f5 4439<|j_ f5 72023<|j_ f5 170327<|j_ f5 629079<|j_ f5 31063<|j_ f5 47<|J0 (aU f5 1) (F5.eq_1)
def BL5:=J0 B5 ((cH f5 2391))
def B8:=J0 @Xn<|j_ f8 5<|J0 (aU f8 1) (F8.eq_1)
def B10:=j_ f10 2<|j_ f10 5<|j_ f10 11<|j_ f10 23<|j_ f10 79<|J0 @QT<|J0 @QS<|J0 @QR<|J0 @DA<|J0 @QQ<|j_ f10 47407<|j_ f10 96559<|j_ f10 1839<|j_ f10 95<|J0 (aU f10 1) (F10.eq_1)
def abh:=J0 B10 ((cH f10 303))
def B17:=j_ f17 2<|j_ f17 9<|j_ f17 37<|j_ f17 19<|j_ f17 75<|j_ f17 23<|J0 (aU f17 1) (F17.eq_1)
def B20:=j_ f20 2<|j_ f20 9<|J0 @QG<|j_ f20 149<|j_ f20 1053<|j_ f20 4637<|j_ f20 5661<|j_ f20 69149<|j_ f20 232989<|j_ f20 15901<|j_ f20 189<|J0 (aU f20 1) (F20.eq_1)
def UM:=J0 B20 ((cH f20 285))
def B23:=j_ f23 2<|j_ f23 9<|j_ f23 21<|j_ f23 77<|j_ f23 11<|j_ f23 39<|j_ f23 87<|j_ f23 311<|j_ f23 47<|J0 (aU f23 1) (F23.eq_1)
def mq265:=ab f26 3275
def B26:=j_ f26 2<|j_ f26 5<|j_ f26 19<|j_ f26 139<|j_ f26 2251<|J0 @mq265<|j_ f26 971<|j_ f26 23<|J0 (aU f26 1) (F26.eq_1)
def adn:=J0 B26 ((cH f26 75))
def B30:=j_ f30 2<|j_ f30 5<|J0 (aU f30 1) (F30.eq_1)
def B32:=j_ f32 2<|j_ f32 5<|j_ f32 19<|J0 @uA<|J0 @Db<|J0 @Da<|J0 @C9<|J0 @Jh<|J0 @Jg<|J0 @QF<|J0 @Dd<|j_ f32 40139<|j_ f32 285899<|j_ f32 220363<|j_ f32 48331<|j_ f32 97483<|J0 @mw<|J0 @Dc<|J0 @LF<|J0 (aU f32 1) (F32.eq_1)
def B35:=j_ f35 2<|j_ f35 5<|J0 (aU f35 1) (F35.eq_1)
def B40:=j_ f40 2<|j_ f40 5<|j_ f40 19<|j_ f40 75<|j_ f40 23<|j_ f40 47<|j_ f40 95<|j_ f40 191<|J0 (aU f40 1) (F40.eq_1)
def B46:=j_ f46 2<|j_ f46 9<|j_ f46 37<|j_ f46 19<|j_ f46 139<|j_ f46 587<|j_ f46 171<|j_ f46 39<|j_ f46 151<|j_ f46 79<|j_ f46 559<|j_ f46 9007<|j_ f46 21295<|j_ f46 78639<|j_ f46 3887<|j_ f46 95<|J0 (aU f46 1) (F46.eq_1)
def Xc:=J0 B46 ((cH f46 303))
def B47:=j_ f47 2<|j_ f47 9<|j_ f47 21<|j_ f47 77<|j_ f47 19<|j_ f47 43<|j_ f47 155<|j_ f47 23<|J0 (aU f47 1) (F47.eq_1)
def B50:=j_ f50 2<|j_ f50 5<|j_ f50 131<|j_ f50 163<|j_ f50 23<|j_ f50 79<|j_ f50 559<|j_ f50 9007<|j_ f50 13103<|j_ f50 3887<|j_ f50 95<|J0 (aU f50 1) (F50.eq_1)
def Lf:=J0 B50<|J0 (cH f50 35) ((cH f50 303))
def B55:=j_ f55 2<|j_ f55 5<|j_ f55 19<|j_ f55 43<|j_ f55 23<|J0 (aU f55 1) (F55.eq_1)
def B58:=j_ f58 2<|j_ f58 5<|j_ f58 19<|j_ f58 75<|j_ f58 39<|j_ f58 87<|j_ f58 311<|j_ f58 47<|j_ f58 159<|j_ f58 607<|j_ f58 191<|J0 (aU f58 1) (F58.eq_1)
def B64:=j_ f64 2<|j_ f64 5<|J0 (aU f64 1) (F64.eq_1)
def B67:=j_ f67 2<|j_ f67 5<|j_ f67 11<|j_ f67 23<|J0 (aU f67 1) (F67.eq_1)
def kL:=j_ f69 2<|j_ f69 5<|j_ f69 19<|j_ f69 75<|j_ f69 39<|j_ f69 151<|j_ f69 79<|j_ f69 303<|j_ f69 159<|j_ f69 607<|j_ f69 191<|J0 (aU f69 1) (F69.eq_1)
def B72:=j_ f72 2<|j_ f72 9<|j_ f72 37<|j_ f72 11<|j_ f72 39<|J0 @Qk<|j_ f72 343<|J0 @Qj<|j_ f72 95<|j_ f72 191<|J0 (aU f72 1) (F72.eq_1)
def mq7826:=ab f78 1576920671
def mq7830:=ab f78 10334627423
def mq7831:=ab f78 14629594719
def mq7832:=ab f78 939386463
def mq7834:=ab f78 1610475103
def B78:=j_ f78 2<|j_ f78 5<|j_ f78 11<|j_ f78 23<|j_ f78 47<|j_ f78 159<|J0 @Qi<|J0 @Qh<|J0 @Qg<|J0 @Qf<|J0 @sq<|J0 @so<|j_ f78 2483807<|j_ f78 5629535<|j_ f78 11920991<|J0 @sm<|j_ f78 6153823<|J0 @sk<|j_ f78 25028191<|J0 @sj<|J0 @xe<|J0 @C6<|J0 @xd<|j_ f78 637396575<|j_ f78 1442702943<|j_ f78 771614303<|J0 @mq7826<|J0 @Lr<|J0 @Lq<|j_ f78 2818434655<|J0 @mq7830<|J0 @mq7831<|J0 @mq7832<|j_ f78 805168735<|J0 @mq7834<|j_ f78 7775<|j_ f78 191<|J0 (aU f78 1) (F78.eq_1)
def A2:=J0 B78 ((cH f78 607))
def B98:=j_ f98 2<|j_ f98 5<|j_ f98 19<|j_ f98 75<|j_ f98 39<|j_ f98 279<|j_ f98 1175<|j_ f98 343<|j_ f98 79<|j_ f98 303<|j_ f98 95<|J0 (aU f98 1) (F98.eq_1)
def P1:=j_ f101 2<|j_ f101 9<|j_ f101 37<|j_ f101 11<|j_ f101 39<|j_ f101 87<|j_ f101 79<|j_ f101 303<|j_ f101 95<|J0 (aU f101 1) (aa8.eq_1)
def I2:=j_ f102 2<|j_ f102 9<|j_ f102 37<|j_ f102 19<|j_ f102 75<|j_ f102 23<|j_ f102 79<|j_ f102 175<|j_ f102 159<|j_ f102 607<|j_ f102 191<|J0 (aU f102 1) (aa7.eq_1)
def abt:=j_ f108 2<|j_ f108 5<|j_ f108 11<|j_ f108 39<|j_ f108 279<|j_ f108 1175<|j_ f108 343<|j_ f108 79<|j_ f108 303<|j_ f108 159<|j_ f108 607<|j_ f108 319<|j_ f108 1215<|j_ f108 383<|J0 (aU f108 1) (aa4.eq_1)
def Xl:=j_ f113 2<|j_ f113 5<|J0 (aU f113 1) (aa1.eq_1)
def abr:=j_ f115 2<|j_ f115 9<|j_ f115 37<|j_ f115 11<|J0 (aU f115 1) (aa0.eq_1)
def aif:=j_ f120 2<|j_ f120 5<|j_ f120 19<|j_ f120 75<|j_ f120 23<|j_ f120 47<|j_ f120 95<|j_ f120 191<|J0 (aU f120 1) (aaW.eq_1)
def adI:=j_ f124 2<|j_ f124 5<|J0 (aU f124 1) (aaS.eq_1)
def aic:=j_ f127 2<|j_ f127 5<|J0 (aU f127 1) (aaP.eq_1)
def UY:=j_ f129 2<|j_ f129 9<|j_ f129 21<|j_ f129 77<|j_ f129 19<|j_ f129 75<|j_ f129 23<|J0 (aU f129 1) (aaN.eq_1)
def IZ:=j_ f135 2<|j_ f135 9<|j_ f135 21<|j_ f135 77<|j_ f135 19<|j_ f135 75<|j_ f135 39<|j_ f135 279<|j_ f135 4503<|j_ f135 10647<|j_ f135 39319<|j_ f135 1943<|j_ f135 79<|j_ f135 303<|j_ f135 95<|j_ f135 191<|j_ f135 639<|j_ f135 2431<|j_ f135 767<|j_ f135 1535<|j_ f135 3071<|J0 (aU f135 1) (aaI.eq_1)
def NM:=J0 IZ ((cH f135 151))
def adF:=j_ f140 2<|j_ f140 5<|j_ f140 19<|j_ f140 139<|j_ f140 2251<|j_ f140 3275<|j_ f140 971<|j_ f140 23<|J0 (aU f140 1) (aaE.eq_1)
def Yc:=J0 adF ((cH f140 75))
def Xj:=J0 @LX<|J0 @LW<|J0 @xg<|J0 @Dn<|J0 @LV<|j_ f163 149<|j_ f163 597<|j_ f163 2389<|j_ f163 725<|j_ f163 11<|J0 (aU f163 1) (W7.eq_1)
def abp:=j_ f167 2<|j_ f167 5<|j_ f167 11<|j_ f167 23<|j_ f167 47<|j_ f167 1055<|j_ f167 4383<|j_ f167 39199<|j_ f167 284959<|j_ f167 4610335<|j_ f167 19290399<|j_ f167 23484703<|j_ f167 551967007<|j_ f167 2296797471<|j_ f167 5518022943<|j_ f167 1759926559<|j_ f167 98982175<|j_ f167 199645471<|j_ f167 400972063<|j_ f167 1988895<|j_ f167 47391<|j_ f167 191<|J0 (aU f167 1) (aax.eq_1)
def pV:=J0 abp<|J0 (ru3 f167 149313823)<|J0 (DP f167 153887) ((cH f167 287))
def abk:=j_ f177 2<|j_ f177 33<|j_ f177 73<|j_ f177 57<|J0 (aU f177 1) (aan.eq_1)
def UR:=J0 abk ((cH f177 9))
def Xi:=J0 @Dk<|J0 @Dj<|J0 @Di<|J0 @Dh<|J0 @LT<|j_ f179 47<|j_ f179 159<|j_ f179 1119<|j_ f179 18015<|j_ f179 26207<|j_ f179 7775<|j_ f179 191<|J0 (aU f179 1) (F179.eq_1)
def UQ:=J0 Xi ((cH f179 607))
def ahY:=j_ f196 2<|j_ f196 5<|J0 (aU f196 1) (aah.eq_1)
def ahX:=j_ f197 2<|j_ f197 5<|J0 (aU f197 1) (aag.eq_1)
theorem c5:Wc 5 F5 (ay f5 1):=am rfl rfl
theorem c8:Wc 8 F8 (ay f8 1):=am rfl rfl
theorem c10:Wc 10 F10 (ay f10 1):=am rfl rfl
theorem c17:Wc 17 F17 (ay f17 1):=am rfl rfl
theorem c20:Wc 20 F20 (ay f20 1):=am rfl rfl
theorem c23:Wc 23 F23 (ay f23 1):=am rfl rfl
theorem c26:Wc 26 F26 (ay f26 1):=am rfl rfl
theorem c30:Wc 30 F30 (ay f30 1):=am rfl rfl
theorem c32:Wc 32 F32 (ay f32 1):=am rfl rfl
theorem c35:Wc 35 F35 (ay f35 1):=am rfl rfl
theorem c40:Wc 40 F40 (ay f40 1):=am rfl rfl
theorem c46:Wc 46 F46 (ay f46 1):=am rfl rfl
theorem c47:Wc 47 F47 (ay f47 1):=am rfl rfl
theorem c50:Wc 50 F50 (ay f50 1):=am rfl rfl
theorem c55:Wc 55 F55 (ay f55 1):=am rfl rfl
theorem c58:Wc 58 F58 (ay f58 1):=am rfl rfl
theorem c64:Wc 64 F64 (ay f64 1):=am rfl rfl
theorem c67:Wc 67 F67 (ay f67 1):=am rfl rfl
theorem c69:Wc 69 F69 (ay f69 1):=am rfl rfl
theorem c72:Wc 72 F72 (ay f72 1):=am rfl rfl
theorem c78:Wc 78 F78 (ay f78 1):=am rfl rfl
theorem c98:Wc 98 F98 (ay f98 1):=am rfl rfl
theorem agi:Wc 101 aa8 (ay f101 1):=am rfl rfl
theorem agh:Wc 102 aa7 (ay f102 1):=am rfl rfl
theorem agc:Wc 108 aa4 (ay f108 1):=am rfl rfl
theorem WO:Wc 113 aa1 (ay f113 1):=am rfl rfl
theorem af9:Wc 115 aa0 (ay f115 1):=am rfl rfl
theorem af4:Wc 120 aaW (ay f120 1):=am rfl rfl
theorem ac1:Wc 124 aaS (ay f124 1):=am rfl rfl
theorem af0:Wc 127 aaP (ay f127 1):=am rfl rfl
theorem afY:Wc 129 aaN (ay f129 1):=am rfl rfl
theorem afS:Wc 135 aaI (ay f135 1):=am rfl rfl
theorem afN:Wc 140 aaE (ay f140 1):=am rfl rfl
theorem afI:Wc 163 W7 (ay f163 1):=am rfl rfl
theorem afE:Wc 167 aax (ay f167 1):=am rfl rfl
theorem acX:Wc 177 aan (ay f177 1):=am rfl rfl
theorem afw:Wc 179 F179 (ay f179 1):=am rfl rfl
theorem afp:Wc 196 aah (ay f196 1):=am rfl rfl
theorem afo:Wc 197 aag (ay f197 1):=am rfl rfl
end
end
end Go.Iso.Gen
