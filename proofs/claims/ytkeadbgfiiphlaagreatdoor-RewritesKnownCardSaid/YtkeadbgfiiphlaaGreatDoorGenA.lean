/-
  the code that the claim reaches, for the evaluator.
-/
import Derived.Test.YtkeadbgfiiphlaaGreatDoorGenH
set_option linter.unusedSimpArgs false
set_option linter.unusedVariables false
set_option maxRecDepth 100000
set_option maxHeartbeats 4000000
set_option linter.defProp false
namespace Go.Iso.Gen
open Go.Proofs Go.Proofs.Tryz
noncomputable section
section
variable {lo:Nat}{rd:Option Nat}{fr:Fr}{H:Heap}{Q:A1}{args:List IV}
def ZS:=ab f3 2
def ZR:=ab f3 5
def ZQ:=ab f3 19
def RH:=ab f3 267
def ZP:=ab f3 1099
def ZO:=ab f3 4683
def ZN:=ab f3 68171
def ZM:=ab f3 281163
def ZL:=ab f3 674379
def ZK:=ab f3 1460811
def RK:=ab f3 5707
def RJ:=ab f3 459
def RI:=ab f3 23
def Ze:=ab f8 2
def Zd:=ab f8 5
def Zc:=ab f8 23
def Zb:=ab f8 47
def Za:=ab f8 95
def Y9:=ab f8 383
def Y8:=ab f8 1535
def So:=ab f12 2
def Sn:=ab f12 5
def Sm:=ab f12 11
def Sk:=ab f12 39
def Sj:=ab f12 151
def Si:=ab f12 727
def Nh:=ab f12 3031
def Ng:=ab f12 18391
def Nf:=ab f12 22487
def Em:=ab f12 79831
def Nd:=ab f12 2154455
def Nc:=ab f12 4775895
def Na:=ab f12 11067351
def RV:=ab f25 2
def RU:=ab f25 9
def RT:=ab f26 2
def RS:=ab f26 5
def RR:=ab f26 11
def Q8:=ab f86 2
def Q7:=ab f86 9
def Q6:=ab f86 19
def Nn:=ab f111 39
def GX:=ab f111 639
def El:=ab f131 17
def M9:=ab f131 281
def M7:=ab f131 665
def MZ:=ab f131 1433
def GV:=ab f131 121
def yh:=ab f138 279
def Ef:=ab f138 4503
def Ee:=ab f138 10647
def Ed:=ab f138 39319
def GS:=ab f138 88471
def zc:=ab f138 47511
def zb:=ab f138 96663
def za:=ab f138 194967
def y5:=ab f138 1178007
def GR:=ab f138 18479511
def GQ:=ab f138 43645335
def GP:=ab f138 7993751
def GO:=ab f138 1943
def B3:=J0 @ZS<|J0 @ZR<|J0 @ZQ<|J0 @RH<|J0 @ZP<|J0 @ZO<|J0 @ZN<|J0 @ZM<|J0 @ZL<|J0 @ZK<|j_ f3 1985099<|j_ f3 117323<|J0 @RK<|j_ f3 20043<|J0 @RJ<|J0 @RI<|J0 (aW f3 1) (F3.eq_1)
def BL3:=J0 B3<|J0 (yv f3 19019) ((cF f3 75))
theorem gs1{m all}:∀(k i){l},jr m all l i=jr m all (l.take k) i++jr m all (l.drop k) (i+k)|0,_,_=>by simp[jr]|k+1,i,[]=>by simp[jr]|k+1,i,_::_=>by rw[jr,gs1 k];simp[jr];congr 1;omega
theorem gs0{f:Func}{c p x}{o:Array Oper}{L A B C l M}(h:f.body=some c)(h0:pj0 64 p c=.region x o true)(h1:o.toList.mapM (iY PgT o)=some L)(h2:gH o.toList []=M)(h3:jr M L (L.take 25) 0=A)(h5:jr M L ((L.drop 25).take 25) 25=B)(h6:jr M L ((L.drop 25).drop 25) 50=C)(h4:parts M (A++(B++C)) 0 []=l):gR0 f p=.ops l:=by unfold gR0 cR0;rw[h];simp only[h0];rw[h1];simp only[Option.map_some,Option.getD_some,if_true,h2,<-h4,<-h3,<-h5,<-h6];rw[gs1 25 0,gs1 25 (0+25)]
def mq810:=ab f8 3071 (gs0 rfl rfl (by cbv) (by cbv) (by cbv) (by cbv) (by cbv) (by cbv))
def B8:=J0 @Ze<|J0 @Zd<|j_ f8 11<|J0 @Zc<|J0 @Zb<|J0 @Za<|j_ f8 191<|J0 @Y9<|j_ f8 767<|J0 @Y8<|J0 @mq810<|J0 (aW f8 1) (F8.eq_1)
def B11:=j_ f11 2<|j_ f11 5<|J0 (aW f11 1) (F11.eq_1)
def wU:=J0 @So<|J0 @Sn<|J0 @Sm<|J0 @Sk<|J0 @Sj<|j_ f12 599<|j_ f12 2391<|J0 @Si<|j_ f12 2519<|j_ f12 9687<|J0 @Nh<|J0 @Ng<|j_ f12 75735<|J0 @Nf<|J0 @Em<|j_ f12 309207<|j_ f12 96215<|j_ f12 325591<|j_ f12 12247<|j_ f12 40919<|j_ f12 90071<|J0 @Nd<|J0 @Nc<|J0 @Na<|j_ f12 23650263<|j_ f12 384983<|j_ f12 49111<|j_ f12 163799<|j_ f12 622551<|j_ f12 47<|J0 (aW f12 1) (F12.eq_1)
def Mz:=J0 wU ((cF f12 581591))
def B22:=j_ f22 2<|j_ f22 5<|J0 (aW f22 1) (F22.eq_1)
def B23:=j_ f23 2<|j_ f23 5<|J0 (aW f23 1) (F23.eq_1)
def B25:=J0 @RV<|J0 @RU<|j_ f25 37<|j_ f25 19<|j_ f25 75<|j_ f25 23<|j_ f25 79<|j_ f25 303<|j_ f25 95<|J0 (aW f25 1) (F25.eq_1)
def B26:=J0 @RT<|J0 @RS<|J0 @RR<|j_ f26 263<|j_ f26 583<|j_ f26 1351<|j_ f26 2887<|j_ f26 3911<|j_ f26 47<|J0 (aW f26 1) (F26.eq_1)
def adN:=J0 B26 ((cF f26 71))
def mq285:=ab f28 3275
def B28:=j_ f28 2<|j_ f28 5<|j_ f28 19<|j_ f28 139<|j_ f28 2251<|J0 @mq285<|j_ f28 971<|j_ f28 23<|J0 (aW f28 1) (F28.eq_1)
def afN:=J0 B28 ((cF f28 75))
def B34:=j_ f34 2<|j_ f34 9<|j_ f34 37<|j_ f34 11<|j_ f34 39<|j_ f34 151<|j_ f34 599<|j_ f34 4439<|j_ f34 72023<|j_ f34 170327<|j_ f34 629079<|j_ f34 31063<|j_ f34 47<|J0 (aW f34 1) (F34.eq_1)
def YR:=J0 B34 ((cF f34 2391))
def B43:=j_ f43 2<|j_ f43 5<|J0 (aW f43 1) (F43.eq_1)
def B44:=j_ f44 2<|j_ f44 9<|j_ f44 37<|j_ f44 11<|J0 (aW f44 1) (F44.eq_1)
def WA:=j_ f47 2<|j_ f47 9<|j_ f47 37<|j_ f47 277<|j_ f47 1173<|j_ f47 341<|j_ f47 2261<|j_ f47 36053<|j_ f47 85205<|j_ f47 314581<|j_ f47 15573<|j_ f47 19<|j_ f47 75<|j_ f47 299<|j_ f47 2219<|j_ f47 36011<|j_ f47 85163<|j_ f47 576683<|j_ f47 9227435<|j_ f47 21810347<|j_ f47 80530603<|j_ f47 3984555<|j_ f47 15531<|j_ f47 23<|j_ f47 79<|j_ f47 303<|j_ f47 1199<|j_ f47 8879<|j_ f47 144047<|j_ f47 340655<|j_ f47 2306735<|j_ f47 36909743<|j_ f47 154350255<|j_ f47 624112303<|j_ f47 120795823<|j_ f47 15938223<|j_ f47 62127<|j_ f47 95<|J0 (aW f47 1) (F47.eq_1)
def si:=J0 WA<|J0 (cF f47 1237)<|J0 (yv f47 314539)<|J0 (cF f47 1195)<|J0 (yv f47 1258159) ((cF f47 4783))
def B59:=j_ f59 2<|j_ f59 65<|j_ f59 145<|j_ f59 593<|j_ f59 1361<|j_ f59 1233<|j_ f59 2769<|j_ f59 9937<|j_ f59 977<|j_ f59 11<|J0 (aW f59 1) (F59.eq_1)
def Mw:=J0 B59 ((cF f59 17))
def B66:=j_ f66 2<|j_ f66 9<|j_ f66 21<|j_ f66 77<|j_ f66 11<|J0 (aW f66 1) (F66.eq_1)
def B70:=j_ f70 2<|j_ f70 5<|j_ f70 11<|j_ f70 23<|J0 (aW f70 1) (F70.eq_1)
def B73:=j_ f73 2<|j_ f73 5<|J0 (aW f73 1) (F73.eq_1)
def B75:=j_ f75 2<|j_ f75 9<|j_ f75 37<|j_ f75 19<|j_ f75 139<|j_ f75 2251<|j_ f75 5323<|j_ f75 11467<|j_ f75 40139<|j_ f75 971<|j_ f75 23<|J0 (aW f75 1) (F75.eq_1)
def adJ:=J0 B75 ((cF f75 75))
def B80:=j_ f80 2<|j_ f80 9<|j_ f80 37<|j_ f80 19<|j_ f80 75<|j_ f80 23<|J0 (aW f80 1) (F80.eq_1)
def B82:=j_ f82 2<|j_ f82 9<|j_ f82 37<|j_ f82 11<|J0 (aW f82 1) (F82.eq_1)
def B85:=j_ f85 2<|j_ f85 5<|j_ f85 19<|j_ f85 75<|j_ f85 23<|j_ f85 527<|j_ f85 655<|j_ f85 159<|j_ f85 607<|j_ f85 2111<|j_ f85 8767<|j_ f85 37439<|j_ f85 3647<|j_ f85 383<|J0 (aW f85 1) (F85.eq_1)
def Gy:=J0 B85<|J0 (cF f85 143) ((cF f85 575))
def B86:=J0 @Q8<|J0 @Q7<|j_ f86 37<|J0 @Q6<|j_ f86 43<|j_ f86 155<|j_ f86 23<|J0 (aW f86 1) (F86.eq_1)
def akZ:=j_ f100 2<|j_ f100 5<|j_ f100 11<|j_ f100 23<|J0 (aW f100 1) (adF.eq_1)
def akY:=j_ f101 2<|j_ f101 5<|j_ f101 11<|j_ f101 23<|J0 (aW f101 1) (adE.eq_1)
def dv:=j_ f102 2<|j_ f102 5<|j_ f102 19<|j_ f102 75<|j_ f102 39<|j_ f102 151<|j_ f102 79<|j_ f102 303<|j_ f102 159<|j_ f102 607<|j_ f102 191<|J0 (aW f102 1) (adD.eq_1)
def QU:=j_ f106 2<|j_ f106 5<|j_ f106 19<|j_ f106 75<|j_ f106 39<|j_ f106 279<|j_ f106 1175<|j_ f106 343<|j_ f106 79<|j_ f106 303<|j_ f106 95<|J0 (aW f106 1) (adz.eq_1)
def MC:=j_ f108 2<|j_ f108 5<|j_ f108 19<|j_ f108 75<|j_ f108 39<|j_ f108 151<|j_ f108 47<|j_ f108 95<|j_ f108 191<|j_ f108 639<|j_ f108 2431<|j_ f108 767<|j_ f108 1535<|j_ f108 3071<|j_ f108 6143<|J0 (aW f108 1) (adx.eq_1)
def GC:=j_ f111 2<|j_ f111 9<|j_ f111 21<|j_ f111 77<|j_ f111 19<|j_ f111 75<|J0 @Nn<|j_ f111 279<|j_ f111 4503<|j_ f111 10647<|j_ f111 39319<|j_ f111 1943<|j_ f111 79<|j_ f111 303<|j_ f111 95<|j_ f111 319<|j_ f111 2239<|j_ f111 3263<|j_ f111 4799<|j_ f111 19135<|j_ f111 142015<|j_ f111 2304703<|j_ f111 3353279<|j_ f111 993983<|J0 @GX<|j_ f111 4479<|j_ f111 72063<|j_ f111 301439<|j_ f111 1218943<|j_ f111 235903<|j_ f111 31103<|j_ f111 767<|J0 (aW f111 1) (adv.eq_1)
def vu:=J0 GC<|J0 (cF f111 151)<|J0 (cF f111 76479) ((cF f111 2431))
def af8:=j_ f131 2<|J0 @El<|J0 @M9<|J0 @M7<|J0 @MZ<|j_ f131 9113<|j_ f131 144281<|j_ f131 209817<|j_ f131 62361<|J0 @GV<|J0 (aW f131 1) (adf.eq_1)
def Wz:=J0 af8<|J0 (yv f131 5017) ((cF f131 9))
def akR:=j_ f135 2<|j_ f135 5<|J0 (aW f135 1) (ada.eq_1)
def J2:=j_ f137 2<|j_ f137 9<|j_ f137 21<|j_ f137 77<|j_ f137 19<|j_ f137 75<|j_ f137 39<|j_ f137 279<|j_ f137 4503<|j_ f137 10647<|j_ f137 39319<|j_ f137 1943<|j_ f137 79<|j_ f137 303<|j_ f137 95<|j_ f137 191<|j_ f137 639<|j_ f137 2431<|j_ f137 767<|j_ f137 1535<|j_ f137 3071<|J0 (aW f137 1) (ac9.eq_1)
def OD:=J0 J2 ((cF f137 151))
def MA:=j_ f138 2<|j_ f138 9<|j_ f138 21<|j_ f138 77<|j_ f138 11<|j_ f138 39<|J0 @yh<|J0 @Ef<|J0 @Ee<|J0 @Ed<|J0 @GS<|J0 @zc<|J0 @zb<|J0 @za<|J0 @y5<|J0 @GR<|J0 @GQ<|j_ f138 295303575<|j_ f138 4724488599<|j_ f138 11166939543<|j_ f138 24051841431<|j_ f138 32641776023<|j_ f138 2040134039<|J0 @GP<|J0 @GO<|j_ f138 79<|j_ f138 175<|j_ f138 95<|J0 (aW f138 1) (F138.eq_1)
def Wy:=J0 MA<|J0 (ru3 f138 161085847)<|J0 (yv f138 653719) ((cF f138 151))
def akN:=j_ f169 2<|j_ f169 5<|J0 (aW f169 1) (acW.eq_1)
def GA:=j_ f171 2<|j_ f171 9<|j_ f171 21<|j_ f171 77<|j_ f171 19<|j_ f171 75<|j_ f171 39<|j_ f171 151<|j_ f171 47<|J0 (aW f171 1) (acU.eq_1)
def adU:=j_ f174 2<|j_ f174 9<|j_ f174 69<|j_ f174 1125<|j_ f174 2661<|j_ f174 5733<|j_ f174 11877<|j_ f174 15973<|j_ f174 485<|j_ f174 11<|J0 (aW f174 1) (acR.eq_1)
def sx:=J0 adU ((cF f174 37))
def akJ:=j_ f192 2<|j_ f192 5<|j_ f192 11<|j_ f192 23<|J0 (aW f192 1) (acK.eq_1)
def afY:=j_ f193 2<|j_ f193 5<|j_ f193 131<|j_ f193 163<|j_ f193 23<|J0 (aW f193 1) (acJ.eq_1)
def Ws:=J0 afY ((cF f193 35))
def akH:=j_ f197 2<|j_ f197 5<|J0 (aW f197 1) (acH.eq_1)
def afW:=j_ f199 2<|j_ f199 33<|j_ f199 73<|j_ f199 57<|J0 (aW f199 1) (acF.eq_1)
def aay:=J0 afW ((cF f199 9))
theorem c3:Wc 3 F3 (aA f3 1):=am rfl rfl
theorem c8:Wc 8 F8 (aA f8 1):=am rfl rfl
theorem c11:Wc 11 F11 (aA f11 1):=am rfl rfl
theorem c12:Wc 12 F12 (aA f12 1):=am rfl rfl
theorem c22:Wc 22 F22 (aA f22 1):=am rfl rfl
theorem c23:Wc 23 F23 (aA f23 1):=am rfl rfl
theorem c25:Wc 25 F25 (aA f25 1):=am rfl rfl
theorem c26:Wc 26 F26 (aA f26 1):=am rfl rfl
theorem c28:Wc 28 F28 (aA f28 1):=am rfl rfl
theorem c34:Wc 34 F34 (aA f34 1):=am rfl rfl
theorem c43:Wc 43 F43 (aA f43 1):=am rfl rfl
theorem c44:Wc 44 F44 (aA f44 1):=am rfl rfl
theorem c47:Wc 47 F47 (aA f47 1):=am rfl rfl
theorem c59:Wc 59 F59 (aA f59 1):=am rfl rfl
theorem c66:Wc 66 F66 (aA f66 1):=am rfl rfl
theorem c70:Wc 70 F70 (aA f70 1):=am rfl rfl
theorem c73:Wc 73 F73 (aA f73 1):=am rfl rfl
theorem c75:Wc 75 F75 (aA f75 1):=am rfl rfl
theorem c80:Wc 80 F80 (aA f80 1):=am rfl rfl
theorem c82:Wc 82 F82 (aA f82 1):=am rfl rfl
theorem c85:Wc 85 F85 (aA f85 1):=am rfl rfl
theorem c86:Wc 86 F86 (aA f86 1):=am rfl rfl
theorem ai0:Wc 100 adF (aA f100 1):=am rfl rfl
theorem aiZ:Wc 101 adE (aA f101 1):=am rfl rfl
theorem aiY:Wc 102 adD (aA f102 1):=am rfl rfl
theorem aiU:Wc 106 adz (aA f106 1):=am rfl rfl
theorem aiS:Wc 108 adx (aA f108 1):=am rfl rfl
theorem aiP:Wc 111 adv (aA f111 1):=am rfl rfl
theorem aiC:Wc 131 adf (aA f131 1):=am rfl rfl
theorem aiy:Wc 135 ada (aA f135 1):=am rfl rfl
theorem aiw:Wc 137 ac9 (aA f137 1):=am rfl rfl
theorem aiv:Wc 138 F138 (aA f138 1):=am rfl rfl
theorem aii:Wc 169 acW (aA f169 1):=am rfl rfl
theorem aig:Wc 171 acU (aA f171 1):=am rfl rfl
theorem afm:Wc 174 acR (aA f174 1):=am rfl rfl
theorem ah7:Wc 192 acK (aA f192 1):=am rfl rfl
theorem ah6:Wc 193 acJ (aA f193 1):=am rfl rfl
theorem ah4:Wc 197 acH (aA f197 1):=am rfl rfl
theorem ah2:Wc 199 acF (aA f199 1):=am rfl rfl
end
end
end Go.Iso.Gen
